import PyProof.Rows.All
import Wide.All
import OpenK.AllK
import Wide.FinOn
import HandS.ForMost
import HandS.Walk
import HandS.AnyAll
import HandS.Lambda
import HandS.TupSets
import HandS.TupAny
import HandS.Style
import HandS.TupMul
import HandS.IsInst
import HandS.Wide
import KE.DataEq
import KE.DataCmp
import HandS.Codes
import HandS.Defaults
import HandS.CallLocal
import HandS.HeadHook4
import HandS.HeadWalk
import HandS.GenOver
import HandS.Conv
import KE.DataMinMax
import KE.SortKeyHeap
import KE.KSortKey
import KE.KLam
import HandS.Head0
import HandS.Head1
import HandS.Head2
import HandS.HeadEnd
import HandS.HeadHook1
import HandS.HeadHook2
import HandS.HeadHook3
import HandS.EndTab
import HandS.Deep
import HandS.Strs
import HandS.SetFor
import KE.GoesMore
import HandS.Iter
import HandS.Zip0
import HandS.SortInts
import HandS.ListItems
import HandS.DictTup
import HandS.SortRule
import HandS.NoneIn
import KE.SortData
import PySem.Challenge.RW_backtohand_k46_whole_base
set_option Elab.async false
set_option linter.all false
set_option maxRecDepth 100000
set_option maxHeartbeats 4000000
set_option autoImplicit false
/-! PD: pure denotations over the layer. -/
namespace PD
open PySem PySem.Spec PyProof.Rows L2

/-- a Python value: tuples as such, what can change by its place in the store -/
inductive PV where
  | non | bl (b : Bool) | int (i : Int) | str (s : Str) | tup (l : List PV) | loc (n : Nat) | fn (j : Nat) | kl (ns : List Int)
  /-- a lambda, by what it has captured; a set of tuples of ints -/
  | clo (l : List PV) | pst (l : List (List Int))
/-- what can change -/
inductive Ob where
  | lst (lk : Bool) (l : List PV)
  | dct (lk : Bool) (kvs : List (PV × PV))
  | sti (l : List Int)
abbrev Sto := List Ob
inductive Res (α : Type) where
  | ok (a : α) (st : Sto) | exc (c : Nat) (st : Sto) | stuck
abbrev Mo (α : Type) := Sto → Res α
def ret {α : Type} (a : α) : Mo α := fun st => .ok a st
def bnd {α β : Type} (m : Mo α) (f : α → Mo β) : Mo β := fun st => match m st with
  | .ok a st' => f a st'
  | .exc c st' => .exc c st'
  | .stuck => .stuck
def fail {α : Type} : Mo α := fun _ => .stuck
abbrev Env := List (Option PV)

/-- what is fixed through a law -/
structure Wd where
  K : PySem.W.Frag
  mg : Str → Option Value
  cx : CXT
  fa : Nat → Option Addr
  xc : Nat → Value
  tb : List Addr
  tl : List (Addr × Str)
  P : Program
  w : World
  lam : Option (Addr × Addr × Str × List V)

mutual
inductive RV (W : Wd) (ι : List Addr) (H : Hp) : V → PV → Prop
  | non : RV W ι H .non .non
  | bl (b : Bool) : RV W ι H (.bl b) (.bl b)
  | int (i : Int) : RV W ι H (.int i) (.int i)
  | str (s : Str) : RV W ι H (.str s) (.str s)
  | tup {a : Addr} {vs : List V} {ps : List PV} : SqT W.K H a vs → RVs W ι H vs ps → ps.length ≤ 16777216 → RV W ι H (.ref a) (.tup ps)
  | loc {n : Nat} {a : Addr} : ι[n]? = some a → RV W ι H (.ref a) (.loc n)
  | fn {j : Nat} {a : Addr} : W.fa j = some a → RV W ι H (.ref a) (.fn j)
  | kl {a : Addr} {ns : List Int} : (∃ (o : Obj) (its : Array Value) (n : Nat), W.K.lookup a = some o ∧ o.cls = .type "list" ∧ o.dict = none ∧ o.data = .seq its n ∧ its.size ≤ sizeLine ∧ Vals (ns.map V.int) its.toList) → ns.length ≤ 16777216 → RV W ι H (.ref a) (.kl ns)
  | clo {a c : Addr} {q : Str} {vs : List V} {ps : List PV} : W.lam = some (a, c, q, vs) → H c = some (LamX.CodeO c q) → RVs W ι H vs ps → RV W ι H (.ref a) (.clo ps)
  | pst {a : Addr} {L : List (Addr × List Int)} {l : List (List Int)} : H a = some (SetTO W.P W.w a L) → (∀ p ∈ L, SqT W.K H p.1 (p.2.map V.int)) → (∀ k, k ∈ L.map (·.2) ↔ k ∈ l) → RV W ι H (.ref a) (.pst l)
inductive RVs (W : Wd) (ι : List Addr) (H : Hp) : List V → List PV → Prop
  | nil : RVs W ι H [] []
  | cons {v : V} {p : PV} {vs : List V} {ps : List PV} : RV W ι H v p → RVs W ι H vs ps → RVs W ι H (v :: vs) (p :: ps)
end
def kP : Key → PV
  | .inl i => .int i
  | .inr s => .str s
inductive RKs (W : Wd) (ι : List Addr) (H : Hp) : List (Key × V) → List (PV × PV) → Prop
  | nil : RKs W ι H [] []
  | cons {k : Key} {v : V} {p : PV} {vs : List (Key × V)} {ps : List (PV × PV)} : RV W ι H v p → RKs W ι H vs ps → RKs W ι H ((k, v) :: vs) ((kP k, p) :: ps)
def RO (W : Wd) (ι : List Addr) (H : Hp) (a : Addr) : Ob → Prop
  | .lst false l => ∃ vs, H a = some (.lst vs) ∧ RVs W ι H vs l ∧ l.length ≤ 16777216
  | .lst true l => ∃ o vs, H a = some (.frz o (.lst vs)) ∧ RVs W ι H vs l ∧ l.length ≤ 16777216
  | .dct false l => ∃ ks, H a = some (.dK ks) ∧ RKs W ι H ks l
  | .dct true l => ∃ o ks, H a = some (.frz o (.dK ks)) ∧ RKs W ι H ks l
  | .sti l => ∃ S, H a = some (.set S l.length) ∧ l.Nodup ∧ ∀ i, S i = true ↔ i ∈ l
/-- an object that the store does not tell stays, but for the tables of code -/
def Kp (o o' : HO) : Prop := o' = o ∨ ∃ ps more, o = .tbl ps ∧ o' = .tbl (ps ++ more) ∧ (TriplesOk ps.toList → TriplesOk (ps ++ more).toList)
theorem Kp.refl (o : HO) : Kp o o := .inl rfl
theorem Kp.trans {o o1 o2 : HO} (a : Kp o o1) (b : Kp o1 o2) : Kp o o2 := by
  rcases a with rfl | ⟨ps, m, rfl, rfl, t⟩
  · exact b
  · rcases b with rfl | ⟨ps', m', e, rfl, t'⟩
    · exact .inr ⟨ps, m, rfl, rfl, t⟩
    · cases e
      exact .inr ⟨ps, m ++ m', rfl, by rw [Array.append_assoc], fun z => by rw [← Array.append_assoc]; exact t' (t z)⟩
structure Mono (ι : List Addr) (H : Hp) (ι' : List Addr) (H' : Hp) : Prop where
  pre : ∀ (n : Nat) (a : Addr), ι[n]? = some a → ι'[n]? = some a
  fresh : ∀ a : Addr, a ∈ ι' → a ∉ ι → H a = none
  keep : ∀ (a : Addr) (o : HO), H a = some o → a ∉ ι → ∃ o', H' a = some o' ∧ Kp o o'
structure RS (W : Wd) (ι : List Addr) (st : Sto) (H : Hp) : Prop where
  len : ι.length = st.length
  nd : ι.Nodup
  ob : ∀ (n : Nat) (o : Ob) (a : Addr), st[n]? = some o → ι[n]? = some a → RO W ι H a o
  tb : ∀ P ∈ W.tb, GxR.TabG H P
  tl : LamX.Tabs W.tl H

section
variable {W : Wd} {ι ι' ι1 ι2 : List Addr} {H H' H1 H2 : Hp} {st st' st1 : Sto}
theorem Mono.refl : Mono ι H ι H := ⟨fun _ _ h => h, fun _ h n => absurd h n, fun _ o h _ => ⟨o, h, Kp.refl o⟩⟩
theorem Mono.trans (a : Mono ι H ι1 H1) (b : Mono ι1 H1 ι2 H2) : Mono ι H ι2 H2 := by
  have key : ∀ x ∈ ι2, x ∉ ι → H x = none := fun x hx hn => by
    by_cases h1 : x ∈ ι1
    · exact a.fresh x h1 hn
    · have e := b.fresh x hx h1
      cases q : H x with
      | none => rfl
      | some o =>
        obtain ⟨o', e', _⟩ := a.keep x o q hn
        rw [e] at e'
        cases e'
  refine ⟨fun n x h => b.pre n x (a.pre n x h), key, fun x o h hn => ?_⟩
  obtain ⟨o1, e1, k1⟩ := a.keep x o h hn
  have h1 : x ∉ ι1 := fun z => by
    rw [a.fresh x z hn] at h
    cases h
  obtain ⟨o2, e2, k2⟩ := b.keep x o1 e1 h1
  exact ⟨o2, e2, k1.trans k2⟩
theorem Mono.new {p : Addr} {o : HO} (hp : H p = none) : Mono ι H ι (upd H p o) :=
  ⟨fun _ _ h => h, fun _ h n => absurd h n, fun a u h _ => ⟨u, (upd_ne (ne_of_none h hp)).trans h, Kp.refl u⟩⟩
theorem Mono.mut {p : Addr} {o : HO} (hp : p ∈ ι) : Mono ι H ι (upd H p o) :=
  ⟨fun _ _ h => h, fun _ h n => absurd h n, fun a u h hn => ⟨u, (upd_ne (fun z => hn (by rw [z]; exact hp))).trans h, Kp.refl u⟩⟩

theorem RS.at_ (R : RS W ι st H) {a : Addr} (ha : a ∈ ι) : ∃ (n : Nat) (o : Ob), st[n]? = some o ∧ ι[n]? = some a ∧ RO W ι H a o := by
  obtain ⟨n, hn, e⟩ := List.getElem_of_mem ha
  have h1 : ι[n]? = some a := by rw [List.getElem?_eq_getElem hn, e]
  have h2 : n < st.length := by rw [← R.len]; exact hn
  exact ⟨n, st[n], List.getElem?_eq_getElem h2, h1, R.ob n _ a (List.getElem?_eq_getElem h2) h1⟩
theorem RS.addr (R : RS W ι st H) {n : Nat} {o : Ob} (h : st[n]? = some o) : ∃ a, ι[n]? = some a ∧ RO W ι H a o := by
  have hn : n < ι.length := by rw [R.len]; exact (List.getElem?_eq_some_iff.mp h).1
  exact ⟨ι[n], List.getElem?_eq_getElem hn, R.ob n o _ h (List.getElem?_eq_getElem hn)⟩
def Plain0 (u : HO) : Prop := (∀ xs, u ≠ .tup xs) ∧ (∀ b xs, u ≠ .frz b (.tup xs)) ∧ (∀ ps, u ≠ .tbl ps) ∧ ∀ φ, u ≠ .ext φ
theorem RO.there {a : Addr} {o : Ob} (h : RO W ι H a o) : ∃ u, H a = some u ∧ Plain0 u := by
  cases o with
  | lst lk l =>
    cases lk with
    | false => obtain ⟨vs, e, _⟩ := h; exact ⟨_, e, fun _ z => (by cases z), fun _ _ z => (by cases z), fun _ z => (by cases z), fun _ z => (by cases z)⟩
    | true =>
      obtain ⟨b, vs, e, _⟩ := h
      exact ⟨_, e, fun _ z => (by cases z), fun b xs z => (by injection z with _ z2; cases z2), fun _ z => (by cases z), fun _ z => (by cases z)⟩
  | dct lk l =>
    cases lk with
    | false => obtain ⟨vs, e, _⟩ := h; exact ⟨_, e, fun _ z => (by cases z), fun _ _ z => (by cases z), fun _ z => (by cases z), fun _ z => (by cases z)⟩
    | true =>
      obtain ⟨b, vs, e, _⟩ := h
      exact ⟨_, e, fun _ z => (by cases z), fun b xs z => (by injection z with _ z2; cases z2), fun _ z => (by cases z), fun _ z => (by cases z)⟩
  | sti l => obtain ⟨S, e, _⟩ := h; exact ⟨_, e, fun _ z => (by cases z), fun _ _ z => (by cases z), fun _ z => (by cases z), fun _ z => (by cases z)⟩
/-- the tables of lambdas stay when nothing of them is touched -/
theorem tl_keep {T : List (Addr × Str)} (t : LamX.Tabs T H) (k : ∀ b o, H b = some o → ((∃ ps, o = .tbl ps) ∨ ∃ φ, o = .ext φ) → H' b = some o) : LamX.Tabs T H' := fun p hp => by
  obtain ⟨ps, h1, h2, h3⟩ := t p hp
  refine ⟨ps, k _ _ h1 (.inl ⟨ps, rfl⟩), h2, fun pos cv hc => ?_⟩
  obtain ⟨c, e1, e2⟩ := h3 pos cv hc
  exact ⟨c, e1, k _ _ e2 (.inr ⟨_, rfl⟩)⟩
theorem tl_upd {T : List (Addr × Str)} {a : Addr} {u : HO} (t : LamX.Tabs T H) (h : ∀ o, H a = some o → Plain0 o) : LamX.Tabs T (L2.upd H a u) := tl_keep t fun b o e k => (upd_ne fun z => by
  rw [z] at e
  obtain ⟨_, _, h3, h4⟩ := h o e
  rcases k with ⟨ps, rfl⟩ | ⟨φ, rfl⟩
  · exact h3 _ rfl
  · exact h4 _ rfl).trans e
theorem RS.notTup (R : RS W ι st H) {a : Addr} {xs : List V} (h : Rd H a (.tup xs)) : a ∉ ι := fun ha => by
  obtain ⟨n, o, _, _, r⟩ := R.at_ ha
  obtain ⟨u, e, h1, h2, _⟩ := r.there
  rcases h with h | ⟨b, h⟩
  · rw [h] at e; cases e; exact h1 _ rfl
  · rw [h] at e; cases e; exact h2 _ _ rfl
theorem RS.notTab (R : RS W ι st H) {P : Addr} (hP : P ∈ W.tb) : P ∉ ι := fun ha => by
  obtain ⟨ps, e, _⟩ := R.tb P hP
  obtain ⟨n, o, _, _, r⟩ := R.at_ ha
  obtain ⟨u, e2, _, _, h3, _⟩ := r.there
  rw [e] at e2; cases e2; exact h3 _ rfl
theorem tab_mono (R : RS W ι st H) (m : Mono ι H ι' H') : ∀ P ∈ W.tb, GxR.TabG H' P := fun P hP => by
  obtain ⟨ps, e, t⟩ := R.tb P hP
  obtain ⟨o', e', k⟩ := m.keep P _ e (R.notTab hP)
  rcases k with rfl | ⟨ps', more, z, rfl, t'⟩
  · exact ⟨ps, e', t⟩
  · cases z
    exact ⟨_, e', t' t⟩
theorem sqt_mono (R : RS W ι st H) (m : Mono ι H ι' H') {a : Addr} {xs : List V} (h : SqT W.K H a xs) : SqT W.K H' a xs := by
  rcases h with h | h
  · have hn := R.notTup h
    rcases h with h | ⟨b, h⟩
    · obtain ⟨o', e, k⟩ := m.keep a _ h hn
      rcases k with rfl | ⟨_, _, z, _, _⟩
      · exact .inl (.inl e)
      · cases z
    · obtain ⟨o', e, k⟩ := m.keep a _ h hn
      rcases k with rfl | ⟨_, _, z, _, _⟩
      · exact .inl (.inr ⟨b, e⟩)
      · cases z
  · exact .inr h
theorem RS.notExt (R : RS W ι st H) {a : Addr} {φ : Heap → Prop} (h : H a = some (.ext φ)) : a ∉ ι := fun ha => by
  obtain ⟨n, o, _, _, r⟩ := R.at_ ha
  obtain ⟨u, e, _, _, _, h4⟩ := r.there
  rw [h] at e; cases e; exact h4 _ rfl
theorem ext_mono (R : RS W ι st H) (m : Mono ι H ι' H') {a : Addr} {φ : Heap → Prop} (h : H a = some (.ext φ)) : H' a = some (.ext φ) := by
  obtain ⟨o', e, k⟩ := m.keep a _ h (R.notExt h)
  rcases k with rfl | ⟨_, _, z, _, _⟩
  · exact e
  · cases z
mutual
theorem rv_mono (R : RS W ι st H) (m : Mono ι H ι' H') : ∀ (p : PV) (v : V), RV W ι H v p → RV W ι' H' v p
  | .non, _, .non => .non
  | .bl _, _, .bl _ => .bl _
  | .int _, _, .int _ => .int _
  | .str _, _, .str _ => .str _
  | .tup ps, _, .tup h r z => .tup (sqt_mono R m h) (rvs_mono R m ps _ r) z
  | .loc _, _, .loc h => .loc (m.pre _ _ h)
  | .fn _, _, .fn h => .fn h
  | .kl _, _, .kl h z => .kl h z
  | .clo ps, _, .clo h hc r => .clo h (ext_mono R m hc) (rvs_mono R m ps _ r)
  | .pst _, _, .pst h q e => .pst (ext_mono R m h) (fun p hp => sqt_mono R m (q p hp)) e
theorem rvs_mono (R : RS W ι st H) (m : Mono ι H ι' H') : ∀ (ps : List PV) (vs : List V), RVs W ι H vs ps → RVs W ι' H' vs ps
  | [], _, .nil => .nil
  | p :: ps, _, .cons h r => .cons (rv_mono R m p _ h) (rvs_mono R m ps _ r)
end
theorem rks_mono (R : RS W ι st H) (m : Mono ι H ι' H') : ∀ {ps : List (PV × PV)} {vs : List (Key × V)}, RKs W ι H vs ps → RKs W ι' H' vs ps
  | _, _, .nil => .nil
  | _, _, .cons h r => .cons (rv_mono R m _ _ h) (rks_mono R m r)
mutual
theorem rv_pre (m : ∀ (n : Nat) (a : Addr), ι[n]? = some a → ι'[n]? = some a) : ∀ (p : PV) (v : V), RV W ι H v p → RV W ι' H v p
  | .non, _, .non => .non
  | .bl _, _, .bl _ => .bl _
  | .int _, _, .int _ => .int _
  | .str _, _, .str _ => .str _
  | .tup ps, _, .tup h r z => .tup h (rvs_pre m ps _ r) z
  | .loc _, _, .loc h => .loc (m _ _ h)
  | .fn _, _, .fn h => .fn h
  | .kl _, _, .kl h z => .kl h z
  | .clo ps, _, .clo h hc r => .clo h hc (rvs_pre m ps _ r)
  | .pst _, _, .pst h q e => .pst h q e
theorem rvs_pre (m : ∀ (n : Nat) (a : Addr), ι[n]? = some a → ι'[n]? = some a) : ∀ (ps : List PV) (vs : List V), RVs W ι H vs ps → RVs W ι' H vs ps
  | [], _, .nil => .nil
  | p :: ps, _, .cons h r => .cons (rv_pre m p _ h) (rvs_pre m ps _ r)
end
theorem rks_pre (m : ∀ (n : Nat) (a : Addr), ι[n]? = some a → ι'[n]? = some a) : ∀ {ps : List (PV × PV)} {vs : List (Key × V)}, RKs W ι H vs ps → RKs W ι' H vs ps
  | _, _, .nil => .nil
  | _, _, .cons h r => .cons (rv_pre m _ _ h) (rks_pre m r)
theorem RVs.length : ∀ {vs : List V} {ps : List PV}, RVs W ι H vs ps → vs.length = ps.length
  | _, _, .nil => rfl
  | _, _, .cons _ r => by rw [List.length_cons, List.length_cons, r.length]
theorem RVs.get : ∀ {vs : List V} {ps : List PV} {i : Nat} {p : PV}, RVs W ι H vs ps → ps[i]? = some p → ∃ v, vs[i]? = some v ∧ RV W ι H v p
  | _, _, _, _, .nil, e => by simp at e
  | _, _, 0, _, .cons r _, e => by simp at e; subst e; exact ⟨_, rfl, r⟩
  | _, _, i + 1, p, .cons _ t, e => by
    obtain ⟨v, h1, h2⟩ := RVs.get (i := i) (p := p) t (by simpa using e)
    exact ⟨v, by simpa using h1, h2⟩
theorem RVs.append : ∀ {vs ws : List V} {ps qs : List PV}, RVs W ι H vs ps → RVs W ι H ws qs → RVs W ι H (vs ++ ws) (ps ++ qs)
  | _, _, _, _, .nil, s => s
  | _, _, _, _, .cons r t, s => .cons r (RVs.append t s)
theorem RVs.take : ∀ {vs : List V} {ps : List PV} (n : Nat), RVs W ι H vs ps → RVs W ι H (vs.take n) (ps.take n)
  | _, _, 0, _ => .nil
  | _, _, _ + 1, .nil => .nil
  | _, _, n + 1, .cons r t => .cons r (RVs.take n t)
theorem RVs.drop : ∀ {vs : List V} {ps : List PV} (n : Nat), RVs W ι H vs ps → RVs W ι H (vs.drop n) (ps.drop n)
  | _, _, 0, r => r
  | _, _, _ + 1, .nil => .nil
  | _, _, n + 1, .cons _ t => RVs.drop n t
theorem RVs.set {v : V} {p : PV} (r : RV W ι H v p) : ∀ {vs : List V} {ps : List PV} (i : Nat), RVs W ι H vs ps → RVs W ι H (vs.set i v) (ps.set i p)
  | _, _, _, .nil => .nil
  | _, _, 0, .cons _ t => .cons r t
  | _, _, i + 1, .cons q t => .cons q (RVs.set r i t)
theorem RVs.eraseIdx : ∀ {vs : List V} {ps : List PV} (i : Nat), RVs W ι H vs ps → RVs W ι H (vs.eraseIdx i) (ps.eraseIdx i)
  | _, _, _, .nil => .nil
  | _, _, 0, .cons _ t => t
  | _, _, i + 1, .cons q t => .cons q (RVs.eraseIdx i t)
theorem RVs.reverse {vs : List V} {ps : List PV} (r : RVs W ι H vs ps) : RVs W ι H vs.reverse ps.reverse := by
  induction ps generalizing vs with
  | nil => cases r; exact .nil
  | cons p ps ih =>
    cases r with
    | cons h t =>
      rw [List.reverse_cons, List.reverse_cons]
      exact (ih t).append (.cons h .nil)
theorem RVs.ints (ns : List Int) : RVs W ι H (ns.map V.int) (ns.map PV.int) := by
  induction ns with
  | nil => exact .nil
  | cons n ns ih => exact .cons (.int n) ih
theorem RVs.of_ints : ∀ {ns : List Int} {vs : List V}, RVs W ι H vs (ns.map PV.int) → vs = ns.map V.int
  | [], _, .nil => rfl
  | n :: ns, _, .cons (.int _) t => by rw [List.map_cons, RVs.of_ints t]

/-- the store told of the heap behind an object of it that has changed -/
theorem RS.upd {n : Nat} {a : Addr} {ho : HO} {o : Ob} (R : RS W ι st H) (hn : ι[n]? = some a) (hr : RO W ι (L2.upd H a ho) a o) : RS W ι (st.set n o) (L2.upd H a ho) := by
  have ha : a ∈ ι := List.mem_of_getElem? hn
  have m : Mono ι H ι (L2.upd H a ho) := Mono.mut ha
  refine ⟨by rw [List.length_set]; exact R.len, R.nd, fun k u b h1 h2 => ?_, tab_mono R m, tl_upd R.tl fun o e => by
    obtain ⟨n, ob, _, _, r⟩ := R.at_ ha
    obtain ⟨u, e2, z⟩ := r.there
    rw [e] at e2
    cases e2
    exact z⟩
  by_cases hk : k = n
  · subst hk
    rw [hn] at h2
    cases h2
    have hlt : k < st.length := by rw [← R.len]; exact (List.getElem?_eq_some_iff.mp hn).1
    rw [List.getElem?_set_self hlt] at h1
    cases h1
    exact hr
  · rw [List.getElem?_set_ne (Ne.symm hk)] at h1
    have hb : b ≠ a := fun z => by
      subst z
      obtain ⟨h3, e3⟩ := List.getElem?_eq_some_iff.mp hn
      obtain ⟨h4, e4⟩ := List.getElem?_eq_some_iff.mp h2
      exact hk ((List.getElem_inj R.nd).mp (e4.trans e3.symm))
    have r := R.ob k u b h1 h2
    have e : L2.upd H a ho b = H b := upd_ne hb
    cases u with
    | lst lk l =>
      cases lk with
      | false => obtain ⟨vs, q, z, y⟩ := r; exact ⟨vs, e.trans q, rvs_mono R m _ _ z, y⟩
      | true => obtain ⟨c, vs, q, z, y⟩ := r; exact ⟨c, vs, e.trans q, rvs_mono R m _ _ z, y⟩
    | dct lk l =>
      cases lk with
      | false => obtain ⟨vs, q, z⟩ := r; exact ⟨vs, e.trans q, rks_mono R m z⟩
      | true => obtain ⟨c, vs, q, z⟩ := r; exact ⟨c, vs, e.trans q, rks_mono R m z⟩
    | sti l => obtain ⟨S, q, z⟩ := r; exact ⟨S, e.trans q, z⟩
theorem RO.mono {a : Addr} {o : Ob} (R : RS W ι st H) (m : Mono ι H ι' H') (e : H' a = H a) (h : RO W ι H a o) : RO W ι' H' a o := by
  cases o with
  | lst lk l =>
    cases lk with
    | false => obtain ⟨vs, q, z, y⟩ := h; exact ⟨vs, e.trans q, rvs_mono R m _ _ z, y⟩
    | true => obtain ⟨c, vs, q, z, y⟩ := h; exact ⟨c, vs, e.trans q, rvs_mono R m _ _ z, y⟩
  | dct lk l =>
    cases lk with
    | false => obtain ⟨vs, q, z⟩ := h; exact ⟨vs, e.trans q, rks_mono R m z⟩
    | true => obtain ⟨c, vs, q, z⟩ := h; exact ⟨c, vs, e.trans q, rks_mono R m z⟩
  | sti l => obtain ⟨S, q, z⟩ := h; exact ⟨S, e.trans q, z⟩
/-- an object that the store does not tell is laid, or changed -/
theorem RS.other {p : Addr} {o : HO} (R : RS W ι st H) (hp : H p = none) : RS W ι st (L2.upd H p o) :=
  ⟨R.len, R.nd, fun n u a h1 h2 => by
    have r := R.ob n u a h1 h2
    obtain ⟨x, e, _⟩ := r.there
    exact RO.mono R (Mono.new hp) (upd_ne (ne_of_none e hp)) r, tab_mono R (Mono.new hp), tl_upd R.tl fun o e => by rw [hp] at e; cases e⟩
/-- .. and told from now on -/
theorem RS.take {p : Addr} {o : Ob} (R : RS W ι st H) (m : Mono ι H (ι ++ [p]) H) (hp : p ∉ ι) (hr : RO W ι H p o) : RS W (ι ++ [p]) (st ++ [o]) H := by
  refine ⟨by rw [List.length_append, List.length_append, R.len]; rfl, ?_, fun n u a h1 h2 => ?_, R.tb, R.tl⟩
  · rw [List.nodup_append]
    refine ⟨R.nd, by simp, fun a ha b hb => ?_⟩
    rw [List.mem_singleton] at hb
    subst hb
    exact fun z => hp (z ▸ ha)
  · by_cases hn : n < ι.length
    · rw [List.getElem?_append_left hn] at h2
      rw [List.getElem?_append_left (by rw [← R.len]; exact hn)] at h1
      exact RO.mono R m rfl (R.ob n u a h1 h2)
    · have hlt : n < (ι ++ [p]).length := (List.getElem?_eq_some_iff.mp h2).1
      have e : n = ι.length := by
        rw [List.length_append] at hlt
        simp at hlt
        omega
      subst e
      rw [List.getElem?_append_right (Nat.le_refl _), Nat.sub_self] at h2
      rw [R.len, List.getElem?_append_right (Nat.le_refl _), Nat.sub_self] at h1
      cases h1
      cases h2
      exact RO.mono R m rfl hr
end
end PD
/-! PD: judgements, names, operators. -/
namespace PD
open PySem PySem.Spec PyProof.Rows L2

structure RE (W : Wd) (ι : List Addr) (H : Hp) (ρ : Env) (σ : L2.St) : Prop where
  len : ρ.length = σ.length
  at_ : ∀ (i : Nat) (p : PV), ρ[i]? = some (some p) → ∃ v, σ[i]? = some (some v) ∧ RV W ι H v p
def Good (W : Wd) (E : XK) {α : Type} (ι : List Addr) (H : Hp) (r : Res α) (k : α → Sto → List Addr → Hp → Prop) : Prop :=
  match r with
  | .ok a st' => ∀ ι' H', Mono ι H ι' H' → RS W ι' st' H' → k a st' ι' H'
  | .exc c st' => ∀ ι' H', Mono ι H ι' H' → RS W ι' st' H' → E (W.xc c) none H'
  | .stuck => False
section
variable {W : Wd} {E : XK} {ι ι' ι1 : List Addr} {H H' H1 : Hp} {st : Sto} {ρ : Env} {σ : L2.St}
theorem RE.mono (e : RE W ι H ρ σ) (R : RS W ι st H) (m : Mono ι H ι' H') : RE W ι' H' ρ σ :=
  ⟨e.len, fun i p h => let ⟨v, h1, h2⟩ := e.at_ i p h; ⟨v, h1, rv_mono R m p v h2⟩⟩
theorem RE.set (e : RE W ι H ρ σ) {v : V} {p : PV} (r : RV W ι H v p) (i : Nat) : RE W ι H (ρ.set i (some p)) (σ.set i (some v)) := by
  refine ⟨by rw [List.length_set, List.length_set]; exact e.len, fun j q h => ?_⟩
  by_cases hj : i = j
  · subst hj
    by_cases hi : i < ρ.length
    · rw [List.getElem?_set_self hi] at h
      cases h
      exact ⟨v, by rw [List.getElem?_set_self (by rw [← e.len]; exact hi)], r⟩
    · rw [List.getElem?_eq_none (by rw [List.length_set]; omega)] at h
      cases h
  · rw [List.getElem?_set_ne hj] at h
    obtain ⟨u, h1, h2⟩ := e.at_ j q h
    exact ⟨u, by rw [List.getElem?_set_ne hj]; exact h1, h2⟩
theorem RE.unset (e : RE W ι H ρ σ) (i : Nat) : RE W ι H (ρ.set i none) (σ.set i none) := by
  refine ⟨by rw [List.length_set, List.length_set]; exact e.len, fun j q h => ?_⟩
  by_cases hj : i = j
  · subst hj
    by_cases hi : i < ρ.length
    · rw [List.getElem?_set_self hi] at h
      cases h
    · rw [List.getElem?_eq_none (by rw [List.length_set]; omega)] at h
      cases h
  · rw [List.getElem?_set_ne hj] at h
    obtain ⟨u, h1, h2⟩ := e.at_ j q h
    exact ⟨u, by rw [List.getElem?_set_ne hj]; exact h1, h2⟩
theorem Good.imp {α : Type} {r : Res α} {k k' : α → Sto → List Addr → Hp → Prop} (g : Good W E ι H r k) (h : ∀ a st' ι' H', Mono ι H ι' H' → RS W ι' st' H' → k a st' ι' H' → k' a st' ι' H') : Good W E ι H r k' := by
  cases r with
  | ok a st' => exact fun ι' H' m R => h a st' ι' H' m R (g ι' H' m R)
  | exc c st' => exact g
  | stuck => exact g
theorem Good.shift {α : Type} {r : Res α} {k : α → Sto → List Addr → Hp → Prop} (g : Good W E ι H r k) (m : Mono ι H ι1 H1) : Good W E ι1 H1 r k := by
  cases r with
  | ok a st' => exact fun ι' H' m' R => g ι' H' (m.trans m') R
  | exc c st' => exact fun ι' H' m' R => g ι' H' (m.trans m') R
  | stuck => exact g
theorem Good.bind {α β : Type} {m : Mo α} {f : α → Mo β} {k : β → Sto → List Addr → Hp → Prop} (g : Good W E ι H (bnd m f st) k) : Good W E ι H (m st) (fun a st1 ι1 H1 => Good W E ι1 H1 (f a st1) k) := by
  unfold bnd at g
  cases h : m st with
  | ok a st' =>
    rw [h] at g
    exact fun ι' H' m' R => g.shift m'
  | exc c st' =>
    rw [h] at g
    exact g
  | stuck =>
    rw [h] at g
    exact g
theorem Good.ok {α : Type} {a : α} {k : α → Sto → List Addr → Hp → Prop} (g : Good W E ι H (.ok a st) k) (R : RS W ι st H) : k a st ι H := g ι H Mono.refl R
end

/-- the readings of denotations -/
def kQ (W : Wd) (Q : VK) : PV → Sto → List Addr → Hp → Prop := fun z _ ι' H' => ∀ v, RV W ι' H' v z → Q v H'
def tD (W : Wd) (E : XK) (d : Env → Mo PV) : TE := fun σ H Q => ∃ ι ρ st, RE W ι H ρ σ ∧ RS W ι st H ∧ Good W E ι H (d ρ st) (kQ W Q)
def tDT (W : Wd) (E : XK) (d : Env → Mo Bool) : TT := fun σ H Q => ∃ ι ρ st, RE W ι H ρ σ ∧ RS W ι st H ∧ Good W E ι H (d ρ st) (fun b _ _ H' => Q b H')
def tDA (W : Wd) (E : XK) (d : Env → Mo (List PV)) : TA := fun σ H Q => ∃ ι ρ st, RE W ι H ρ σ ∧ RS W ι st H ∧ Good W E ι H (d ρ st) (fun ps _ ι' H' => ∀ vs, RVs W ι' H' vs ps → Q vs H')
/-- a new list that the store does not tell -/
def kL (W : Wd) (H : Hp) (Q : VK) : List PV → Sto → List Addr → Hp → Prop := fun l _ ι' H' => ∀ p vs, H p = none → p ∉ ι' → H' p = some (.lst vs) → RVs W ι' H' vs l → l.length ≤ 16777216 → Q (.ref p) H'
def tDL (W : Wd) (E : XK) (d : Env → Mo (List PV)) : TE := fun σ H Q => ∃ ι ρ st, RE W ι H ρ σ ∧ RS W ι st H ∧ Good W E ι H (d ρ st) (kL W H Q)
/-- a list or a tuple, wherever it stands -/
def IsSq (K : PySem.W.Frag) (H : Hp) (v : V) (vs : List V) : Prop := ∃ p, v = .ref p ∧ (SqL K H p vs ∨ SqT K H p vs)
def kS (W : Wd) (Q : VK) : List PV → Sto → List Addr → Hp → Prop := fun l _ ι' H' => ∀ v vs, IsSq W.K H' v vs → RVs W ι' H' vs l → l.length ≤ 16777216 → Q v H'
def tDQ (W : Wd) (E : XK) (d : Env → Mo (List PV)) : TE := fun σ H Q => ∃ ι ρ st, RE W ι H ρ σ ∧ RS W ι st H ∧ Good W E ι H (d ρ st) (kS W Q)

structure On (X : Cx) (W : Wd) (k : Nat) (E : XK) : Prop where
  hK : X.K = W.K
  hM : X.mg = W.mg
  hc : X.calm = true
  nd : X.N.Nodup
  room : Room k X.A
  ps : Passes W.cx X E
  own : PassesOwn (model X.prog X.w) X.A X.env X.xe
  c0 : ∀ outer H s e s', W.cx outer H s E0 e s' → False
structure DE (X : Cx) (W : Wd) (k : Nat) (E : XK) (e : Expr) (d : Env → Mo PV) : Prop where
  run : On X W k E → PE X e (tD W E d)
structure DT (X : Cx) (W : Wd) (k : Nat) (E : XK) (e : Expr) (d : Env → Mo Bool) : Prop where
  run : On X W k E → PT X e (tDT W E d)
/-- a test within and, or -/
structure DW (X : Cx) (W : Wd) (k : Nat) (E : XK) (e : Expr) (d : Env → Mo Bool) : Prop where
  run : On X W k E → PW X e (tDT W E d)
structure DA (X : Cx) (W : Wd) (k : Nat) (E : XK) (es : List Expr) (d : Env → Mo (List PV)) : Prop where
  run : On X W k E → PA X es (tDA W E d)
structure DL (X : Cx) (W : Wd) (k : Nat) (E : XK) (e : Expr) (d : Env → Mo (List PV)) : Prop where
  run : On X W k E → PE X e (tDL W E d)
structure DQ (X : Cx) (W : Wd) (k : Nat) (E : XK) (e : Expr) (d : Env → Mo (List PV)) : Prop where
  run : On X W k E → PE X e (tDQ W E d)

theorem pe_imp {X : Cx} {e : Expr} {t t' : TE} (h : PE X e t) (hi : ∀ σ H Q, t' σ H Q → t σ H Q) : PE X e t' := ⟨fun pins s σ H Q I w => h.run pins s σ H Q I (hi σ H Q w)⟩
theorem pt_imp {X : Cx} {e : Expr} {t t' : TT} (h : PT X e t) (hi : ∀ σ H Q, t' σ H Q → t σ H Q) : PT X e t' := ⟨fun pins s σ H Q I w => h.run pins s σ H Q I (hi σ H Q w)⟩
theorem pw_imp {X : Cx} {e : Expr} {t t' : TT} (h : PW X e t) (hi : ∀ σ H Q, t' σ H Q → t σ H Q) : PW X e t' := ⟨fun wh pins s σ H Q I w => h.run wh pins s σ H Q I (hi σ H Q w)⟩
theorem pa_imp {X : Cx} {es : List Expr} {t t' : TA} (h : PA X es t) (hi : ∀ σ H Q, t' σ H Q → t σ H Q) : PA X es t' := ⟨fun pos pins s σ H Q I w => h.run pos pins s σ H Q I (hi σ H Q w)⟩

section
variable {X : Cx} {W : Wd} {k : Nat} {E : XK} {a b c e : Expr} {es : List Expr} {pos : Pos} {da db dc : Env → Mo PV}
/-! ### names and constants -/
def dVar (i : Nat) : Env → Mo PV := fun ρ st => match ρ[i]? with
  | some (some p) => .ok p st
  | _ => .stuck
def dC (p : PV) : Env → Mo PV := fun _ st => .ok p st
theorem de_var {i : Nat} {x : Str} (hN : X.N[i]? = some x := by rfl) (hv : Vis X.env.scope x := by first | exact Or.inl rfl | exact Or.inr (Or.inl rfl) | exact Or.inr (Or.inr rfl)) (hd : (x == ("__debug__" : Str)) = false := by decide)
    (hcd : (x == ("__classdict__" : Str)) = false := by decide) : DE X W k E (.Name x pos) (dVar i) := ⟨fun _ => pe_imp (pe_var hN hv hd hcd) fun σ H Q h => by
  obtain ⟨ι, ρ, st, re, rs, g⟩ := h
  unfold dVar at g
  cases q : ρ[i]? with
  | none => rw [q] at g; exact g.elim
  | some o =>
    cases o with
    | none => rw [q] at g; exact g.elim
    | some p =>
      rw [q] at g
      obtain ⟨v, h1, h2⟩ := re.at_ i p q
      exact ⟨v, h1, g.ok rs v h2⟩⟩
theorem de_k {v : V} {p : PV} (h : PE X e (tC v)) (hr : ∀ ι H, RV W ι H v p) : DE X W k E e (dC p) := ⟨fun _ => pe_imp h fun σ H Q h => by
  obtain ⟨ι, ρ, st, re, rs, g⟩ := h
  exact g.ok rs v (hr ι H)⟩
theorem de_int {i : Int} {j : Nat} : DE X W k E (.Constant (.int i) j pos) (dC (.int i)) := de_k pe_int fun _ _ => .int i
theorem de_bl {b : Bool} {j : Nat} : DE X W k E (.Constant (.bool b) j pos) (dC (.bl b)) := de_k pe_bl fun _ _ => .bl b
theorem de_non {j : Nat} : DE X W k E (.Constant .none j pos) (dC .non) := de_k pe_non fun _ _ => .non
theorem de_str {x : Str} {j : Nat} : DE X W k E (.Constant (.str x) j pos) (dC (.str x)) := de_k pe_str fun _ _ => .str x
/-- a module's name that holds an int, a def as a value -/
theorem de_gint {x : Str} {i : Int} (hg : Gl X x) (hm : ∃ t, W.mg x = some (.int i t)) (hd : (x == ("__debug__" : Str)) = false := by decide) : DE X W k E (.Name x pos) (dC (.int i)) := ⟨fun o => by
  obtain ⟨t, hm⟩ := hm
  exact (de_k (W := W) (k := k) (E := E) (v := .int i) (pe_glob hg (by rw [o.hM]; exact hm) ⟨t, rfl⟩ hd) fun _ _ => .int i).run o⟩
theorem de_fn {x : Str} {j : Nat} {f : Addr} (hg : Gl X x) (hm : W.mg x = some (.ref f)) (hf : W.fa j = some f) (hd : (x == ("__debug__" : Str)) = false := by decide) : DE X W k E (.Name x pos) (dC (.fn j)) := ⟨fun o =>
  (de_k (W := W) (k := k) (E := E) (v := .ref f) (pe_glob hg (by rw [o.hM]; exact hm) rfl hd) fun _ _ => .fn hf).run o⟩

/-! ### operators -/
def FOk (W : Wd) (E : XK) (r : R2) (f : PV → PV → Mo PV) : Prop := ∀ (ι : List Addr) (st : Sto) (H : Hp) (x y : V) (p q : PV) (Q : VK), RS W ι st H → RV W ι H x p → RV W ι H y q → Good W E ι H (f p q st) (kQ W Q) → r x y H Q
def dBin (f : PV → PV → Mo PV) (da db : Env → Mo PV) : Env → Mo PV := fun ρ => bnd (da ρ) fun p => bnd (db ρ) fun q => f p q
theorem op_of {r : R2} {f : PV → PV → Mo PV} (hf : FOk W E r f) {σ : L2.St} {H : Hp} {Q : VK} (h : tD W E (dBin f da db) σ H Q) : tOp r (tD W E da) (tD W E db) σ H Q := by
  obtain ⟨ι, ρ, st, re, rs, g⟩ := h
  refine ⟨ι, ρ, st, re, rs, Good.imp (Good.bind g) fun p st1 ι1 H1 m1 r1 g1 v1 hv1 => ?_⟩
  refine ⟨ι1, ρ, st1, re.mono rs m1, r1, Good.imp (Good.bind g1) fun q st2 ι2 H2 m2 r2 g2 v2 hv2 => ?_⟩
  exact hf ι2 st2 H2 v1 v2 p q Q r2 (rv_mono r1 m2 p v1 hv1) hv2 g2
theorem de_bin {op : Operator} {r : R2} {f : PV → PV → Mo PV} (ho : On X W k E → OpR X (binaryOp op) r) (hf : FOk W E r f) (ha : DE X W k E a da) (hb : DE X W k E b db) : DE X W k E (.BinOp a op b pos) (dBin f da db) :=
  ⟨fun o => pe_imp (pe_op (ho o) (ha.run o) (hb.run o)) fun _ _ _ h => op_of hf h⟩
theorem de_cmp {op : CmpOp} {r : R2} {f : PV → PV → Mo PV} (ho : On X W k E → OpR X (compareOp op) r) (hf : FOk W E r f) (ha : DE X W k E a da) (hb : DE X W k E b db) (hm : behindInMarks op b = false) : DE X W k E (.Compare a [op] [b] pos) (dBin f da db) :=
  ⟨fun o => pe_imp (pe_cmpR (ho o) (ha.run o) (hb.run o) hm) fun _ _ _ h => op_of hf h⟩
def oI (g : Int → Int → PV) : PV → PV → Mo PV
  | .int i, .int j => fun st => .ok (g i j) st
  | _, _ => fail
def oIC (C : Int → Int → Prop) [∀ i j, Decidable (C i j)] (g : Int → Int → PV) : PV → PV → Mo PV
  | .int i, .int j => fun st => if C i j then .ok (g i j) st else .stuck
  | _, _ => fail
theorem fok_I {g : Int → Int → PV} {g' : Int → Int → V} (hr : ∀ i j ι H, RV W ι H (g' i j) (g i j)) : FOk W E (rI0 g') (oI g) := by
  intro ι st H x y p q Q rs hx hy g0
  cases hx <;> cases hy <;> first
    | exact ⟨_, _, rfl, rfl, g0.ok rs _ (hr _ _ _ _)⟩
    | exact g0.elim
theorem fok_IC {C C' : Int → Int → Prop} [∀ i j, Decidable (C i j)] {g : Int → Int → PV} {g' : Int → Int → V} (hC : ∀ i j, C i j → C' i j) (hr : ∀ i j ι H, RV W ι H (g' i j) (g i j)) : FOk W E (rI C' g') (oIC C g) := by
  intro ι st H x y p q Q rs hx hy g0
  cases hx <;> cases hy <;> first
    | (rename_i i j
       by_cases hc : C i j
       · have e : oIC C g (.int i) (.int j) st = .ok (g i j) st := if_pos hc
         rw [e] at g0
         exact ⟨_, _, rfl, rfl, hC _ _ hc, g0.ok rs _ (hr _ _ _ _)⟩
       · have e : oIC C g (.int i) (.int j) st = .stuck := if_neg hc
         rw [e] at g0
         exact g0.elim)
    | exact g0.elim
abbrev oSub := oI fun i j => .int (i - j)
abbrev oLt := oI fun i j => .bl (decide (i < j))
abbrev oLe := oI fun i j => .bl (decide (i ≤ j))
abbrev oGt := oI fun i j => .bl (decide (j < i))
abbrev oGe := oI fun i j => .bl (decide (j ≤ i))
abbrev CM (i j : Int) : Prop := i.natAbs < 18446744073709551616 ∨ j.natAbs < 18446744073709551616
abbrev oMul := oIC CM fun i j => .int (i * j)
abbrev CDv (i j : Int) : Prop := 0 < j ∧ j < 1073741824
abbrev oDiv := oIC CDv fun i j => .int (i / j)
abbrev oMod := oIC (fun _ j => 0 < j) fun i j => .int (i % j)
abbrev CPw (i j : Int) : Prop := 0 ≤ j ∧ j ≤ 1000000 ∧ i.natAbs < 18446744073709551616
abbrev oPow := oIC CPw fun i j => .int (i ^ j.toNat)
abbrev oShl := oIC CPw fun i j => .int (i * 2 ^ j.toNat)
abbrev oShr := oIC (fun _ j => 0 ≤ j) fun i j => .int (i / 2 ^ j.toNat)
abbrev oAnd := oI fun i j => .int (Builtin.bitAnd i j)
theorem cm_ok {i j : Int} (h : CM i j) : CMul i j := by
  rcases h with h | h
  · exact .inl (by constructor <;> (first | (have := h; omega)))
  · exact .inr (by constructor <;> (first | (have := h; omega)))
theorem cp_ok {i j : Int} (h : CPw i j) : CPow i j := ⟨h.1, h.2.1, by have := h.2.2; omega⟩
theorem de_sub (ha : DE X W k E a da) (hb : DE X W k E b db) : DE X W k E (.BinOp a .Sub b pos) (dBin oSub da db) := de_bin (fun _ => op_sub) (fok_I fun _ _ _ _ => .int _) ha hb
theorem de_mul (ha : DE X W k E a da) (hb : DE X W k E b db) : DE X W k E (.BinOp a .Mult b pos) (dBin oMul da db) := de_bin (fun _ => op_mul) (fok_IC (fun _ _ => cm_ok) fun _ _ _ _ => .int _) ha hb
theorem de_div (ha : DE X W k E a da) (hb : DE X W k E b db) : DE X W k E (.BinOp a .FloorDiv b pos) (dBin oDiv da db) := de_bin (fun _ => op_fdiv) (fok_IC (fun _ _ h => h) fun _ _ _ _ => .int _) ha hb
theorem de_mod (ha : DE X W k E a da) (hb : DE X W k E b db) : DE X W k E (.BinOp a .Mod b pos) (dBin oMod da db) := de_bin (fun _ => op_mod) (fok_IC (fun _ _ h => h) fun _ _ _ _ => .int _) ha hb
theorem de_pow (ha : DE X W k E a da) (hb : DE X W k E b db) : DE X W k E (.BinOp a .Pow b pos) (dBin oPow da db) := de_bin (fun _ => op_pow) (fok_IC (fun _ _ => cp_ok) fun _ _ _ _ => .int _) ha hb
theorem de_shl (ha : DE X W k E a da) (hb : DE X W k E b db) : DE X W k E (.BinOp a .LShift b pos) (dBin oShl da db) := de_bin (fun _ => op_shl) (fok_IC (fun _ _ => cp_ok) fun _ _ _ _ => .int _) ha hb
theorem de_shr (ha : DE X W k E a da) (hb : DE X W k E b db) : DE X W k E (.BinOp a .RShift b pos) (dBin oShr da db) := de_bin (fun _ => op_shr) (fok_IC (fun _ _ h => h) fun _ _ _ _ => .int _) ha hb
theorem de_band (ha : DE X W k E a da) (hb : DE X W k E b db) : DE X W k E (.BinOp a .BitAnd b pos) (dBin oAnd da db) := de_bin (fun _ => op_and) (fok_I fun _ _ _ _ => .int _) ha hb
theorem de_lt (ha : DE X W k E a da) (hb : DE X W k E b db) : DE X W k E (.Compare a [.Lt] [b] pos) (dBin oLt da db) := de_cmp (fun _ => op_lt) (fok_I fun _ _ _ _ => .bl _) ha hb (nomark _)
theorem de_le (ha : DE X W k E a da) (hb : DE X W k E b db) : DE X W k E (.Compare a [.LtE] [b] pos) (dBin oLe da db) := de_cmp (fun _ => op_le) (fok_I fun _ _ _ _ => .bl _) ha hb (nomark _)
theorem de_gt (ha : DE X W k E a da) (hb : DE X W k E b db) : DE X W k E (.Compare a [.Gt] [b] pos) (dBin oGt da db) := de_cmp (fun _ => op_gt) (fok_I fun _ _ _ _ => .bl _) ha hb (nomark _)
theorem de_ge (ha : DE X W k E a da) (hb : DE X W k E b db) : DE X W k E (.Compare a [.GtE] [b] pos) (dBin oGe da db) := de_cmp (fun _ => op_ge) (fok_I fun _ _ _ _ => .bl _) ha hb (nomark _)
/-- +: ints, texts, tuples -/
def oAdd : PV → PV → Mo PV
  | .int i, .int j => fun st => .ok (.int (i + j)) st
  | .str x, .str y => fun st => if x.length + y.length ≤ 16777216 then .ok (.str (x ++ y)) st else .stuck
  | .tup l, .tup m => fun st => if l.length + m.length ≤ 16777216 then .ok (.tup (l ++ m)) st else .stuck
  | _, _ => fail
def rAddA (K : PySem.W.Frag) : R2 := fun x y H Q => (∃ i j, x = .int i ∧ y = .int j ∧ Q (.int (i + j)) H) ∨ (∃ i j, x = .str i ∧ y = .str j ∧ i.length + j.length ≤ sizeLine ∧ Q (.str (i ++ j)) H) ∨ rCatA K x y H Q
theorem line_le {n : Nat} (h : n ≤ 16777216) : n ≤ sizeLine := by
  rw [sizeLine_eq]
  exact h
theorem line_of {n : Nat} (h : n ≤ sizeLine) : n ≤ 16777216 := by
  rw [sizeLine_eq] at h
  exact h
theorem good_if {α : Type} {ι : List Addr} {H : Hp} {C : Prop} [Decidable C] {r : Res α} {kk : α → Sto → List Addr → Hp → Prop} (g : Good W E ι H (if C then r else .stuck) kk) : C ∧ Good W E ι H r kk := by
  by_cases h : C
  · rw [if_pos h] at g
    exact ⟨h, g⟩
  · rw [if_neg h] at g
    exact g.elim
/-- a new tuple -/
theorem good_newtup {ι : List Addr} {st : Sto} {H : Hp} {Q : VK} {l : List PV} {vs : List V} {p : Addr} (g : Good W E ι H (.ok (.tup l) st) (kQ W Q)) (rs : RS W ι st H) (r : RVs W ι H vs l) (hz : l.length ≤ 16777216) (hp : H p = none) : Q (.ref p) (upd H p (.tup vs)) := by
  have m : Mono ι H ι (upd H p (.tup vs)) := Mono.new hp
  exact g ι _ m (rs.other hp) _ (.tup (.inl (.inl upd_same)) (rvs_mono rs m _ _ r) hz)
theorem fok_add : FOk W E (rAddA W.K) oAdd := by
  intro ι st H x y p q Q rs hx hy g0
  cases hx <;> cases hy <;> first
    | exact .inl ⟨_, _, rfl, rfl, g0.ok rs _ (.int _)⟩
    | (obtain ⟨hc, g1⟩ := good_if g0
       first
        | exact .inr (.inl ⟨_, _, rfl, rfl, line_le hc, g1.ok rs _ (.str _)⟩)
        | (rename_i a1 vs1 l1 sq1 z1 n1 a2 vs2 l2 sq2 z2 n2
           refine .inr (.inr ⟨a1, a2, vs1, vs2, rfl, rfl, sq1, sq2, line_le (by rw [z1.length, z2.length]; exact hc), fun e => ?_, fun _ e => ?_, fun _ _ p hp => ?_⟩)
           · subst e
             cases z1
             exact g1.ok rs _ (.tup sq2 z2 n2)
           · subst e
             cases z2
             rw [List.append_nil] at g1
             exact g1.ok rs _ (.tup sq1 z1 n1)
           · exact good_newtup g1 rs (z1.append z2) (by rw [List.length_append]; exact hc) hp))
    | exact g0.elim
theorem op_addA {X : Cx} : OpR X (binaryOp .Add) (rAddA X.K) := OpR.or (opI0 fun _ _ _ _ _ _ _ q => add_int q) (OpR.or op_add_str op_catA)
theorem de_add (ha : DE X W k E a da) (hb : DE X W k E b db) : DE X W k E (.BinOp a .Add b pos) (dBin oAdd da db) := de_bin (fun o => by rw [← o.hK]; exact op_addA) fok_add ha hb

/-! ### equality of plain data -/
mutual
def toD : PV → PyData
  | .non => .none
  | .bl b => .bool b
  | .int i => .int i
  | .str s => .str s
  | .tup l => .tuple (toDs l)
  | .loc _ => .none
  | .fn _ => .none
  | .kl _ => .none
  | .clo _ => .none
  | .pst _ => .none
def toDs : List PV → List PyData
  | [] => []
  | p :: ps => toD p :: toDs ps
end
mutual
/-- plain data, so deep at most -/
def okd : Nat → PV → Bool
  | _, .non => true
  | _, .bl _ => true
  | _, .int _ => true
  | _, .str _ => true
  | 0, .tup _ => false
  | n + 1, .tup l => okds n l
  | _, .loc _ => false
  | _, .fn _ => false
  | _, .kl _ => false
  | _, .clo _ => false
  | _, .pst _ => false
def okds : Nat → List PV → Bool
  | _, [] => true
  | n, p :: ps => okd n p && okds n ps
end
theorem okd_non (n : Nat) : okd n .non = true := by cases n <;> rfl
theorem okd_bl (n : Nat) (b : Bool) : okd n (.bl b) = true := by cases n <;> rfl
theorem okd_int (n : Nat) (i : Int) : okd n (.int i) = true := by cases n <;> rfl
theorem okd_str (n : Nat) (s : Str) : okd n (.str s) = true := by cases n <;> rfl
theorem okd_loc (n i : Nat) : okd n (.loc i) = false := by cases n <;> rfl
theorem okd_fn (n i : Nat) : okd n (.fn i) = false := by cases n <;> rfl
theorem okd_kl (n : Nat) (l : List Int) : okd n (.kl l) = false := by cases n <;> rfl
theorem okd_clo (n : Nat) (l : List PV) : okd n (.clo l) = false := by cases n <;> rfl
theorem okd_pst (n : Nat) (l : List (List Int)) : okd n (.pst l) = false := by cases n <;> rfl
theorem okd_tup0 (l : List PV) : okd 0 (.tup l) = false := rfl
theorem okd_tup (n : Nat) (l : List PV) : okd (n + 1) (.tup l) = okds n l := rfl
mutual
def eqb : PV → PV → Bool
  | .non, .non => true
  | .bl a, .bl b => a == b
  | .bl a, .int j => (if a then 1 else 0) == j
  | .int i, .bl b => i == (if b then 1 else 0)
  | .int i, .int j => i == j
  | .str x, .str y => x == y
  | .tup l, .tup m => eqbs l m
  | _, _ => false
def eqbs : List PV → List PV → Bool
  | [], [] => true
  | p :: ps, q :: qs => eqb p q && eqbs ps qs
  | _, _ => false
end
mutual
theorem okd_plain : ∀ (n : Nat) (p : PV), okd n p = true → (toD p).plain = true ∧ (toD p).depth ≤ n
  | _, .non, _ => by simp [toD, PyData.plain, PyData.depth]
  | _, .bl _, _ => by simp [toD, PyData.plain, PyData.depth]
  | _, .int _, _ => by simp [toD, PyData.plain, PyData.depth]
  | _, .str _, _ => by simp [toD, PyData.plain, PyData.depth]
  | 0, .tup _, h => by simp [okd] at h
  | n + 1, .tup l, h => by
    have z := okds_plain n l (by simpa [okd] using h)
    exact ⟨by simpa [toD, PyData.plain] using z.1, by have := z.2; simp only [toD, PyData.depth]; omega⟩
  | _, .loc _, h => by simp [okd] at h
  | _, .fn _, h => by simp [okd] at h
  | _, .kl _, h => by simp [okd] at h
  | _, .clo _, h => by rw [okd_clo] at h; cases h
  | _, .pst _, h => by rw [okd_pst] at h; cases h
theorem okds_plain : ∀ (n : Nat) (ps : List PV), okds n ps = true → PyData.plainAll (toDs ps) = true ∧ PyData.depthAll (toDs ps) ≤ n
  | _, [], _ => by simp [toDs, PyData.plainAll, PyData.depthAll]
  | n, p :: ps, h => by
    simp only [okds, Bool.and_eq_true] at h
    have a := okd_plain n p h.1
    have b := okds_plain n ps h.2
    refine ⟨by simp only [toDs, PyData.plainAll, a.1, b.1, Bool.and_self], ?_⟩
    simp only [toDs, PyData.depthAll]
    omega
end
mutual
theorem eqv_toD : ∀ (n : Nat) (p q : PV), okd n p = true → okd n q = true → PyData.eqv (toD p) (toD q) = eqb p q
  | n, p, q, hp, hq => by
    cases p <;> cases q <;> first
      | (rw [okd_loc] at hp; cases hp)
      | (rw [okd_fn] at hp; cases hp)
      | (rw [okd_loc] at hq; cases hq)
      | (rw [okd_fn] at hq; cases hq)
      | (rw [okd_kl] at hp; cases hp)
      | (rw [okd_kl] at hq; cases hq)
      | (rw [okd_clo] at hp; cases hp)
      | (rw [okd_clo] at hq; cases hq)
      | (rw [okd_pst] at hp; cases hp)
      | (rw [okd_pst] at hq; cases hq)
      | (simp [toD, PyData.eqv, eqb]; done)
      | (rename_i l m
         cases n with
         | zero => simp [okd] at hp
         | succ n =>
           simp only [toD, PyData.eqv, eqb]
           exact eqvs_toD n l m (by simpa [okd] using hp) (by simpa [okd] using hq))
theorem eqvs_toD : ∀ (n : Nat) (ps qs : List PV), okds n ps = true → okds n qs = true → PyData.eqvAll (toDs ps) (toDs qs) = eqbs ps qs
  | _, [], [], _, _ => by simp [toDs, PyData.eqvAll, eqbs]
  | _, [], _ :: _, _, _ => by simp [toDs, PyData.eqvAll, eqbs]
  | _, _ :: _, [], _, _ => by simp [toDs, PyData.eqvAll, eqbs]
  | n, p :: ps, q :: qs, hp, hq => by
    simp only [okds, Bool.and_eq_true] at hp hq
    simp only [toDs, PyData.eqvAll, eqbs]
    rw [eqv_toD n p q hp.1 hq.1, eqvs_toD n ps qs hp.2 hq.2]
end
mutual
theorem dp_of {ι : List Addr} {H : Hp} : ∀ (n : Nat) (p : PV) (v : V), okd n p = true → RV W ι H v p → Dp W.K H v (toD p)
  | _, .non, _, _, .non => by rw [toD]; exact .non
  | _, .bl _, _, _, .bl b => by rw [toD]; exact .bl b
  | _, .int _, _, _, .int i => by rw [toD]; exact .int i
  | _, .str _, _, _, .str s => by rw [toD]; exact .str s
  | 0, .tup _, _, h, _ => by simp [okd] at h
  | n + 1, .tup l, _, h, .tup sq r _ => by rw [toD]; exact .tup sq (dps_of n l _ (by simpa [okd] using h) r)
  | _, .loc _, _, h, _ => by simp [okd] at h
  | _, .fn _, _, h, _ => by simp [okd] at h
  | _, .kl _, _, h, _ => by simp [okd] at h
  | _, .clo _, _, h, _ => by rw [okd_clo] at h; cases h
  | _, .pst _, _, h, _ => by rw [okd_pst] at h; cases h
theorem dps_of {ι : List Addr} {H : Hp} : ∀ (n : Nat) (ps : List PV) (vs : List V), okds n ps = true → RVs W ι H vs ps → DpAll W.K H vs (toDs ps)
  | _, [], _, _, .nil => by rw [toDs]; exact .nil
  | n, p :: ps, _, h, .cons a t => by
    simp only [okds, Bool.and_eq_true] at h
    rw [toDs]
    exact .cons (dp_of n p _ h.1 a) (dps_of n ps _ h.2 t)
end
def rEqP (K : PySem.W.Frag) (ne : Bool) : R2 := fun x y H Q => ∃ d e, Dp K H x d ∧ Dp K H y e ∧ d.plain = true ∧ e.plain = true ∧ d.depth ≤ 64 ∧ Q (.bl (if ne then !PyData.eqv d e else PyData.eqv d e)) H
theorem op_eqP (hu : X.A.units + 64 < cLine) : OpR X (compareOp .Eq) (rEqP X.K false) := by
  rintro pins s σ H x y v u Q I rx ry ⟨d, e, hd, he, sd, se, dd, q⟩
  obtain ⟨as, r1⟩ := Dp.reads I d x v hd rx
  obtain ⟨bs, r2⟩ := Dp.reads I e y u he ry
  exact SeqAt.eq_plain r1 r2 sd se (by omega) ⟨.bl _, H, I, rfl, q⟩
theorem op_neP (hu : X.A.units + 64 < cLine) : OpR X (compareOp .NotEq) (rEqP X.K true) := by
  rintro pins s σ H x y v u Q I rx ry ⟨d, e, hd, he, sd, se, dd, q⟩
  obtain ⟨as, r1⟩ := Dp.reads I d x v hd rx
  obtain ⟨bs, r2⟩ := Dp.reads I e y u he ry
  exact SeqAt.ne_plain r1 r2 sd se (by omega) ⟨.bl _, H, I, rfl, q⟩
def oEq (ne : Bool) (p q : PV) : Mo PV := fun st => if okd 60 p = true ∧ okd 60 q = true then .ok (.bl (if ne then !eqb p q else eqb p q)) st else .stuck
theorem fok_eq {ne : Bool} : FOk W E (rEqP W.K ne) (oEq ne) := by
  intro ι st H x y p q Q rs hx hy g0
  obtain ⟨⟨h1, h2⟩, g1⟩ := good_if g0
  have a := okd_plain 60 p h1
  have b := okd_plain 60 q h2
  refine ⟨toD p, toD q, dp_of 60 p x h1 hx, dp_of 60 q y h2 hy, a.1, b.1, by have := a.2; omega, ?_⟩
  rw [eqv_toD 60 p q h1 h2]
  exact g1.ok rs _ (.bl _)
theorem de_eq (ha : DE X W k E a da) (hb : DE X W k E b db) : DE X W k E (.Compare a [.Eq] [b] pos) (dBin (oEq false) da db) :=
  de_cmp (fun o => by rw [← o.hK]; exact op_eqP (by have := o.room.un; omega)) fok_eq ha hb (nomark _)
theorem de_ne (ha : DE X W k E a da) (hb : DE X W k E b db) : DE X W k E (.Compare a [.NotEq] [b] pos) (dBin (oEq true) da db) :=
  de_cmp (fun o => by rw [← o.hK]; exact op_neP (by have := o.room.un; omega)) fok_eq ha hb (nomark _)
/-! ### is None, is True -/
def oIsN (ng : Bool) (p _q : PV) : Mo PV := fun st => .ok (.bl (match p with | .non => !ng | _ => ng)) st
theorem fok_isN {ng : Bool} {a : V → Bool} : FOk W E (fun x y H Q => y = .non ∧ Q (.bl (if ng then !decide (x = .non) else decide (x = .non))) H) (fun p q => match q with | .non => oIsN ng p q | _ => fail) := by
  intro ι st H x y p q Q rs hx hy g0
  cases hy <;> first
    | exact g0.elim
    | (refine ⟨rfl, ?_⟩
       have z := g0.ok rs
       cases hx <;> first
        | (have y := z _ (.bl _); cases ng <;> simpa using y))
theorem de_isN {j : Nat} {p2 : Pos} (ha : DE X W k E a da) : DE X W k E (.Compare a [.Is] [.Constant .none j p2] pos) (dBin (fun p q => match q with | .non => oIsN false p q | _ => fail) da (dC .non)) :=
  de_cmp (r := fun x y H Q => y = .non ∧ Q (.bl (if false = true then !decide (x = .non) else decide (x = .non))) H) (fun _ => by simpa using op_isN) (fok_isN (a := fun _ => true)) ha de_non (nomark _)
theorem de_notN {j : Nat} {p2 : Pos} (ha : DE X W k E a da) : DE X W k E (.Compare a [.IsNot] [.Constant .none j p2] pos) (dBin (fun p q => match q with | .non => oIsN true p q | _ => fail) da (dC .non)) :=
  de_cmp (r := fun x y H Q => y = .non ∧ Q (.bl (if true = true then !decide (x = .non) else decide (x = .non))) H) (fun _ => by simpa using op_notN) (fok_isN (a := fun _ => true)) ha de_non (nomark _)
def oIsB (ng : Bool) : PV → PV → Mo PV
  | .bl x, .bl y => fun st => .ok (.bl (if ng then !decide (x = y) else decide (x = y))) st
  | _, _ => fail
theorem fok_isB {ng : Bool} : FOk W E (fun x y H Q => ∃ a b : Bool, x = .bl a ∧ y = .bl b ∧ Q (.bl (if ng then !decide (a = b) else decide (a = b))) H) (oIsB ng) := by
  intro ι st H x y p q Q rs hx hy g0
  cases hx <;> cases hy <;> first
    | exact ⟨_, _, rfl, rfl, g0.ok rs _ (.bl _)⟩
    | exact g0.elim
theorem de_isB (ha : DE X W k E a da) (hb : DE X W k E b db) : DE X W k E (.Compare a [.Is] [b] pos) (dBin (oIsB false) da db) :=
  de_cmp (r := fun x y H Q => ∃ a b : Bool, x = .bl a ∧ y = .bl b ∧ Q (.bl (if false = true then !decide (a = b) else decide (a = b))) H) (fun _ => op_isBl) fok_isB ha hb (nomark _)
theorem de_notB (ha : DE X W k E a da) (hb : DE X W k E b db) : DE X W k E (.Compare a [.IsNot] [b] pos) (dBin (oIsB true) da db) :=
  de_cmp (r := fun x y H Q => ∃ a b : Bool, x = .bl a ∧ y = .bl b ∧ Q (.bl (if true = true then !decide (a = b) else decide (a = b))) H) (fun _ => op_notBl) fok_isB ha hb (nomark _)
/-! ### unary -/
def dUn (f : PV → Mo PV) (da : Env → Mo PV) : Env → Mo PV := fun ρ => bnd (da ρ) f
def oNeg : PV → Mo PV
  | .int i => fun st => .ok (.int (-i)) st
  | _ => fail
theorem de_neg (ha : DE X W k E a da) : DE X W k E (.UnaryOp .USub a pos) (dUn oNeg da) := ⟨fun o => pe_imp (pe_un un_neg (ha.run o)) fun σ H Q h => by
  obtain ⟨ι, ρ, st, re, rs, g⟩ := h
  refine ⟨ι, ρ, st, re, rs, Good.imp (Good.bind g) fun p st1 ι1 H1 m1 r1 g1 v1 hv1 => ?_⟩
  cases hv1 <;> first
    | exact ⟨_, rfl, g1.ok r1 _ (.int _)⟩
    | exact g1.elim⟩
end
end PD
/-! PD: tests, arguments, calls, sequences. -/
namespace PD
open PySem PySem.Spec PyProof.Rows L2
section
variable {X : Cx} {W : Wd} {k : Nat} {E : XK} {a b c e : Expr} {es rest : List Expr} {pos p p2 : Pos} {da db dc d : Env → Mo PV} {dt du : Env → Mo Bool} {dl dm : Env → Mo (List PV)}

/-! ### sequences -/
def seqOf (st : Sto) : PV → Option (List PV)
  | .tup l => some l
  | .loc n => match st[n]? with
    | some (.lst _ l) => some l
    | _ => none
  | .kl ns => some (ns.map PV.int)
  | _ => none
def oOf {α : Type} (o : Option α) : Mo α := fun st => match o with
  | some x => .ok x st
  | none => .stuck
def sqM (q : PV) : Mo (List PV) := fun st => match seqOf st q with
  | some l => .ok l st
  | none => .stuck
theorem ro_sql {ι : List Addr} {H : Hp} {a : Addr} {lk : Bool} {l : List PV} (h : RO W ι H a (.lst lk l)) : ∃ vs, SqL W.K H a vs ∧ RVs W ι H vs l ∧ l.length ≤ 16777216 := by
  cases lk with
  | false => obtain ⟨vs, e, r, z⟩ := h; exact ⟨vs, SqL.of e, r, z⟩
  | true => obtain ⟨o, vs, e, r, z⟩ := h; exact ⟨vs, .inl (.inr ⟨o, e⟩), r, z⟩
theorem seq_sq {ι : List Addr} {st : Sto} {H : Hp} {v : V} {q : PV} {l : List PV} (rs : RS W ι st H) (r : RV W ι H v q) (h : seqOf st q = some l) : ∃ vs, IsSq W.K H v vs ∧ RVs W ι H vs l ∧ l.length ≤ 16777216 := by
  cases r with
  | tup sq rr z =>
    have e : _ = l := Option.some.inj h
    subst e
    exact ⟨_, ⟨_, rfl, .inr sq⟩, rr, z⟩
  | loc hn =>
    rename_i n a
    unfold seqOf at h
    dsimp only at h
    cases q : st[n]? with
    | none => rw [q] at h; cases h
    | some o =>
      rw [q] at h
      cases o with
      | lst lk m =>
        have e : m = l := Option.some.inj h
        subst e
        obtain ⟨vs, h1, h2, h3⟩ := ro_sql (rs.ob n _ a q hn)
        exact ⟨vs, ⟨a, rfl, .inl h1⟩, h2, h3⟩
      | dct _ _ => cases h
      | sti _ => cases h
  | non => cases h
  | bl => cases h
  | int => cases h
  | str => cases h
  | fn => cases h
  | clo => cases h
  | pst => cases h
  | kl hk z =>
    have e : _ = l := Option.some.inj h
    subst e
    exact ⟨_, ⟨_, rfl, .inl (.inr hk)⟩, RVs.ints _, by rw [List.length_map]; exact z⟩
theorem dq_e (h : DE X W k E e d) : DQ X W k E e (fun ρ => bnd (d ρ) sqM) := ⟨fun o => pe_imp (h.run o) fun σ H Q t => by
  obtain ⟨ι, ρ, st, re, rs, g⟩ := t
  refine ⟨ι, ρ, st, re, rs, Good.imp (Good.bind g) fun q st1 ι1 H1 m1 r1 g1 v hv => ?_⟩
  unfold sqM at g1
  cases hs : seqOf st1 q with
  | none => rw [hs] at g1; exact g1.elim
  | some l =>
    rw [hs] at g1
    obtain ⟨vs, h1, h2, h3⟩ := seq_sq r1 hv hs
    exact g1.ok r1 v vs h1 h2 h3⟩
theorem dq_l (h : DL X W k E e dl) : DQ X W k E e dl := ⟨fun o => pe_imp (h.run o) fun σ H Q t => by
  obtain ⟨ι, ρ, st, re, rs, g⟩ := t
  exact ⟨ι, ρ, st, re, rs, Good.imp g fun l st1 ι1 H1 m1 r1 g1 p vs hp _ e1 r z => g1 (.ref p) vs ⟨p, rfl, .inl (SqL.of e1)⟩ r z⟩⟩
/-- a new list is put into the store -/
def layL (l : List PV) : Mo PV := fun st => .ok (.loc st.length) (st ++ [.lst false l])
theorem lay_of {σ : L2.St} {H : Hp} {Q : VK} (t : tD W E (fun ρ => bnd (dl ρ) layL) σ H Q) : tDL W E dl σ H Q := by
  obtain ⟨ι, ρ, st, re, rs, g⟩ := t
  refine ⟨ι, ρ, st, re, rs, ?_⟩
  unfold bnd at g
  dsimp only at g
  cases q : dl ρ st with
  | stuck => rw [q] at g; exact g.elim
  | exc c st' => rw [q] at g; exact g
  | ok l st1 =>
    rw [q] at g
    intro ι1 H1 m1 r1 p vs hp hn e1 r z
    have m2 : Mono ι H (ι1 ++ [p]) H1 := by
      refine ⟨fun n x hx => ?_, fun x hx hx0 => ?_, m1.keep⟩
      · have h2 := m1.pre n x hx
        rw [List.getElem?_append_left (List.getElem?_eq_some_iff.mp h2).1]
        exact h2
      · rcases List.mem_append.mp hx with h3 | h3
        · exact m1.fresh x h3 hx0
        · rw [List.mem_singleton] at h3
          rw [h3]
          exact hp
    have m3 : Mono (ι1 : List Addr) (fun x => if x = p then none else H1 x) (ι1 ++ [p]) H1 := by
      refine ⟨fun n x hx => ?_, fun x hx hx0 => ?_, fun x o hx hx0 => ?_⟩
      · rw [List.getElem?_append_left (List.getElem?_eq_some_iff.mp hx).1]
        exact hx
      · rcases List.mem_append.mp hx with h3 | h3
        · exact absurd h3 hx0
        · rw [List.mem_singleton] at h3
          simp [h3]
      · by_cases hxp : x = p
        · simp [hxp] at hx
        · simp [hxp] at hx
          exact ⟨o, hx, Kp.refl o⟩
    have keepO : ∀ (n : Nat) (o : Ob) (x : Addr), st1[n]? = some o → ι1[n]? = some x → RO W (ι1 ++ [p]) H1 x o := fun n o x h3 h4 => by
      have ro := r1.ob n o x h3 h4
      have mm : ∀ (ps : List PV) (ws : List V), RVs W ι1 H1 ws ps → RVs W (ι1 ++ [p]) H1 ws ps := fun ps ws rr => rvs_pre m3.pre ps ws rr
      cases o with
      | lst lk l =>
        cases lk with
        | false => obtain ⟨ws, q1, q2, q3⟩ := ro; exact ⟨ws, q1, mm _ _ q2, q3⟩
        | true => obtain ⟨o, ws, q1, q2, q3⟩ := ro; exact ⟨o, ws, q1, mm _ _ q2, q3⟩
      | dct lk l =>
        cases lk with
        | false => obtain ⟨ws, q1, q2⟩ := ro; exact ⟨ws, q1, rks_pre m3.pre q2⟩
        | true => obtain ⟨o, ws, q1, q2⟩ := ro; exact ⟨o, ws, q1, rks_pre m3.pre q2⟩
      | sti l => exact ro
    have r2 : RS W (ι1 ++ [p]) (st1 ++ [.lst false l]) H1 := by
      refine ⟨by rw [List.length_append, List.length_append, r1.len]; rfl, ?_, fun n o x h3 h4 => ?_, r1.tb, r1.tl⟩
      · rw [List.nodup_append]
        refine ⟨r1.nd, by simp, fun x hx y hy => ?_⟩
        rw [List.mem_singleton] at hy
        subst hy
        exact fun zz => hn (zz ▸ hx)
      · by_cases hlt : n < ι1.length
        · rw [List.getElem?_append_left hlt] at h4
          rw [List.getElem?_append_left (by rw [← r1.len]; exact hlt)] at h3
          exact keepO n o x h3 h4
        · have h5 : n < (ι1 ++ [p]).length := (List.getElem?_eq_some_iff.mp h4).1
          have e2 : n = ι1.length := by
            rw [List.length_append] at h5
            simp at h5
            omega
          subst e2
          rw [List.getElem?_append_right (Nat.le_refl _), Nat.sub_self] at h4
          rw [r1.len, List.getElem?_append_right (Nat.le_refl _), Nat.sub_self] at h3
          cases h3
          cases h4
          exact ⟨vs, e1, rvs_pre m3.pre _ _ r, z⟩
    refine g (ι1 ++ [p]) H1 m2 r2 (.ref p) (.loc ?_)
    rw [← r1.len, List.getElem?_append_right (Nat.le_refl _), Nat.sub_self]
    rfl
theorem de_l (h : DL X W k E e dl) : DE X W k E e (fun ρ => bnd (dl ρ) layL) := ⟨fun o => pe_imp (h.run o) fun _ _ _ t => lay_of t⟩

/-! ### truth -/
def truM (q : PV) : Mo Bool := fun st => match q with
  | .non => .ok false st
  | .bl b => .ok b st
  | .int i => .ok (i != 0) st
  | .str s => if s.length ≤ 16777216 then .ok ((s.length : Int) != 0) st else .stuck
  | .tup l => .ok (!l.isEmpty) st
  | .loc n => match st[n]? with
    | some (.lst _ l) => .ok (!l.isEmpty) st
    | some (.dct false l) => .ok (!l.isEmpty) st
    | _ => .stuck
  | .fn _ => .stuck
  | .kl _ => .stuck
  | .clo _ => .stuck
  | .pst _ => .stuck
theorem isEmpty_rvs {ι : List Addr} {H : Hp} {vs : List V} {ps : List PV} (r : RVs W ι H vs ps) : vs.isEmpty = ps.isEmpty := by cases r <;> rfl
theorem isEmpty_rks {ι : List Addr} {H : Hp} {vs : List (Key × V)} {ps : List (PV × PV)} (r : RKs W ι H vs ps) : vs.isEmpty = ps.isEmpty := by cases r <;> rfl
theorem tru_of {ι : List Addr} {st : Sto} {H : Hp} {v : V} {q : PV} {kk : Bool → Sto → List Addr → Hp → Prop} (rs : RS W ι st H) (r : RV W ι H v q) (g : Good W E ι H (truM q st) kk) : ∃ b, TruV W.K v H b ∧ kk b st ι H := by
  cases r with
  | non => exact ⟨false, rfl, g.ok rs⟩
  | bl b => exact ⟨b, rfl, g.ok rs⟩
  | int i => exact ⟨_, rfl, g.ok rs⟩
  | str s =>
    obtain ⟨hc, g1⟩ := good_if g
    exact ⟨_, ⟨line_le hc, rfl⟩, g1.ok rs⟩
  | tup sq rr z => exact ⟨_, .inr (.inl ⟨_, sq, rfl⟩), by rw [isEmpty_rvs rr]; exact g.ok rs⟩
  | fn => exact g.elim
  | kl => exact g.elim
  | clo => exact g.elim
  | pst => exact g.elim
  | loc hn =>
    rename_i n a
    unfold truM at g
    dsimp only at g
    cases q : st[n]? with
    | none => rw [q] at g; exact g.elim
    | some o =>
      rw [q] at g
      have ro := rs.ob n o a q hn
      cases o with
      | lst lk m =>
        obtain ⟨vs, h1, h2, h3⟩ := ro_sql ro
        exact ⟨_, .inl ⟨vs, h1, rfl⟩, by rw [isEmpty_rvs h2]; exact g.ok rs⟩
      | dct lk m =>
        cases lk with
        | true => exact g.elim
        | false =>
          obtain ⟨ks, h1, h2⟩ := ro
          exact ⟨_, .inr (.inr ⟨ks, h1, rfl⟩), by rw [isEmpty_rks h2]; exact g.ok rs⟩
      | sti m => exact g.elim
theorem dt_e (h : DE X W k E e d) (he : ∀ whole, isTrue e X.env whole = (do let v ← whole; standAt e.pos; holding [v] (truthy v)) := by intro _; rfl) : DT X W k E e (fun ρ => bnd (d ρ) truM) := ⟨fun o => pt_imp (pt_truth (h.run o) he) fun σ H Q t => by
  obtain ⟨ι, ρ, st, re, rs, g⟩ := t
  refine ⟨ι, ρ, st, re, rs, Good.imp (Good.bind g) fun q st1 ι1 H1 m1 r1 g1 v hv => ?_⟩
  rw [o.hK]
  exact tru_of r1 hv g1⟩
def blM (q : PV) : Mo Bool := fun st => match q with
  | .bl b => .ok b st
  | _ => .stuck
theorem bl_of {ι : List Addr} {st : Sto} {H : Hp} {v : V} {q : PV} {kk : Bool → Sto → List Addr → Hp → Prop} (rs : RS W ι st H) (r : RV W ι H v q) (g : Good W E ι H (blM q st) kk) : ∃ b, v = .bl b ∧ q = .bl b ∧ kk b st ι H := by
  cases r with
  | bl b => exact ⟨b, rfl, rfl, g.ok rs⟩
  | _ => exact g.elim
theorem dt_cmp {op : CmpOp} {r : R2} {f : PV → PV → Mo PV} (ho : On X W k E → OpR X (compareOp op) r) (hf : FOk W E r f) (ha : DE X W k E a da) (hb : DE X W k E b db) (hm : behindInMarks op b = false) : DT X W k E (.Compare a [op] [b] pos) (fun ρ => bnd (dBin f da db ρ) blM) :=
  ⟨fun o => pt_imp (pt_cmpR (ho o) (ha.run o) (hb.run o) hm) fun σ H Q t => by
    obtain ⟨ι, ρ, st, re, rs, g⟩ := t
    refine op_of hf ⟨ι, ρ, st, re, rs, Good.imp (Good.bind g) fun q st1 ι1 H1 m1 r1 g1 v hv => ?_⟩
    obtain ⟨b, rfl, _, q1⟩ := bl_of r1 hv g1
    exact ⟨b, rfl, q1⟩⟩
abbrev dB (de : Env → Mo PV) : Env → Mo Bool := fun ρ => bnd (de ρ) blM
theorem dt_lt (ha : DE X W k E a da) (hb : DE X W k E b db) : DT X W k E (.Compare a [.Lt] [b] pos) (dB (dBin oLt da db)) := dt_cmp (fun _ => op_lt) (fok_I fun _ _ _ _ => .bl _) ha hb (nomark _)
theorem dt_le (ha : DE X W k E a da) (hb : DE X W k E b db) : DT X W k E (.Compare a [.LtE] [b] pos) (dB (dBin oLe da db)) := dt_cmp (fun _ => op_le) (fok_I fun _ _ _ _ => .bl _) ha hb (nomark _)
theorem dt_gt (ha : DE X W k E a da) (hb : DE X W k E b db) : DT X W k E (.Compare a [.Gt] [b] pos) (dB (dBin oGt da db)) := dt_cmp (fun _ => op_gt) (fok_I fun _ _ _ _ => .bl _) ha hb (nomark _)
theorem dt_ge (ha : DE X W k E a da) (hb : DE X W k E b db) : DT X W k E (.Compare a [.GtE] [b] pos) (dB (dBin oGe da db)) := dt_cmp (fun _ => op_ge) (fok_I fun _ _ _ _ => .bl _) ha hb (nomark _)
theorem dt_eq (ha : DE X W k E a da) (hb : DE X W k E b db) : DT X W k E (.Compare a [.Eq] [b] pos) (dB (dBin (oEq false) da db)) :=
  dt_cmp (fun o => by rw [← o.hK]; exact op_eqP (by have := o.room.un; omega)) fok_eq ha hb (nomark _)
theorem dt_ne (ha : DE X W k E a da) (hb : DE X W k E b db) : DT X W k E (.Compare a [.NotEq] [b] pos) (dB (dBin (oEq true) da db)) :=
  dt_cmp (fun o => by rw [← o.hK]; exact op_neP (by have := o.room.un; omega)) fok_eq ha hb (nomark _)
theorem dt_isN {j : Nat} (ha : DE X W k E a da) : DT X W k E (.Compare a [.Is] [.Constant .none j p2] pos) (dB (dBin (fun p q => match q with | .non => oIsN false p q | _ => fail) da (dC .non))) :=
  dt_cmp (r := fun x y H Q => y = .non ∧ Q (.bl (if false = true then !decide (x = .non) else decide (x = .non))) H) (fun _ => by simpa using op_isN) (fok_isN (a := fun _ => true)) ha de_non (nomark _)
theorem dt_notN {j : Nat} (ha : DE X W k E a da) : DT X W k E (.Compare a [.IsNot] [.Constant .none j p2] pos) (dB (dBin (fun p q => match q with | .non => oIsN true p q | _ => fail) da (dC .non))) :=
  dt_cmp (r := fun x y H Q => y = .non ∧ Q (.bl (if true = true then !decide (x = .non) else decide (x = .non))) H) (fun _ => by simpa using op_notN) (fok_isN (a := fun _ => true)) ha de_non (nomark _)
theorem dt_isB (ha : DE X W k E a da) (hb : DE X W k E b db) : DT X W k E (.Compare a [.Is] [b] pos) (dB (dBin (oIsB false) da db)) :=
  dt_cmp (r := fun x y H Q => ∃ a b : Bool, x = .bl a ∧ y = .bl b ∧ Q (.bl (if false = true then !decide (a = b) else decide (a = b))) H) (fun _ => op_isBl) fok_isB ha hb (nomark _)
theorem dt_notB (ha : DE X W k E a da) (hb : DE X W k E b db) : DT X W k E (.Compare a [.IsNot] [b] pos) (dB (dBin (oIsB true) da db)) :=
  dt_cmp (r := fun x y H Q => ∃ a b : Bool, x = .bl a ∧ y = .bl b ∧ Q (.bl (if true = true then !decide (a = b) else decide (a = b))) H) (fun _ => op_notBl) fok_isB ha hb (nomark _)
/-! and, or, not -/
def dAndT (dt du : Env → Mo Bool) : Env → Mo Bool := fun ρ => bnd (dt ρ) fun b => if b = true then du ρ else fun st => .ok false st
def dOrT (dt du : Env → Mo Bool) : Env → Mo Bool := fun ρ => bnd (dt ρ) fun b => if b = true then fun st => .ok true st else du ρ
def dNotT (dt : Env → Mo Bool) : Env → Mo Bool := fun ρ => bnd (dt ρ) fun b => fun st => .ok (!b) st
theorem dt_w (h : DW X W k E e dt) : DT X W k E e dt := ⟨fun o => (h.run o).pt⟩
theorem dw_and1 (h : DT X W k E a dt) : DW X W k E (.BoolOp .And [a] pos) dt := ⟨fun o => pw_and1 (h.run o)⟩
theorem dw_or1 (h : DT X W k E a dt) : DW X W k E (.BoolOp .Or [a] pos) dt := ⟨fun o => pw_or1 (h.run o)⟩
theorem dw_and (h : DT X W k E a dt) (h2 : DW X W k E (.BoolOp .And (b :: rest) pos) du) : DW X W k E (.BoolOp .And (a :: b :: rest) pos) (dAndT dt du) := ⟨fun o => pw_imp (pw_and (h.run o) (h2.run o)) fun σ H Q t => by
  obtain ⟨ι, ρ, st, re, rs, g⟩ := t
  refine ⟨ι, ρ, st, re, rs, Good.imp (Good.bind g) fun b st1 ι1 H1 m1 r1 g1 => ?_⟩
  cases b with
  | true => exact ⟨ι1, ρ, st1, re.mono rs m1, r1, g1⟩
  | false => exact g1.ok r1⟩
theorem dw_or (h : DT X W k E a dt) (h2 : DW X W k E (.BoolOp .Or (b :: rest) pos) du) : DW X W k E (.BoolOp .Or (a :: b :: rest) pos) (dOrT dt du) := ⟨fun o => pw_imp (pw_or (h.run o) (h2.run o)) fun σ H Q t => by
  obtain ⟨ι, ρ, st, re, rs, g⟩ := t
  refine ⟨ι, ρ, st, re, rs, Good.imp (Good.bind g) fun b st1 ι1 H1 m1 r1 g1 => ?_⟩
  cases b with
  | false => exact ⟨ι1, ρ, st1, re.mono rs m1, r1, g1⟩
  | true => exact g1.ok r1⟩
theorem dt_not (h : DT X W k E a dt) : DT X W k E (.UnaryOp .Not a pos) (dNotT dt) := ⟨fun o => pt_imp (pt_not (h.run o)) fun σ H Q t => by
  obtain ⟨ι, ρ, st, re, rs, g⟩ := t
  exact ⟨ι, ρ, st, re, rs, Good.imp (Good.bind g) fun b st1 ι1 H1 m1 r1 g1 => g1.ok r1⟩⟩
def dAndV (da db : Env → Mo PV) : Env → Mo PV := fun ρ => bnd (da ρ) fun q => bnd (blM q) fun b => if b = true then db ρ else fun st => .ok (.bl false) st
def dOrV (da db : Env → Mo PV) : Env → Mo PV := fun ρ => bnd (da ρ) fun q => bnd (blM q) fun b => if b = true then fun st => .ok (.bl true) st else db ρ
def dNotV (da : Env → Mo PV) : Env → Mo PV := fun ρ => bnd (da ρ) fun q => bnd (blM q) fun b => fun st => .ok (.bl (!b)) st
theorem de_one {op : BoolOp} (h : DE X W k E a d) : DE X W k E (.BoolOp op [a] pos) d := ⟨fun o => pe_one (h.run o)⟩
theorem de_and (h : DE X W k E a da) (h2 : DE X W k E (.BoolOp .And (b :: rest) pos) db) : DE X W k E (.BoolOp .And (a :: b :: rest) pos) (dAndV da db) := ⟨fun o => pe_imp (pe_and (h.run o) (h2.run o)) fun σ H Q t => by
  obtain ⟨ι, ρ, st, re, rs, g⟩ := t
  refine ⟨ι, ρ, st, re, rs, Good.imp (Good.bind g) fun q st1 ι1 H1 m1 r1 g1 v hv => ?_⟩
  obtain ⟨b, rfl, rfl, g2⟩ := bl_of r1 hv (Good.bind g1)
  refine ⟨b, rfl, ?_⟩
  cases b with
  | true => exact ⟨ι1, ρ, st1, re.mono rs m1, r1, g2⟩
  | false => exact g2.ok r1 _ (.bl false)⟩
theorem de_or (h : DE X W k E a da) (h2 : DE X W k E (.BoolOp .Or (b :: rest) pos) db) : DE X W k E (.BoolOp .Or (a :: b :: rest) pos) (dOrV da db) := ⟨fun o => pe_imp (pe_or (h.run o) (h2.run o)) fun σ H Q t => by
  obtain ⟨ι, ρ, st, re, rs, g⟩ := t
  refine ⟨ι, ρ, st, re, rs, Good.imp (Good.bind g) fun q st1 ι1 H1 m1 r1 g1 v hv => ?_⟩
  obtain ⟨b, rfl, rfl, g2⟩ := bl_of r1 hv (Good.bind g1)
  refine ⟨b, rfl, ?_⟩
  cases b with
  | false => exact ⟨ι1, ρ, st1, re.mono rs m1, r1, g2⟩
  | true => exact g2.ok r1 _ (.bl true)⟩
theorem de_not (h : DE X W k E a da) : DE X W k E (.UnaryOp .Not a pos) (dNotV da) := ⟨fun o => pe_imp (pe_not (h.run o)) fun σ H Q t => by
  obtain ⟨ι, ρ, st, re, rs, g⟩ := t
  refine ⟨ι, ρ, st, re, rs, Good.imp (Good.bind g) fun q st1 ι1 H1 m1 r1 g1 v hv => ?_⟩
  obtain ⟨b, rfl, rfl, g2⟩ := bl_of r1 hv (Good.bind g1)
  exact ⟨b, rfl, g2.ok r1 _ (.bl _)⟩⟩
def dIf (dt : Env → Mo Bool) (da db : Env → Mo PV) : Env → Mo PV := fun ρ => bnd (dt ρ) fun b => if b = true then da ρ else db ρ
theorem de_if (h : DT X W k E c dt) (ha : DE X W k E a da) (hb : DE X W k E b db) : DE X W k E (.IfExp c a b pos) (dIf dt da db) := ⟨fun o => pe_imp (pe_ifExp (h.run o) (ha.run o) (hb.run o)) fun σ H Q t => by
  obtain ⟨ι, ρ, st, re, rs, g⟩ := t
  refine ⟨ι, ρ, st, re, rs, Good.imp (Good.bind g) fun b st1 ι1 H1 m1 r1 g1 => ?_⟩
  cases b with
  | true => exact ⟨ι1, ρ, st1, re.mono rs m1, r1, g1⟩
  | false => exact ⟨ι1, ρ, st1, re.mono rs m1, r1, g1⟩⟩
/-- a op b op' c -/
def dChain (f f' : PV → PV → Mo PV) (da db dc : Env → Mo PV) : Env → Mo PV := fun ρ => bnd (da ρ) fun p => bnd (db ρ) fun q => bnd (f p q) fun z => bnd (blM z) fun b => if b = true then bnd (dc ρ) fun w => f' q w else fun st => .ok (.bl false) st
theorem de_chain {op op' : CmpOp} {r r' : R2} {f f' : PV → PV → Mo PV} (ho : On X W k E → OpR X (compareOp op) r) (hf : FOk W E r f) (ho' : On X W k E → OpR X (compareOp op') r') (hf' : FOk W E r' f') (ha : DE X W k E a da) (hb : DE X W k E b db) (hc : DE X W k E c dc)
    (hm : lastMarks [op, op'] [b, c] = false := by with_unfolding_all rfl) : DE X W k E (.Compare a [op, op'] [b, c] pos) (dChain f f' da db dc) := ⟨fun o => pe_imp (pe_chain (ho o) (ho' o) (ha.run o) (hb.run o) (hc.run o) hm) fun σ H Q t => by
  obtain ⟨ι, ρ, st, re, rs, g⟩ := t
  refine ⟨ι, ρ, st, re, rs, Good.imp (Good.bind g) fun p st1 ι1 H1 m1 r1 g1 v1 hv1 => ?_⟩
  refine ⟨ι1, ρ, st1, re.mono rs m1, r1, Good.imp (Good.bind g1) fun q st2 ι2 H2 m2 r2 g2 v2 hv2 => ?_⟩
  refine hf ι2 st2 H2 v1 v2 p q _ r2 (rv_mono r1 m2 p v1 hv1) hv2 (Good.imp (Good.bind g2) fun z st3 ι3 H3 m3 r3 g3 v3 hv3 => ?_)
  obtain ⟨b, rfl, rfl, g4⟩ := bl_of r3 hv3 (Good.bind g3)
  refine ⟨b, rfl, ?_⟩
  cases b with
  | false => exact g4.ok r3 _ (.bl false)
  | true =>
    refine ⟨ι3, ρ, st3, ((re.mono rs m1).mono r1 m2).mono r2 m3, r3, Good.imp (Good.bind g4) fun w st4 ι4 H4 m4 r4 g5 v4 hv4 => ?_⟩
    exact hf' ι4 st4 H4 v2 v4 q w Q r4 (rv_mono r3 m4 q v2 (rv_mono r2 m3 q v2 hv2)) hv4 g5⟩
theorem de_leLe (ha : DE X W k E a da) (hb : DE X W k E b db) (hc : DE X W k E c dc) (hm : lastMarks [.LtE, .LtE] [b, c] = false := by with_unfolding_all rfl) : DE X W k E (.Compare a [.LtE, .LtE] [b, c] pos) (dChain oLe oLe da db dc) :=
  de_chain (fun _ => op_le) (fok_I fun _ _ _ _ => .bl _) (fun _ => op_le) (fok_I fun _ _ _ _ => .bl _) ha hb hc hm
theorem de_leLt (ha : DE X W k E a da) (hb : DE X W k E b db) (hc : DE X W k E c dc) (hm : lastMarks [.LtE, .Lt] [b, c] = false := by with_unfolding_all rfl) : DE X W k E (.Compare a [.LtE, .Lt] [b, c] pos) (dChain oLe oLt da db dc) :=
  de_chain (fun _ => op_le) (fok_I fun _ _ _ _ => .bl _) (fun _ => op_lt) (fok_I fun _ _ _ _ => .bl _) ha hb hc hm

/-! ### arguments -/
theorem da_nil : DA X W k E [] (fun _ st => .ok [] st) := ⟨fun o => pa_imp pa_nil fun σ H Q t => by
  obtain ⟨ι, ρ, st, re, rs, g⟩ := t
  exact g.ok rs [] .nil⟩
def dCons (da : Env → Mo PV) (dl : Env → Mo (List PV)) : Env → Mo (List PV) := fun ρ => bnd (da ρ) fun p => bnd (dl ρ) fun ps => fun st => .ok (p :: ps) st
theorem da_cons (h : DE X W k E e d) (hr : DA X W k E es dl) (hs : starEach (e :: es) X.env = (false, eval e X.env) :: starEach es X.env := by rfl) : DA X W k E (e :: es) (dCons d dl) := ⟨fun o => pa_imp (pa_cons (h.run o) (hr.run o) hs) fun σ H Q t => by
  obtain ⟨ι, ρ, st, re, rs, g⟩ := t
  refine ⟨ι, ρ, st, re, rs, Good.imp (Good.bind g) fun p st1 ι1 H1 m1 r1 g1 v1 hv1 => ?_⟩
  refine ⟨ι1, ρ, st1, re.mono rs m1, r1, Good.imp (Good.bind g1) fun ps st2 ι2 H2 m2 r2 g2 vs hvs => ?_⟩
  exact g2.ok r2 _ (.cons (rv_mono r1 m2 p v1 hv1) hvs)⟩
/-- (a, b, ..) -/
def tupM (l : List PV) : Mo PV := fun st => if l.length ≤ 16777216 then .ok (.tup l) st else .stuck
theorem de_tup {x1 : Nat} (h : DA X W k E es dl) : DE X W k E (.Tuple es x1 pos) (fun ρ => bnd (dl ρ) tupM) := ⟨fun o => pe_imp (pe_tup (h.run o)) fun σ H Q t => by
  obtain ⟨ι, ρ, st, re, rs, g⟩ := t
  refine ⟨ι, ρ, st, re, rs, Good.imp (Good.bind g) fun l st1 ι1 H1 m1 r1 g1 vs hvs => ?_⟩
  obtain ⟨hc, g2⟩ := good_if g1
  exact ⟨line_le (by rw [hvs.length]; exact hc), fun p hp => good_newtup g2 r1 hvs hc hp⟩⟩
def capM (l : List PV) : Mo (List PV) := fun st => if l.length ≤ 16777216 then .ok l st else .stuck
/-- a new list that the store does not tell: it stands at p, which was free -/
theorem good_newlst {ι : List Addr} {st : Sto} {H H0 : Hp} {Q : VK} {l : List PV} {vs : List V} {p : Addr} (g : Good W E ι H (.ok l st) (kL W H0 Q)) (rs : RS W ι st H) (r : RVs W ι H vs l) (hz : l.length ≤ 16777216) (hp : H p = none) (hp0 : H0 p = none) : Q (.ref p) (upd H p (.lst vs)) := by
  have m : Mono ι H ι (upd H p (.lst vs)) := Mono.new hp
  refine g ι _ m (rs.other hp) p vs hp0 (fun z => ?_) upd_same (rvs_mono rs m _ _ r) hz
  obtain ⟨n, o, _, _, ro⟩ := rs.at_ z
  obtain ⟨u, e, _⟩ := ro.there
  rw [hp] at e
  cases e
theorem none_back {ι ι1 : List Addr} {H H1 : Hp} {p : Addr} {st : Sto} (rs : RS W ι st H) (m : Mono ι H ι1 H1) (r1 : ∀ a ∈ ι1, H1 a ≠ none) (h : H1 p = none) : H p = none := by
  cases q : H p with
  | none => rfl
  | some o =>
    by_cases hp : p ∈ ι
    · obtain ⟨n, hn⟩ := List.getElem?_of_mem hp
      exact absurd h (r1 p (List.mem_of_getElem? (m.pre n p hn)))
    · obtain ⟨o', e, _⟩ := m.keep p o q hp
      rw [h] at e
      cases e
theorem RS.some_ {ι : List Addr} {st : Sto} {H : Hp} (rs : RS W ι st H) : ∀ a ∈ ι, H a ≠ none := fun a ha z => by
  obtain ⟨n, o, _, _, ro⟩ := rs.at_ ha
  obtain ⟨u, e, _⟩ := ro.there
  rw [z] at e
  cases e
theorem dl_lst (h : DA X W k E es dl) : DL X W k E (.List es pos) (fun ρ => bnd (dl ρ) capM) := ⟨fun o => pe_imp (pe_lst (h.run o)) fun σ H Q t => by
  obtain ⟨ι, ρ, st, re, rs, g⟩ := t
  refine ⟨ι, ρ, st, re, rs, Good.imp (Good.bind g) fun l st1 ι1 H1 m1 r1 g1 vs hvs => ?_⟩
  obtain ⟨hc, g2⟩ := good_if g1
  exact ⟨line_le (by rw [hvs.length]; exact hc), fun p hp => good_newlst g2 r1 hvs hc hp (none_back rs m1 r1.some_ hp)⟩⟩
end
end PD
/-! PD: len, items, slices, isinstance, calls of built-ins and of defs. -/
namespace PD
open PySem PySem.Spec PyProof.Rows L2
section
variable {X : Cx} {W : Wd} {k : Nat} {E : XK} {a b c e : Expr} {es rest : List Expr} {pos p p2 : Pos} {da db dc d : Env → Mo PV} {dt du : Env → Mo Bool} {dl dm : Env → Mo (List PV)}

/-! ### built-ins of one sequence -/
def tQ1 (tq : TE) : TA := tCons tq tNil
def COk1 (W : Wd) (E : XK) (r : List V → Hp → VK → Prop) (f : List PV → Mo PV) : Prop := ∀ (ι : List Addr) (st : Sto) (H : Hp) (v : V) (vs : List V) (l : List PV) (Q : VK), RS W ι st H → IsSq W.K H v vs → RVs W ι H vs l → l.length ≤ 16777216 → Good W E ι H (f l st) (kQ W Q) → r [v] H Q
theorem cb_of {r : List V → Hp → VK → Prop} {f : List PV → Mo PV} (hf : COk1 W E r f) {σ : L2.St} {H : Hp} {Q : VK} (t : tD W E (fun ρ => bnd (dl ρ) f) σ H Q) : tCB r (tCons (tDQ W E dl) tNil) σ H Q := by
  obtain ⟨ι, ρ, st, re, rs, g⟩ := t
  exact ⟨ι, ρ, st, re, rs, Good.imp (Good.bind g) fun l st1 ι1 H1 m1 r1 g1 v vs hv r z => hf ι1 st1 H1 v vs l Q r1 hv r z g1⟩
theorem de_b1 {id : String} {x : Str} {r : List V → Hp → VK → Prop} {f : List PV → Mo PV} (hc : On X W k E → CallR X (.builtin id) r) (hf : COk1 W E r f) (hv : bootBuiltins x = some (.builtin id)) (hn : x ≠ "__name__") (hdb : (x == ("__debug__" : Str)) = false)
    (hg : Gl X x) (hm : W.mg x = none) (hq : DQ X W k E e dl) (hs : starEach [e] X.env = (false, eval e X.env) :: starEach [] X.env := by rfl) : DE X W k E (.Call (.Name x p) [e] [] pos) (fun ρ => bnd (dl ρ) f) :=
  ⟨fun o => pe_imp (pe_callB (hc o) hg (by rw [o.hM]; exact hm) hv (pa_cons (hq.run o) pa_nil hs) hn hdb hs (by rfl)) fun _ _ _ t => cb_of hf t⟩
theorem de_t1 {T : String} {x : Str} {r : List V → Hp → VK → Prop} {f : List PV → Mo PV} (hc : On X W k E → CallR X (.type T) r) (hf : COk1 W E r f) (hv : bootBuiltins x = some (.type T)) (hn : x ≠ "__name__") (hdb : (x == ("__debug__" : Str)) = false)
    (hg : Gl X x) (hm : W.mg x = none) (hq : DQ X W k E e dl) (hs : starEach [e] X.env = (false, eval e X.env) :: starEach [] X.env := by rfl) : DE X W k E (.Call (.Name x p) [e] [] pos) (fun ρ => bnd (dl ρ) f) :=
  ⟨fun o => pe_imp (pe_callTy (hc o) hg (by rw [o.hM]; exact hm) hv (pa_cons (hq.run o) pa_nil hs) hn hdb hs (by rfl)) fun _ _ _ t => cb_of hf t⟩
/-- .. whose answer is a new list -/
def COkL (W : Wd) (E : XK) (r : List V → Hp → VK → Prop) (f : List PV → Mo (List PV)) : Prop := ∀ (ι : List Addr) (st : Sto) (H H0 : Hp) (v : V) (vs : List V) (l : List PV) (Q : VK), RS W ι st H → (∀ q, H q = none → H0 q = none) → IsSq W.K H v vs → RVs W ι H vs l → l.length ≤ 16777216 → Good W E ι H (f l st) (kL W H0 Q) → r [v] H Q
theorem cbL_of {r : List V → Hp → VK → Prop} {f : List PV → Mo (List PV)} (hf : COkL W E r f) {σ : L2.St} {H : Hp} {Q : VK} (t : tDL W E (fun ρ => bnd (dl ρ) f) σ H Q) : tCB r (tCons (tDQ W E dl) tNil) σ H Q := by
  obtain ⟨ι, ρ, st, re, rs, g⟩ := t
  exact ⟨ι, ρ, st, re, rs, Good.imp (Good.bind g) fun l st1 ι1 H1 m1 r1 g1 v vs hv r z => hf ι1 st1 H1 H v vs l Q r1 (fun q hq => none_back rs m1 r1.some_ hq) hv r z g1⟩
theorem dl_b1 {id : String} {x : Str} {r : List V → Hp → VK → Prop} {f : List PV → Mo (List PV)} (hc : On X W k E → CallR X (.builtin id) r) (hf : COkL W E r f) (hv : bootBuiltins x = some (.builtin id)) (hn : x ≠ "__name__") (hdb : (x == ("__debug__" : Str)) = false)
    (hg : Gl X x) (hm : W.mg x = none) (hq : DQ X W k E e dl) (hs : starEach [e] X.env = (false, eval e X.env) :: starEach [] X.env := by rfl) : DL X W k E (.Call (.Name x p) [e] [] pos) (fun ρ => bnd (dl ρ) f) :=
  ⟨fun o => pe_imp (pe_callB (hc o) hg (by rw [o.hM]; exact hm) hv (pa_cons (hq.run o) pa_nil hs) hn hdb hs (by rfl)) fun _ _ _ t => cbL_of hf t⟩
theorem dl_t1 {T : String} {x : Str} {r : List V → Hp → VK → Prop} {f : List PV → Mo (List PV)} (hc : On X W k E → CallR X (.type T) r) (hf : COkL W E r f) (hv : bootBuiltins x = some (.type T)) (hn : x ≠ "__name__") (hdb : (x == ("__debug__" : Str)) = false)
    (hg : Gl X x) (hm : W.mg x = none) (hq : DQ X W k E e dl) (hs : starEach [e] X.env = (false, eval e X.env) :: starEach [] X.env := by rfl) : DL X W k E (.Call (.Name x p) [e] [] pos) (fun ρ => bnd (dl ρ) f) :=
  ⟨fun o => pe_imp (pe_callTy (hc o) hg (by rw [o.hM]; exact hm) hv (pa_cons (hq.run o) pa_nil hs) hn hdb hs (by rfl)) fun _ _ _ t => cbL_of hf t⟩

/-! len -/
def rLenQ (K : PySem.W.Frag) : List V → Hp → VK → Prop := fun xs H Q => ∃ p ys, xs = [.ref p] ∧ (SqL K H p ys ∨ SqT K H p ys) ∧ Q (.int ys.length) H
def rListQ (K : PySem.W.Frag) : List V → Hp → VK → Prop := fun xs H Q => ∃ p ys, xs = [.ref p] ∧ (SqL K H p ys ∨ SqT K H p ys) ∧ ∀ l, H l = none → Q (.ref l) (upd H l (.lst ys))
def rTupQ (K : PySem.W.Frag) : List V → Hp → VK → Prop := fun xs H Q => ∃ p ys, xs = [.ref p] ∧ ((SqL K H p ys ∧ ∀ l, H l = none → Q (.ref l) (upd H l (.tup ys))) ∨ (SqT K H p ys ∧ Q (.ref p) H))
def lenQ (l : List PV) : Mo PV := fun st => .ok (.int l.length) st
theorem de_lenQ (hq : DQ X W k E e dl) (hg : Gl X "len") (hm : W.mg "len" = none) (hs : starEach [e] X.env = (false, eval e X.env) :: starEach [] X.env := by rfl) : DE X W k E (.Call (.Name "len" p) [e] [] pos) (fun ρ => bnd (dl ρ) lenQ) :=
  de_b1 (r := rLenQ W.K) (fun o => by rw [← o.hK]; exact call_len_seq) (fun ι st H v vs l Q rs hv r z g => by
    obtain ⟨q, rfl, hq⟩ := hv
    refine ⟨q, vs, rfl, hq, ?_⟩
    rw [r.length]
    exact g.ok rs _ (.int _)) PySem.boot_len (by decide) (by decide) hg hm hq hs
/-- of a text, too -/
def lenM (q : PV) : Mo PV := fun st => match q with
  | .str s => if s.length ≤ 16777216 then .ok (.int s.length) st else .stuck
  | q => match seqOf st q with
    | some l => .ok (.int l.length) st
    | none => .stuck
theorem de_lenV (h : DE X W k E e d) (hg : Gl X "len") (hm : W.mg "len" = none) (hs : starEach [e] X.env = (false, eval e X.env) :: starEach [] X.env := by rfl) : DE X W k E (.Call (.Name "len" p) [e] [] pos) (fun ρ => bnd (d ρ) lenM) :=
  ⟨fun o => pe_imp (pe_callB (call_len (X := X)) hg (by rw [o.hM]; exact hm) PySem.boot_len (pa_cons (h.run o) pa_nil hs) (by decide) (by decide) hs (by rfl)) fun σ H Q t => by
    obtain ⟨ι, ρ, st, re, rs, g⟩ := t
    refine ⟨ι, ρ, st, re, rs, Good.imp (Good.bind g) fun q st1 ι1 H1 m1 r1 g1 v hv => ?_⟩
    have gen : ∀ l, seqOf st1 q = some l → Good W E ι1 H1 (.ok (.int l.length) st1) (kQ W Q) → ∃ x n, [v] = [x] ∧ LenV X.K x H1 n ∧ Q (.int n) H1 := fun l hl g2 => by
      obtain ⟨vs, ⟨w, rfl, hw⟩, h2, _⟩ := seq_sq r1 hv hl
      refine ⟨_, l.length, rfl, ?_, g2.ok r1 _ (.int _)⟩
      rw [o.hK]
      rcases hw with hw | hw
      · exact .inl ⟨vs, hw, h2.length.symm⟩
      · exact .inr ⟨vs, hw, h2.length.symm⟩
    cases hv with
    | str s =>
      obtain ⟨hc, g2⟩ := good_if g1
      exact ⟨_, _, rfl, ⟨line_le hc, rfl⟩, g2.ok r1 _ (.int _)⟩
    | tup sq rr z => exact gen _ rfl g1
    | loc hn =>
      rename_i n a
      have g2 : Good W E ι1 H1 (match seqOf st1 (.loc n) with | some l => .ok (.int l.length) st1 | none => .stuck) (kQ W Q) := g1
      cases hl : seqOf st1 (.loc n) with
      | none => rw [hl] at g2; exact g2.elim
      | some l => rw [hl] at g2; exact gen l hl g2
    | non => exact g1.elim
    | bl => exact g1.elim
    | int => exact g1.elim
    | fn => exact g1.elim
    | clo => exact g1.elim
    | pst => exact g1.elim
    | kl hk z => exact gen _ rfl g1⟩

/-! ### items -/
theorem atI_rv {ι : List Addr} {H : Hp} {vs : List V} {l : List PV} {i : Int} {q : PV} (r : RVs W ι H vs l) (h : atI l i = some q) : ∃ v, atI vs i = some v ∧ RV W ι H v q := by
  unfold atI at h ⊢
  rw [r.length]
  cases hj : ixN l.length i with
  | none => rw [hj] at h; cases h
  | some j =>
    rw [hj] at h
    exact r.get h
def oIx (q i : PV) : Mo PV := fun st => match i with
  | .int i => match seqOf st q with
    | some l => match atI l i with
      | some z => .ok z st
      | none => .stuck
    | none => .stuck
  | _ => .stuck
theorem fok_ix : FOk W E (rIx W.K) oIx := by
  intro ι st H x y q i Q rs hx hy g
  cases hy <;> first
    | exact g.elim
    | (rename_i i
       have g2 : Good W E ι H (match seqOf st q with | some l => (match atI l i with | some z => .ok z st | none => .stuck) | none => .stuck) (kQ W Q) := g
       cases hl : seqOf st q with
       | none => rw [hl] at g2; exact g2.elim
       | some l =>
         rw [hl] at g2
         dsimp only at g2
         cases hz : atI l i with
         | none => rw [hz] at g2; exact g2.elim
         | some z =>
           rw [hz] at g2
           obtain ⟨vs, ⟨w, rfl, hw⟩, h2, _⟩ := seq_sq rs hx hl
           obtain ⟨v, hv, rv⟩ := atI_rv h2 hz
           rcases hw with hw | hw
           · exact .inl ⟨w, vs, i, v, rfl, rfl, hw, hv, g2.ok rs v rv⟩
           · exact .inr (.inl ⟨w, vs, i, v, rfl, rfl, hw, hv, g2.ok rs v rv⟩))
theorem de_ix (ha : DE X W k E a da) (hb : DE X W k E b db) (hs : PlainIx b := by intro _ _; rfl) : DE X W k E (.Subscript a b pos) (dBin oIx da db) :=
  ⟨fun o => pe_imp (pe_ix (by rw [← o.hK]; exact ix_seq) (ha.run o) (hb.run o) hs) fun _ _ _ h => op_of fok_ix h⟩
/-- .. of a list that is made on the way -/
def ixQ (l : List PV) (i : PV) : Mo PV := fun st => match i with
  | .int i => match atI l i with
    | some z => .ok z st
    | none => .stuck
  | _ => .stuck
theorem lst_mono {ι ι' : List Addr} {H H' : Hp} {q : Addr} {vs : List V} (m : Mono ι H ι' H') (hn : q ∉ ι) (e : H q = some (.lst vs)) : H' q = some (.lst vs) := by
  obtain ⟨o', e', kp⟩ := m.keep q _ e hn
  rcases kp with rfl | ⟨_, _, z, _⟩
  · exact e'
  · cases z
theorem de_ixL (ha : DL X W k E a dl) (hb : DE X W k E b db) (hs : PlainIx b := by intro _ _; rfl) : DE X W k E (.Subscript a b pos) (fun ρ => bnd (dl ρ) fun l => bnd (db ρ) fun i => ixQ l i) :=
  ⟨fun o => pe_imp (pe_ix (r := rIxL W.K) (by rw [← o.hK]; exact ix_list) (ha.run o) (hb.run o) hs) fun σ H Q t => by
    obtain ⟨ι, ρ, st, re, rs, g⟩ := t
    refine ⟨ι, ρ, st, re, rs, Good.imp (Good.bind g) fun l st1 ι1 H1 m1 r1 g1 q vs hq0 hn e1 r z => ?_⟩
    refine ⟨ι1, ρ, st1, re.mono rs m1, r1, Good.imp (Good.bind g1) fun i st2 ι2 H2 m2 r2 g2 w hw => ?_⟩
    cases hw <;> first
      | exact g2.elim
      | (rename_i i
         have g3 : Good W E ι2 H2 (match atI l i with | some z => .ok z st2 | none => .stuck) (kQ W Q) := g2
         cases hz : atI l i with
         | none => rw [hz] at g3; exact g3.elim
         | some y =>
           rw [hz] at g3
           obtain ⟨v, hv, rv⟩ := atI_rv (rvs_mono r1 m2 _ _ r) hz
           exact ⟨q, vs, i, v, rfl, rfl, SqL.of (lst_mono m2 hn e1), hv, g3.ok r2 v rv⟩)⟩

/-! ### slices -/
def tDO (W : Wd) (E : XK) (d : Env → Mo (Option Int)) : TO := fun σ H Q => ∃ ι ρ st, RE W ι H ρ σ ∧ RS W ι st H ∧ Good W E ι H (d ρ st) (fun o _ _ H' => Q o H')
structure DO (X : Cx) (W : Wd) (k : Nat) (E : XK) (e : Option Expr) (d : Env → Mo (Option Int)) : Prop where
  run : On X W k E → PO X e (tDO W E d)
theorem po_imp {eo : Option Expr} {t t' : TO} (h : PO X eo t) (hi : ∀ σ H Q, t' σ H Q → t σ H Q) : PO X eo t' := ⟨fun pins s σ H Q I w => h.run pins s σ H Q I (hi σ H Q w)⟩
theorem do_none : DO X W k E none (fun _ st => .ok none st) := ⟨fun o => po_imp po_none fun σ H Q t => by
  obtain ⟨ι, ρ, st, re, rs, g⟩ := t
  exact g.ok rs⟩
def intM (q : PV) : Mo (Option Int) := fun st => match q with
  | .int i => .ok (some i) st
  | _ => .stuck
theorem do_some (h : DE X W k E e d) : DO X W k E (some e) (fun ρ => bnd (d ρ) intM) := ⟨fun o => po_imp (po_some (h.run o)) fun σ H Q t => by
  obtain ⟨ι, ρ, st, re, rs, g⟩ := t
  refine ⟨ι, ρ, st, re, rs, Good.imp (Good.bind g) fun q st1 ι1 H1 m1 r1 g1 v hv => ?_⟩
  cases hv <;> first
    | exact ⟨_, rfl, g1.ok r1⟩
    | exact g1.elim⟩
def cutP (l : List PV) (lo hi : Option Int) : List PV := (l.drop (HT.sIx l.length 0 lo)).take (HT.sIx l.length l.length hi - HT.sIx l.length 0 lo)
theorem cutP_len (l : List PV) (lo hi : Option Int) : (cutP l lo hi).length ≤ l.length := by
  unfold cutP
  rw [List.length_take, List.length_drop]
  omega
theorem cut_rv {ι : List Addr} {H : Hp} {vs : List V} {l : List PV} (lo hi : Option Int) (r : RVs W ι H vs l) : RVs W ι H (cutV vs lo hi) (cutP l lo hi) := by
  unfold cutV cutP
  rw [r.length]
  exact (r.drop _).take _
def dSl (d : Env → Mo PV) (d1 d2 : Env → Mo (Option Int)) (f : PV → Option Int → Option Int → Mo PV) : Env → Mo PV := fun ρ => bnd (d ρ) fun q => bnd (d1 ρ) fun lo => bnd (d2 ρ) fun hi => f q lo hi
def slT (q : PV) (lo hi : Option Int) : Mo PV := fun st => match q with
  | .tup l => .ok (.tup (cutP l lo hi)) st
  | _ => .stuck
theorem de_slT {lo hi : Option Expr} {d1 d2 : Env → Mo (Option Int)} (h : DE X W k E e d) (h1 : DO X W k E lo d1) (h2 : DO X W k E hi d2) : DE X W k E (.Subscript e (.Slice lo hi none p2) pos) (dSl d d1 d2 slT) :=
  ⟨fun o => pe_imp (pe_slice (r := rSlA W.K) (by rw [← o.hK]; exact sl_tupA) (h.run o) (h1.run o) (h2.run o)) fun σ H Q t => by
    obtain ⟨ι, ρ, st, re, rs, g⟩ := t
    refine ⟨ι, ρ, st, re, rs, Good.imp (Good.bind g) fun q st1 ι1 H1 m1 r1 g1 v hv => ?_⟩
    refine ⟨ι1, ρ, st1, re.mono rs m1, r1, Good.imp (Good.bind g1) fun lo st2 ι2 H2 m2 r2 g2 => ?_⟩
    refine ⟨ι2, ρ, st2, (re.mono rs m1).mono r1 m2, r2, Good.imp (Good.bind g2) fun hi st3 ι3 H3 m3 r3 g3 => ?_⟩
    have hv3 := rv_mono r2 m3 q v (rv_mono r1 m2 q v hv)
    cases hv3 <;> first
      | exact g3.elim
      | (rename_i a vs l sq rr z
         refine ⟨a, vs, rfl, sq, fun hw => ?_, fun _ w hw => ?_⟩
         · have e1 : cutP l lo hi = l := by
             unfold cutP
             rw [← rr.length, hw.1, hw.2]
             simp [rr.length]
           have g4 : Good W E ι3 H3 (.ok (.tup (cutP l lo hi)) st3) (kQ W Q) := g3
           rw [e1] at g4
           exact g4.ok r3 _ (.tup sq rr z)
         · exact good_newtup g3 r3 (cut_rv lo hi rr) (Nat.le_trans (cutP_len l lo hi) z) hw)⟩
/-- a slice of a list: a new one -/
def lstM (q : PV) : Mo (List PV) := fun st => match q with
  | .loc n => match st[n]? with
    | some (.lst _ l) => .ok l st
    | _ => .stuck
  | .kl ns => .ok (ns.map PV.int) st
  | _ => .stuck
theorem lst_of {α : Type} {ι : List Addr} {st : Sto} {H : Hp} {v : V} {q : PV} {kk : List PV → Sto → List Addr → Hp → Prop} (rs : RS W ι st H) (r : RV W ι H v q) (g : Good W E ι H (lstM q st) kk) : ∃ a vs l, v = .ref a ∧ SqL W.K H a vs ∧ RVs W ι H vs l ∧ l.length ≤ 16777216 ∧ kk l st ι H := by
  cases r with
  | loc hn =>
    rename_i n a
    unfold lstM at g
    dsimp only at g
    cases q : st[n]? with
    | none => rw [q] at g; exact g.elim
    | some o =>
      rw [q] at g
      cases o with
      | lst lk m =>
        obtain ⟨vs, h1, h2, h3⟩ := ro_sql (rs.ob n _ a q hn)
        exact ⟨a, vs, m, rfl, h1, h2, h3, g.ok rs⟩
      | dct _ _ => exact g.elim
      | sti _ => exact g.elim
  | kl hk z => exact ⟨_, _, _, rfl, .inr hk, RVs.ints _, by rw [List.length_map]; exact z, g.ok rs⟩
  | _ => exact g.elim
def dSlL (d : Env → Mo PV) (d1 d2 : Env → Mo (Option Int)) : Env → Mo (List PV) := fun ρ => bnd (d ρ) fun q => bnd (d1 ρ) fun lo => bnd (d2 ρ) fun hi => bnd (lstM q) fun l => fun st => .ok (cutP l lo hi) st
theorem dl_sl {lo hi : Option Expr} {d1 d2 : Env → Mo (Option Int)} (h : DE X W k E e d) (h1 : DO X W k E lo d1) (h2 : DO X W k E hi d2) : DL X W k E (.Subscript e (.Slice lo hi none p2) pos) (dSlL d d1 d2) :=
  ⟨fun o => pe_imp (pe_slice (r := rSlL W.K) (by rw [← o.hK]; exact sl_list) (h.run o) (h1.run o) (h2.run o)) fun σ H Q t => by
    obtain ⟨ι, ρ, st, re, rs, g⟩ := t
    refine ⟨ι, ρ, st, re, rs, Good.imp (Good.bind g) fun q st1 ι1 H1 m1 r1 g1 v hv => ?_⟩
    refine ⟨ι1, ρ, st1, re.mono rs m1, r1, Good.imp (Good.bind g1) fun lo st2 ι2 H2 m2 r2 g2 => ?_⟩
    refine ⟨ι2, ρ, st2, (re.mono rs m1).mono r1 m2, r2, Good.imp (Good.bind g2) fun hi st3 ι3 H3 m3 r3 g3 => ?_⟩
    have hv3 := rv_mono r2 m3 q v (rv_mono r1 m2 q v hv)
    obtain ⟨a, vs, l, rfl, sq, rr, z, g4⟩ := lst_of (α := Nat) r3 hv3 (Good.bind g3)
    exact ⟨a, vs, rfl, sq, fun w hw => good_newlst g4 r3 (cut_rv lo hi rr) (Nat.le_trans (cutP_len l lo hi) z) hw (none_back rs ((m1.trans m2).trans m3) r3.some_ hw)⟩⟩

/-! ### isinstance -/
inductive Kd where
  | non | bl | int | str | tup | lst | dct
  deriving DecidableEq
def Kd.ty : Kd → String
  | .non => "NoneType"
  | .bl => "bool"
  | .int => "int"
  | .str => "str"
  | .tup => "tuple"
  | .lst => "list"
  | .dct => "dict"
def kdM (q : PV) : Mo Kd := fun st => match q with
  | .non => .ok .non st
  | .bl _ => .ok .bl st
  | .int _ => .ok .int st
  | .str _ => .ok .str st
  | .tup _ => .ok .tup st
  | .loc n => match st[n]? with
    | some (.lst _ _) => .ok .lst st
    | some (.dct false _) => .ok .dct st
    | _ => .stuck
  | .fn _ => .stuck
  | .kl _ => .stuck
  | .clo _ => .stuck
  | .pst _ => .stuck
def isK : Kd → Kd → Bool
  | .bl, .int => true
  | a, b => decide (a = b)
theorem kd_of {ι : List Addr} {st : Sto} {H : Hp} {v : V} {q : PV} {kk : Kd → Sto → List Addr → Hp → Prop} (rs : RS W ι st H) (r : RV W ι H v q) (g : Good W E ι H (kdM q st) kk) : ∃ d, TyX W.K H v (.type (Kd.ty d)) ∧ kk d st ι H := by
  cases r with
  | non => exact ⟨.non, .base .non, g.ok rs⟩
  | bl b => exact ⟨.bl, .base (.bl b), g.ok rs⟩
  | int i => exact ⟨.int, .base (.int i), g.ok rs⟩
  | str s => exact ⟨.str, .base (.str s), g.ok rs⟩
  | fn => exact g.elim
  | kl => exact g.elim
  | clo => exact g.elim
  | pst => exact g.elim
  | tup sq rr z =>
    refine ⟨.tup, ?_, g.ok rs⟩
    rcases sq with (sq | ⟨o, sq⟩) | ⟨o, its, n, h1, h2, _⟩
    · exact .base (.tup sq)
    · exact .fTuple sq
    · exact .kTuple h1 h2
  | loc hn =>
    rename_i n a
    unfold kdM at g
    dsimp only at g
    cases q : st[n]? with
    | none => rw [q] at g; exact g.elim
    | some o =>
      rw [q] at g
      have ro := rs.ob n o a q hn
      cases o with
      | lst lk m =>
        refine ⟨.lst, ?_, g.ok rs⟩
        cases lk with
        | false => obtain ⟨vs, e, _⟩ := ro; exact .base (.lst e)
        | true => obtain ⟨o, vs, e, _⟩ := ro; exact .base (.frz e)
      | dct lk m =>
        cases lk with
        | true => exact g.elim
        | false => obtain ⟨vs, e, _⟩ := ro; exact ⟨.dct, .base (.dK e), g.ok rs⟩
      | sti _ => exact g.elim
def dIsi (t : Kd) (d : Env → Mo PV) : Env → Mo PV := fun ρ => bnd (d ρ) fun q => bnd (kdM q) fun kd => fun st => .ok (.bl (isK kd t)) st
theorem kit_kd : ∀ a b : Kd, kitB (Kd.ty a) (Kd.ty b) = some (isK a b) := by
  intro a b
  cases a <;> cases b <;> decide +kernel
theorem de_isi {T : Str} (t : Kd) (h : DE X W k E e d) (hg : Gl X "isinstance") (hm : W.mg "isinstance" = none) (hgT : Gl X T) (hmT : W.mg T = none) (hT : bootBuiltins T = some (.type (Kd.ty t)))
    (hn : T ≠ "__name__" := by decide) (hd : (T == ("__debug__" : Str)) = false := by decide)
    (hs : starEach [e, .Name T p2] X.env = (false, eval e X.env) :: starEach [.Name T p2] X.env := by rfl) : DE X W k E (.Call (.Name "isinstance" p) [e, .Name T p2] [] pos) (dIsi t d) :=
  ⟨fun o => pe_imp (pe_callB (r := rIsi W.K) (by rw [← o.hK]; exact call_isi) hg (by rw [o.hM]; exact hm) (by decide +kernel) (pa_cons (h.run o) (pa_cons (pe_bltn (v := .ty (Kd.ty t)) hgT (by rw [o.hM]; exact hmT) hT rfl hn hd) pa_nil (by rfl)) hs) (by decide) (by decide) hs (by rfl)) fun σ H Q t0 => by
    obtain ⟨ι, ρ, st, re, rs, g⟩ := t0
    refine ⟨ι, ρ, st, re, rs, Good.imp (Good.bind g) fun q st1 ι1 H1 m1 r1 g1 v hv => ?_⟩
    obtain ⟨kd, ty, g2⟩ := kd_of r1 hv (Good.bind g1)
    exact ⟨v, .ty (Kd.ty t), _, _, _, rfl, .ty _, ty, kit_ty (kit_kd kd t), g2.ok r1 _ (.bl _)⟩⟩
theorem boot_int_ : bootBuiltins "int" = some (.type "int") := by decide +kernel
theorem boot_bool_ : bootBuiltins "bool" = some (.type "bool") := by decide +kernel
theorem boot_str_ : bootBuiltins "str" = some (.type "str") := by decide +kernel
theorem boot_tuple_ : bootBuiltins "tuple" = some (.type "tuple") := by decide +kernel
theorem boot_list_ : bootBuiltins "list" = some (.type "list") := by decide +kernel

/-! ### tuple(..), list(..), int(..) -/
def tupQ (l : List PV) : Mo PV := fun st => .ok (.tup l) st
theorem de_tuple (hq : DQ X W k E e dl) (hg : Gl X "tuple") (hm : W.mg "tuple" = none) (hs : starEach [e] X.env = (false, eval e X.env) :: starEach [] X.env := by rfl) : DE X W k E (.Call (.Name "tuple" p) [e] [] pos) (fun ρ => bnd (dl ρ) tupQ) :=
  de_t1 (r := rTupQ W.K) (fun o => by rw [← o.hK]; exact call_tuple_of) (fun ι st H v vs l Q rs hv r z g => by
    obtain ⟨q, rfl, hq⟩ := hv
    rcases hq with hq | hq
    · exact ⟨q, vs, rfl, .inl ⟨hq, fun w hw => good_newtup g rs r z hw⟩⟩
    · exact ⟨q, vs, rfl, .inr ⟨hq, g.ok rs _ (.tup hq r z)⟩⟩) boot_tuple_ (by decide) (by decide) hg hm hq hs
theorem dl_list (hq : DQ X W k E e dl) (hg : Gl X "list") (hm : W.mg "list" = none) (hs : starEach [e] X.env = (false, eval e X.env) :: starEach [] X.env := by rfl) : DL X W k E (.Call (.Name "list" p) [e] [] pos) (fun ρ => bnd (dl ρ) fun l => fun st => .ok l st) :=
  dl_t1 (r := rListQ W.K) (fun o => by rw [← o.hK]; exact call_list_of) (fun ι st H H0 v vs l Q rs hb hv r z g => by
    obtain ⟨q, rfl, hq⟩ := hv
    exact ⟨q, vs, rfl, hq, fun w hw => good_newlst g rs r z hw (hb w hw)⟩) boot_list_ (by decide) (by decide) hg hm hq hs
def intV (q : PV) : Mo PV := fun st => match q with
  | .int i => .ok (.int i) st
  | .bl b => .ok (.int (if b = true then 1 else 0)) st
  | _ => .stuck
theorem de_intc (h : DE X W k E e d) (hg : Gl X "int") (hm : W.mg "int" = none) (hs : starEach [e] X.env = (false, eval e X.env) :: starEach [] X.env := by rfl) : DE X W k E (.Call (.Name "int" p) [e] [] pos) (fun ρ => bnd (d ρ) intV) :=
  ⟨fun o => pe_imp (pe_callTy (call_int1 (X := X)) hg (by rw [o.hM]; exact hm) boot_int_ (pa_cons (h.run o) pa_nil hs) (by decide) (by decide) hs (by rfl)) fun σ H Q t => by
    obtain ⟨ι, ρ, st, re, rs, g⟩ := t
    refine ⟨ι, ρ, st, re, rs, Good.imp (Good.bind g) fun q st1 ι1 H1 m1 r1 g1 v hv => ?_⟩
    cases hv <;> first
      | exact .inl ⟨_, rfl, g1.ok r1 _ (.int _)⟩
      | exact .inr ⟨_, rfl, g1.ok r1 _ (.int _)⟩
      | exact g1.elim⟩
def strV (q : PV) : Mo PV := fun st => match q with
  | .int i => if i.natAbs.log2 < 1920 then .ok (.str (toString i)) st else .stuck
  | _ => .stuck
theorem de_strc (h : DE X W k E e d) (hg : Gl X "str") (hm : W.mg "str" = none) (hs : starEach [e] X.env = (false, eval e X.env) :: starEach [] X.env := by rfl) : DE X W k E (.Call (.Name "str" p) [e] [] pos) (fun ρ => bnd (d ρ) strV) :=
  ⟨fun o => pe_imp (pe_callTy (call_str_int (X := X)) hg (by rw [o.hM]; exact hm) boot_str_ (pa_cons (h.run o) pa_nil hs) (by decide) (by decide) hs (by rfl)) fun σ H Q t => by
    obtain ⟨ι, ρ, st, re, rs, g⟩ := t
    refine ⟨ι, ρ, st, re, rs, Good.imp (Good.bind g) fun q st1 ι1 H1 m1 r1 g1 v hv => ?_⟩
    cases hv <;> first
      | (obtain ⟨hc, g2⟩ := good_if g1
         exact ⟨_, rfl, hc, g2.ok r1 _ (.str _)⟩)
      | exact g1.elim⟩
/-! max, min of two ints -/
def oMax : PV → PV → Mo PV
  | .int i, .int j => fun st => .ok (.int (if j > i then j else i)) st
  | _, _ => fail
def oMin : PV → PV → Mo PV
  | .int i, .int j => fun st => .ok (.int (if j < i then j else i)) st
  | _, _ => fail
theorem boot_max_ : bootBuiltins "max" = some (.builtin "max") := by decide +kernel
theorem boot_min_ : bootBuiltins "min" = some (.builtin "min") := by decide +kernel
theorem de_max2 (ha : DE X W k E a da) (hb : DE X W k E b db) (hg : Gl X "max") (hm : W.mg "max" = none) (hs : starEach [a, b] X.env = (false, eval a X.env) :: starEach [b] X.env := by rfl) (hs2 : starEach [b] X.env = (false, eval b X.env) :: starEach [] X.env := by rfl)
    (hpl : (backTo pos (starEach [b] X.env)).any (·.1) = false := by rfl) : DE X W k E (.Call (.Name "max" p) [a, b] [] pos) (dBin oMax da db) :=
  ⟨fun o => pe_imp (pe_callB (call_max2 (X := X) o.hc) hg (by rw [o.hM]; exact hm) boot_max_ (pa_cons (ha.run o) (pa_cons (hb.run o) pa_nil hs2) hs) (by decide) (by decide) hs hpl) fun σ H Q t => by
    obtain ⟨ι, ρ, st, re, rs, g⟩ := t
    refine ⟨ι, ρ, st, re, rs, Good.imp (Good.bind g) fun q st1 ι1 H1 m1 r1 g1 v hv => ?_⟩
    refine ⟨ι1, ρ, st1, re.mono rs m1, r1, Good.imp (Good.bind g1) fun q2 st2 ι2 H2 m2 r2 g2 w hw => ?_⟩
    cases hv <;> cases hw <;> first
      | exact ⟨_, _, rfl, g2.ok r2 _ (.int _)⟩
      | exact g2.elim⟩
theorem de_min2 (ha : DE X W k E a da) (hb : DE X W k E b db) (hg : Gl X "min") (hm : W.mg "min" = none) (hs : starEach [a, b] X.env = (false, eval a X.env) :: starEach [b] X.env := by rfl) (hs2 : starEach [b] X.env = (false, eval b X.env) :: starEach [] X.env := by rfl)
    (hpl : (backTo pos (starEach [b] X.env)).any (·.1) = false := by rfl) : DE X W k E (.Call (.Name "min" p) [a, b] [] pos) (dBin oMin da db) :=
  ⟨fun o => pe_imp (pe_callB (call_min2 (X := X) o.hc) hg (by rw [o.hM]; exact hm) boot_min_ (pa_cons (ha.run o) (pa_cons (hb.run o) pa_nil hs2) hs) (by decide) (by decide) hs hpl) fun σ H Q t => by
    obtain ⟨ι, ρ, st, re, rs, g⟩ := t
    refine ⟨ι, ρ, st, re, rs, Good.imp (Good.bind g) fun q st1 ι1 H1 m1 r1 g1 v hv => ?_⟩
    refine ⟨ι1, ρ, st1, re.mono rs m1, r1, Good.imp (Good.bind g1) fun q2 st2 ι2 H2 m2 r2 g2 w hw => ?_⟩
    cases hv <;> cases hw <;> first
      | exact ⟨_, _, rfl, g2.ok r2 _ (.int _)⟩
      | exact g2.elim⟩
/-! ### all, any of a list of bools; sum of a list of ints -/
def blsM : List PV → Mo (List Bool)
  | [] => fun st => .ok [] st
  | .bl b :: l => bnd (blsM l) fun bs => fun st => .ok (b :: bs) st
  | _ :: _ => fail
theorem bls_of {ι : List Addr} {H : Hp} : ∀ {l : List PV} {vs : List V} {st : Sto} {kk : List Bool → Sto → List Addr → Hp → Prop}, RS W ι st H → RVs W ι H vs l → Good W E ι H (blsM l st) kk → ∃ bs, vs = bs.map V.bl ∧ kk bs st ι H
  | [], _, st, kk, rs, .nil, g => ⟨[], rfl, g.ok rs⟩
  | p :: l, _, st, kk, rs, .cons hv r, g => by
    cases hv with
    | bl b =>
      obtain ⟨bs, e, g2⟩ := bls_of rs r (Good.bind g)
      exact ⟨b :: bs, by rw [e]; rfl, g2.ok rs⟩
    | _ => exact g.elim
def allQ (l : List PV) : Mo PV := bnd (blsM l) fun bs => fun st => .ok (.bl (bs.all id)) st
def anyQ (l : List PV) : Mo PV := bnd (blsM l) fun bs => fun st => .ok (.bl (bs.any id)) st
theorem boot_all_ : bootBuiltins "all" = some (.builtin "all") := by decide +kernel
theorem boot_any_ : bootBuiltins "any" = some (.builtin "any") := by decide +kernel
theorem boot_sum_ : bootBuiltins "sum" = some (.builtin "sum") := by decide +kernel
theorem sq_list {ι : List Addr} {H : Hp} {v : V} {vs : List V} {K : PySem.W.Frag} (h : IsSq K H v vs) : ∃ p, v = .ref p := by
  obtain ⟨p, rfl, _⟩ := h
  exact ⟨p, rfl⟩
theorem cbl_of {r : List V → Hp → VK → Prop} {f : List PV → Mo PV} (hf : ∀ (ι : List Addr) (st : Sto) (H : Hp) (q : Addr) (vs : List V) (l : List PV) (Q : VK), RS W ι st H → H q = some (.lst vs) → RVs W ι H vs l → l.length ≤ 16777216 → Good W E ι H (f l st) (kQ W Q) → r [.ref q] H Q) {σ : L2.St} {H : Hp} {Q : VK} (t : tD W E (fun ρ => bnd (dl ρ) f) σ H Q) : tCB r (tCons (tDL W E dl) tNil) σ H Q := by
  obtain ⟨ι, ρ, st, re, rs, g⟩ := t
  exact ⟨ι, ρ, st, re, rs, Good.imp (Good.bind g) fun l st1 ι1 H1 m1 r1 g1 q vs _ _ e1 r z => hf ι1 st1 H1 q vs l Q r1 e1 r z g1⟩
theorem de_all (hq : DL X W k E e dl) (hg : Gl X "all") (hm : W.mg "all" = none) (hs : starEach [e] X.env = (false, eval e X.env) :: starEach [] X.env := by rfl) : DE X W k E (.Call (.Name "all" p) [e] [] pos) (fun ρ => bnd (dl ρ) allQ) :=
  ⟨fun o => pe_imp (pe_callB (r := rAll W.K) (by rw [← o.hK]; exact cr_all o.hc) hg (by rw [o.hM]; exact hm) boot_all_ (pa_cons (hq.run o) pa_nil hs) (by decide) (by decide) hs (by rfl)) fun σ H Q t => cbl_of (fun ι st H q vs l Q rs e1 r z g => by
    obtain ⟨bs, rfl, g2⟩ := bls_of rs r (Good.bind g)
    exact ⟨q, bs, rfl, SqL.of e1, g2.ok rs _ (.bl _)⟩) t⟩
theorem de_any (hq : DL X W k E e dl) (hg : Gl X "any") (hm : W.mg "any" = none) (hs : starEach [e] X.env = (false, eval e X.env) :: starEach [] X.env := by rfl) : DE X W k E (.Call (.Name "any" p) [e] [] pos) (fun ρ => bnd (dl ρ) anyQ) :=
  ⟨fun o => pe_imp (pe_callB (r := rAny W.K) (by rw [← o.hK]; exact cr_any o.hc) hg (by rw [o.hM]; exact hm) boot_any_ (pa_cons (hq.run o) pa_nil hs) (by decide) (by decide) hs (by rfl)) fun σ H Q t => cbl_of (fun ι st H q vs l Q rs e1 r z g => by
    obtain ⟨bs, rfl, g2⟩ := bls_of rs r (Good.bind g)
    exact ⟨q, bs, rfl, SqL.of e1, g2.ok rs _ (.bl _)⟩) t⟩
def intsM : List PV → Mo (List Int)
  | [] => fun st => .ok [] st
  | .int i :: l => bnd (intsM l) fun bs => fun st => .ok (i :: bs) st
  | _ :: _ => fail
theorem ints_of {ι : List Addr} {H : Hp} : ∀ {l : List PV} {vs : List V} {st : Sto} {kk : List Int → Sto → List Addr → Hp → Prop}, RS W ι st H → RVs W ι H vs l → Good W E ι H (intsM l st) kk → ∃ bs, vs = bs.map V.int ∧ kk bs st ι H
  | [], _, st, kk, rs, .nil, g => ⟨[], rfl, g.ok rs⟩
  | p :: l, _, st, kk, rs, .cons hv r, g => by
    cases hv with
    | int b =>
      obtain ⟨bs, e, g2⟩ := ints_of rs r (Good.bind g)
      exact ⟨b :: bs, by rw [e]; rfl, g2.ok rs⟩
    | _ => exact g.elim
def sumQ (l : List PV) : Mo PV := bnd (intsM l) fun bs => fun st => .ok (.int bs.sum) st
theorem de_sum (hq : DL X W k E e dl) (hg : Gl X "sum") (hm : W.mg "sum" = none) (hs : starEach [e] X.env = (false, eval e X.env) :: starEach [] X.env := by rfl) : DE X W k E (.Call (.Name "sum" p) [e] [] pos) (fun ρ => bnd (dl ρ) sumQ) :=
  ⟨fun o => pe_imp (pe_callB (r := rSum W.K) (by rw [← o.hK]; exact cr_sum o.hc) hg (by rw [o.hM]; exact hm) boot_sum_ (pa_cons (hq.run o) pa_nil hs) (by decide) (by decide) hs (by rfl)) fun σ H Q t => cbl_of (fun ι st H q vs l Q rs e1 r z g => by
    obtain ⟨bs, rfl, g2⟩ := ints_of rs r (Good.bind g)
    exact ⟨q, bs, rfl, SqL.of e1, g2.ok rs _ (.int _)⟩) t⟩
/-- the greatest, the least of a list of ints that is not empty -/
def maxI : List Int → Int
  | [] => 0
  | [x] => x
  | x :: l => if maxI l > x then maxI l else x
def minI : List Int → Int
  | [] => 0
  | [x] => x
  | x :: l => if minI l < x then minI l else x
theorem maxI_spec : ∀ {l : List Int} {m : Int}, m ∈ l → (∀ y, y ∈ l → y ≤ m) → m = maxI l
  | [], _, h, _ => by cases h
  | [x], m, h, _ => by simpa [maxI] using h
  | x :: y :: l, m, h, hm => by
    rw [maxI]
    · have hx := hm x (by simp)
      rcases List.mem_cons.mp h with rfl | h2
      · have : maxI (y :: l) ≤ m := by
          have key : ∀ (l : List Int), l ≠ [] → maxI l ∈ l := by
            intro l
            induction l with
            | nil => intro z; exact absurd rfl z
            | cons a r ih =>
              intro _
              cases r with
              | nil => simp [maxI]
              | cons b r =>
                rw [maxI]
                · split
                  · exact List.mem_cons_of_mem _ (ih (by simp))
                  · simp
                · simp
          exact hm _ (List.mem_cons_of_mem _ (key _ (by simp)))
        rw [if_neg (by omega)]
      · have e := maxI_spec h2 fun z hz => hm z (List.mem_cons_of_mem _ hz)
        rw [← e]
        split <;> omega
    · simp
theorem minI_spec : ∀ {l : List Int} {m : Int}, m ∈ l → (∀ y, y ∈ l → m ≤ y) → m = minI l
  | [], _, h, _ => by cases h
  | [x], m, h, _ => by simpa [minI] using h
  | x :: y :: l, m, h, hm => by
    rw [minI]
    · have hx := hm x (by simp)
      rcases List.mem_cons.mp h with rfl | h2
      · have : m ≤ minI (y :: l) := by
          have key : ∀ (l : List Int), l ≠ [] → minI l ∈ l := by
            intro l
            induction l with
            | nil => intro z; exact absurd rfl z
            | cons a r ih =>
              intro _
              cases r with
              | nil => simp [minI]
              | cons b r =>
                rw [minI]
                · split
                  · exact List.mem_cons_of_mem _ (ih (by simp))
                  · simp
                · simp
          exact hm _ (List.mem_cons_of_mem _ (key _ (by simp)))
        rw [if_neg (by omega)]
      · have e := minI_spec h2 fun z hz => hm z (List.mem_cons_of_mem _ hz)
        rw [← e]
        split <;> omega
    · simp
def maxQ (l : List PV) : Mo PV := bnd (intsM l) fun bs => fun st => if 0 < bs.length then .ok (.int (maxI bs)) st else .stuck
def minQ (l : List PV) : Mo PV := bnd (intsM l) fun bs => fun st => if 0 < bs.length then .ok (.int (minI bs)) st else .stuck
theorem de_maxL (hq : DL X W k E e dl) (hg : Gl X "max") (hm : W.mg "max" = none) (hs : starEach [e] X.env = (false, eval e X.env) :: starEach [] X.env := by rfl) : DE X W k E (.Call (.Name "max" p) [e] [] pos) (fun ρ => bnd (dl ρ) maxQ) :=
  ⟨fun o => pe_imp (pe_callB (r := rMax W.K) (by rw [← o.hK]; exact cr_max o.hc) hg (by rw [o.hM]; exact hm) boot_max_ (pa_cons (hq.run o) pa_nil hs) (by decide) (by decide) hs (by rfl)) fun σ H Q t => cbl_of (fun ι st H q vs l Q rs e1 r z g => by
    obtain ⟨bs, rfl, g2⟩ := ints_of rs r (Good.bind g)
    obtain ⟨hc, g3⟩ := good_if g2
    exact ⟨q, bs, rfl, SqL.of e1, hc, fun m h1 h2 => by rw [maxI_spec h1 h2]; exact g3.ok rs _ (.int _)⟩) t⟩
theorem de_minL (hq : DL X W k E e dl) (hg : Gl X "min") (hm : W.mg "min" = none) (hs : starEach [e] X.env = (false, eval e X.env) :: starEach [] X.env := by rfl) : DE X W k E (.Call (.Name "min" p) [e] [] pos) (fun ρ => bnd (dl ρ) minQ) :=
  ⟨fun o => pe_imp (pe_callB (r := rMin W.K) (by rw [← o.hK]; exact cr_min o.hc) hg (by rw [o.hM]; exact hm) boot_min_ (pa_cons (hq.run o) pa_nil hs) (by decide) (by decide) hs (by rfl)) fun σ H Q t => cbl_of (fun ι st H q vs l Q rs e1 r z g => by
    obtain ⟨bs, rfl, g2⟩ := ints_of rs r (Good.bind g)
    obtain ⟨hc, g3⟩ := good_if g2
    exact ⟨q, bs, rfl, SqL.of e1, hc, fun m h1 h2 => by rw [minI_spec h1 h2]; exact g3.ok rs _ (.int _)⟩) t⟩
end
end PD
/-! PD: statements, targets, loops. -/
namespace PD
open PySem PySem.Spec PyProof.Rows L2
/-- how a statement ends -/
inductive Fl where
  | nx (ρ : Env) | rt (p : PV) | bk (ρ : Env) | ct (ρ : Env)
def kF (W : Wd) (D : Ends) : Fl → Sto → List Addr → Hp → Prop := fun fl _ ι' H' => match fl with
  | .nx ρ' => ∀ σ', RE W ι' H' ρ' σ' → D.nx σ' H'
  | .rt p => ∀ v, RV W ι' H' v p → D.rt v H'
  | .bk ρ' => ∀ σ', RE W ι' H' ρ' σ' → D.bk σ' H'
  | .ct ρ' => ∀ σ', RE W ι' H' ρ' σ' → D.ct σ' H'
def tDS (W : Wd) (E : XK) (d : Env → Mo Fl) : TS := fun D σ H => ∃ ι ρ st, RE W ι H ρ σ ∧ RS W ι st H ∧ Good W E ι H (d ρ st) (kF W D)
structure DS (X : Cx) (W : Wd) (k : Nat) (E : XK) (s : Stmt) (d : Env → Mo Fl) : Prop where
  run : On X W k E → PS X s (tDS W E d)
structure DSs (X : Cx) (W : Wd) (k : Nat) (E : XK) (s : List Stmt) (d : Env → Mo Fl) : Prop where
  run : On X W k E → PSs X s (tDS W E d)
def tDG (W : Wd) (E : XK) (g : PV → Env → Mo Env) : TG := fun v σ H Q => ∃ ι ρ st p, RE W ι H ρ σ ∧ RS W ι st H ∧ RV W ι H v p ∧ Good W E ι H (g p ρ st) (fun ρ' _ ι' H' => ∀ σ', RE W ι' H' ρ' σ' → Q σ' H')
def tDGs (W : Wd) (E : XK) (g : List PV → Env → Mo Env) : TGs := fun vs σ H Q => ∃ ι ρ st ps, RE W ι H ρ σ ∧ RS W ι st H ∧ RVs W ι H vs ps ∧ Good W E ι H (g ps ρ st) (fun ρ' _ ι' H' => ∀ σ', RE W ι' H' ρ' σ' → Q σ' H')
structure DG (X : Cx) (W : Wd) (k : Nat) (E : XK) (e : Expr) (g : PV → Env → Mo Env) : Prop where
  run : On X W k E → PG X e (tDG W E g)
structure DGs (X : Cx) (W : Wd) (k : Nat) (E : XK) (es : List Expr) (g : List PV → Env → Mo Env) : Prop where
  run : On X W k E → PGs X es (tDGs W E g)
theorem ps_imp {X : Cx} {s : Stmt} {t t' : TS} (h : PS X s t) (hi : ∀ D σ H, t' D σ H → t D σ H) : PS X s t' := ⟨fun pins s σ H D I w => h.run pins s σ H D I (hi D σ H w)⟩
theorem pss_imp {X : Cx} {s : List Stmt} {t t' : TS} (h : PSs X s t) (hi : ∀ D σ H, t' D σ H → t D σ H) : PSs X s t' := ⟨fun pins s σ H D I w => h.run pins s σ H D I (hi D σ H w)⟩
theorem pg_imp {X : Cx} {e : Expr} {t t' : TG} (h : PG X e t) (hi : ∀ v σ H Q, t' v σ H Q → t v σ H Q) : PG X e t' := ⟨fun pins s σ H v u Q I r w => h.run pins s σ H v u Q I r (hi v σ H Q w)⟩
theorem pgs_imp {X : Cx} {e : List Expr} {t t' : TGs} (h : PGs X e t) (hi : ∀ v σ H Q, t' v σ H Q → t v σ H Q) : PGs X e t' := ⟨fun pins s σ H v u Q I r w => h.run pins s σ H v u Q I r (hi v σ H Q w)⟩
section
variable {X : Cx} {W : Wd} {k : Nat} {E : XK} {a b c e o : Expr} {es : List Expr} {st : Stmt} {ss ss2 : List Stmt} {pos p p2 : Pos} {da db dc d : Env → Mo PV} {dt du : Env → Mo Bool} {dl dm : Env → Mo (List PV)} {f f1 f2 : Env → Mo Fl} {g : PV → Env → Mo Env} {gs : List PV → Env → Mo Env}

/-! ### in a row -/
def dNil : Env → Mo Fl := fun ρ st => .ok (.nx ρ) st
def dSeq (f1 f2 : Env → Mo Fl) : Env → Mo Fl := fun ρ => bnd (f1 ρ) fun fl => match fl with
  | .nx ρ' => f2 ρ'
  | r => fun st => .ok r st
theorem dss_nil : DSs X W k E [] dNil := ⟨fun o => pss_imp pss_nil fun D σ H t => by
  obtain ⟨ι, ρ, st, re, rs, g⟩ := t
  exact g.ok rs σ re⟩
theorem dss_cons (h1 : DS X W k E st f1) (h2 : DSs X W k E ss f2) : DSs X W k E (st :: ss) (dSeq f1 f2) := ⟨fun o => pss_imp (pss_cons (h1.run o) (h2.run o)) fun D σ H t => by
  obtain ⟨ι, ρ, st, re, rs, g⟩ := t
  refine ⟨ι, ρ, st, re, rs, Good.imp (Good.bind g) fun fl st1 ι1 H1 m1 r1 g1 => ?_⟩
  cases fl with
  | nx ρ' => exact fun σ' re' => ⟨ι1, ρ', st1, re', r1, g1⟩
  | rt p => exact g1.ok r1
  | bk ρ' => exact g1.ok r1
  | ct ρ' => exact g1.ok r1⟩
theorem dss_one (h1 : DS X W k E st f1) : DSs X W k E [st] f1 := ⟨fun o => pss_one (h1.run o)⟩
theorem ds_pass : DS X W k E (.Pass pos) dNil := ⟨fun o => ps_imp ps_pass fun D σ H t => by
  obtain ⟨ι, ρ, st, re, rs, g⟩ := t
  exact g.ok rs σ re⟩
def dBrk : Env → Mo Fl := fun ρ st => .ok (.bk ρ) st
def dCnt : Env → Mo Fl := fun ρ st => .ok (.ct ρ) st
theorem ds_break : DS X W k E (.Break pos) dBrk := ⟨fun o => ps_imp ps_break fun D σ H t => by
  obtain ⟨ι, ρ, st, re, rs, g⟩ := t
  exact g.ok rs σ re⟩
theorem ds_continue : DS X W k E (.Continue pos) dCnt := ⟨fun o => ps_imp ps_continue fun D σ H t => by
  obtain ⟨ι, ρ, st, re, rs, g⟩ := t
  exact g.ok rs σ re⟩
def dRet (d : Env → Mo PV) : Env → Mo Fl := fun ρ => bnd (d ρ) fun q => fun st => .ok (.rt q) st
theorem ds_ret (h : DE X W k E e d) : DS X W k E (.Return (some e) pos) (dRet d) := ⟨fun o => ps_imp (ps_ret (h.run o)) fun D σ H t => by
  obtain ⟨ι, ρ, st, re, rs, g⟩ := t
  exact ⟨ι, ρ, st, re, rs, Good.imp (Good.bind g) fun q st1 ι1 H1 m1 r1 g1 => g1.ok r1⟩⟩
theorem ds_retN : DS X W k E (.Return none pos) (dRet (dC .non)) := ⟨fun o => ps_imp ps_retN fun D σ H t => by
  obtain ⟨ι, ρ, st, re, rs, g⟩ := t
  exact g.ok rs _ .non⟩
def dDrop (d : Env → Mo PV) : Env → Mo Fl := fun ρ => bnd (d ρ) fun _ => fun st => .ok (.nx ρ) st
theorem ds_expr (h : DE X W k E e d) (hs : swapsWith e none pos.line X.env = pure false := by rfl) : DS X W k E (.Expr e pos) (dDrop d) := ⟨fun o => ps_imp (ps_expr (h.run o) hs) fun D σ H t => by
  obtain ⟨ι, ρ, st, re, rs, g⟩ := t
  exact ⟨ι, ρ, st, re, rs, Good.imp (Good.bind g) fun q st1 ι1 H1 m1 r1 g1 v hv => g1.ok r1 σ (re.mono rs m1)⟩⟩
def dIfS (dt : Env → Mo Bool) (f1 f2 : Env → Mo Fl) : Env → Mo Fl := fun ρ => bnd (dt ρ) fun b => if b = true then f1 ρ else f2 ρ
theorem ds_if (h : DT X W k E c dt) (h1 : DSs X W k E ss f1) (h2 : DSs X W k E ss2 f2) : DS X W k E (.If c ss ss2 pos) (dIfS dt f1 f2) := ⟨fun o => ps_imp (ps_if (h.run o) (h1.run o) (h2.run o)) fun D σ H t => by
  obtain ⟨ι, ρ, st, re, rs, g⟩ := t
  refine ⟨ι, ρ, st, re, rs, Good.imp (Good.bind g) fun b st1 ι1 H1 m1 r1 g1 => ?_⟩
  cases b with
  | true => exact ⟨ι1, ρ, st1, re.mono rs m1, r1, g1⟩
  | false => exact ⟨ι1, ρ, st1, re.mono rs m1, r1, g1⟩⟩

/-! ### targets and assignments -/
def gNm (i : Nat) : PV → Env → Mo Env := fun q ρ st => .ok (ρ.set i (some q)) st
theorem dg_name {i : Nat} {x : Str} (hi : X.N[i]? = some x := by rfl) (hx : Loc X.env.scope x := by first | exact .inl rfl | exact .inr rfl) (hf : X.fn x = true ∨ X.env.scope.names.lookup x = some .local := by first | exact .inl rfl | exact .inr rfl) : DG X W k E (.Name x pos) (gNm i) := ⟨fun o => pg_imp (pg_name o.nd hi hx hf) fun v σ H Q t => by
  obtain ⟨ι, ρ, st, q, re, rs, r, g⟩ := t
  exact g.ok rs _ (re.set r i)⟩
def gNl : List PV → Env → Mo Env
  | [], ρ => fun st => .ok ρ st
  | _ :: _, _ => fail
def gCs (g : PV → Env → Mo Env) (gs : List PV → Env → Mo Env) : List PV → Env → Mo Env
  | [], _ => fail
  | q :: qs, ρ => bnd (g q ρ) fun ρ' => gs qs ρ'
theorem dgs_nil : DGs X W k E [] gNl := ⟨fun o => pgs_imp pgs_nil fun v σ H Q t => by
  obtain ⟨ι, ρ, st, q, re, rs, r, g⟩ := t
  cases r with
  | nil => exact ⟨rfl, g.ok rs _ re⟩
  | cons _ _ => exact g.elim⟩
theorem dgs_cons (h1 : DG X W k E e g) (h2 : DGs X W k E es gs) (hs : (assignEach (e :: es) X.env).map (·.2) = assign e X.env :: (assignEach es X.env).map (·.2) := by rfl) : DGs X W k E (e :: es) (gCs g gs) := ⟨fun o => pgs_imp (pgs_cons (h1.run o) (h2.run o) hs) fun v σ H Q t => by
  obtain ⟨ι, ρ, st, q, re, rs, r, g⟩ := t
  cases r with
  | nil => exact g.elim
  | cons hv rr =>
    refine ⟨_, _, rfl, ι, ρ, st, _, re, rs, hv, Good.imp (Good.bind g) fun ρ' st1 ι1 H1 m1 r1 g1 σ' re' => ?_⟩
    exact ⟨ι1, ρ', st1, _, re', r1, rvs_mono rs m1 _ _ rr, g1⟩⟩
def gTp (n : Nat) (gs : List PV → Env → Mo Env) : PV → Env → Mo Env := fun q ρ st => match q with
  | .tup l => if l.length = n then gs l ρ st else .stuck
  | _ => .stuck
theorem dg_tup {x1 n : Nat} (h : DGs X W k E es gs) (hn : (assignEach es X.env).length = n := by rfl) (hst : (assignEach es X.env).findIdx? (·.1) = none := by rfl) : DG X W k E (.Tuple es x1 pos) (gTp n gs) := ⟨fun o => pg_imp (pg_tup o.hc (h.run o) hn hst) fun v σ H Q t => by
  obtain ⟨ι, ρ, st, q, re, rs, r, g⟩ := t
  cases r <;> first
    | exact g.elim
    | (rename_i a vs l sq rr z
       obtain ⟨hc, g1⟩ := good_if g
       refine ⟨a, vs, rfl, by rw [o.hK]; exact sq, by rw [rr.length]; exact hc, ι, ρ, st, l, re, rs, rr, g1⟩)⟩
/-- a[b] = .. of a list -/
def setM (q i z : PV) : Mo Unit := fun st => match q, i with
  | .loc n, .int i => match st[n]? with
    | some (.lst false l) => match ixN l.length i with
      | some j => .ok () (st.set n (.lst false (l.set j z)))
      | none => .stuck
    | _ => .stuck
  | _, _ => .stuck
theorem good_upd {α : Type} {ι : List Addr} {st : Sto} {H : Hp} {n : Nat} {a : Addr} {l : List PV} {vs : List V} {z : α} {kk : α → Sto → List Addr → Hp → Prop} (g : Good W E ι H (.ok z (st.set n (.lst false l))) kk) (rs : RS W ι st H) (hn : ι[n]? = some a) (r : RVs W ι H vs l) (hz : l.length ≤ 16777216) : kk z (st.set n (.lst false l)) ι (upd H a (.lst vs)) := by
  have m : Mono ι H ι (upd H a (.lst vs)) := Mono.mut (List.mem_of_getElem? hn)
  exact g ι _ m (rs.upd hn ⟨vs, upd_same, rvs_mono rs m _ _ r, hz⟩)
theorem set_of {ι : List Addr} {st : Sto} {H : Hp} {x y v : V} {q i z : PV} {kk : Unit → Sto → List Addr → Hp → Prop} (rs : RS W ι st H) (hx : RV W ι H x q) (hy : RV W ι H y i) (hv : RV W ι H v z) (g : Good W E ι H (setM q i z st) kk) : rSetL x y v H fun H' => ∃ st', RS W ι st' H' ∧ Mono ι H ι H' ∧ kk () st' ι H' := by
  cases hx <;> try exact g.elim
  cases hy <;> try exact g.elim
  rename_i n a hn i
  unfold setM at g
  dsimp only at g
  cases q : st[n]? with
  | none => rw [q] at g; exact g.elim
  | some ob =>
    rw [q] at g
    have ro := rs.ob n ob a q hn
    cases ob with
    | dct _ _ => exact g.elim
    | sti _ => exact g.elim
    | lst lk l =>
      cases lk with
      | true => exact g.elim
      | false =>
        obtain ⟨vs, e, r, hz⟩ := ro
        dsimp only at g
        cases hj : ixN l.length i with
        | none => rw [hj] at g; exact g.elim
        | some j =>
          rw [hj] at g
          have hz2 : (l.set j z).length ≤ 16777216 := by rw [List.length_set]; exact hz
          refine ⟨a, vs, i, j, rfl, rfl, e, by rw [r.length]; exact hj, _, rs.upd (o := .lst false (l.set j z)) hn ⟨_, upd_same, ?_, hz2⟩, Mono.mut (List.mem_of_getElem? hn), good_upd g rs hn (r.set hv j) hz2⟩
          exact rvs_mono rs (Mono.mut (List.mem_of_getElem? hn)) _ _ (r.set hv j)
def gSb (da db : Env → Mo PV) : PV → Env → Mo Env := fun z ρ => bnd (da ρ) fun q => bnd (db ρ) fun i => bnd (setM q i z) fun _ => fun st => .ok ρ st
theorem dg_sub (ha : DE X W k E a da) (hb : DE X W k E b db) (hs : ∀ v, assign (.Subscript a b pos) X.env v = (do
      let ov ← holding [v] (eval a X.env)
      let iv ← holding [v, ov] (eval b X.env)
      standAt pos
      holding [v, ov, iv] (setItem ov iv v)
      release [v, ov, iv] []) := by intro _; rfl) : DG X W k E (.Subscript a b pos) (gSb da db) := ⟨fun o => pg_imp (pg_sub (ha.run o) (hb.run o) set_list hs) fun v σ H Q t => by
  obtain ⟨ι, ρ, st, z, re, rs, r, g⟩ := t
  refine ⟨ι, ρ, st, re, rs, Good.imp (Good.bind g) fun q st1 ι1 H1 m1 r1 g1 x hx => ?_⟩
  refine ⟨ι1, ρ, st1, re.mono rs m1, r1, Good.imp (Good.bind g1) fun i st2 ι2 H2 m2 r2 g2 y hy => ?_⟩
  have re2 := (re.mono rs m1).mono r1 m2
  obtain ⟨w, xs, i', j, h1, h2, h3, h4, st3, r3, m3, g3⟩ := set_of r2 (rv_mono r1 m2 q x hx) hy (rv_mono r1 m2 z v (rv_mono rs m1 z v r)) (Good.bind g2)
  exact ⟨w, xs, i', j, h1, h2, h3, h4, g3.ok r3 σ (re2.mono r2 m3)⟩⟩
def dAsg (d : Env → Mo PV) (g : PV → Env → Mo Env) : Env → Mo Fl := fun ρ => bnd (d ρ) fun q => bnd (g q ρ) fun ρ' => fun st => .ok (.nx ρ') st
theorem ds_asg {tg : Expr} (he : DE X W k E e d) (hg : DG X W k E tg g) (hs : swapsWithSole [tg] e pos.line X.env = pure false := by rfl) (hw : swappedStores [tg] e X.env = pure none := by rfl)
    (h1 : (assignEach [tg] X.env).map (·.2) = [assign tg X.env] := by rfl) : DS X W k E (.Assign [tg] e pos) (dAsg d g) := ⟨fun o => ps_imp (ps_asg (he.run o) (hg.run o) hs hw h1) fun D σ H t => by
  obtain ⟨ι, ρ, st, re, rs, g⟩ := t
  refine ⟨ι, ρ, st, re, rs, Good.imp (Good.bind g) fun q st1 ι1 H1 m1 r1 g1 v hv => ?_⟩
  exact ⟨ι1, ρ, st1, q, re.mono rs m1, r1, hv, Good.imp (Good.bind g1) fun ρ' st2 ι2 H2 m2 r2 g2 σ' re' => g2.ok r2 σ' re'⟩⟩
/-- x = e -/
def dSet (i : Nat) (d : Env → Mo PV) : Env → Mo Fl := fun ρ => bnd (d ρ) fun q => fun st => .ok (.nx (ρ.set i (some q))) st
theorem ds_set {i : Nat} {x : Str} (he : DE X W k E e d) (hi : X.N[i]? = some x := by rfl) (hx : Loc X.env.scope x := by first | exact .inl rfl | exact .inr rfl) (hs : swapsWith e (some (.Name x p)) pos.line X.env = pure false := by rfl)
    (hf : X.fn x = true ∨ X.env.scope.names.lookup x = some .local := by first | exact .inl rfl | exact .inr rfl) : DS X W k E (.Assign [.Name x p] e pos) (dSet i d) := ⟨fun o => ps_imp (ps_set o.nd hi hx (he.run o) hs hf) fun D σ H t => by
  obtain ⟨ι, ρ, st, re, rs, g⟩ := t
  exact ⟨ι, ρ, st, re, rs, Good.imp (Good.bind g) fun q st1 ι1 H1 m1 r1 g1 v hv => g1.ok r1 _ ((re.mono rs m1).set hv i)⟩⟩
/-- a, b = x, y: two plain locals -/
def dPar (i j : Nat) (dl : Env → Mo (List PV)) : Env → Mo Fl := fun ρ => bnd (dl ρ) fun l => match l with
  | [q, z] => fun st => .ok (.nx ((ρ.set i (some q)).set j (some z))) st
  | _ => fail
theorem ds_par {i j : Nat} {x y : Str} {px py pt pt2 : Pos} {kt k2 : Nat} (hij : i ≠ j) (ha : DA X W k E [a, b] dl) (hi : X.N[i]? = some x := by rfl) (hj : X.N[j]? = some y := by rfl) (hx : X.env.scope.names.lookup x = some .local := by rfl) (hy : X.env.scope.names.lookup y = some .local := by rfl)
    (hps : On X W k E → PS X (.Assign [.Tuple [.Name x px, .Name y py] kt pt] (.Tuple [a, b] k2 pt2) pos) (tPar i j (tDA W E dl))) : DS X W k E (.Assign [.Tuple [.Name x px, .Name y py] kt pt] (.Tuple [a, b] k2 pt2) pos) (dPar i j dl) := ⟨fun o => ps_imp (hps o) fun D σ H t => by
  obtain ⟨ι, ρ, st, re, rs, g⟩ := t
  refine ⟨ι, ρ, st, re, rs, Good.imp (Good.bind g) fun l st1 ι1 H1 m1 r1 g1 vs hvs => ?_⟩
  cases hvs with
  | nil => exact g1.elim
  | cons h1 t1 =>
    cases t1 with
    | nil => exact g1.elim
    | cons h2 t2 =>
      cases t2 with
      | cons _ _ => exact g1.elim
      | nil => exact ⟨_, _, rfl, g1.ok r1 _ (((re.mono rs m1).set h1 i).set h2 j)⟩⟩
/-- x += e, ints -/
def dAug (f : Int → Int → Int) (i : Nat) (d : Env → Mo PV) : Env → Mo Fl := fun ρ => bnd (dVar i ρ) fun q => bnd (d ρ) fun z => bnd (oI (fun x y => .int (f x y)) q z) fun w => fun st => .ok (.nx (ρ.set i (some w))) st
theorem ds_augI {op : Operator} {fi : Int → Int → Int} {i : Nat} {x : Str} (ho : PIp X op (ipI fi)) (he : DE X W k E e d) (hi : X.N[i]? = some x) (hx : Loc X.env.scope x) (hf : X.fn x = true ∨ X.env.scope.names.lookup x = some .local) : DS X W k E (.AugAssign (.Name x p) op e pos) (dAug fi i d) := ⟨fun o => ps_imp (ps_aug o.nd hi hx (he.run o) ho hf) fun D σ H t => by
  obtain ⟨ι, ρ, st, re, rs, g⟩ := t
  unfold dAug at g
  have g0 := Good.bind g
  unfold dVar at g0
  cases q : ρ[i]? with
  | none => rw [q] at g0; exact g0.elim
  | some w =>
    cases w with
    | none => rw [q] at g0; exact g0.elim
    | some w =>
      rw [q] at g0
      obtain ⟨v, h1, h2⟩ := re.at_ i w q
      have g1 := g0.ok rs
      refine ⟨v, h1, ι, ρ, st, re, rs, Good.imp (Good.bind g1) fun z st1 ι1 H1 m1 r1 g2 y hy => ?_⟩
      have h3 := rv_mono rs m1 w v h2
      have re1 := re.mono rs m1
      cases h3 <;> cases hy <;> first
        | exact g2.elim
        | exact ⟨_, _, rfl, rfl, (Good.bind g2).ok r1 |>.ok r1 _ (re1.set (.int _) i)⟩⟩
theorem ds_augAdd {i : Nat} {x : Str} (he : DE X W k E e d) (hi : X.N[i]? = some x := by rfl) (hx : Loc X.env.scope x := by first | exact .inl rfl | exact .inr rfl) (hf : X.fn x = true ∨ X.env.scope.names.lookup x = some .local := by first | exact .inl rfl | exact .inr rfl) : DS X W k E (.AugAssign (.Name x p) .Add e pos) (dAug (fun i j => i + j) i d) := ds_augI ip_add he hi hx hf
theorem ds_augSub {i : Nat} {x : Str} (he : DE X W k E e d) (hi : X.N[i]? = some x := by rfl) (hx : Loc X.env.scope x := by first | exact .inl rfl | exact .inr rfl) (hf : X.fn x = true ∨ X.env.scope.names.lookup x = some .local := by first | exact .inl rfl | exact .inr rfl) : DS X W k E (.AugAssign (.Name x p) .Sub e pos) (dAug (fun i j => i - j) i d) := ds_augI ip_sub he hi hx hf
/-- a[b] += e of a list of ints -/
theorem get_list : PGet X (rIxL X.K) := by
  intro pins s σ H x y v u Q I rx ry h
  obtain ⟨w, xs, i, z, rfl, rfl, hq, he, q⟩ := h
  cases rx
  obtain ⟨t, rfl⟩ := ry
  obtain ⟨its, r, pl, hz⟩ := I.list hq
  obtain ⟨j, h1, h2, h3, h4, h5⟩ := atI_get he
  obtain ⟨w2, ew, rw'⟩ := r.get h2
  have hl := r.length
  have hn := line63
  have fin : EP X pins σ Q w2 s := ⟨z, H, I, rw', q⟩
  by_cases h0 : 0 ≤ i
  · have hj : i.toNat = j := by
      have e3 := seqIndex_of h0 h5
      rw [h1] at e3
      exact (Option.some.inj e3).symm
    exact wpAny_getItem_list pl.isList h0 (by omega) (by rw [hj]; simpa using ew) fin
  · have hj : (i + (its.toArray.size : Int)).toNat = j := by
      have e3 := seqIndex_neg (show i < 0 by omega) h4
      rw [h1] at e3
      rw [List.size_toArray, ← hl]
      exact (Option.some.inj e3).symm
    exact wpAny_getItem_list_neg pl.isList (by omega) (by rw [List.size_toArray] <;> omega) (by omega) (by rw [hj]; simpa using ew) fin
def dAugS (f : Int → Int → Int) (da db d : Env → Mo PV) : Env → Mo Fl := fun ρ => bnd (da ρ) fun q => bnd (db ρ) fun i => bnd (bnd (lstM q) fun l => ixQ l i) fun x => bnd (d ρ) fun y => bnd (oI (fun x y => .int (f x y)) x y) fun z => bnd (setM q i z) fun _ => fun st => .ok (.nx ρ) st
theorem ds_augS {op : Operator} {fi : Int → Int → Int} (ho : PIp X op (ipI fi)) (ha : DE X W k E a da) (hb : DE X W k E b db) (he : DE X W k E e d) (hs : ∀ ov iv new, augStore b ov iv new = (do holding [new, ov, iv] (setItem ov iv new); release [new, ov, iv] []; pure .next)) : DS X W k E (.AugAssign (.Subscript a b p) op e pos) (dAugS fi da db d) := ⟨fun o => ps_imp (ps_augS (ha.run o) (hb.run o) (tget := rIxL W.K) (by rw [← o.hK]; exact get_list) (he.run o) ho set_list hs) fun D σ H t => by
  obtain ⟨ι, ρ, st, re, rs, g⟩ := t
  refine ⟨ι, ρ, st, re, rs, Good.imp (Good.bind g) fun q st1 ι1 H1 m1 r1 g1 v1 hv1 => ?_⟩
  have re1 := re.mono rs m1
  refine ⟨ι1, ρ, st1, re1, r1, Good.imp (Good.bind g1) fun i st2 ι2 H2 m2 r2 g2 v2 hv2 => ?_⟩
  have re2 := re1.mono r1 m2
  have hq2 := rv_mono r1 m2 q v1 hv1
  obtain ⟨w, vs, l, rfl, sq, rr, hz, g3⟩ := lst_of (α := Nat) r2 hq2 (Good.bind (Good.bind g2))
  cases hv2 <;> try exact g3.elim
  rename_i i
  have g4 : Good W E ι2 H2 (match atI l i with | some z => .ok z st2 | none => .stuck) _ := g3
  cases hx : atI l i with
  | none => rw [hx] at g4; exact g4.elim
  | some x =>
    rw [hx] at g4
    obtain ⟨xv, hxv, rxv⟩ := atI_rv rr hx
    refine ⟨w, vs, i, xv, rfl, rfl, sq, hxv, ι2, ρ, st2, re2, r2, Good.imp (Good.bind (g4.ok r2)) fun y st3 ι3 H3 m3 r3 g5 yv hy => ?_⟩
    have hx3 := rv_mono r2 m3 x xv rxv
    cases hx3 <;> try exact g5.elim
    cases hy <;> try exact g5.elim
    refine ⟨_, _, rfl, rfl, ?_⟩
    obtain ⟨w', xs, i', j, h1, h2, h3, h4, st4, r4, m4, g6⟩ := set_of r3 (rv_mono r2 m3 _ _ hq2) (.int i) (.int _) (Good.bind ((Good.bind g5).ok r3))
    exact ⟨w', xs, i', j, h1, h2, h3, h4, g6.ok r4 σ ((re2.mono r2 m3).mono r3 m4)⟩⟩
theorem ds_augSAdd (ha : DE X W k E a da) (hb : DE X W k E b db) (he : DE X W k E e d) (hs : ∀ ov iv new, augStore b ov iv new = (do holding [new, ov, iv] (setItem ov iv new); release [new, ov, iv] []; pure .next) := by intros; rfl) : DS X W k E (.AugAssign (.Subscript a b p) .Add e pos) (dAugS (fun i j => i + j) da db d) := ds_augS ip_add ha hb he hs
theorem ds_augSSub (ha : DE X W k E a da) (hb : DE X W k E b db) (he : DE X W k E e d) (hs : ∀ ov iv new, augStore b ov iv new = (do holding [new, ov, iv] (setItem ov iv new); release [new, ov, iv] []; pure .next) := by intros; rfl) : DS X W k E (.AugAssign (.Subscript a b p) .Sub e pos) (dAugS (fun i j => i - j) da db d) := ds_augS ip_sub ha hb he hs
end
end PD
/-! PD: while, for, comprehensions. -/
namespace PD
open PySem PySem.Spec PyProof.Rows L2
section
variable {X : Cx} {W : Wd} {k : Nat} {E : XK} {a b c e o : Expr} {es : List Expr} {st : Stmt} {ss ss2 : List Stmt} {pos p p2 : Pos} {da db dc d : Env → Mo PV} {dt du : Env → Mo Bool} {dl dm : Env → Mo (List PV)} {f f1 f2 : Env → Mo Fl} {g : PV → Env → Mo Env} {gs : List PV → Env → Mo Env}
/-! ### while -/
/-- behind a turn -/
def turnF (h : Env → Mo Fl) : Fl → Mo Fl
  | .nx ρ => h ρ
  | .ct ρ => h ρ
  | .bk ρ => fun st => .ok (.nx ρ) st
  | .rt p => fun st => .ok (.rt p) st
def whF (dt : Env → Mo Bool) (f : Env → Mo Fl) : Nat → Env → Mo Fl
  | 0 => fun _ => fail
  | n + 1 => fun ρ => bnd (dt ρ) fun b => if b = true then bnd (f ρ) (turnF (whF dt f n)) else fun st => .ok (.nx ρ) st
open Classical in
noncomputable def dWh (dt : Env → Mo Bool) (f : Env → Mo Fl) : Env → Mo Fl := fun ρ st => if h : ∃ n, whF dt f n ρ st ≠ .stuck then whF dt f (Classical.choose h) ρ st else .stuck
theorem bnd_ne {α β : Type} {m : Mo α} {f : α → Mo β} {st : Sto} (h : bnd m f st ≠ .stuck) : (∃ c st', m st = .exc c st' ∧ ∀ f' : α → Mo β, bnd m f' st = .exc c st') ∨ ∃ a st', m st = .ok a st' ∧ f a st' ≠ .stuck ∧ ∀ f' : α → Mo β, bnd m f' st = f' a st' := by
  cases q : m st with
  | ok a st' =>
    refine .inr ⟨a, st', rfl, ?_, fun f' => by unfold bnd; rw [q]⟩
    have e : bnd m f st = f a st' := by unfold bnd; rw [q]
    rw [e] at h
    exact h
  | exc c st' => exact .inl ⟨c, st', rfl, fun f' => by unfold bnd; rw [q]⟩
  | stuck =>
    have e : bnd m f st = .stuck := by unfold bnd; rw [q]
    exact (h e).elim
theorem whF_more : ∀ {n : Nat} {ρ : Env} {st : Sto} (j : Nat), whF dt f n ρ st ≠ .stuck → whF dt f (n + j) ρ st = whF dt f n ρ st
  | 0, _, _, _, h => (h rfl).elim
  | n + 1, ρ, st, j, h => by
    rw [Nat.add_right_comm]
    unfold whF at h ⊢
    rcases bnd_ne h with ⟨c, st', _, q⟩ | ⟨b, st', _, hb, q⟩
    · rw [q, q]
    · rw [q, q]
      cases b with
      | false => rfl
      | true =>
        rw [if_pos rfl] at hb
        rw [if_pos rfl, if_pos rfl]
        rcases bnd_ne hb with ⟨c, st2, _, q2⟩ | ⟨fl, st2, _, hf, q2⟩
        · rw [q2, q2]
        · rw [q2, q2]
          cases fl with
          | nx ρ' => exact whF_more j hf
          | ct ρ' => exact whF_more j hf
          | bk _ => rfl
          | rt _ => rfl
theorem dWh_of {n : Nat} {ρ : Env} {st : Sto} (h : whF dt f n ρ st ≠ .stuck) : dWh dt f ρ st = whF dt f n ρ st := by
  have hx : ∃ n, whF dt f n ρ st ≠ .stuck := ⟨n, h⟩
  unfold dWh
  rw [dif_pos hx]
  have h2 := Classical.choose_spec hx
  generalize Classical.choose hx = m at h2 ⊢
  rcases Nat.le_total m n with hl | hl
  · obtain ⟨j, rfl⟩ := Nat.exists_eq_add_of_le hl
    exact (whF_more j h2).symm
  · obtain ⟨j, rfl⟩ := Nat.exists_eq_add_of_le hl
    exact whF_more j h
theorem dWh_eq (ρ : Env) (st : Sto) : dWh dt f ρ st = bnd (dt ρ) (fun b => if b = true then bnd (f ρ) (turnF (dWh dt f)) else fun st => .ok (.nx ρ) st) st := by
  by_cases h : ∃ n, whF dt f n ρ st ≠ .stuck
  · obtain ⟨n, h⟩ := h
    rw [dWh_of h]
    cases n with
    | zero => exact (h rfl).elim
    | succ n =>
      unfold whF at h ⊢
      rcases bnd_ne h with ⟨c, st', _, q⟩ | ⟨b, st', _, hb, q⟩
      · rw [q, q]
      · rw [q, q]
        cases b with
        | false => rfl
        | true =>
          rw [if_pos rfl] at hb
          rw [if_pos rfl, if_pos rfl]
          rcases bnd_ne hb with ⟨c, st2, _, q2⟩ | ⟨fl, st2, _, hf, q2⟩
          · rw [q2, q2]
          · rw [q2, q2]
            cases fl with
            | nx ρ' => exact (dWh_of hf).symm
            | ct ρ' => exact (dWh_of hf).symm
            | bk _ => rfl
            | rt _ => rfl
  · have e : dWh dt f ρ st = .stuck := by unfold dWh; rw [dif_neg h]
    rw [e]
    refine Classical.byContradiction fun hn => h ?_
    have hn2 := fun z => hn (Eq.symm z)
    have key : ∀ (ρ' : Env) (st' : Sto), dWh dt f ρ' st' ≠ .stuck → ∃ n, whF dt f n ρ' st' ≠ .stuck := fun ρ' st' z => by
      refine Classical.byContradiction fun y => z ?_
      unfold dWh
      rw [dif_neg y]
    rcases bnd_ne hn2 with ⟨c, st', _, q⟩ | ⟨b, st', _, hb, q⟩
    · exact ⟨1, by unfold whF; rw [q]; exact fun z => nomatch z⟩
    · cases b with
      | false => exact ⟨1, by unfold whF; rw [q]; exact fun z => nomatch z⟩
      | true =>
        rw [if_pos rfl] at hb
        rcases bnd_ne hb with ⟨c, st2, _, q2⟩ | ⟨fl, st2, _, hf, q2⟩
        · exact ⟨1, by unfold whF; rw [q, if_pos rfl, q2]; exact fun z => nomatch z⟩
        · cases fl with
          | nx ρ' => obtain ⟨n, hn⟩ := key _ _ hf; exact ⟨n + 1, by unfold whF; rw [q, if_pos rfl, q2]; exact hn⟩
          | ct ρ' => obtain ⟨n, hn⟩ := key _ _ hf; exact ⟨n + 1, by unfold whF; rw [q, if_pos rfl, q2]; exact hn⟩
          | bk _ => exact ⟨1, by unfold whF; rw [q, if_pos rfl, q2]; exact fun z => nomatch z⟩
          | rt _ => exact ⟨1, by unfold whF; rw [q, if_pos rfl, q2]; exact fun z => nomatch z⟩
theorem ds_while (hc : DT X W k E c dt) (hb : DSs X W k E ss f) : DS X W k E (.While c ss [] pos) (dWh dt f) := ⟨fun o => ps_imp (ps_while o.own (hc.run o) (hb.run o)) fun D σ H t => by
  obtain ⟨ι, ρ, st, re, rs, g⟩ := t
  have hx : ∃ n, whF dt f n ρ st ≠ .stuck := by
    refine Classical.byContradiction fun z => ?_
    unfold dWh at g
    rw [dif_neg z] at g
    exact g.elim
  obtain ⟨n, hn⟩ := hx
  rw [dWh_of hn] at g
  refine ⟨fun m σ' H' => ∃ ι' ρ' st', RE W ι' H' ρ' σ' ∧ RS W ι' st' H' ∧ Good W E ι' H' (whF dt f m ρ' st') (kF W D), ⟨n, ι, ρ, st, re, rs, g⟩, ?_⟩
  intro m σ1 H1 ⟨ι1, ρ1, st1, re1, rs1, g1⟩
  cases m with
  | zero => exact g1.elim
  | succ m =>
    refine ⟨ι1, ρ1, st1, re1, rs1, Good.imp (Good.bind g1) fun b st2 ι2 H2 m2 r2 g2 => ?_⟩
    have re2 := re1.mono rs1 m2
    cases b with
    | false => exact g2.ok r2 σ1 re2
    | true =>
      rw [if_pos rfl] at g2
      show ite (true = true) _ _
      rw [if_pos rfl]
      refine ⟨fun σ' H' => ∃ ι' ρ' st', RE W ι' H' ρ' σ' ∧ RS W ι' st' H' ∧ Good W E ι' H' (whF dt f m ρ' st') (kF W D), fun σ' H' z => ⟨m, Nat.lt_succ_self m, z⟩, ι2, ρ1, st2, re2, r2, Good.imp (Good.bind g2) fun fl st3 ι3 H3 m3 r3 g3 => ?_⟩
      cases fl with
      | nx ρ' => exact fun σ' re' => ⟨ι3, ρ', st3, re', r3, g3⟩
      | ct ρ' => exact fun σ' re' => ⟨ι3, ρ', st3, re', r3, g3⟩
      | bk ρ' => exact fun σ' re' => g3.ok r3 σ' re'
      | rt q => exact fun v hv => g3.ok r3 v hv⟩

/-! ### what is walked -/
structure Src where
  l : List PV
  chk : Sto → Prop
def JOk (W : Wd) (S : Src) (J : It) (ι0 : List Addr) (H0 : Hp) : Prop := ∀ (ι : List Addr) (H : Hp) (st : Sto), Mono ι0 H0 ι H → RS W ι st H → S.chk st → ∀ i,
  (∀ q, S.l[i]? = some q → J.go i H ∧ ∀ x H', J.yld i H x H' → Mono ι H ι H' ∧ RS W ι st H' ∧ RV W ι H' x q) ∧ (S.l.length ≤ i → J.stop i H)
def kI (W : Wd) (R : It → Hp → Prop) : Src → Sto → List Addr → Hp → Prop := fun S _ ι' H' => ∀ J, JOk W S J ι' H' → R J H'
/-- .. for one iterator, at a list that has just been laid -/
def tDI (W : Wd) (E : XK) (ds : Env → Mo Src) : TI := fun σ H R => ∃ ι ρ st, RE W ι H ρ σ ∧ RS W ι st H ∧ Good W E ι H (ds ρ st) (fun S st' ι' H' => ∀ J H'', Mono ι' H' ι' H'' → RS W ι' st' H'' → JOk W S J ι' H'' → R J H'')
structure DI (X : Cx) (W : Wd) (k : Nat) (E : XK) (tg e : Expr) (ds : Env → Mo Src) : Prop where
  run : On X W k E → PI X tg e (tDI W E ds)
theorem pi_imp {tg e : Expr} {t t' : TI} (h : PI X tg e t) (hi : ∀ σ H R, t' σ H R → t σ H R) : PI X tg e t' := ⟨fun pins s σ H R I w => h.run pins s σ H R I (hi σ H R w)⟩
def sV (l : List PV) : Src := ⟨l, fun _ => True⟩
def sL (n : Nat) (l : List PV) : Src := ⟨l, fun st => st[n]? = some (.lst false l) ∨ st[n]? = some (.lst true l)⟩
/-! ### for -/
open Classical in
noncomputable def foF (g : PV → Env → Mo Env) (f : Env → Mo Fl) (chk : Sto → Prop) : List PV → Env → Mo Fl
  | [], ρ => fun st => if chk st then .ok (.nx ρ) st else .stuck
  | q :: qs, ρ => fun st => if chk st then bnd (g q ρ) (fun ρ' => bnd (f ρ') (turnF (foF g f chk qs))) st else .stuck
noncomputable def dFor (ds : Env → Mo Src) (g : PV → Env → Mo Env) (f : Env → Mo Fl) : Env → Mo Fl := fun ρ => bnd (ds ρ) fun S => foF g f S.chk S.l ρ
open Classical in
theorem ds_for {tg : Expr} {ds : Env → Mo Src} (hi : DI X W k E tg e ds) (hg : DG X W k E tg g) (hb : DSs X W k E ss f) (hs : ∀ x, foldedSetIterable e X.env x = pure x := by intro _; rfl) : DS X W k E (.For tg e ss [] pos) (dFor ds g f) := ⟨fun o => ps_imp (ps_for o.own o.hc (hi.run o) (hg.run o) (hb.run o) hs) fun D σ H t => by
  obtain ⟨ι, ρ, st, re, rs, g0⟩ := t
  refine ⟨ι, ρ, st, re, rs, Good.imp (Good.bind g0) fun S st1 ι1 H1 m1 r1 g1 J H1' mn r1' jo => ?_⟩
  have re1 := (re.mono rs m1).mono r1 mn
  have P0 : ∀ i σ' H', (∃ ι' ρ' st', RE W ι' H' ρ' σ' ∧ RS W ι' st' H' ∧ Mono ι1 H1' ι' H' ∧ Good W E ι' H' (foF g f S.chk (S.l.drop i) ρ' st') (kF W D)) → (S.l.length ≤ i ∧ J.stop i H' ∧ D.nx σ' H') ∨ (∃ q, S.l[i]? = some q ∧ J.go i H' ∧ ∀ x H'', J.yld i H' x H'' →
      tDG W E g x σ' H'' fun σ2 H2 => tDS W E f { D with nx := fun σ3 H3 => ∃ ι' ρ' st', RE W ι' H3 ρ' σ3 ∧ RS W ι' st' H3 ∧ Mono ι1 H1' ι' H3 ∧ Good W E ι' H3 (foF g f S.chk (S.l.drop (i + 1)) ρ' st') (kF W D), ct := fun σ3 H3 => ∃ ι' ρ' st', RE W ι' H3 ρ' σ3 ∧ RS W ι' st' H3 ∧ Mono ι1 H1' ι' H3 ∧ Good W E ι' H3 (foF g f S.chk (S.l.drop (i + 1)) ρ' st') (kF W D), bk := D.nx } σ2 H2) := by
    intro i σ' H' ⟨ι2, ρ2, st2, re2, r2, m2, g2⟩
    by_cases hi : i < S.l.length
    · have hq : S.l[i]? = some S.l[i] := List.getElem?_eq_getElem hi
      rw [List.drop_eq_getElem_cons hi] at g2
      unfold foF at g2
      obtain ⟨hc, g3⟩ := good_if g2
      obtain ⟨hgo, hy⟩ := (jo ι2 H' st2 m2 r2 hc i).1 _ hq
      refine .inr ⟨_, hq, hgo, fun x H'' y => ?_⟩
      obtain ⟨m3, r3, rv⟩ := hy x H'' y
      refine ⟨ι2, ρ2, st2, _, re2.mono r2 m3, r3, rv, Good.imp (Good.bind (g3.shift m3)) fun ρ' st4 ι4 H4 m4 r4 g4 σ4 re4 => ?_⟩
      refine ⟨ι4, ρ', st4, re4, r4, Good.imp (Good.bind g4) fun fl st5 ι5 H5 m5 r5 g5 => ?_⟩
      have mm := ((m2.trans m3).trans m4).trans m5
      cases fl with
      | nx ρ' => exact fun σ' re' => ⟨ι5, ρ', st5, re', r5, mm, g5⟩
      | ct ρ' => exact fun σ' re' => ⟨ι5, ρ', st5, re', r5, mm, g5⟩
      | bk ρ' => exact fun σ' re' => g5.ok r5 σ' re'
      | rt q => exact fun v hv => g5.ok r5 v hv
    · have hl : S.l.length ≤ i := by omega
      rw [List.drop_of_length_le hl] at g2
      unfold foF at g2
      obtain ⟨hc, g3⟩ := good_if g2
      exact .inl ⟨hl, (jo ι2 H' st2 m2 r2 hc i).2 hl, g3.ok r2 σ' re2⟩
  refine ⟨fun i m σ' H' => m = S.l.length - i ∧ ∃ ι' ρ' st', RE W ι' H' ρ' σ' ∧ RS W ι' st' H' ∧ Mono ι1 H1' ι' H' ∧ Good W E ι' H' (foF g f S.chk (S.l.drop i) ρ' st') (kF W D), ⟨_, rfl, ι1, ρ, st1, re1, r1', Mono.refl, g1.shift mn⟩, ?_⟩
  rintro i m σ' H' ⟨rfl, z⟩
  rcases P0 i σ' H' z with ⟨_, h1, h2⟩ | ⟨q, hq, h1, h2⟩
  · exact .inl ⟨h1, h2⟩
  · have hlt := (List.getElem?_eq_some_iff.mp hq).1
    exact .inr ⟨h1, _, fun σ3 H3 z3 => ⟨S.l.length - (i + 1), by omega, rfl, z3⟩, h2⟩⟩

/-! ### sources -/
theorem jok_itr {ι : List Addr} {H : Hp} {lo : Int} {n : Nat} : JOk W (sV ((List.range n).map fun i : Nat => PV.int (lo + i))) (Itr lo n) ι H := by
  intro ι' H' st m rs _ i
  refine ⟨fun q hq => ?_, fun hl => show n ≤ i by simpa [sV] using hl⟩
  have hq : ((List.range n).map fun i : Nat => PV.int (lo + i))[i]? = some q := hq
  rw [List.getElem?_map] at hq
  have hi : i < n := by
    cases z : (List.range n)[i]? with
    | none => rw [z] at hq; cases hq
    | some y =>
      have := (List.getElem?_eq_some_iff.mp z).1
      simpa using this
  rw [List.getElem?_range hi] at hq
  cases hq
  refine ⟨hi, fun x H'' y => ?_⟩
  obtain ⟨rfl, rfl⟩ := y
  exact ⟨Mono.refl, rs, .int _⟩
theorem jok_list {ι : List Addr} {H : Hp} {n : Nat} {a : Addr} {l : List PV} (hn : ι[n]? = some a) : JOk W (sL n l) (Itl W.K a) ι H := by
  intro ι' H' st m rs hc i
  have hr : ∃ vs, SqL W.K H' a vs ∧ RVs W ι' H' vs l := by
    rcases hc with h | h
    · obtain ⟨vs, q, r, _⟩ := ro_sql (rs.ob n _ a h (m.pre n a hn))
      exact ⟨vs, q, r⟩
    · obtain ⟨vs, q, r, _⟩ := ro_sql (rs.ob n _ a h (m.pre n a hn))
      exact ⟨vs, q, r⟩
  obtain ⟨vs, sq, r⟩ := hr
  refine ⟨fun q hq => ?_, fun hl => ⟨vs, sq, by rw [r.length]; exact hl⟩⟩
  obtain ⟨v, hv, rv⟩ := r.get hq
  refine ⟨⟨vs, v, sq, hv⟩, fun x H'' y => ?_⟩
  obtain ⟨rfl, y⟩ := y
  have e := y vs sq
  rw [hv] at e
  cases e
  exact ⟨Mono.refl, rs, rv⟩
theorem jok_tmp {ι : List Addr} {st0 : Sto} {H : Hp} {a : Addr} {vs : List V} {l : List PV} (r0 : RS W ι st0 H) (hn : a ∉ ι) (he : H a = some (.lst vs)) (r : RVs W ι H vs l) : JOk W (sV l) (Itl W.K a) ι H := by
  intro ι' H' st m rs hc i
  have r := rvs_mono r0 m _ _ r
  have sq : SqL W.K H' a vs := .inl (.inl (lst_mono m hn he))
  refine ⟨fun q hq => ?_, fun hl => ⟨vs, sq, by rw [r.length]; exact hl⟩⟩
  obtain ⟨v, hv, rv⟩ := r.get hq
  refine ⟨⟨vs, v, sq, hv⟩, fun x H'' y => ?_⟩
  obtain ⟨rfl, y⟩ := y
  have e := y vs sq
  rw [hv] at e
  cases e
  exact ⟨Mono.refl, rs, rv⟩
theorem jok_tup {ι : List Addr} {st0 : Sto} {H : Hp} {a : Addr} {vs : List V} {l : List PV} (r0 : RS W ι st0 H) (he : SqT W.K H a vs) (r : RVs W ι H vs l) : JOk W (sV l) (Itt W.K a) ι H := by
  intro ι' H' st m rs hc i
  have r := rvs_mono r0 m _ _ r
  have sq : SqT W.K H' a vs := sqt_mono r0 m he
  refine ⟨fun q hq => ?_, fun hl => ⟨vs, sq, by rw [r.length]; exact hl⟩⟩
  obtain ⟨v, hv, rv⟩ := r.get hq
  refine ⟨⟨vs, v, sq, hv⟩, fun x H'' y => ?_⟩
  obtain ⟨rfl, y⟩ := y
  have e := y vs sq
  rw [hv] at e
  cases e
  exact ⟨Mono.refl, rs, rv⟩
/-- a list or a tuple, told when it is there -/
def iSeq (K : PySem.W.Frag) (tl : TE) : TI := fun σ H R => tl σ H fun x H1 => ∃ a, x = .ref a ∧ (((∃ xs, SqL K H1 a xs) ∧ R (Itl K a) H1) ∨ ((∃ xs, SqT K H1 a xs) ∧ R (Itt K a) H1))
theorem pi_seq {tg l : Expr} {tl : TE} (hl : PE X l tl) : PI X tg l (iSeq X.K tl) := by
  refine ⟨fun pins s σ H R I hw => ?_⟩
  refine thn (hl.run pins s σ H _ I hw) fun _ sa ⟨_, Ha, Ia, ra, a, e, qa⟩ => ?_
  subst e
  cases ra
  have fresh : ∀ b ∈ [sa.heap.objs.size], FpOk X pins Ha b := fun b hb => by
    have e : b = sa.heap.objs.size := List.mem_singleton.mp hb
    subst e
    exact Ia.fpOk (Nat.le_refl _) (Ia.hok.fresh (Nat.le_refl _))
  rcases qa with ⟨⟨xs, hq⟩, qa⟩ | ⟨⟨xs, hq⟩, qa⟩
  · obtain ⟨its, _, pl, _⟩ := Ia.list hq
    exact wpAny_pyIter_list pl.isList ⟨sa.heap.objs.size, [sa.heap.objs.size], _, _, Ha, rfl, Ia.kept (t' := sa.toks) fun b o z => Heap.get?_push_of_some _ z, turn_list a _, ⟨_, Heap.get?_push_size _ rfl, rfl, rfl⟩, fresh, qa⟩
  · obtain ⟨its, _, pl, _⟩ := Ia.tuple hq
    exact wpAny_pyIter_tuple (show sa.heap.IsTuple a its.toArray from pl) ⟨sa.heap.objs.size, [sa.heap.objs.size], _, _, Ha, rfl, Ia.kept (t' := sa.toks) fun b o z => Heap.get?_push_of_some _ z, turn_tuple a _, ⟨_, Heap.get?_push_size _ rfl, rfl, rfl⟩, fresh, qa⟩
def srcM (q : PV) : Mo Src := fun st => match q with
  | .tup l => .ok (sV l) st
  | .loc n => match st[n]? with
    | some (.lst _ l) => .ok (sL n l) st
    | _ => .stuck
  | _ => .stuck
theorem di_e {tg : Expr} (h : DE X W k E e d) : DI X W k E tg e (fun ρ => bnd (d ρ) srcM) := ⟨fun o => pi_imp (pi_seq (h.run o)) fun σ H R t => by
  obtain ⟨ι, ρ, st, re, rs, g⟩ := t
  refine ⟨ι, ρ, st, re, rs, Good.imp (Good.bind g) fun q st1 ι1 H1 m1 r1 g1 v hv => ?_⟩
  rw [o.hK]
  cases hv <;> try exact g1.elim
  · rename_i a vs l sq rr z
    exact ⟨a, rfl, .inr ⟨⟨vs, sq⟩, g1.ok r1 _ H1 Mono.refl r1 (jok_tup r1 sq rr)⟩⟩
  · rename_i n a hn
    unfold srcM at g1
    dsimp only at g1
    cases q : st1[n]? with
    | none => rw [q] at g1; exact g1.elim
    | some ob =>
      rw [q] at g1
      cases ob with
      | dct _ _ => exact g1.elim
      | sti _ => exact g1.elim
      | lst lk l =>
        obtain ⟨vs, sq, _, _⟩ := ro_sql (r1.ob n _ a q hn)
        exact ⟨a, rfl, .inl ⟨⟨vs, sq⟩, g1.ok r1 _ H1 Mono.refl r1 (jok_list hn)⟩⟩⟩
def svM (l : List PV) : Mo Src := fun st => .ok (sV l) st
theorem di_l {tg : Expr} (h : DL X W k E e dl) : DI X W k E tg e (fun ρ => bnd (dl ρ) svM) := ⟨fun o => pi_imp (pi_seq (h.run o)) fun σ H R t => by
  obtain ⟨ι, ρ, st, re, rs, g⟩ := t
  refine ⟨ι, ρ, st, re, rs, Good.imp (Good.bind g) fun l st1 ι1 H1 m1 r1 g1 p vs h0 hn he rr hz => ?_⟩
  rw [o.hK]
  exact ⟨p, rfl, .inl ⟨⟨vs, .inl (.inl he)⟩, g1.ok r1 _ H1 Mono.refl r1 (jok_tmp r1 hn he rr)⟩⟩⟩
def rgP (lo : Int) (n : Nat) : List PV := (List.range n).map fun i : Nat => PV.int (lo + i)
abbrev RgOk (i : Int) : Prop := -4611686018427387904 ≤ i ∧ i < 4611686018427387904
def rg1M : List PV → Mo Src
  | [.int j] => fun st => if RgOk j then .ok (sV (rgP 0 j.toNat)) st else .stuck
  | _ => fail
def rg2M : List PV → Mo Src
  | [.int i, .int j] => fun st => if RgOk i ∧ RgOk j then .ok (sV (rgP i (j - i).toNat)) st else .stuck
  | _ => fail
theorem di_range1 {tg : Expr} (h : DA X W k E [a] dl) (hg : Gl X "range") (hm : W.mg "range" = none) (hs : starEach [a] X.env = [(false, eval a X.env)] := by rfl) : DI X W k E tg (.Call (.Name "range" p) [a] [] pos) (fun ρ => bnd (dl ρ) rg1M) := ⟨fun o => pi_imp (pi_range1 hg (by rw [o.hM]; exact hm) (h.run o) hs) fun σ H R t => by
  obtain ⟨ι, ρ, st, re, rs, g⟩ := t
  refine ⟨ι, ρ, st, re, rs, Good.imp (Good.bind g) fun l st1 ι1 H1 m1 r1 g1 vs hv => ?_⟩
  cases hv with
  | nil => exact g1.elim
  | cons h1 t1 =>
    cases t1 with
    | cons _ _ => cases h1 <;> exact g1.elim
    | nil =>
      cases h1 <;> try exact g1.elim
      obtain ⟨hc, g2⟩ := good_if g1
      exact ⟨_, rfl, by have := hc.1; omega, by have := hc.2; omega, g2.ok r1 _ H1 Mono.refl r1 jok_itr⟩⟩
theorem di_range2 {tg : Expr} (h : DA X W k E [a, b] dl) (hg : Gl X "range") (hm : W.mg "range" = none) (hs : starEach [a, b] X.env = [(false, eval a X.env), (false, eval b X.env)] := by rfl) (hs2 : starEach [b] X.env = [(false, eval b X.env)] := by rfl) : DI X W k E tg (.Call (.Name "range" p) [a, b] [] pos) (fun ρ => bnd (dl ρ) rg2M) := ⟨fun o => pi_imp (pi_range2 hg (by rw [o.hM]; exact hm) (h.run o) hs hs2) fun σ H R t => by
  obtain ⟨ι, ρ, st, re, rs, g⟩ := t
  refine ⟨ι, ρ, st, re, rs, Good.imp (Good.bind g) fun l st1 ι1 H1 m1 r1 g1 vs hv => ?_⟩
  cases hv with
  | nil => exact g1.elim
  | cons h1 t1 =>
    cases t1 with
    | nil => cases h1 <;> exact g1.elim
    | cons h2 t2 =>
      cases t2 with
      | cons _ _ => cases h1 <;> cases h2 <;> exact g1.elim
      | nil =>
        cases h1 <;> cases h2 <;> try exact g1.elim
        obtain ⟨hc, g2⟩ := good_if g1
        exact ⟨_, _, rfl, ⟨by have := hc.1.1; omega, by have := hc.1.2; omega, by have := hc.2.1; omega, by have := hc.2.2; omega⟩, g2.ok r1 _ H1 Mono.refl r1 jok_itr⟩⟩
/-! ### patterns, without effect -/
inductive Pt where
  | nm (i : Nat) | tp (l : List Pt)
mutual
def Pt.vs : Pt → List Nat
  | .nm i => [i]
  | .tp l => Pt.vss l
def Pt.vss : List Pt → List Nat
  | [] => []
  | p :: l => Pt.vs p ++ Pt.vss l
end
mutual
/-- what is set, in order -/
def Pt.go : Pt → PV → Env → Option Env
  | .nm i, q, ρ => some (ρ.set i (some q))
  | .tp l, .tup qs, ρ => Pt.gos l qs ρ
  | .tp _, _, _ => none
def Pt.gos : List Pt → List PV → Env → Option Env
  | [], [], ρ => some ρ
  | p :: l, q :: qs, ρ => (Pt.go p q ρ).bind (Pt.gos l qs)
  | _, _, _ => none
end
def wipeE (ρ : Env) : List Nat → Env
  | [] => ρ
  | v :: vs => (wipeE ρ vs).set v none
theorem RE.wipe {ι : List Addr} {H : Hp} {ρ : Env} {σ : L2.St} (re : RE W ι H ρ σ) : ∀ vs : List Nat, RE W ι H (wipeE ρ vs) (wipe σ vs)
  | [] => re
  | v :: vs => (RE.wipe re vs).unset v
theorem wipe_set {σ : L2.St} {i : Nat} {v : Option V} : ∀ {vs : List Nat}, i ∈ vs → wipe (σ.set i v) vs = wipe σ vs
  | [], h => (by cases h)
  | w :: vs, h => by
    unfold wipe
    by_cases hi : i ∈ vs
    · rw [wipe_set hi]
    · have e : i = w := by
        rcases List.mem_cons.mp h with z | z
        · exact z
        · exact (hi z).elim
      subst e
      have key : ∀ us : List Nat, i ∉ us → wipe (σ.set i v) us = (wipe σ us).set i v := by
        intro us
        induction us with
        | nil => intro _; rfl
        | cons u us ih =>
          intro hn
          rw [List.mem_cons, not_or] at hn
          unfold wipe
          rw [ih hn.2, List.set_comm _ _ hn.1]
      rw [key vs hi, List.set_set]
def tDP (W : Wd) (pt : Pt) (vs : List Nat) : TG := fun v σ H Q => ∃ ι ρ st q, RE W ι H ρ σ ∧ RS W ι st H ∧ RV W ι H v q ∧ ∃ ρ', Pt.go pt q ρ = some ρ' ∧ ∀ σ', RE W ι H ρ' σ' → wipe σ' vs = wipe σ vs → Q σ' H
def tDPs (W : Wd) (pt : List Pt) (vs : List Nat) : TGs := fun us σ H Q => ∃ ι ρ st q, RE W ι H ρ σ ∧ RS W ι st H ∧ RVs W ι H us q ∧ ∃ ρ', Pt.gos pt q ρ = some ρ' ∧ ∀ σ', RE W ι H ρ' σ' → wipe σ' vs = wipe σ vs → Q σ' H
structure DP (X : Cx) (W : Wd) (vs : List Nat) (e : Expr) (pt : Pt) : Prop where
  run : X.K = W.K → X.N.Nodup → X.calm = true → PG X e (tDP W pt vs)
structure DPs (X : Cx) (W : Wd) (vs : List Nat) (e : List Expr) (pt : List Pt) : Prop where
  run : X.K = W.K → X.N.Nodup → X.calm = true → PGs X e (tDPs W pt vs)
theorem dp_name {vs : List Nat} {i : Nat} {x : Str} (hv : i ∈ vs := by decide) (hi : X.N[i]? = some x := by rfl) (hx : Loc X.env.scope x := by first | exact .inl rfl | exact .inr rfl) (hf : X.fn x = true ∨ X.env.scope.names.lookup x = some .local := by first | exact .inl rfl | exact .inr rfl) : DP X W vs (.Name x pos) (.nm i) := ⟨fun _ nd _ => pg_imp (pg_name nd hi hx hf) fun v σ H Q t => by
  obtain ⟨ι, ρ, st, q, re, rs, r, ρ', e, hq⟩ := t
  cases e
  exact hq _ (re.set r i) (wipe_set hv)⟩
theorem dps_nil {vs : List Nat} : DPs X W vs [] [] := ⟨fun _ _ _ => pgs_imp pgs_nil fun v σ H Q t => by
  obtain ⟨ι, ρ, st, q, re, rs, r, ρ', e, hq⟩ := t
  cases r with
  | nil => cases e; exact ⟨rfl, hq _ re rfl⟩
  | cons _ _ => cases e⟩
theorem dps_cons {vs : List Nat} {pt : Pt} {pts : List Pt} (h1 : DP X W vs e pt) (h2 : DPs X W vs es pts) (hs : (assignEach (e :: es) X.env).map (·.2) = assign e X.env :: (assignEach es X.env).map (·.2) := by rfl) : DPs X W vs (e :: es) (pt :: pts) := ⟨fun hK nd hc => pgs_imp (pgs_cons (h1.run hK nd hc) (h2.run hK nd hc) hs) fun v σ H Q t => by
  obtain ⟨ι, ρ, st, q, re, rs, r, ρ', e, hq⟩ := t
  cases r with
  | nil => cases e
  | cons hv rr =>
    rename_i q0 _ qs
    unfold Pt.gos at e
    cases z : Pt.go pt q0 ρ with
    | none => rw [z] at e; cases e
    | some ρ1 =>
      rw [z] at e
      exact ⟨_, _, rfl, ι, ρ, st, q0, re, rs, hv, ρ1, z, fun σ' re' w' => ⟨ι, ρ1, st, qs, re', rs, rr, ρ', e, fun σ2 re2 w2 => hq σ2 re2 (w2.trans w')⟩⟩⟩
theorem dp_tup {vs : List Nat} {pts : List Pt} {x1 n : Nat} (h : DPs X W vs es pts) (hn : (assignEach es X.env).length = n := by rfl) (hp : pts.length = n := by rfl) (hst : (assignEach es X.env).findIdx? (·.1) = none := by rfl) : DP X W vs (.Tuple es x1 pos) (.tp pts) := ⟨fun hK nd hc => pg_imp (pg_tup hc (h.run hK nd hc) hn hst) fun v σ H Q t => by
  obtain ⟨ι, ρ, st, q, re, rs, r, ρ', e, hq⟩ := t
  cases r <;> try (unfold Pt.go at e; cases e; done)
  rename_i a us l sq rr z
  unfold Pt.go at e
  have hl : ∀ (pts : List Pt) (l : List PV) (ρ ρ' : Env), Pt.gos pts l ρ = some ρ' → l.length = pts.length := by
    intro pts
    induction pts with
    | nil => intro l ρ ρ' e; cases l with
      | nil => rfl
      | cons _ _ => cases e
    | cons p pts ih => intro l ρ ρ' e; cases l with
      | nil => cases e
      | cons q l =>
        unfold Pt.gos at e
        cases z : Pt.go p q ρ with
        | none => rw [z] at e; cases e
        | some ρ1 => rw [z] at e; rw [List.length_cons, List.length_cons, ih l ρ1 ρ' e]
  exact ⟨a, us, rfl, by rw [hK]; exact sq, by rw [rr.length, hl _ _ _ _ e]; exact hp, ι, ρ, st, l, re, rs, rr, ρ', e, hq⟩⟩
end
end PD
/-! PD: list comprehensions. -/
namespace PD
open PySem PySem.Spec PyProof.Rows L2
def nox {α : Type} (m : Mo α) : Mo α := fun st => match m st with
  | .exc _ _ => .stuck
  | r => r
theorem Good.nox {W : Wd} {E : XK} {α β : Type} {ι : List Addr} {H : Hp} {st : Sto} {m : Mo α} {f : α → Mo β} {k : β → Sto → List Addr → Hp → Prop} (g : Good W E ι H (bnd (PD.nox m) f st) k) : Good W E0 ι H (m st) (fun a st1 ι1 H1 => Good W E ι1 H1 (f a st1) k) := by
  have g1 := Good.bind g
  unfold PD.nox at g1
  cases q : m st with
  | ok a st' => rw [q] at g1; exact g1
  | exc c st' => rw [q] at g1; exact g1.elim
  | stuck => rw [q] at g1; exact g1.elim
theorem Good.bindB {W : Wd} {E : XK} {α β : Type} {ι0 ι : List Addr} {H0 H : Hp} {st : Sto} {m : Mo α} {f : α → Mo β} {k : β → Sto → List Addr → Hp → Prop} (g : Good W E ι0 H0 (bnd m f st) k) (mm : Mono ι0 H0 ι H) : Good W E ι H (m st) (fun a st1 _ _ => Good W E ι0 H0 (f a st1) k) := by
  unfold bnd at g
  cases q : m st with
  | ok a st' => rw [q] at g; exact fun _ _ _ _ => g
  | exc c st' => rw [q] at g; exact g.shift mm
  | stuck => rw [q] at g; exact g.elim
theorem Good.noxB {W : Wd} {E : XK} {α β : Type} {ι0 ι : List Addr} {H0 H : Hp} {st : Sto} {m : Mo α} {f : α → Mo β} {k : β → Sto → List Addr → Hp → Prop} (g : Good W E ι0 H0 (bnd (PD.nox m) f st) k) (mm : Mono ι0 H0 ι H) : Good W E0 ι H (m st) (fun a st1 _ _ => Good W E ι0 H0 (f a st1) k) := by
  have g1 := Good.bindB g mm
  unfold PD.nox at g1
  cases q : m st with
  | ok a st' => rw [q] at g1; exact g1
  | exc c st' => rw [q] at g1; exact g1.elim
  | stuck => rw [q] at g1; exact g1.elim
theorem wipe_idem {σ : L2.St} : ∀ (vs us : List Nat), (∀ i ∈ us, i ∈ vs) → wipe (wipe σ us) vs = wipe σ vs
  | vs, [], _ => rfl
  | vs, u :: us, h => by
    show wipe ((wipe σ us).set u none) vs = _
    rw [wipe_set (h u (List.mem_cons_self ..)), wipe_idem vs us fun i hi => h i (List.mem_cons_of_mem _ hi)]
section
variable {W : Wd} {ι : List Addr} {H : Hp} {st : Sto} {D : Addr} {xs ys : List V}
theorem sqt_off {K : PySem.W.Frag} (hD : H D = some (.lst xs)) {a : Addr} {vs : List V} (h : SqT K H a vs) : SqT K (upd H D (.lst ys)) a vs := by
  rcases h with (h | ⟨b, h⟩) | h
  · exact .inl (.inl ((upd_ne (fun z => by rw [z, hD] at h; cases h)).trans h))
  · exact .inl (.inr ⟨b, (upd_ne (fun z => by rw [z, hD] at h; cases h)).trans h⟩)
  · exact .inr h
theorem ext_off (hD : H D = some (.lst xs)) {a : Addr} {φ : Heap → Prop} (h : H a = some (.ext φ)) : upd H D (.lst ys) a = some (.ext φ) := (upd_ne (fun z => by rw [z, hD] at h; cases h)).trans h
mutual
theorem rv_off (hD : H D = some (.lst xs)) : ∀ (p : PV) (v : V), RV W ι H v p → RV W ι (upd H D (.lst ys)) v p
  | .non, _, .non => .non
  | .bl _, _, .bl _ => .bl _
  | .int _, _, .int _ => .int _
  | .str _, _, .str _ => .str _
  | .tup ps, _, .tup h r z => .tup (sqt_off hD h) (rvs_off hD ps _ r) z
  | .loc _, _, .loc h => .loc h
  | .fn _, _, .fn h => .fn h
  | .kl _, _, .kl h z => .kl h z
  | .clo ps, _, .clo h hc r => .clo h (ext_off hD hc) (rvs_off hD ps _ r)
  | .pst _, _, .pst h q e => .pst (ext_off hD h) (fun p hp => sqt_off hD (q p hp)) e
theorem rvs_off (hD : H D = some (.lst xs)) : ∀ (ps : List PV) (vs : List V), RVs W ι H vs ps → RVs W ι (upd H D (.lst ys)) vs ps
  | [], _, .nil => .nil
  | p :: ps, _, .cons h r => .cons (rv_off hD p _ h) (rvs_off hD ps _ r)
end
theorem rks_off (hD : H D = some (.lst xs)) : ∀ {ps : List (PV × PV)} {vs : List (Key × V)}, RKs W ι H vs ps → RKs W ι (upd H D (.lst ys)) vs ps
  | _, _, .nil => .nil
  | _, _, .cons h r => .cons (rv_off hD _ _ h) (rks_off hD r)
theorem RS.off (rs : RS W ι st H) (hn : D ∉ ι) (hD : H D = some (.lst xs)) : RS W ι st (L2.upd H D (.lst ys)) := by
  refine ⟨rs.len, rs.nd, fun n u a h1 h2 => ?_, fun P hP => ?_, tl_upd rs.tl fun o e => by rw [hD] at e; cases e; exact ⟨fun _ z => (by cases z), fun _ _ z => (by cases z), fun _ z => (by cases z), fun _ z => (by cases z)⟩⟩
  rotate_left
  · obtain ⟨ps, e, t⟩ := rs.tb P hP
    exact ⟨ps, (upd_ne (fun z => by rw [z, hD] at e; cases e)).trans e, t⟩
  have r := rs.ob n u a h1 h2
  have e : L2.upd H D (.lst ys) a = H a := upd_ne fun z => hn (by rw [← z]; exact List.mem_of_getElem? h2)
  cases u with
  | lst lk l =>
    cases lk with
    | false => obtain ⟨vs, q, z, y⟩ := r; exact ⟨vs, e.trans q, rvs_off hD _ _ z, y⟩
    | true => obtain ⟨c, vs, q, z, y⟩ := r; exact ⟨c, vs, e.trans q, rvs_off hD _ _ z, y⟩
  | dct lk l =>
    cases lk with
    | false => obtain ⟨vs, q, z⟩ := r; exact ⟨vs, e.trans q, rks_off hD z⟩
    | true => obtain ⟨c, vs, q, z⟩ := r; exact ⟨c, vs, e.trans q, rks_off hD z⟩
  | sti l => obtain ⟨S, q, z⟩ := r; exact ⟨S, e.trans q, z⟩
theorem Mono.off {ι0 : List Addr} {H0 : Hp} (m : Mono ι0 H0 ι H) (h0 : H0 D = none) {o : HO} : Mono ι0 H0 ι (L2.upd H D o) := ⟨m.pre, m.fresh, fun a u h hn => by
  obtain ⟨u', e, kp⟩ := m.keep a u h hn
  exact ⟨u', (upd_ne (ne_of_none h h0)).trans e, kp⟩⟩
theorem Mono.notin {ι' : List Addr} {H' : Hp} {o : HO} (m : Mono ι H ι' H') (hn : D ∉ ι) (hD : H D = some o) : D ∉ ι' := fun z => by
  rw [m.fresh D z hn] at hD
  cases hD
end
section
variable {X : Cx} {W : Wd} {k : Nat} {E : XK} {a b c e o : Expr} {es ifs : List Expr} {pos p p2 : Pos} {da db dc d : Env → Mo PV} {dt du : Env → Mo Bool} {dl dm : Env → Mo (List PV)}
theorem On.blk (h : On X W k E) (s : Shared) (H : Hp) (scope : Scope) (env : PySem.Env) (fp : List Addr) : On (X.blk s H scope env fp) W k E0 :=
  ⟨h.hK, h.hM, h.hc, h.nd, h.room, fun _ _ _ _ _ _ _ z => (h.c0 _ _ _ _ _ z).elim, fun _ _ z => z.elim, h.c0⟩
structure DTs (X : Cx) (W : Wd) (k : Nat) (E : XK) (ifs : List Expr) (d : Env → Mo Bool) : Prop where
  run : On X W k E → PTs X ifs (tDT W E d)
theorem pts_imp {t t' : TT} (h : PTs X ifs t) (hi : ∀ σ H Q, t' σ H Q → t σ H Q) : PTs X ifs t' := ⟨fun pins s σ H Q I w => h.run pins s σ H Q I (hi σ H Q w)⟩
def dYes : Env → Mo Bool := fun _ st => .ok true st
theorem dts_nil : DTs X W k E [] dYes := ⟨fun o => pts_imp pts_nil fun σ H Q t => by
  obtain ⟨ι, ρ, st, re, rs, g⟩ := t
  exact g.ok rs⟩
theorem dts_one (h : DT X W k E c dt) : DTs X W k E [c] dt := ⟨fun o => pts_one (h.run o)⟩
open Classical in
noncomputable def lcF (pt : Pt) (dt : Env → Mo Bool) (d : Env → Mo PV) (chk : Sto → Prop) (ρ : Env) : List PV → List PV → Mo (List PV)
  | [], acc => fun st => if chk st then .ok acc st else .stuck
  | q :: qs, acc => fun st => if chk st then (match Pt.go pt q ρ with
    | none => .stuck
    | some ρ1 => bnd (nox (dt ρ1)) (fun b => if b = true then bnd (nox (d ρ1)) (fun y st2 => if acc.length < 16777216 then lcF pt dt d chk ρ qs (acc ++ [y]) st2 else .stuck) else lcF pt dt d chk ρ qs acc) st) else .stuck
noncomputable def dLc (ds : Env → Mo Src) (pt : Pt) (dt : Env → Mo Bool) (d : Env → Mo PV) (vs : List Nat) : Env → Mo (List PV) := fun ρ => bnd (ds ρ) fun S => lcF pt dt d S.chk (wipeE ρ vs) S.l []
open Classical in
theorem lc_of {pt : Pt} {ds : Env → Mo Src} {vs : List Nat} {σ : L2.St} {H : Hp} {Q : VK} (t : tDL W E (dLc ds pt dt d vs) σ H Q) : tLc (tDI W E ds) (tDP W pt vs) (tDT W E0 dt) (tD W E0 d) vs σ H Q := by
  obtain ⟨ι, ρ, st, re, rs, g⟩ := t
  refine ⟨ι, ρ, st, re, rs, Good.imp (Good.bind g) fun S st1 ι1 H1 m1 r1 g1 J H1' mn r1' jo D hD => ?_⟩
  have re1 := (re.mono rs m1).mono r1 mn
  have hD0 : H D = none := none_back rs (m1.trans mn) r1'.some_ hD
  have hD1 : D ∉ ι1 := fun z => r1'.some_ D z hD
  have Dsz : ∀ (acc : List PV), acc.length < 16777216 → (acc.length : Nat) < sizeLine := fun acc h => by
    rw [sizeLine_eq]
    exact h
  let S0 := fun (i : Nat) (H' : Hp) => ∃ ι' st' acc av, RE W ι' H' ρ σ ∧ RS W ι' st' H' ∧ Mono ι1 H1' ι' H' ∧ D ∉ ι' ∧ H' D = some (.lst av) ∧ RVs W ι' H' av acc ∧ acc.length ≤ 16777216 ∧ Good W E ι1 H1' (lcF pt dt d S.chk (wipeE ρ vs) (S.l.drop i) acc st') (kL W H Q)
  refine ⟨fun i m H' => m = S.l.length - i ∧ S0 i H', ⟨_, rfl, ι1, st1, [], [], ?_, ?_, ?_, hD1, upd_same, .nil, Nat.zero_le _, ?_⟩, ?_⟩
  · exact re1.mono r1' (Mono.new hD)
  · exact r1'.other hD
  · exact Mono.new hD
  · exact g1.shift mn
  · rintro i m H' ⟨rfl, ι2, st2, acc, av, re2, r2, m2, hn2, he2, ra2, hz2, g2⟩
    by_cases hi : i < S.l.length
    · have hq : S.l[i]? = some S.l[i] := List.getElem?_eq_getElem hi
      rw [List.drop_eq_getElem_cons hi] at g2
      unfold lcF at g2
      obtain ⟨hc, g3⟩ := good_if g2
      obtain ⟨hgo, hy⟩ := (jo ι2 H' st2 m2 r2 hc i).1 _ hq
      refine .inr ⟨hgo, S0 (i + 1), fun H'' z => ⟨S.l.length - (i + 1), by omega, rfl, z⟩, fun x H'' y => ?_⟩
      obtain ⟨m3, r3, rv⟩ := hy x H'' y
      cases hp : Pt.go pt S.l[i] (wipeE ρ vs) with
      | none => rw [hp] at g3; exact g3.elim
      | some ρ1 =>
        rw [hp] at g3
        have re3 := re2.mono r2 m3
        refine ⟨ι2, wipeE ρ vs, st2, _, re3.wipe vs, r3, rv, ρ1, hp, fun σ' re' hw => ⟨hw.trans (wipe_idem vs vs fun _ z => z), ?_⟩⟩
        refine ⟨ι2, ρ1, st2, re', r3, Good.imp (Good.noxB g3 (m2.trans m3)) fun b st4 ι4 H4 m4 r4 g4 => ?_⟩
        have hn4 := (m3.trans m4).notin hn2 he2
        have he4 := lst_mono (m3.trans m4) hn2 he2
        have ra4 := rvs_mono r2 (m3.trans m4) _ _ ra2
        have re4 := re2.mono r2 (m3.trans m4)
        cases b with
        | false => exact ⟨ι4, st4, acc, av, re4, r4, m2.trans (m3.trans m4), hn4, he4, ra4, hz2, g4⟩
        | true =>
          show ite (true = true) _ _
          rw [if_pos rfl] at g4 ⊢
          refine ⟨ι4, ρ1, st4, re'.mono r3 m4, r4, Good.imp (Good.noxB g4 (m2.trans (m3.trans m4))) fun y st5 ι5 H5 m5 r5 g5 yv hyv => ?_⟩
          obtain ⟨hl, g6⟩ := good_if g5
          have hn5 := m5.notin hn4 he4
          have he5 := lst_mono m5 hn4 he4
          have ra5 := rvs_mono r4 m5 _ _ ra4
          refine ⟨av, he5, by rw [ra2.length]; exact Dsz acc hl, ?_⟩
          have mm : Mono ι1 H1' ι5 H5 := m2.trans ((m3.trans m4).trans m5)
          refine ⟨ι5, st5, acc ++ [y], av ++ [yv], ?_, r5.off hn5 he5, mm.off hD, hn5, upd_same, rvs_off he5 _ _ (ra5.append (.cons hyv .nil)), by rw [List.length_append, List.length_singleton]; exact hl, ?_⟩
          · have re5 := re4.mono r4 m5
            exact ⟨re5.len, fun i p h => let ⟨v, h1, h2⟩ := re5.at_ i p h; ⟨v, h1, rv_off he5 p v h2⟩⟩
          · exact g6
    · have hl : S.l.length ≤ i := by omega
      rw [List.drop_of_length_le hl] at g2
      unfold lcF at g2
      obtain ⟨hc, g3⟩ := good_if g2
      exact .inl ⟨(jo ι2 H' st2 m2 r2 hc i).2 hl, (g3.shift m2).ok r2 D av hD0 hn2 he2 ra2 hz2⟩

abbrev Bk (X : Cx) (scope : Scope) (P : Cx → Prop) : Prop := ∀ (s : Shared) (H : Hp) (C : Addr) (cl : List (Str × Addr)) (fp : List Addr), P (X.blk s H scope (compEnvC scope cl C X.env) fp)
theorem dl_lc {elt tg iter : Expr} {scope : Scope} {own : List (Str × Nat)} {ds : Env → Mo Src} {pt : Pt} (hi : DI X W k E tg iter ds) (ok : BlkOk X.N X.env.scope scope own) (hg : Bk X scope fun Y => DP Y W (own.map (·.2)) tg pt) (ht : Bk X scope fun Y => DTs Y W k E0 ifs dt)
    (he : Bk X scope fun Y => DE Y W k E0 elt d) (hs : ∀ x, foldedSetIterable iter X.env x = pure x := by intro _; rfl) : DL X W k E (.ListComp elt [⟨tg, iter, ifs, 0⟩] scope pos) (dLc ds pt dt d (own.map (·.2))) := ⟨fun o =>
  pe_imp (pe_lc o.hc o.nd (hi.run o) ok (fun s H C cl fp => (hg s H C cl fp).run o.hK o.nd o.hc) (fun s H C cl fp => (ht s H C cl fp).run (o.blk s H scope _ fp)) (fun s H C cl fp => (he s H C cl fp).run (o.blk s H scope _ fp)) hs) fun _ _ _ t => lc_of t⟩
/-- y = [..] on one line, y a local -/
theorem ds_setLc {i : Nat} {y : Str} {py spos : Pos} {elt tg iter : Expr} {scope : Scope} {own : List (Str × Nat)} {ds : Env → Mo Src} {pt : Pt} (hi : DI X W k E tg iter ds) (ok : BlkOk X.N X.env.scope scope own) (hg : Bk X scope fun Y => DP Y W (own.map (·.2)) tg pt) (ht : Bk X scope fun Y => DTs Y W k E0 ifs dt)
    (he : Bk X scope fun Y => DE Y W k E0 elt d) (hy : X.N[i]? = some y := by rfl) (hyl : X.env.scope.names.lookup y = some .local := by rfl) (hsw : swapsWith (.ListComp elt [⟨tg, iter, ifs, 0⟩] scope pos) (some (.Name y py)) spos.line X.env = pure true := by rfl)
    (hs : ∀ x, foldedSetIterable iter X.env x = pure x := by intro _; rfl) : DS X W k E (.Assign [.Name y py] (.ListComp elt [⟨tg, iter, ifs, 0⟩] scope pos) spos) (dSet i (fun ρ => bnd (dLc ds pt dt d (own.map (·.2)) ρ) layL)) := ⟨fun o =>
  ps_imp (ps_setLc o.hc o.nd hy hyl hsw (hi.run o) ok (fun s H C cl fp => (hg s H C cl fp).run o.hK o.nd o.hc) (fun s H C cl fp => (ht s H C cl fp).run (o.blk s H scope _ fp)) (fun s H C cl fp => (he s H C cl fp).run (o.blk s H scope _ fp)) hs) fun D σ H t => by
    obtain ⟨ι, ρ, st, re, rs, g⟩ := t
    exact lc_of (lay_of ⟨ι, ρ, st, re, rs, Good.imp (Good.bind g) fun q st1 ι1 H1 m1 r1 g1 v hv => g1.ok r1 _ ((re.mono rs m1).set hv i)⟩)⟩

/-! ### methods of lists -/
def MOk (W : Wd) (E : XK) (r : V → List V → Hp → VK → Prop) (f : PV → List PV → Mo PV) : Prop := ∀ (ι : List Addr) (st : Sto) (H : Hp) (x : V) (xs : List V) (q : PV) (l : List PV) (Q : VK), RS W ι st H → RV W ι H x q → RVs W ι H xs l → Good W E ι H (f q l st) (kQ W Q) → r x xs H Q
variable {name : Str} {apos cpos : Pos} {id : String} {r : V → List V → Hp → VK → Prop} {f : PV → List PV → Mo PV}
theorem de_lm (slot : Slot "list" name id) (hty : typeOf (.builtin id) = pure (.type "method_descriptor")) (hm : On X W k E → MtR X id r) (hf : MOk W E r f) (ho : DE X W k E a d) (ha : DA X W k E (e :: es) dl)
    (hbase : attributeBase a name X.env (eval a X.env) = eval a X.env := by rfl)
    (hfew : ((backTo cpos (starEach (e :: es) X.env)).all (fun x => !x.1) && (backToKw cpos (keywordEach [] X.env)).all (fun x => x.1.isSome) && decide ((e :: es).length + ([] : List Keyword).length + (if ([] : List Keyword).isEmpty then 0 else 1) < 30)) = true := by rfl)
    (hline : (apos.endLine == cpos.line) = true := by rfl) (hs : starEach (e :: es) X.env = (false, eval e X.env) :: starEach es X.env := by rfl) (hplain : (backTo cpos (starEach es X.env)).any (·.1) = false := by rfl) :
    DE X W k E (.Call (.Attribute a name apos) (e :: es) [] cpos) (fun ρ => bnd (d ρ) fun q => bnd (lstM q) fun _ => bnd (dl ρ) fun l => f q l) := ⟨fun o => pe_imp (pe_bm PySem.F.plainAttrs_list slot hty (hm o) (ho.run o) (ha.run o) hbase hfew hline hs hplain) fun σ H Q t => by
  obtain ⟨ι, ρ, st, re, rs, g⟩ := t
  refine ⟨ι, ρ, st, re, rs, Good.imp (Good.bind g) fun q st1 ι1 H1 m1 r1 g1 x hx => ?_⟩
  obtain ⟨p, vs, l, rfl, sq, rr, hz, g2⟩ := lst_of (α := Nat) r1 hx (Good.bind g1)
  refine ⟨.inl ⟨rfl, _, by rw [o.hK]; exact sq⟩, ι1, ρ, st1, re.mono rs m1, r1, Good.imp (Good.bind g2) fun ys st2 ι2 H2 m2 r2 g3 xs hxs => ?_⟩
  exact hf ι2 st2 H2 _ xs q ys Q r2 (rv_mono r1 m2 q _ hx) hxs g3⟩
theorem de_lm0 (slot : Slot "list" name id) (hty : typeOf (.builtin id) = pure (.type "method_descriptor")) (hm : On X W k E → MtR X id r) (hf : MOk W E r f) (ho : DE X W k E a d)
    (hbase : attributeBase a name X.env (eval a X.env) = eval a X.env := by rfl) (hline : (apos.endLine == cpos.line) = true := by rfl) :
    DE X W k E (.Call (.Attribute a name apos) [] [] cpos) (fun ρ => bnd (d ρ) fun q => bnd (lstM q) fun _ => f q []) := ⟨fun o => pe_imp (pe_bm0 PySem.F.plainAttrs_list slot hty (hm o) (ho.run o) hbase hline) fun σ H Q t => by
  obtain ⟨ι, ρ, st, re, rs, g⟩ := t
  refine ⟨ι, ρ, st, re, rs, Good.imp (Good.bind g) fun q st1 ι1 H1 m1 r1 g1 x hx => ?_⟩
  obtain ⟨p, vs, l, rfl, sq, rr, hz, g2⟩ := lst_of (α := Nat) r1 hx (Good.bind g1)
  exact ⟨.inl ⟨rfl, _, by rw [o.hK]; exact sq⟩, hf ι1 st1 H1 _ [] q [] Q r1 hx .nil g2⟩⟩
/-- a list that may be written -/
def lstW (q : PV) : Mo (Nat × List PV) := fun st => match q with
  | .loc n => match st[n]? with
    | some (.lst false l) => .ok (n, l) st
    | _ => .stuck
  | _ => .stuck
def setL (n : Nat) (l : List PV) (z : PV) : Mo PV := fun st => if l.length ≤ 16777216 then .ok z (st.set n (.lst false l)) else .stuck
theorem lw_of {ι : List Addr} {st : Sto} {H : Hp} {x : V} {q : PV} {kk : PV → Sto → List Addr → Hp → Prop} {ff : Nat × List PV → Mo PV} (rs : RS W ι st H) (hx : RV W ι H x q) (g : Good W E ι H (bnd (lstW q) ff st) kk) :
    ∃ a n vs l, x = .ref a ∧ ι[n]? = some a ∧ H a = some (.lst vs) ∧ RVs W ι H vs l ∧ l.length ≤ 16777216 ∧ Good W E ι H (ff (n, l) st) kk := by
  replace g := Good.bind g
  cases hx <;> try exact g.elim
  rename_i n a hn
  unfold lstW at g
  dsimp only at g
  cases q : st[n]? with
  | none => rw [q] at g; exact g.elim
  | some ob =>
    rw [q] at g
    have ro := rs.ob n ob a q hn
    cases ob with
    | dct _ _ => exact g.elim
    | sti _ => exact g.elim
    | lst lk l =>
      cases lk with
      | true => exact g.elim
      | false =>
        obtain ⟨vs, e, r, hz⟩ := ro
        exact ⟨a, n, vs, l, rfl, hn, e, r, hz, g.ok rs⟩
theorem set_fin {ι : List Addr} {st : Sto} {H : Hp} {n : Nat} {a : Addr} {l : List PV} {vs : List V} {z : PV} {v : V} {Q : VK} (g : Good W E ι H (setL n l z st) (kQ W Q)) (rs : RS W ι st H) (hn : ι[n]? = some a) (r : RVs W ι H vs l) (hv : RV W ι H v z) : Q v (upd H a (.lst vs)) := by
  obtain ⟨hz, g⟩ := good_if g
  exact good_upd g rs hn r hz v (rv_mono rs (Mono.mut (List.mem_of_getElem? hn)) _ _ hv)
def appM : PV → List PV → Mo PV
  | q, [y] => bnd (lstW q) fun nl => setL nl.1 (nl.2 ++ [y]) .non
  | _, _ => fail
theorem mok_app : MOk W E rAppend appM := by
  intro ι st H x xs q l Q rs hx hxs g
  cases hxs with
  | nil => exact g.elim
  | cons h1 t1 =>
    cases t1 with
    | cons _ _ => exact g.elim
    | nil =>
      obtain ⟨a, n, vs, l, rfl, hn, e, r, hz, g1⟩ := lw_of rs hx g
      have hl := (good_if g1).1
      rw [List.length_append, List.length_singleton] at hl
      exact ⟨a, vs, _, rfl, rfl, e, by rw [sizeLine_eq, r.length]; exact hl, set_fin g1 rs hn (r.append (.cons h1 .nil)) .non⟩
theorem de_append (ho : DE X W k E a d) (ha : DE X W k E e db) (hbase : attributeBase a "append" X.env (eval a X.env) = eval a X.env := by rfl)
    (hfew : ((backTo cpos (starEach [e] X.env)).all (fun x => !x.1) && (backToKw cpos (keywordEach [] X.env)).all (fun x => x.1.isSome) && decide ([e].length + ([] : List Keyword).length + (if ([] : List Keyword).isEmpty then 0 else 1) < 30)) = true := by rfl)
    (hline : (apos.endLine == cpos.line) = true := by rfl) (hs : starEach [e] X.env = (false, eval e X.env) :: starEach [] X.env := by rfl) :
    DE X W k E (.Call (.Attribute a "append" apos) [e] [] cpos) (fun ρ => bnd (d ρ) fun q => bnd (lstM q) fun _ => bnd (dCons db (fun _ st => .ok [] st) ρ) fun l => appM q l) :=
  de_lm PySem.F.slot_list_append PySem.F.type_list_append (fun o => mt_append) mok_app ho (da_cons ha da_nil hs) hbase hfew hline hs rfl
def popM : PV → List PV → Mo PV
  | q, [] => bnd (lstW q) fun nl => match nl.2[nl.2.length - 1]? with
    | some y => setL nl.1 nl.2.dropLast y
    | none => fail
  | _, _ => fail
theorem RVs.dropLast {ι : List Addr} {H : Hp} {vs : List V} {ps : List PV} (r : RVs W ι H vs ps) : RVs W ι H vs.dropLast ps.dropLast := by
  rw [List.dropLast_eq_take, List.dropLast_eq_take, r.length]
  exact r.take _
theorem mok_pop : MOk W E rPop popM := by
  intro ι st H x xs q l Q rs hx hxs g
  cases hxs with
  | cons _ _ => exact g.elim
  | nil =>
    obtain ⟨a, n, vs, l, rfl, hn, e, r, hz, g1⟩ := lw_of rs hx g
    dsimp only at g1
    cases hy : l[l.length - 1]? with
    | none => rw [hy] at g1; exact g1.elim
    | some y =>
      rw [hy] at g1
      obtain ⟨v, hv, rv⟩ := r.get hy
      exact ⟨a, vs, v, rfl, rfl, e, by rw [r.length]; exact hv, set_fin g1 rs hn r.dropLast rv⟩
theorem de_pop (ho : DE X W k E a d) (hbase : attributeBase a "pop" X.env (eval a X.env) = eval a X.env := by rfl) (hline : (apos.endLine == cpos.line) = true := by rfl) :
    DE X W k E (.Call (.Attribute a "pop" apos) [] [] cpos) (fun ρ => bnd (d ρ) fun q => bnd (lstM q) fun _ => popM q []) := de_lm0 PySem.F.slot_list_pop PySem.F.type_list_pop (fun o => mt_pop) mok_pop ho hbase hline
def popAtM : PV → List PV → Mo PV
  | q, [.int i] => bnd (lstW q) fun nl => if -9223372036854775808 ≤ i ∧ i < 9223372036854775808 then (match seqIndex? i nl.2.length with
    | some j => match nl.2[j]? with
      | some y => setL nl.1 (nl.2.eraseIdx j) y
      | none => fail
    | none => fail) else fail
  | _, _ => fail
theorem mok_popAt : MOk W E rPopAt popAtM := by
  intro ι st H x xs q l Q rs hx hxs g
  cases hxs with
  | nil => exact g.elim
  | cons h1 t1 =>
    cases t1 with
    | cons _ _ => cases h1 <;> exact g.elim
    | nil =>
      cases h1 <;> try exact g.elim
      obtain ⟨a, n, vs, l, rfl, hn, e, r, hz, g1⟩ := lw_of rs hx g
      rename_i i
      dsimp only at g1
      by_cases hc : -9223372036854775808 ≤ i ∧ i < 9223372036854775808
      · rw [if_pos hc] at g1
        cases hj : seqIndex? i l.length with
        | none => rw [hj] at g1; exact g1.elim
        | some j =>
          rw [hj] at g1
          dsimp only at g1
          cases hy : l[j]? with
          | none => rw [hy] at g1; exact g1.elim
          | some y =>
            rw [hy] at g1
            obtain ⟨v, hv, rv⟩ := r.get hy
            exact ⟨a, vs, i, j, v, rfl, rfl, e, by have := hc.1; omega, by have := hc.2; omega, by rw [r.length]; exact hj, hv, set_fin g1 rs hn (r.eraseIdx j) rv⟩
      · rw [if_neg hc] at g1
        exact g1.elim
theorem de_popAt (ho : DE X W k E a d) (ha : DE X W k E e db) (hbase : attributeBase a "pop" X.env (eval a X.env) = eval a X.env := by rfl)
    (hfew : ((backTo cpos (starEach [e] X.env)).all (fun x => !x.1) && (backToKw cpos (keywordEach [] X.env)).all (fun x => x.1.isSome) && decide ([e].length + ([] : List Keyword).length + (if ([] : List Keyword).isEmpty then 0 else 1) < 30)) = true := by rfl)
    (hline : (apos.endLine == cpos.line) = true := by rfl) (hs : starEach [e] X.env = (false, eval e X.env) :: starEach [] X.env := by rfl) :
    DE X W k E (.Call (.Attribute a "pop" apos) [e] [] cpos) (fun ρ => bnd (d ρ) fun q => bnd (lstM q) fun _ => bnd (dCons db (fun _ st => .ok [] st) ρ) fun l => popAtM q l) :=
  de_lm PySem.F.slot_list_pop PySem.F.type_list_pop (fun o => mt_popAt) mok_popAt ho (da_cons ha da_nil hs) hbase hfew hline hs rfl
end
end PD
/-! PD: functions, what they leave behind. -/
namespace PD
open PySem PySem.Spec PyProof.Rows L2
/-! ### places -/
mutual
/-- all places are below n -/
def cl (n : Nat) : PV → Bool
  | .loc m => decide (m < n)
  | .tup l => cls n l
  | .clo l => cls n l
  | _ => true
def cls (n : Nat) : List PV → Bool
  | [] => true
  | p :: l => cl n p && cls n l
end
def clks (n : Nat) : List (PV × PV) → Bool
  | [] => true
  | p :: l => cl n p.2 && clks n l
def clO (n : Nat) : Ob → Bool
  | .lst _ l => cls n l
  | .dct _ l => clks n l
  | .sti _ => true
mutual
def ren (f : Nat → Nat) : PV → PV
  | .loc m => .loc (f m)
  | .tup l => .tup (rens f l)
  | .non => .non
  | .bl b => .bl b
  | .int i => .int i
  | .str s => .str s
  | .fn j => .fn j
  | .kl l => .kl l
  | .clo l => .clo (rens f l)
  | .pst l => .pst l
def rens (f : Nat → Nat) : List PV → List PV
  | [] => []
  | p :: l => ren f p :: rens f l
end
def renks (f : Nat → Nat) : List (PV × PV) → List (PV × PV)
  | [] => []
  | p :: l => (p.1, ren f p.2) :: renks f l
def renO (f : Nat → Nat) : Ob → Ob
  | .lst k l => .lst k (rens f l)
  | .dct k l => .dct k (renks f l)
  | .sti l => .sti l
mutual
theorem ren_id {f : Nat → Nat} {n : Nat} (h : ∀ i, i < n → f i = i) : ∀ p : PV, cl n p = true → ren f p = p
  | .loc m, z => by unfold cl at z; unfold ren; rw [h m (of_decide_eq_true z)]
  | .tup l, z => by unfold cl at z; unfold ren; rw [rens_id h l z]
  | .non, _ => rfl
  | .bl _, _ => rfl
  | .int _, _ => rfl
  | .str _, _ => rfl
  | .fn _, _ => rfl
  | .kl _, _ => rfl
  | .clo l, z => by unfold cl at z; unfold ren; rw [rens_id h l z]
  | .pst _, _ => rfl
theorem rens_id {f : Nat → Nat} {n : Nat} (h : ∀ i, i < n → f i = i) : ∀ l : List PV, cls n l = true → rens f l = l
  | [], _ => rfl
  | p :: l, z => by
    unfold cls at z
    rw [Bool.and_eq_true] at z
    unfold rens
    rw [ren_id h p z.1, rens_id h l z.2]
end
theorem renks_id {f : Nat → Nat} {n : Nat} (h : ∀ i, i < n → f i = i) : ∀ l : List (PV × PV), clks n l = true → renks f l = l
  | [], _ => rfl
  | p :: l, z => by
    unfold clks at z
    rw [Bool.and_eq_true] at z
    unfold renks
    rw [ren_id h p.2 z.1, renks_id h l z.2]
theorem renO_id {f : Nat → Nat} {n : Nat} (h : ∀ i, i < n → f i = i) : ∀ o : Ob, clO n o = true → renO f o = o
  | .lst k l, z => by show Ob.lst k (rens f l) = _; rw [rens_id h l z]
  | .dct k l, z => by show Ob.dct k (renks f l) = _; rw [renks_id h l z]
  | .sti _, _ => rfl
theorem rens_length {f : Nat → Nat} : ∀ l : List PV, (rens f l).length = l.length
  | [] => rfl
  | p :: l => by unfold rens; rw [List.length_cons, List.length_cons, rens_length l]
mutual
theorem cl_mono {n m : Nat} (h : n ≤ m) : ∀ p : PV, cl n p = true → cl m p = true
  | .loc i, z => by unfold cl at z ⊢; exact decide_eq_true (Nat.lt_of_lt_of_le (of_decide_eq_true z) h)
  | .tup l, z => by unfold cl at z ⊢; exact cls_mono h l z
  | .non, _ => rfl
  | .bl _, _ => rfl
  | .int _, _ => rfl
  | .str _, _ => rfl
  | .fn _, _ => rfl
  | .kl _, _ => rfl
  | .clo l, z => by unfold cl at z ⊢; exact cls_mono h l z
  | .pst _, _ => rfl
theorem cls_mono {n m : Nat} (h : n ≤ m) : ∀ l : List PV, cls n l = true → cls m l = true
  | [], _ => rfl
  | p :: l, z => by
    unfold cls at z ⊢
    rw [Bool.and_eq_true] at z ⊢
    exact ⟨cl_mono h p z.1, cls_mono h l z.2⟩
end
theorem clks_mono {n m : Nat} (h : n ≤ m) : ∀ l : List (PV × PV), clks n l = true → clks m l = true
  | [], _ => rfl
  | p :: l, z => by
    unfold clks at z ⊢
    rw [Bool.and_eq_true] at z ⊢
    exact ⟨cl_mono h p.2 z.1, clks_mono h l z.2⟩
theorem clO_mono {n m : Nat} (h : n ≤ m) : ∀ o : Ob, clO n o = true → clO m o = true
  | .lst _ l, z => cls_mono h l z
  | .dct _ l, z => clks_mono h l z
  | .sti _, _ => rfl
section
variable {W : Wd} {ι ι' ι1 ι2 : List Addr} {H H' : Hp} {st : Sto}
mutual
theorem rv_cl : ∀ (p : PV) (v : V), RV W ι H v p → cl ι.length p = true
  | .non, _, .non => rfl
  | .bl _, _, .bl _ => rfl
  | .int _, _, .int _ => rfl
  | .str _, _, .str _ => rfl
  | .tup ps, _, .tup h r z => by unfold cl; exact rvs_cl ps _ r
  | .loc _, _, .loc h => by unfold cl; exact decide_eq_true (List.getElem?_eq_some_iff.mp h).1
  | .fn _, _, .fn h => rfl
  | .kl _, _, .kl _ _ => rfl
  | .clo ps, _, .clo h hc r => by unfold cl; exact rvs_cl ps _ r
  | .pst _, _, .pst _ _ _ => rfl
theorem rvs_cl : ∀ (ps : List PV) (vs : List V), RVs W ι H vs ps → cls ι.length ps = true
  | [], _, .nil => rfl
  | p :: ps, _, .cons h r => by unfold cls; rw [Bool.and_eq_true]; exact ⟨rv_cl p _ h, rvs_cl ps _ r⟩
end
theorem rks_cl : ∀ {ps : List (PV × PV)} {vs : List (Key × V)}, RKs W ι H vs ps → clks ι.length ps = true
  | _, _, .nil => rfl
  | _, _, .cons h r => by unfold clks; rw [Bool.and_eq_true]; exact ⟨rv_cl _ _ h, rks_cl r⟩
theorem RS.closed (rs : RS W ι st H) : ∀ o ∈ st, clO st.length o = true := fun o ho => by
  obtain ⟨n, hn, e⟩ := List.getElem_of_mem ho
  obtain ⟨a, ha, r⟩ := rs.addr (n := n) (o := o) (by rw [List.getElem?_eq_getElem hn, e])
  rw [← rs.len]
  cases o with
  | lst k l =>
    cases k with
    | false => obtain ⟨vs, _, r, _⟩ := r; exact rvs_cl _ _ r
    | true => obtain ⟨_, vs, _, r, _⟩ := r; exact rvs_cl _ _ r
  | dct k l =>
    cases k with
    | false => obtain ⟨vs, _, r⟩ := r; exact rks_cl r
    | true => obtain ⟨_, vs, _, r⟩ := r; exact rks_cl r
  | sti l => rfl
mutual
theorem rv_ren {f : Nat → Nat} {m : Nat} (hf : ∀ n, n < m → ι2[n]? = ι1[f n]?) : ∀ (p : PV) (v : V), cl m p = true → RV W ι1 H v (ren f p) → RV W ι2 H v p
  | .non, _, _, .non => .non
  | .bl _, _, _, .bl _ => .bl _
  | .int _, _, _, .int _ => .int _
  | .str _, _, _, .str _ => .str _
  | .tup ps, v, c, r => by
    unfold ren at r
    unfold cl at c
    cases r with
    | tup h r z => exact .tup h (rvs_ren hf ps _ c r) (by rw [rens_length] at z; exact z)
  | .loc n, v, c, r => by
    unfold ren at r
    unfold cl at c
    cases r with
    | loc h => exact .loc ((hf n (of_decide_eq_true c)).trans h)
  | .fn _, _, _, .fn h => .fn h
  | .kl _, _, _, .kl h z => .kl h z
  | .clo ps, v, c, r => by
    unfold ren at r
    unfold cl at c
    cases r with
    | clo h hc r => exact .clo h hc (rvs_ren hf ps _ c r)
  | .pst _, _, _, r => by
    unfold ren at r
    cases r with
    | pst h q e => exact .pst h q e
theorem rvs_ren {f : Nat → Nat} {m : Nat} (hf : ∀ n, n < m → ι2[n]? = ι1[f n]?) : ∀ (ps : List PV) (vs : List V), cls m ps = true → RVs W ι1 H vs (rens f ps) → RVs W ι2 H vs ps
  | [], _, _, r => by
    unfold rens at r
    cases r
    exact .nil
  | p :: ps, _, c, r => by
    unfold rens at r
    unfold cls at c
    rw [Bool.and_eq_true] at c
    cases r with
    | cons h r => exact .cons (rv_ren hf p _ c.1 h) (rvs_ren hf ps _ c.2 r)
end
theorem rks_ren {f : Nat → Nat} {m : Nat} (hf : ∀ n, n < m → ι2[n]? = ι1[f n]?) : ∀ (ps : List (PV × PV)) (vs : List (Key × V)), clks m ps = true → RKs W ι1 H vs (renks f ps) → RKs W ι2 H vs ps
  | [], _, _, r => by
    unfold renks at r
    cases r
    exact .nil
  | (k, p) :: ps, _, c, r => by
    unfold renks at r
    unfold clks at c
    rw [Bool.and_eq_true] at c
    dsimp only at r c
    generalize e : ren f p = z at r
    cases r with
    | cons h r => subst e; exact .cons (rv_ren hf p _ c.1 h) (rks_ren hf ps _ c.2 r)
theorem ro_ren {f : Nat → Nat} {m : Nat} (hf : ∀ n, n < m → ι2[n]? = ι1[f n]?) {a : Addr} : ∀ o : Ob, clO m o = true → RO W ι1 H a (renO f o) → RO W ι2 H a o
  | .lst k l, c, r => by
    cases k with
    | false => obtain ⟨vs, e, r, z⟩ := r; exact ⟨vs, e, rvs_ren hf _ _ c r, by rw [rens_length] at z; exact z⟩
    | true => obtain ⟨o, vs, e, r, z⟩ := r; exact ⟨o, vs, e, rvs_ren hf _ _ c r, by rw [rens_length] at z; exact z⟩
  | .dct k l, c, r => by
    cases k with
    | false => obtain ⟨vs, e, r⟩ := r; exact ⟨vs, e, rks_ren hf _ _ c r⟩
    | true => obtain ⟨o, vs, e, r⟩ := r; exact ⟨o, vs, e, rks_ren hf _ _ c r⟩
  | .sti l, c, r => r
end
/-- what is left of the store when nobody looks at the rest any more -/
structure Gc (n0 : Nat) (p1 : PV) (st1 : Sto) (p2 : PV) (st2 : Sto) (f : Nat → Nat) : Prop where
  old : ∀ i, i < n0 → f i = i
  lt : ∀ i, i < st2.length → f i < st1.length
  inj : ∀ i j, i < st2.length → j < st2.length → f i = f j → i = j
  le : n0 ≤ st2.length
  cp : cl st2.length p2 = true
  ep : p1 = ren f p2
  ob : ∀ i o, st2[i]? = some o → clO st2.length o = true ∧ st1[f i]? = some (renO f o)
theorem Gc.run {W : Wd} {ι ι1 : List Addr} {H H1 : Hp} {p1 p2 : PV} {st1 st2 : Sto} {f : Nat → Nat} {n0 : Nat} (g : Gc n0 p1 st1 p2 st2 f) (hn : ι.length = n0) (m : Mono ι H ι1 H1) (rs : RS W ι1 st1 H1) :
    ∃ ι2, Mono ι H ι2 H1 ∧ RS W ι2 st2 H1 ∧ ∀ v, RV W ι1 H1 v p1 → RV W ι2 H1 v p2 := by
  let ι2 := (List.range st2.length).map fun i => (ι1[f i]?).getD 0
  have hl2 : ι2.length = st2.length := by simp [ι2]
  have hget : ∀ n, n < st2.length → ι2[n]? = ι1[f n]? := fun n hn => by
    have h1 : f n < ι1.length := by rw [rs.len]; exact g.lt n hn
    show ((List.range st2.length).map fun i => (ι1[f i]?).getD 0)[n]? = _
    rw [List.getElem?_map, List.getElem?_range hn]
    show some ((ι1[f n]?).getD 0) = _
    rw [List.getElem?_eq_getElem h1]
    rfl
  have hback : ∀ a ∈ ι2, ∃ i, i < st2.length ∧ ι1[f i]? = some a := fun a ha => by
    obtain ⟨i, hi, e⟩ := List.getElem_of_mem ha
    refine ⟨i, by rw [← hl2]; exact hi, ?_⟩
    rw [← hget i (by rw [← hl2]; exact hi), List.getElem?_eq_getElem hi, e]
  refine ⟨ι2, ⟨fun n a h => ?_, fun a h h0 => ?_, m.keep⟩, ⟨hl2, ?_, fun n o a h1 h2 => ?_, rs.tb, rs.tl⟩, fun v h => ?_⟩
  · have hlt : n < n0 := by rw [← hn]; exact (List.getElem?_eq_some_iff.mp h).1
    rw [hget n (Nat.lt_of_lt_of_le hlt g.le), g.old n hlt]
    exact m.pre n a h
  · obtain ⟨i, _, e⟩ := hback a h
    exact m.fresh a (List.mem_of_getElem? e) h0
  · refine List.pairwise_iff_getElem.mpr fun i j hi hj hij e0 => ?_
    have e : ι2[i]? = ι2[j]? := by rw [List.getElem?_eq_getElem hi, List.getElem?_eq_getElem hj, e0]
    have hj' : j < st2.length := by rw [← hl2]; exact hj
    have hi' : i < st2.length := by omega
    rw [hget i hi', hget j hj'] at e
    have h1 : f i < ι1.length := by rw [rs.len]; exact g.lt i hi'
    have h2 : f j < ι1.length := by rw [rs.len]; exact g.lt j hj'
    rw [List.getElem?_eq_getElem h1, List.getElem?_eq_getElem h2] at e
    have e2 := (List.getElem_inj rs.nd).mp (Option.some.inj e)
    have := g.inj i j hi' hj' e2
    omega
  · have hlt : n < st2.length := (List.getElem?_eq_some_iff.mp h1).1
    obtain ⟨c, e⟩ := g.ob n o h1
    rw [hget n hlt] at h2
    exact ro_ren hget o c (rs.ob (f n) _ a e h2)
  · rw [g.ep] at h
    exact rv_ren hget p2 v g.cp h
def GcR (n0 : Nat) (p1 : PV) (st1 : Sto) (p2 : PV) (st2 : Sto) : Prop := (p1 = p2 ∧ st1 = st2) ∨ ∃ f, Gc n0 p1 st1 p2 st2 f
theorem gc_take {n0 : Nat} {p : PV} {st ex : Sto} (hn : n0 ≤ st.length) (hp : cl st.length p = true) (hs : ∀ o ∈ st, clO st.length o = true) : GcR n0 p (st ++ ex) p st := by
  refine .inr ⟨id, ⟨fun _ _ => rfl, fun i hi => ?_, fun _ _ _ _ h => h, hn, hp, (ren_id (fun _ _ => rfl) p hp).symm, fun i o h => ⟨hs o (List.mem_of_getElem? h), ?_⟩⟩⟩
  · rw [List.length_append]
    exact Nat.lt_of_lt_of_le hi (Nat.le_add_right _ _)
  · have e := renO_id (f := id) (fun _ _ => rfl) o (hs o (List.mem_of_getElem? h))
    rw [e]
    show (st ++ ex)[i]? = some o
    rw [List.getElem?_append_left (List.getElem?_eq_some_iff.mp h).1]
    exact h
/-- a new list comes back -/
theorem gc_new {n0 m : Nat} {st ex : Sto} {k : Bool} {l : List PV} (hn : n0 ≤ st.length) (hm : (st ++ ex)[m]? = some (.lst k l)) (hle : st.length ≤ m) (hp : cls st.length l = true) (hs : ∀ o ∈ st, clO st.length o = true) : GcR n0 (.loc m) (st ++ ex) (.loc st.length) (st ++ [.lst k l]) := by
  have hlen : (st ++ [Ob.lst k l]).length = st.length + 1 := by rw [List.length_append, List.length_singleton]
  have hid : ∀ i, i < st.length → (fun i => if i = st.length then m else i) i = i := fun i hi => if_neg (by omega)
  refine .inr ⟨fun i => if i = st.length then m else i, ⟨fun i hi => hid i (by omega), fun i hi => ?_, fun i j hi hj e => ?_, by omega, ?_, ?_, fun i o h => ?_⟩⟩
  · show (if i = st.length then m else i) < _
    have h2 := (List.getElem?_eq_some_iff.mp hm).1
    split
    · exact h2
    · rw [List.length_append]; omega
  · have e : (if i = st.length then m else i) = (if j = st.length then m else j) := e
    split at e <;> split at e <;> omega
  · unfold cl
    exact decide_eq_true (by omega)
  · unfold ren
    show _ = PV.loc (if st.length = st.length then m else st.length)
    rw [if_pos rfl]
  · by_cases hi : i < st.length
    · rw [List.getElem?_append_left hi] at h
      have c := hs o (List.mem_of_getElem? h)
      refine ⟨clO_mono (by omega) o c, ?_⟩
      rw [renO_id hid o c]
      show (st ++ ex)[if i = st.length then m else i]? = _
      rw [if_neg (by omega), List.getElem?_append_left hi]
      exact h
    · have e : i = st.length := by
        have := (List.getElem?_eq_some_iff.mp h).1
        omega
      subst e
      rw [List.getElem?_append_right (Nat.le_refl _), Nat.sub_self] at h
      have e : Ob.lst k l = o := Option.some.inj h
      subst e
      refine ⟨cls_mono (by omega) l hp, ?_⟩
      show (st ++ ex)[if st.length = st.length then m else st.length]? = _
      rw [if_pos rfl, hm]
      show _ = some (Ob.lst k (rens _ l))
      rw [rens_id hid l hp]
/-! ### functions -/
def spF (W : Wd) (n : Nat) (F : List PV → Mo PV) : Sp := fun vs H Q _ => ∃ ι ps st, RS W ι st H ∧ RVs W ι H vs ps ∧ ps.length = n ∧ Good W E0 ι H (F ps st) (kQ W Q)
structure DFn (P : Program) (w : World) (W : Wd) (base : Heap) (k : Nat) (f : Addr) (n : Nat) (F : List PV → Mo PV) : Prop where
  ex : ∃ (fd : FuncData) (ps : List Str), ps.length = n ∧ FnOk P w W.K W.mg base W.cx k f fd ps (spF W n F) ∧ Binds W.K fd ps []
  kp : PySem.W.keepIn W.K (.ref f) = true
/-- F2 tells what F1 tells -/
def Ref (n : Nat) (F1 F2 : List PV → Mo PV) : Prop := ∀ ps st p2 st2, ps.length = n → cls st.length ps = true → (∀ o ∈ st, clO st.length o = true) → F2 ps st = .ok p2 st2 → ∃ p1 st1, F1 ps st = .ok p1 st1 ∧ GcR st.length p1 st1 p2 st2
/-- never an exception -/
def NoX (F : List PV → Mo PV) : Prop := ∀ ps st c st2, F ps st ≠ .exc c st2
section
variable {P : Program} {w : World} {W : Wd} {base : Heap} {j k n : Nat} {f : Addr} {F F1 F2 : List PV → Mo PV}
theorem DFn.mono (h : DFn P w W base j f n F) (hk : j ≤ k) : DFn P w W base k f n F := by
  obtain ⟨fd, ps, h1, h2, h3⟩ := h.ex
  exact ⟨⟨fd, ps, h1, h2.mono hk, h3⟩, h.kp⟩
theorem DFn.ref (h : DFn P w W base k f n F1) (r : Ref n F1 F2) (hx : NoX F2) : DFn P w W base k f n F2 := by
  obtain ⟨fd, ps, h1, h2, h3⟩ := h.ex
  refine ⟨⟨fd, ps, h1, h2.imp fun vs H Q E z => ?_, h3⟩, h.kp⟩
  obtain ⟨ι, qs, st, rs, rr, hl, g⟩ := z
  refine ⟨ι, qs, st, rs, rr, hl, ?_⟩
  cases q : F2 qs st with
  | stuck => rw [q] at g; exact g.elim
  | exc c st2 => exact (hx _ _ _ _ q).elim
  | ok p2 st2 =>
    rw [q] at g
    obtain ⟨p1, st1, e, gc⟩ := r qs st p2 st2 hl (by rw [← rs.len]; exact rvs_cl _ _ rr) rs.closed q
    rw [e]
    rcases gc with ⟨rfl, rfl⟩ | ⟨ff, gc⟩
    · exact g
    · intro ι1 H1 m1 r1 v hv
      obtain ⟨ι2, m2, r2, hr⟩ := gc.run rs.len m1 r1
      exact g ι2 H1 m2 r2 v (hr v hv)
def retF : Fl → Mo PV
  | .rt p => fun st => .ok p st
  | .nx _ => fun st => .ok .non st
  | _ => fail
def start0 (m : Nat) (ps : List PV) : Env := ps.map some ++ List.replicate (m - ps.length) none
def bodyF (m : Nat) (d : Env → Mo Fl) : List PV → Mo PV := fun ps => bnd (d (start0 m ps)) retF
theorem RE.start {ι : List Addr} {H : Hp} {N : List Str} {vs : List V} {ps : List PV} (r : RVs W ι H vs ps) : RE W ι H (start0 N.length ps) (start N vs) := by
  unfold start0 L2.start
  refine ⟨?_, fun i p h => ?_⟩
  · rw [List.length_append, List.length_append, List.length_map, List.length_map, List.length_replicate, List.length_replicate, r.length]
  · have hl := r.length
    by_cases hi : i < ps.length
    · rw [List.getElem?_append_left (by rw [List.length_map]; exact hi), List.getElem?_map] at h
      rw [List.getElem?_append_left (by rw [List.length_map]; omega), List.getElem?_map]
      cases q : ps[i]? with
      | none => rw [q] at h; cases h
      | some z =>
        rw [q] at h
        cases h
        obtain ⟨v, h1, h2⟩ := r.get q
        exact ⟨v, by rw [h1]; rfl, h2⟩
    · rw [List.getElem?_append_right (by rw [List.length_map]; omega), List.getElem?_replicate] at h
      split at h <;> cases h
abbrev Body (P : Program) (w : World) (W : Wd) (base : Heap) (N : List Str) (qual : Str) (scope : Scope) (f : Addr) (k : Nat) (body : List Stmt) (d : Env → Mo Fl) : Prop :=
  ∀ (cdv : Value) (A : Around) (outer : List PySem.Env) (s : Shared) (H : Hp) (E : XK), DSs (cxOf W.cx P w W.K W.mg base N qual scope f cdv A outer s H E).nox W k E0 body d
/-- what the body promises -/
theorem body_ok {qual : Str} {body : List Stmt} {scope : Scope} {N ps : List Str} {d : Env → Mo Fl} {cdv : Value} {A : Around} {outer : List PySem.Env} {s : Shared} {H : Hp} {vs : List V} {Q : VK} {E : XK} (hcx : W.cx = CX0) (S : FnScope N ps scope)
    (hd : DSs (cxOf W.cx P w W.K W.mg base N qual scope f cdv A outer s H E).nox W k E0 body d) (hr : Room k (A.deeper (envOfC qual scope s.heap.objs.size f cdv))) (z : spF W ps.length (bodyF N.length d) vs H Q E) :
    ∃ t, PSs (cxOf W.cx P w W.K W.mg base N qual scope f cdv A outer s H E) body t ∧ t { nx := fun _ H' => Q .non H', rt := Q } (start N vs) H := by
  obtain ⟨ι, qs, st, rs, rr, hl, g⟩ := z
  refine ⟨_, PSs.nox (hd.run ⟨rfl, rfl, rfl, S.nd, hr, ?_, fun _ _ z => z.elim, ?_⟩), ι, start0 N.length qs, st, RE.start rr, rs, Good.imp (Good.bind g) fun fl st1 ι1 H1 m1 r1 g1 => ?_⟩
  · rw [hcx]; exact pass0
  · rw [hcx]; exact fun _ _ _ _ _ z => z
  · cases fl with
    | nx ρ' => exact fun σ' re => g1.ok r1 _ .non
    | rt p => exact g1.ok r1
    | bk ρ' => exact g1.elim
    | ct ρ' => exact g1.elim
theorem spF_len {ps : List Str} {F : List PV → Mo PV} : ∀ vs H Q E, spF W ps.length F vs H Q E → vs.length = ps.length := fun vs H Q E z => by
  obtain ⟨ι, qs, st, rs, rr, hl, g⟩ := z
  rw [rr.length, hl]
theorem fnOk_of {x qual : Str} {params : Arguments} {body : List Stmt} {scope : Scope} {fd : FuncData} {N ps : List Str} {d : Env → Mo Fl} (hcx : W.cx = CX0) (Fd : FunD W.K x qual params body scope [] [] f fd) (S : FnScope N ps scope)
    (hd : Body P w W base N qual scope f k body d) : FnOk P w W.K W.mg base W.cx (k + 1) f fd ps (spF W ps.length (bodyF N.length d)) :=
  Fd.ok S spF_len fun cdv A outer s H vs Q E hr z => body_ok hcx S (hd cdv A outer s H E) hr z
/-- .. the code object known -/
abbrev BodyT (P : Program) (w : World) (W : Wd) (base : Heap) (N : List Str) (qual : Str) (scope : Scope) (f c : Addr) (k : Nat) (body : List Stmt) (d : Env → Mo Fl) : Prop :=
  ∀ (A : Around) (outer : List PySem.Env) (s : Shared) (H : Hp) (E : XK), DSs (cxOf W.cx P w W.K W.mg base N qual scope f (.ref c) A outer s H E).nox W k E0 body d
theorem fnOk_ofT {x qual : Str} {params : Arguments} {body : List Stmt} {scope : Scope} {fd : FuncData} {N ps : List Str} {d : Env → Mo Fl} {at_ : He.Defn} (hcx : W.cx = CX0) (Fd : FunD W.K x qual params body scope [] [] (He.fAd W.K at_) fd) (S : FnScope N ps scope)
    (hd : BodyT P w W base N qual scope (He.fAd W.K at_) (He.cT W.K at_).1 k body d) : FnOk P w W.K W.mg base W.cx (k + 1) (He.fAd W.K at_) fd ps (spF W ps.length (bodyF N.length d)) := by
  obtain ⟨oc, od, dV, kV, doc, pm, an, cdv, ct, osl, rfl, lk, hcd, _, _⟩ := Fd.ex
  obtain ⟨c, rfl⟩ := He.codeIn_ref hcd
  have e : He.codeOf W.K at_ = c := He.codeOf_eq lk rfl
  refine fn_of lk hcd S spF_len fun A outer s H vs Q E hr z => body_ok hcx S ?_ hr z
  rw [← e]
  exact hd A outer s H E
theorem DFn.of {x qual : Str} {params : Arguments} {body : List Stmt} {scope : Scope} {fd : FuncData} {N ps : List Str} {d : Env → Mo Fl} (hcx : W.cx = CX0) (Fd : FunD W.K x qual params body scope [] [] f fd) (S : FnScope N ps scope) (hb : Binds W.K fd ps [])
    (hd : Body P w W base N qual scope f k body d) : DFn P w W base (k + 1) f ps.length (bodyF N.length d) := ⟨⟨fd, ps, rfl, fnOk_of hcx Fd S hd, hb⟩, Fd.kp⟩
theorem DFn.ofT {x qual : Str} {params : Arguments} {body : List Stmt} {scope : Scope} {fd : FuncData} {N ps : List Str} {d : Env → Mo Fl} {at_ : He.Defn} (hcx : W.cx = CX0) (Fd : FunD W.K x qual params body scope [] [] (He.fAd W.K at_) fd) (S : FnScope N ps scope) (hb : Binds W.K fd ps [])
    (hd : BodyT P w W base N qual scope (He.fAd W.K at_) (He.cT W.K at_).1 k body d) : DFn P w W base (k + 1) (He.fAd W.K at_) ps.length (bodyF N.length d) := ⟨⟨fd, ps, rfl, fnOk_ofT hcx Fd S hd, hb⟩, Fd.kp⟩
end
section
variable {X : Cx} {W : Wd} {k : Nat} {a b c e o : Expr} {es : List Expr} {pos p : Pos} {d : Env → Mo PV} {dl : Env → Mo (List PV)} {f : Addr} {n : Nat} {F : List PV → Mo PV} {x : Str}
def callM (n : Nat) (F : List PV → Mo PV) (ps : List PV) : Mo PV := fun st => if ps.length = n then F ps st else .stuck
theorem call_of {ι : List Addr} {st : Sto} {H : Hp} {vs : List V} {ps : List PV} {Q : VK} (rs : RS W ι st H) (rr : RVs W ι H vs ps) (g : Good W E0 ι H (callM n F ps st) (kQ W Q)) : spF W n F (vs ++ []) H Q E0 := by
  obtain ⟨hl, g⟩ := good_if g
  rw [List.append_nil]
  exact ⟨ι, ps, st, rs, rr, hl, g⟩
theorem de_call (Fd : DFn X.prog X.w W X.base k f n F) (hm : W.mg x = some (.ref f)) (ha : DA X W k E0 (e :: es) dl) (hg : Gl X x := by rfl) (hdb : (x == ("__debug__" : Str)) = false := by decide)
    (he : starEach (e :: es) X.env = (false, eval e X.env) :: starEach es X.env := by rfl) (hpl : (backTo pos (starEach es X.env)).any (·.1) = false := by rfl) : DE X W k E0 (.Call (.Name x p) (e :: es) [] pos) (fun ρ => bnd (dl ρ) (callM n F)) := ⟨fun o => by
  obtain ⟨fd, ps, h1, h2, h3⟩ := Fd.ex
  refine pe_imp (pe_call (by rw [o.hK, o.hM]; exact h2) o.room hg (by rw [o.hM]; exact hm) (by rw [o.hK]; exact Fd.kp) (by rw [o.hK]; exact h3) .nil o.ps (ha.run o) hdb he hpl) fun σ H Q t => ?_
  obtain ⟨ι, ρ, st, re, rs, g⟩ := t
  exact ⟨ι, ρ, st, re, rs, Good.imp (Good.bind g) fun ps st1 ι1 H1 m1 r1 g1 vs hvs => call_of r1 hvs g1⟩⟩
theorem de_call0 (Fd : DFn X.prog X.w W X.base k f n F) (hm : W.mg x = some (.ref f)) (hg : Gl X x := by rfl) (hdb : (x == ("__debug__" : Str)) = false := by decide) : DE X W k E0 (.Call (.Name x p) [] [] pos) (fun _ => callM n F []) := ⟨fun o => by
  obtain ⟨fd, ps, h1, h2, h3⟩ := Fd.ex
  refine pe_imp (pe_call0 (by rw [o.hK, o.hM]; exact h2) o.room hg (by rw [o.hM]; exact hm) (by rw [o.hK]; exact Fd.kp) (by rw [o.hK]; exact h3) .nil o.ps hdb) fun σ H Q t => ?_
  obtain ⟨ι, ρ, st, re, rs, g⟩ := t
  exact call_of rs .nil g⟩
/-- a def that a local name holds: tab tells what the defs that may stand there do -/
structure FnTab (P : Program) (w : World) (W : Wd) (base : Heap) (k : Nat) (n : Nat) (tab : Nat → Option (List PV → Mo PV)) : Prop where
  fn : ∀ j F f, tab j = some F → W.fa j = some f → DFn P w W base k f n F
theorem FnTab.mono {P : Program} {w : World} {W : Wd} {base : Heap} {j k n : Nat} {tab : Nat → Option (List PV → Mo PV)} (h : FnTab P w W base j n tab) (hk : j ≤ k) : FnTab P w W base k n tab := ⟨fun i F f h1 h2 => (h.fn i F f h1 h2).mono hk⟩
def fnM (tab : Nat → Option (List PV → Mo PV)) (q : PV) : Mo (List PV → Mo PV) := fun st => match q with
  | .fn j => match tab j with
    | some F => .ok F st
    | none => .stuck
  | _ => .stuck
theorem de_callV {i : Nat} {tab : Nat → Option (List PV → Mo PV)} (T : FnTab X.prog X.w W X.base k n tab) (ha : DA X W k E0 (e :: es) dl) (hN : X.N[i]? = some x := by rfl) (hv : Vis X.env.scope x := by first | exact Or.inl rfl | exact Or.inr (Or.inl rfl) | exact Or.inr (Or.inr rfl)) (hd : (x == ("__debug__" : Str)) = false := by decide)
    (hcd : (x == ("__classdict__" : Str)) = false := by decide) (he : starEach (e :: es) X.env = (false, eval e X.env) :: starEach es X.env := by rfl) (hpl : (backTo pos (starEach es X.env)).any (·.1) = false := by rfl) :
    DE X W k E0 (.Call (.Name x p) (e :: es) [] pos) (fun ρ => bnd (dVar i ρ) fun q => bnd (fnM tab q) fun F => bnd (dl ρ) (callM n F)) := ⟨fun o => ⟨fun pins s σ H Q I t => by
  obtain ⟨ι, ρ, st, re, rs, g⟩ := t
  have g0 := Good.bind g
  unfold dVar at g0
  cases q : ρ[i]? with
  | none => rw [q] at g0; exact g0.elim
  | some w =>
    cases w with
    | none => rw [q] at g0; exact g0.elim
    | some w =>
      rw [q] at g0
      obtain ⟨v, h1, h2⟩ := re.at_ i w q
      have g1 := Good.bind (g0.ok rs)
      cases h2 <;> try exact g1.elim
      rename_i j f hf
      unfold fnM at g1
      dsimp only at g1
      cases q2 : tab j with
      | none => rw [q2] at g1; exact g1.elim
      | some F =>
        rw [q2] at g1
        have Fd := T.fn j F f q2 hf
        obtain ⟨fd, ps, h3, h4, h5⟩ := Fd.ex
        refine (pe_callL (by rw [o.hK, o.hM]; exact h4) o.room hN hv (by rw [o.hK]; exact Fd.kp) (by rw [o.hK]; exact h5) .nil o.ps (ha.run o) hd hcd he hpl).run pins s σ H Q I ⟨h1, ι, ρ, st, re, rs, Good.imp (Good.bind (g1.ok rs)) fun ps st1 ι1 H1 m1 r1 g1 vs hvs => call_of r1 hvs g1⟩⟩⟩
end
end PD
/-! PD: generator expressions within all, any. -/
namespace PD
open PySem PySem.Spec PyProof.Rows L2 GxR
abbrev gxC (X : Cx) (A : Around) (s : Shared) (H : Hp) (cenv : PySem.Env) (fp : List Addr) (pn : List (Addr × Obj)) : Cx :=
  { X with A := A, s_0 := s, H_0 := H, env := cenv, outer := X.stack, stack := cenv :: X.stack, ex := fp, fn := fun _ => false, pn := pn, xe := fun _ _ => False }
theorem bare_set {gens : Array GenState} {g : Nat} {x : GenState} (h : AllBare gens) (hx : x.bare = true) : AllBare (gens.setIfInBounds g x) := by
  intro y hy
  obtain ⟨i, hi, rfl⟩ := Array.mem_iff_getElem.mp hy
  have hi' : i < gens.size := by simpa using hi
  rw [Array.getElem_setIfInBounds hi']
  split
  · exact hx
  · exact h _ (Array.getElem_mem _)
section
variable {X : Cx} {pins : List (Addr × Obj)} {σ : L2.St} {H : Hp} {s : Shared}
theorem gen_start {scope : Scope} {own : List (Str × Nat)} {fp : List Addr} {A' : Around} {code itv : Value} {h' : Heap} {go : Obj} {gs : GenState} {tk : Nat} (I : Inv X pins σ H s) (ok : BlkOk X.N X.env.scope scope own) (hcell : ∀ y ∈ scope.names, y.2 ≠ .cell) (hN : X.N.Nodup)
    (hfp : ∀ b ∈ fp, FpOk X pins H b ∧ b < s.heap.objs.size) (cenv : PySem.Env) (hce : cenv = genEnv scope (cloFrom X.env.cells scope.names []) s.heap.objs.size code builtinsNs X.env) (hA : A'.frames = some (cenv :: X.stack)) (hAh : A'.handled = none)
    (hn' : h'.Ns s.heap.objs.size (fun y => if y = (".0" : Str) then some itv else none)) (hs' : Heap.SameBut s.heap.objs.size (s.heap.push { cls := .type "frame", data := .dict #[] }) h') (hgo : ∀ v, go.data ≠ .cell v) (hgf : go.isFreed = false) (hgs : gs.bare = true) :
    Inv (gxC X A' s H cenv fp [(h'.objs.size, go)]) [] (wipe σ (own.map (·.2))) H { s with gens := s.gens.push gs, toks := tk, heap := h'.push go } := by
  have hsz : h'.objs.size = s.heap.objs.size + 1 := by rw [hs'.1, Heap.size_push]
  have kp : ∀ b o, s.heap.get? b = some o → (h'.push go).get? b = some o := fun b o e => Heap.get?_push_of_some _ (hs'.extBut b o (Nat.ne_of_lt (Heap.lt_size e)) (Heap.get?_push_of_some _ e))
  have hfree : ∀ y ∈ scope.names, y.2 = .free → ∃ c, X.env.cells.lookup y.1 = some c := fun y hy e => by
    rcases ok.free y hy e with k | k
    · exact I.ok.has _ (.inl k)
    · exact I.ok.has _ (.inr k)
  have hL : cenv.locals = s.heap.objs.size := by rw [hce]; rfl
  have hcl : cenv.cells = cloFrom X.env.cells scope.names [] := by rw [hce]; rfl
  have hsc : cenv.scope = scope := by rw [hce]; rfl
  have cm : ∀ {y c}, (y, c) ∈ cloFrom X.env.cells scope.names [] → X.env.cells.lookup y = some c ∧ c < s.heap.objs.size := fun {y c} hm => by
    rcases cloFrom_mem hm with hm | ⟨h1, rfl⟩
    · cases hm
    · obtain ⟨c, hc⟩ := hfree _ h1 rfl
      rw [hc]
      obtain ⟨w, z⟩ := I.cell _ _ hc
      exact ⟨rfl, z.lt⟩
  have mem : ∀ {y c}, cenv.cells.lookup y = some c → X.env.cells.lookup y = some c ∧ c < s.heap.objs.size := fun {y c} e => by
    rw [hcl] at e
    exact cm (PySem.mem_of_lookup e)
  have look : ∀ {y}, scope.names.lookup y = some .free → ∃ c, cenv.cells.lookup y = some c ∧ X.env.cells.lookup y = some c := fun {y} hl => by
    have hy : (y, NameKind.free) ∈ scope.names := PySem.mem_of_lookup hl
    obtain ⟨c', e'⟩ := mem_lookup (cloFrom_has (cells := X.env.cells) (acc := []) hy)
    exact ⟨c', by rw [hcl]; exact e', (cm (PySem.mem_of_lookup e')).1⟩
  have nocell : ∀ {y : Str}, scope.names.lookup y ≠ some .cell := fun {y} e => hcell _ (PySem.mem_of_lookup e) rfl
  have okB : (gxC X A' s H cenv fp [(h'.objs.size, go)]).Ok := by
    refine ⟨I.ok.mod, by show cenv.scope.kind = _; rw [hsc]; exact ok.kind, by show cenv.globals = _; rw [hce]; exact I.ok.glob, by show cenv.builtins = _; rw [hce]; rfl, by show s.heap.objs.size ≤ cenv.locals; rw [hL]; exact Nat.le_refl _,
      fun y z c e1 e2 => I.ok.inj y z c (mem e1).1 (mem e2).1, fun y hy => ?_, fun y c z e => (by cases z), fun _ => hAh, hA, .inr ⟨rfl, ?_⟩, fun b hb => ⟨?_, fun y c e z => ?_⟩, I.bs, Nat.le_trans I.ok.bsz I.sz, fun b o e hb => ?_, fun b hb z => ?_, I.stack, I.stkFree⟩
    · show ∃ c, cenv.cells.lookup y = some c
      have key : cenv.scope.names.lookup y = some .cell ∨ cenv.scope.names.lookup y = some .free := hy
      rw [hsc] at key
      rcases key with z | z
      · exact (nocell z).elim
      · obtain ⟨c, h1, _⟩ := look z
        exact ⟨c, h1⟩
    · show cenv.frame = some cenv.locals
      rw [hce]
      rfl
    · show b ≠ cenv.locals
      rw [hL]; exact Nat.ne_of_lt (hfp b hb).2
    · exact (hfp b hb).1.2.2.2.2.1 y c (mem e).1 z
    · rcases (hfp b hb).1.2.2.2.1 with z | z
      · exact I.ok.noex b o e z
      · exact absurd (Nat.lt_of_lt_of_le (Heap.lt_size e) (Nat.le_trans I.ok.bsz z)) (Nat.lt_irrefl _)
    · rcases List.mem_cons.mp (I.stkSub b z) with z | z
      · exact (hfp b hb).1.2.1 z
      · exact (hfp b hb).1.2.2.1 z
  refine ⟨okB, rfl, I.bare.push hgs, Un.kept kp, ⟨fun y => if y = (".0" : Str) then some itv else none, ?_, fun i y av e1 e2 e3 => ?_⟩, fun y c e => ?_, ?_, fun y c e => ?_, fun p hp => ?_, I.hok.kept kp, by rw [wipe_length]; exact I.len⟩
  · show Heap.Ns _ cenv.locals _
    rw [hL]
    exact hn'.push _
  · obtain ⟨e2, hne⟩ := wipe_some e2
    have e3 : Vis cenv.scope y := e3
    rw [hsc] at e3
    have hfr : scope.names.lookup y = some .free := by
      have no : ¬ (scope.names.lookup y = some .local) := fun e => by
        rcases ok.own _ (PySem.mem_of_lookup e) (.inl rfl) with e' | e'
        · obtain ⟨p, hp, hpy⟩ := List.mem_map.mp e'
          have e3 := ok.ix p hp
          have : p.1 = y := hpy
          rw [this] at e3
          exact hne (List.mem_map.mpr ⟨p, hp, nodup_ix hN e3 e1⟩)
        · exact e' (List.mem_of_getElem? e1)
      rcases e3 with z | z | z
      · exact (no z).elim
      · exact (nocell z).elim
      · exact z
    obtain ⟨m, hn, hl⟩ := I.loc
    have hvis : Vis X.env.scope y := (ok.free _ (PySem.mem_of_lookup hfr) rfl).elim (fun k => .inr (.inl k)) (fun k => .inr (.inr k))
    obtain ⟨w, r, q⟩ := hl i y av e1 e2 hvis
    have hk : cenv.kindOf y = some .free := by
      show cenv.scope.names.lookup y = _
      rw [hsc]; exact hfr
    refine ⟨w, r, .inr ⟨.inr hk, ?_⟩⟩
    obtain ⟨c, h1, h2⟩ := look hfr
    rcases q with ⟨k, _⟩ | ⟨_, c', e', z⟩
    · have k : X.env.scope.names.lookup y = some .local := k
      rcases ok.free _ (PySem.mem_of_lookup hfr) rfl with k' | k' <;> rw [show X.env.scope.names.lookup y = _ from k'] at k <;> cases k
    · rw [h2] at e'; cases e'
      exact ⟨c, h1, z.keeps kp⟩
  · obtain ⟨w, z⟩ := I.cell y c (mem e).1
    exact ⟨w, z.keeps kp⟩
  · show H cenv.locals = none
    rw [hL]; exact I.hok.fresh (Nat.le_refl _)
  · exact I.freeC y c (mem e).1
  · have hp : p ∈ [(h'.objs.size, go)] ++ [] := hp
    rw [List.append_nil, List.mem_singleton] at hp
    subst hp
    refine ⟨Heap.get?_push_size _ hgf, I.hok.fresh (by show s.heap.objs.size ≤ h'.objs.size; omega), ?_, fun z => ?_, hgo⟩
    · show h'.objs.size ≠ cenv.locals
      rw [hL]
      exact Nat.ne_of_gt (by omega)
    · have z : h'.objs.size ∈ frs X.stack := z
      rcases List.mem_cons.mp (I.stkSub _ z) with z | z
      · have := I.lt
        rw [← z] at this
        have h9 : h'.objs.size < s.heap.objs.size := this
        omega
      · exact I.nofs (by omega) z
end
/-! ### the protocol -/
def Woke (s s'' : Shared) : Prop := s''.heap = s.heap ∧ s''.os = s.os ∧ AllBare s''.gens
def ProtB (sv : Bool) (a : Addr) (g : Nat) (K : Bool → Shared → Prop) : Protocol := fun _ _ v s kap =>
  ∃ c : Bool, v = .bool c ∧ s.heap.IsGen a g ∧ s.heap.NoLimit ∧ AllBare s.gens ∧ if c = sv then ∀ s'', Woke s s'' → K sv s'' else ∀ s'', Woke s s'' → kap (.send .none) s''
def EndB (sv : Bool) (K : Bool → Shared → Prop) : Shared → Prop := fun s => AllBare s.gens ∧ ∀ s'', (∀ b o, s.heap.get? b = some o → s''.heap.get? b = some o) → s''.os = s.os → AllBare s''.gens → K (!sv) s''
theorem inv_woke {X : Cx} {pins : List (Addr × Obj)} {σ : L2.St} {H : Hp} {s s'' : Shared} (I : Inv X pins σ H s) (h : Woke s s'') : Inv X pins σ H s'' :=
  ⟨I.ok, h.2.1.trans I.os, h.2.2, by rw [h.1]; exact I.base, by rw [h.1]; exact I.loc, by rw [h.1]; exact I.cell, I.free, I.freeC, by rw [h.1]; exact I.pin, by rw [h.1]; exact I.hok, I.len⟩
section
variable {prog : Program} {w : World} {A : Around} {K : Bool → Shared → Prop} {a : Addr} {g : Nat}
/-- all, any walk the generator -/
theorem loop_all (hh : A.handled = none) (hroom : A.in1.depth < recursionLimit) {R : Result → Shared → Prop} (hK : ∀ c s, K c s → R (.ok (.ret (.bool c))) s) : ∀ (n : Nat) (s : Shared) (gs : GenState), s.gens[g]? = some gs → s.heap.IsGen a g → s.heap.NoLimit → AllBare s.gens →
    (∀ s'', Woke s s'' → gs.Goes (model prog w) A.in1.in1 (fun _ _ r s₁ => r = .ok .next ∧ EndB false K s₁) (ProtB false a g K) n (.send .none) s'') → codeAny (model prog w) A (.builtin "all.loop" ⟨[.ref a], []⟩) R s := by
  intro n
  induction n with
  | zero =>
    intro s gs hgs hg hl hb hgo
    refine codeAny_builtin F.entry_all_loop ?_
    rw [Around.under_plainId F.plain_all_loop _]
    show wpAny _ A.in1 (pyNext (.ref a) >>= _) _ _ s
    have hlt : g < s.gens.size := (Array.getElem?_eq_some_iff.mp hgs).1
    refine wpAny_bind (GenW.wpAny_gsz (n := g + 1) hlt (wpAny_pyNext_genexpQ (P := fun _ _ s₁ => EndB false K s₁) hh hl hroom hg hgs (hgo _ ⟨rfl, rfl, bare_set hb rfl⟩) (fun v s₁ gs' hbr hv hsz => ?_) fun s₁ hP h' hk hsz => ?_))
    · obtain ⟨c, rfl, hg1, hl1, hb1, hc⟩ := hv
      refine wpAny_bind (wpAny_holding (wpAny_truthy_bool ?_))
      refine wpAny_bind (wpAny_letGo ?_)
      cases c with
      | true =>
        rw [if_neg (by decide)] at hc
        exact (hc s₁ ⟨rfl, rfl, hb1⟩).elim
      | false =>
        rw [if_pos rfl] at hc
        simp only [Bool.false_eq_true, if_false]
        refine wpAny_bind (wpAny_rule (wpAny_pure ?_))
        exact hK _ _ (hc _ ⟨rfl, rfl, bare_set hb1 hbr⟩)
    · refine wpAny_bind (wpAny_rule (wpAny_pure ?_))
      exact hK _ _ (hP.2 _ hk rfl (bare_set hP.1 rfl))
  | succ n ih =>
    intro s gs hgs hg hl hb hgo
    refine codeAny_builtin F.entry_all_loop ?_
    rw [Around.under_plainId F.plain_all_loop _]
    show wpAny _ A.in1 (pyNext (.ref a) >>= _) _ _ s
    have hlt : g < s.gens.size := (Array.getElem?_eq_some_iff.mp hgs).1
    refine wpAny_bind (GenW.wpAny_gsz (n := g + 1) hlt (wpAny_pyNext_genexpQ (P := fun _ _ s₁ => EndB false K s₁) hh hl hroom hg hgs (hgo _ ⟨rfl, rfl, bare_set hb rfl⟩) (fun v s₁ gs' hbr hv hsz => ?_) fun s₁ hP h' hk hsz => ?_))
    · obtain ⟨c, rfl, hg1, hl1, hb1, hc⟩ := hv
      refine wpAny_bind (wpAny_holding (wpAny_truthy_bool ?_))
      refine wpAny_bind (wpAny_letGo ?_)
      cases c with
      | true =>
        rw [if_neg (by decide)] at hc
        simp only [if_true]
        have hsz' : g < s₁.gens.size := by rw [GenW.setGen_size] at hsz; exact hsz
        exact wpAny_pure ⟨plainId_quiet F.plain_all_loop _, ih _ gs' (by show (s₁.gens.setIfInBounds g gs')[g]? = _; exact Array.getElem?_setIfInBounds_self_of_lt hsz') hg1 hl1 (bare_set hb1 hbr) fun s'' hw => hc s'' ⟨hw.1, hw.2.1, hw.2.2⟩⟩
      | false =>
        rw [if_pos rfl] at hc
        simp only [Bool.false_eq_true, if_false]
        refine wpAny_bind (wpAny_rule (wpAny_pure ?_))
        exact hK _ _ (hc _ ⟨rfl, rfl, bare_set hb1 hbr⟩)
    · refine wpAny_bind (wpAny_rule (wpAny_pure ?_))
      exact hK _ _ (hP.2 _ hk rfl (bare_set hP.1 rfl))
theorem loop_any (hh : A.handled = none) (hroom : A.in1.depth < recursionLimit) {R : Result → Shared → Prop} (hK : ∀ c s, K c s → R (.ok (.ret (.bool c))) s) : ∀ (n : Nat) (s : Shared) (gs : GenState), s.gens[g]? = some gs → s.heap.IsGen a g → s.heap.NoLimit → AllBare s.gens →
    (∀ s'', Woke s s'' → gs.Goes (model prog w) A.in1.in1 (fun _ _ r s₁ => r = .ok .next ∧ EndB true K s₁) (ProtB true a g K) n (.send .none) s'') → codeAny (model prog w) A (.builtin "any.loop" ⟨[.ref a], []⟩) R s := by
  intro n
  induction n with
  | zero =>
    intro s gs hgs hg hl hb hgo
    refine codeAny_builtin F.entry_any_loop ?_
    rw [Around.under_plainId F.plain_any_loop _]
    show wpAny _ A.in1 (pyNext (.ref a) >>= _) _ _ s
    have hlt : g < s.gens.size := (Array.getElem?_eq_some_iff.mp hgs).1
    refine wpAny_bind (GenW.wpAny_gsz (n := g + 1) hlt (wpAny_pyNext_genexpQ (P := fun _ _ s₁ => EndB true K s₁) hh hl hroom hg hgs (hgo _ ⟨rfl, rfl, bare_set hb rfl⟩) (fun v s₁ gs' hbr hv hsz => ?_) fun s₁ hP h' hk hsz => ?_))
    · obtain ⟨c, rfl, hg1, hl1, hb1, hc⟩ := hv
      refine wpAny_bind (wpAny_holding (wpAny_truthy_bool ?_))
      refine wpAny_bind (wpAny_letGo ?_)
      cases c with
      | false =>
        rw [if_neg (by decide)] at hc
        exact (hc s₁ ⟨rfl, rfl, hb1⟩).elim
      | true =>
        rw [if_pos rfl] at hc
        simp only [if_true]
        refine wpAny_bind (wpAny_rule (wpAny_pure ?_))
        exact hK _ _ (hc _ ⟨rfl, rfl, bare_set hb1 hbr⟩)
    · refine wpAny_bind (wpAny_rule (wpAny_pure ?_))
      exact hK _ _ (hP.2 _ hk rfl (bare_set hP.1 rfl))
  | succ n ih =>
    intro s gs hgs hg hl hb hgo
    refine codeAny_builtin F.entry_any_loop ?_
    rw [Around.under_plainId F.plain_any_loop _]
    show wpAny _ A.in1 (pyNext (.ref a) >>= _) _ _ s
    have hlt : g < s.gens.size := (Array.getElem?_eq_some_iff.mp hgs).1
    refine wpAny_bind (GenW.wpAny_gsz (n := g + 1) hlt (wpAny_pyNext_genexpQ (P := fun _ _ s₁ => EndB true K s₁) hh hl hroom hg hgs (hgo _ ⟨rfl, rfl, bare_set hb rfl⟩) (fun v s₁ gs' hbr hv hsz => ?_) fun s₁ hP h' hk hsz => ?_))
    · obtain ⟨c, rfl, hg1, hl1, hb1, hc⟩ := hv
      refine wpAny_bind (wpAny_holding (wpAny_truthy_bool ?_))
      refine wpAny_bind (wpAny_letGo ?_)
      cases c with
      | false =>
        rw [if_neg (by decide)] at hc
        simp only [Bool.false_eq_true, if_false]
        have hsz' : g < s₁.gens.size := by rw [GenW.setGen_size] at hsz; exact hsz
        exact wpAny_pure ⟨plainId_quiet F.plain_any_loop _, ih _ gs' (by show (s₁.gens.setIfInBounds g gs')[g]? = _; exact Array.getElem?_setIfInBounds_self_of_lt hsz') hg1 hl1 (bare_set hb1 hbr) fun s'' hw => hc s'' ⟨hw.1, hw.2.1, hw.2.2⟩⟩
      | true =>
        rw [if_pos rfl] at hc
        simp only [if_true]
        refine wpAny_bind (wpAny_rule (wpAny_pure ?_))
        exact hK _ _ (hc _ ⟨rfl, rfl, bare_set hb1 hbr⟩)
    · refine wpAny_bind (wpAny_rule (wpAny_pure ?_))
      exact hK _ _ (hP.2 _ hk rfl (bare_set hP.1 rfl))

end
/-! ### the generator's own turns -/
/-- all (sv = false), any (sv = true) -/
def tGx (sv : Bool) (P : Addr) (wi : TI) (g : TG) (tt : TT) (te : TE) (vs : List Nat) : TE := fun σ H Q => wi σ H fun J H1 => TabG H1 P ∧ ∀ H2, Tabbed P H1 H2 → (∀ ps, H1 P = some (.tbl ps) → ∃ more, H2 P = some (.tbl (ps ++ more))) → ∃ W : Nat → Nat → Hp → Prop, (∃ m, W 0 m H2) ∧ ∀ i m H, W i m H →
  (J.stop i H ∧ Q (.bl (!sv)) H) ∨ (J.go i H ∧ ∃ Nx : Hp → Prop, (∀ H', Nx H' → ∃ m', m' < m ∧ W (i + 1) m' H') ∧ ∀ x H', J.yld i H x H' → g x (wipe σ vs) H' fun σ2 H2 => wipe σ2 vs = wipe σ vs ∧ tt σ2 H2 fun b H3 =>
    if b = true then te σ2 H3 fun y H4 => ∃ c, y = .bl c ∧ (if c = sv then Q (.bl sv) H4 else Nx H4) else Nx H3)
section
variable {Y : Cx} {a : Addr} {gn : Nat} {K : Bool → Shared → Prop}
theorem gen_loop {A : Around} {sv : Bool} {elt tg iter : Expr} {ifs : List Expr} {scope : Scope} {pos : Pos} {it : Addr} {tn : Nat → Heap → Prop} {J : It} {g : TG} {tt : TT} {te : TE} {σ : L2.St} {vs : List Nat} {Q : VK} {W : Nat → Nat → Hp → Prop}
    (hYA : Y.A = A.over (.compLoop (.GeneratorExp elt [⟨tg, iter, ifs, 0⟩] scope pos) 0 (.ref it) .none Y.env) []) (hc : Y.calm = true) (hco : Y.env.scope.isCoroutine = false) (hxe : Y.xe = fun _ _ => False) (T : Turn Y.prog Y.w Y.K tg J Y.ex it tn) (hgen : ∀ h : Heap, (∀ p ∈ Y.pn, h.get? p.1 = some p.2) → h.IsGen a gn) (hpx : ∀ p ∈ Y.pn, ∀ b ∈ Y.ex, p.1 ≠ b)
    (pg : PG Y tg g) (pt : PTs Y ifs tt) (pe : PE Y elt te)
    (turn : ∀ i m H, W i m H → (J.stop i H ∧ Q (.bl (!sv)) H) ∨ (J.go i H ∧ ∃ Nx : Hp → Prop, (∀ H', Nx H' → ∃ m', m' < m ∧ W (i + 1) m' H') ∧ ∀ x H', J.yld i H x H' → g x (wipe σ vs) H' fun σ2 H2 => wipe σ2 vs = wipe σ vs ∧ tt σ2 H2 fun b H3 =>
      if b = true then te σ2 H3 fun y H4 => ∃ c, y = .bl c ∧ (if c = sv then Q (.bl sv) H4 else Nx H4) else Nx H3))
    (fin : ∀ c H s, Inv Y [] (wipe σ vs) H s → Q (.bl c) H → K c s) :
    ∀ (m N i : Nat) (H : Hp) (s₀ s : Shared), m < N → Inv Y [] (wipe σ vs) H s → tn i s.heap → (∀ b ∈ Y.ex, H b = none) → W i m H →
      Seg (model Y.prog Y.w) A (fun _ _ r s₁ => r = .ok .next ∧ EndB sv K s₁) (ProtB sv a gn K) N s₀ (.compLoop (.GeneratorExp elt [⟨tg, iter, ifs, 0⟩] scope pos) 0 (.ref it) .none Y.env)
        ((model Y.prog Y.w).den (.compLoop (.GeneratorExp elt [⟨tg, iter, ifs, 0⟩] scope pos) 0 (.ref it) .none Y.env)) [] s := by
  have stat : ∀ {σ' : L2.St} {H' : Hp} {s' : Shared}, Inv Y [] σ' H' s' → (∀ b ∈ Y.ex, H' b = none) → ∀ b ∈ Y.ex, FpOk Y [] H' b := fun {σ' H' s'} I' hn b hb =>
    ⟨hn b hb, (I'.ok.exf b hb).1, I'.ok.exfs b hb, .inl hb, fun x c e => (I'.ok.exf b hb).2 x c e, fun p hp => hpx p (by simpa using hp) b hb⟩
  intro m
  induction m using Nat.strongRecOn with
  | _ m ih =>
    intro N i H s₀ s hN I st hf w
    show Seg _ A _ _ _ s₀ _ ((compTurn (.GeneratorExp elt [⟨tg, iter, ifs, 0⟩] scope pos) 0 (.ref it) .none Y.env).onRaise (leaving Y.env)) [] s
    rw [compTurn_gen, Sem.onRaise_eq_wrap]
    refine seg_bind_wrap (wpAny_standAt ?_)
    rcases turn i m H w with ⟨stop, q⟩ | ⟨go, Nx, hNx, step⟩
    · have td := T.done Y rfl rfl rfl hc i [] s _ H (fun _ _ => False) I (stat I hf) st stop
      rw [hYA] at td
      refine seg_bind_wrap (thnF td fun r s6 ⟨hr, I6⟩ => ?_)
      subst hr
      refine seg_end (.ok .next) ⟨rfl, I6.bare, fun s'' hk ho hb => fin _ _ _ ?_ q⟩
      obtain ⟨h', g', d', t', o'⟩ := s''
      have e : o' = s6.os := ho
      subst e
      refine I6.step (g' := g') (t' := t') (d' := d') (ch := []) (fun b hb => absurd hb (by simp)) (fun b o _ _ _ e n => hk b o e) (fun b o _ _ _ e n => ⟨o.slots, hk b o e⟩) (fun _ _ _ _ n => n) (fun b o _ e => ⟨o, hk b o e⟩) (fun _ _ e => e) (fun _ _ _ e => e) (fun b ps e => ⟨#[], by rw [e]; simp⟩) (fun mm hn => ?_) (fun b u e => ?_) hb
      · obtain ⟨ob, es, ep, ho, r⟩ := hn
        exact ⟨ob, es, ep, hk _ ob ho, r⟩
      · exact (I6.hok.kept hk) b u e
    · have ti := T.item Y rfl rfl rfl hc i [] s _ H (fun _ _ => False) I (stat I hf) st go
      rw [hYA] at ti
      refine seg_bind_wrap (thnF ti fun r s6 ⟨u, hr, h6⟩ => ?_)
      subst hr
      refine seg_bind_wrap (thnF h6 fun _ s7 ⟨x, H7, I7, r7, y7, st7, n7⟩ => ?_)
      have I7' := I7.pinned (stat I7 n7) (T.obj _ _ st7)
      have g7 := pg.run _ s7 _ H7 x u _ I7' r7 (step x H7 y7)
      rw [hYA, hxe] at g7
      refine seg_bind_wrap (thnF g7 fun _ s8 ⟨σ8, H8, I8, hw8, q8⟩ => ?_)
      have t8 := pt.run _ s8 σ8 H8 _ I8 q8
      rw [hYA, hxe] at t8
      refine seg_bind_wrap (thnF t8 fun b s9 ⟨H9, I9, q9⟩ => ?_)
      have back : ∀ {s' : Shared} {H' : Hp}, Inv Y ([] ++ pinsAt Y.ex s7.heap) σ8 H' s' → Inv Y [] (wipe σ vs) H' s' ∧ tn (i + 1) s'.heap ∧ ∀ b ∈ Y.ex, H' b = none := fun {s' H'} I' => by
        have pin' : ∀ b ∈ Y.ex, ∀ o, s7.heap.get? b = some o → s'.heap.get? b = some o ∧ H' b = none := fun b hb o e =>
          let z := I'.pin (b, o) (List.mem_append_right _ (List.mem_append_right _ (mem_pinsAt hb e)))
          ⟨z.1, z.2.1⟩
        have hl : (wipe σ vs).length = σ8.length := by rw [← hw8, wipe_length]
        refine ⟨(I'.unpinned (pins := [])).weak hl (fun j v e => ?_), T.keep _ _ _ st7 fun b hb o e => (pin' b hb o e).1, fun b hb => ?_⟩
        · rw [← hw8] at e
          exact (wipe_some e).1
        · obtain ⟨o, e, _⟩ := T.obj _ _ st7 b hb
          exact (pin' b hb o e).2
      cases b with
      | false =>
        simp only [Bool.false_eq_true, if_false] at q9 ⊢
        obtain ⟨m', hm, w'⟩ := hNx _ q9
        obtain ⟨I10, st10, f10⟩ := back I9
        exact seg_again rfl (ih m' hm N (i + 1) H9 s₀ s9 (by omega) I10 st10 f10 w')
      | true =>
        simp only [if_true] at q9 ⊢
        have hy : ∀ v, yieldOut Y.env v = yieldValue v := fun v => by simp only [yieldOut, hco, Bool.false_eq_true, if_false]
        simp only [hy]
        rw [Sem.bind_eq_wrap', Sem.bind_eq_wrap', Sem.wrap_wrap, Sem.wrap_wrap]
        have e9 := pe.run _ s9 σ8 H9 _ I9 q9
        rw [hYA, hxe] at e9
        refine seg_wrap (thnF e9 fun z s10 ⟨yv, H10, I10, r10, c, hyc, q10⟩ => ?_)
        subst hyc
        cases r10
        obtain ⟨I11, st11, f11⟩ := back I10
        cases N with
        | zero => exact absurd hN (Nat.not_lt_zero _)
        | succ N =>
          refine seg_at (seg_yield rfl rfl rfl ⟨c, rfl, hgen _ fun p hp => (I11.pin p (List.mem_append_left _ hp)).1, I11.nolimit, I11.bare, ?_⟩)
          by_cases hcs : c = sv
          · rw [if_pos hcs] at q10 ⊢
            exact fun s'' hw => fin _ _ _ (inv_woke I11 hw) q10
          · rw [if_neg hcs] at q10 ⊢
            obtain ⟨m', hm, w'⟩ := hNx _ q10
            intro s'' hw
            have Iw := inv_woke I11 hw
            exact seg_again rfl (ih m' hm N (i + 1) H10 s'' s'' (by omega) Iw (by rw [hw.1]; exact st11) f11 w')
end

/-! ### the call -/
theorem over_gen {A : Around} {elt : Expr} {gens : List Comprehension} {scope : Scope} {pos : Pos} {it acc : Value} {env : PySem.Env} : A.over (.compLoop (.GeneratorExp elt gens scope pos) 0 it acc env) [] = ⟨A.handled, A.depth + 1, A.frames.map (env :: ·), A.guards, A.units + 3⟩ := by
  obtain ⟨hd, d, fr, gs, u⟩ := A
  cases fr <;> cases gs <;> simp [Around.over, marksOver, frameCount, unitsOf, envsOf, guardsOf, pushEnvs, pushGuards, Code.envs, Code.env?, Code.isFrame, Code.guards, Code.isGuard, Code.weight, Code.frames, Code.isCreation, Code.isCaller, Code.cUnits]
def GxOk (X : Cx) (scope : Scope) (k : Nat) (p : Cx → Prop) : Prop := ∀ (A' : Around) (s : Shared) (H : Hp) (C : Addr) (code : Value) (fp : List Addr) (pn : List (Addr × Obj)), Room k A' → p (gxC X A' s H (genEnv scope (cloFrom X.env.cells scope.names []) C code builtinsNs X.env) fp pn)
section
variable {X : Cx} {pins : List (Addr × Obj)} {σ : L2.St} {H : Hp} {s : Shared}
theorem eval_gen {sv : Bool} {c P : Addr} {elt tg iter : Expr} {ifs : List Expr} {scope : Scope} {own : List (Str × Nat)} {gpos : Pos} {wi : TI} {g : TG} {tt : TT} {te : TE} {k : Nat} {Q : VK} {Q' : Value → Shared → Prop}
    (hr : Room (k + 1) X.A) (hc : X.calm = true) (hN : X.N.Nodup) (TB : TabB X.base X.mg c P) (hcode : X.env.code = .ref c) (ok : BlkOk X.N X.env.scope scope own) (hco : scope.isCoroutine = false) (hcell : ∀ y ∈ scope.names, y.2 ≠ .cell) (hdot : scope.names.lookup (".0" : Str) = some NameKind.local)
    (hi : PI X tg iter wi) (pg : GxOk X scope k fun Y => PG Y tg g) (pt : GxOk X scope k fun Y => PTs Y ifs tt) (pe : GxOk X scope k fun Y => PE Y elt te) (hs : ∀ v, genFold iter X.env v = pure v) (I : Inv X pins σ H s) (h : tGx sv P wi g tt te (own.map (·.2)) σ H Q)
    (hQ : ∀ a gn n s5 gs, s5.gens[gn]? = some gs → s5.heap.IsGen a gn → s5.heap.NoLimit → AllBare s5.gens →
      (∀ s'', Woke s5 s'' → gs.Goes (model X.prog X.w) X.A.in1.in1 (fun _ _ r s₁ => r = .ok .next ∧ EndB sv (fun c s' => EP X pins σ Q (.bool c) s') s₁) (ProtB sv a gn (fun c s' => EP X pins σ Q (.bool c) s')) n (.send .none) s'') → Q' (.ref a) s5) :
    wpAny (model X.prog X.w) X.A (eval (.GeneratorExp elt [⟨tg, iter, ifs, 0⟩] scope gpos) X.env) Q' X.xe s := by
  have hfree : ∀ y ∈ scope.names, y.2 = .free → ∃ c, X.env.cells.lookup y.1 = some c := fun y hy e => by
    rcases ok.free y hy e with k | k
    · exact I.ok.has _ (.inl k)
    · exact I.ok.has _ (.inr k)
  refine wpAny_GeneratorExp_make hco (closure_ok hfree) hcell hdot ok.kind (by have := hr.dp; omega) ?_ hs
  refine thn (hi.run pins s σ H _ I h) fun xv s1 hx => thn hx fun itv s2 h2 => ?_
  obtain ⟨it, fp, tn, J, H2, e, I2, T, st2, f2, ⟨ps, hP, ht⟩, q⟩ := h2
  subst e
  have hPs : s2.heap.get? P = some { cls := .none, data := .fields ps } := I2.hok P _ hP
  have hPlt : P < s2.heap.objs.size := Heap.lt_size hPs
  have cd : PySem.W.CodeHd s2.heap c P := TB.code.keeps fun b u e => I2.bk b u e
  have cont : ∀ (code : Value) (h3 : Heap) (tk : Nat) (ps' : Array Value), Heap.ExtBut P s2.heap h3 → s2.heap.objs.size ≤ h3.objs.size → h3.get? P = some { cls := .none, data := .fields ps' } → (∃ more, ps' = ps ++ more) → TriplesOk ps'.toList →
      wpAny (model X.prog X.w) X.A (builtinsFor X.env.globals X.env.builtins) (fun bi s₄ => ∀ h', h'.Ns s₄.heap.objs.size (fun y => if y = (".0" : Str) then some (Value.ref it) else none) → Heap.SameBut s₄.heap.objs.size (s₄.heap.push { cls := .type "frame", data := .dict #[] }) h' →
        Q' (.ref h'.objs.size) { s₄ with
            gens := s₄.gens.push (.fresh (.compStart (.GeneratorExp elt [⟨tg, iter, ifs, 0⟩] scope gpos) 0 (.ref it) .none (genEnv scope (cloFrom X.env.cells scope.names []) s₄.heap.objs.size code bi X.env))),
            toks := s₄.toks + 1 + 1 + 1,
            heap := h'.push { cls := .type "generator", data := .fields #[.int s₄.gens.size 0, .str "<genexpr>" (s₄.toks + 1), .str (X.env.qual ++ "<genexpr>") (s₄.toks + 1 + 1)] } }) X.xe { s2 with heap := h3, toks := tk } := by
    intro code h3 tk ps' hx hsz hP3 hmore ht3
    obtain ⟨more, rfl⟩ := hmore
    obtain ⟨bm, ob, e1, e2, e3, e4, e5, e6, e7, e8⟩ := TB.bm
    have keep3 : ∀ b u, b ≠ P → s2.heap.get? b = some u → h3.get? b = some u := fun b u hb e => hx b u hb e
    refine wpAny_builtinsFor (m := X.mg) (by rw [I2.ok.glob]; exact (I2.mod.glob.keeps I2.bk).extBut hx TB.gP) e1 e2 (keep3 _ _ e4 (I2.bk _ _ e5)) e6 e7 e8 ?_
    have I4 : Inv X pins σ (upd H2 P (.tbl (ps ++ more))) { s2 with heap := h3, toks := tk } := inv_tab (g' := s2.gens) (d' := s2.drawn) I2 hP keep3 hP3 I2.bare
    generalize hs4 : ({ s2 with heap := h3, toks := tk } : Shared) = s4 at I4 ⊢
    have h34 : s4.heap = h3 := by rw [← hs4]
    have g34 : s4.gens = s2.gens := by rw [← hs4]
    generalize hH4 : upd H2 P (.tbl (ps ++ more)) = H4 at I4
    have tb4 : Tabbed P H2 H4 := by rw [← hH4]; exact ⟨⟨_, upd_same, ht3⟩, fun b hb => upd_ne hb⟩
    obtain ⟨W, ⟨m0, w0⟩, turn⟩ := q H4 tb4 (fun ps0 e => by rw [hP] at e; cases e; exact ⟨more, by rw [← hH4]; exact upd_same⟩)
    intro h' hn' hs'
    have hfP : ∀ b ∈ fp, b ≠ P := fun b hb z => by
      have := (f2 b hb).1
      rw [z, hP] at this
      cases this
    have f4 : ∀ b ∈ fp, FpOk X pins H4 b ∧ b < s4.heap.objs.size := fun b hb => by
      obtain ⟨o, e, _⟩ := T.obj _ _ st2 b hb
      refine ⟨⟨?_, (f2 b hb).2⟩, by rw [h34]; exact Heap.lt_size (keep3 b o (hfP b hb) e)⟩
      rw [tb4.2 b (hfP b hb)]
      exact (f2 b hb).1
    generalize hcenv : genEnv scope (cloFrom X.env.cells scope.names []) s4.heap.objs.size code builtinsNs X.env = cenv
    have rA : Room k (X.A.in1.in1.over (.compLoop (.GeneratorExp elt [⟨tg, iter, ifs, 0⟩] scope gpos) 0 (.ref it) .none cenv) []) := by
      rw [over_gen]
      refine ⟨hr.hd, ?_, ?_⟩
      · have := hr.dp
        show X.A.in1.in1.depth + 1 + 3 * k + 5 < _
        have e : X.A.in1.in1.depth = X.A.depth := rfl
        omega
      · have := hr.un
        show X.A.in1.in1.units + 3 + 16 * k + 200 < _
        have e : X.A.in1.in1.units = X.A.units + 1 + 1 := rfl
        omega
    have I5 := gen_start (itv := Value.ref it) (code := code) (h' := h') (tk := s4.toks + 1 + 1 + 1) (gs := .fresh (.compStart (.GeneratorExp elt [⟨tg, iter, ifs, 0⟩] scope gpos) 0 (.ref it) .none cenv))
      (go := { cls := .type "generator", data := .fields #[.int s4.gens.size 0, .str "<genexpr>" (s4.toks + 1), .str (X.env.qual ++ "<genexpr>") (s4.toks + 1 + 1)] })
      (A' := X.A.in1.in1.over (.compLoop (.GeneratorExp elt [⟨tg, iter, ifs, 0⟩] scope gpos) 0 (.ref it) .none cenv) []) I4 ok hcell hN f4 cenv hcenv.symm
      (by rw [over_gen]; show X.A.frames.map (cenv :: ·) = _; rw [I2.ok.frames]; rfl) rA.hd hn' hs' (fun _ z => by cases z) rfl rfl
    have pg' := pg (X.A.in1.in1.over (.compLoop (.GeneratorExp elt [⟨tg, iter, ifs, 0⟩] scope gpos) 0 (.ref it) .none cenv) []) s4 H4 s4.heap.objs.size code fp [(h'.objs.size, { cls := .type "generator", data := .fields #[.int s4.gens.size 0, .str "<genexpr>" (s4.toks + 1), .str (X.env.qual ++ "<genexpr>") (s4.toks + 1 + 1)] })] rA
    have pt' := pt (X.A.in1.in1.over (.compLoop (.GeneratorExp elt [⟨tg, iter, ifs, 0⟩] scope gpos) 0 (.ref it) .none cenv) []) s4 H4 s4.heap.objs.size code fp [(h'.objs.size, { cls := .type "generator", data := .fields #[.int s4.gens.size 0, .str "<genexpr>" (s4.toks + 1), .str (X.env.qual ++ "<genexpr>") (s4.toks + 1 + 1)] })] rA
    have pe' := pe (X.A.in1.in1.over (.compLoop (.GeneratorExp elt [⟨tg, iter, ifs, 0⟩] scope gpos) 0 (.ref it) .none cenv) []) s4 H4 s4.heap.objs.size code fp [(h'.objs.size, { cls := .type "generator", data := .fields #[.int s4.gens.size 0, .str "<genexpr>" (s4.toks + 1), .str (X.env.qual ++ "<genexpr>") (s4.toks + 1 + 1)] })] rA
    rw [hcenv] at pg' pt' pe'
    generalize hgo : ({ cls := .type "generator", data := .fields #[.int s4.gens.size 0, .str "<genexpr>" (s4.toks + 1), .str (X.env.qual ++ "<genexpr>") (s4.toks + 1 + 1)] } : Obj) = go at I5 pg' pt' pe' ⊢
    have hsz' : h'.objs.size = s4.heap.objs.size + 1 := by rw [hs'.1, Heap.size_push]
    have isg : ∀ hh : Heap, hh.get? h'.objs.size = some go → hh.IsGen h'.objs.size s4.gens.size := fun hh e => by
      rw [← hgo] at e
      exact ⟨_, _, _, e, rfl, rfl, rfl⟩
    have st5 : tn 0 (h'.push go) := T.keep _ _ _ st2 fun b hb o e => Heap.get?_push_of_some _ (hs'.extBut b o (by rw [h34]; exact Nat.ne_of_lt (Heap.lt_size (keep3 b o (hfP b hb) e))) (Heap.get?_push_of_some _ (by rw [h34]; exact keep3 b o (hfP b hb) e)))
    have loop := gen_loop (Y := gxC X (X.A.in1.in1.over (.compLoop (.GeneratorExp elt [⟨tg, iter, ifs, 0⟩] scope gpos) 0 (.ref it) .none cenv) []) s4 H4 cenv fp [(h'.objs.size, go)]) (a := h'.objs.size) (gn := s4.gens.size) (K := fun c s' => EP X pins σ Q (.bool c) s') (σ := σ) (vs := own.map (·.2)) (Q := Q)
      rfl hc (by show cenv.scope.isCoroutine = false; rw [← hcenv]; exact hco) rfl T (fun hh hp => isg hh (hp (h'.objs.size, go) (by simp))) (fun p hp b hb => by
        have e : p = (h'.objs.size, go) := by simpa using hp
        rw [e]
        have := (f4 b hb).2
        exact Nat.ne_of_gt (Nat.lt_trans this (by rw [hsz']; exact Nat.lt_succ_self _))) pg' pt' pe' turn
      (fun c Hf sf If qf => ⟨.bl c, Hf, I4.call' (ch := fp) If.os If.base If.hok If.bare fun b hb => ⟨(f4 b hb).1.2.2.2.1, (f4 b hb).1.2.1, (f4 b hb).1.2.2.2.2.1, (f4 b hb).1.2.2.2.2.2⟩, rfl, qf⟩)
    refine hQ h'.objs.size s4.gens.size (m0 + 1) _ _ (Array.getElem?_push_size ..) (isg _ (Heap.get?_push_size _ (by rw [← hgo]; rfl))) I5.nolimit I5.bare fun s'' hw => ⟨rfl, ?_⟩
    have I6 := inv_woke I5 hw
    have lp := loop m0 (m0 + 1) 0 H4 s'' s'' (Nat.lt_succ_self _) I6 (by rw [hw.1]; exact st5) (fun b hb => (f4 b hb).1.1) w0
    have st6 : tn 0 s''.heap := by rw [hw.1]; exact st5
    show Seg _ X.A.in1.in1 _ _ _ s'' _ ((compStart (.GeneratorExp elt [⟨tg, iter, ifs, 0⟩] scope gpos) 0 (.ref it) .none cenv).onRaise (leaving cenv)) [] s''
    unfold compStart
    rw [Sem.onRaise_eq_wrap]
    show Seg _ X.A.in1.in1 _ _ _ s'' _ ((ask >>= _).wrap _ _ _ _) [] s''
    refine seg_bind_wrap (wpAny_askSetting ?_)
    split
    · exact seg_again rfl lp
    · refine seg_bind_wrap (wpAny_rule ?_)
      show Seg _ X.A.in1.in1 _ _ _ s'' _ ((standAt iter.pos >>= _).wrap _ _ _ _) [] s''
      exact seg_bind_wrap (wpAny_standAt (seg_bind_wrap (T.self _ 0 s'' _ _ st6 (seg_again rfl lp))))
  refine ⟨I2.nolimit, ?_⟩
  cases hf : codeAmong gpos ps.toList with
  | none =>
    refine wpAny_genexprCodeX hcode (cd.code hPs ht) (cd.tab hPs) hf fun c' h' tk hx hge hlt hco' _ htab' _ => ?_
    obtain ⟨o1, vs, f1, tf, fl, tg, inF, tx, tt, op, _, _, _, _, _, _, _, _, _, htr, _⟩ := hco'
    exact cont _ h' tk _ hx (Nat.le_trans hge (Nat.le_of_lt hlt)) htab'.2 ⟨_, rfl⟩ htr
  | some cv =>
    refine wpAny_genexprCode_hit hcode (cd.code hPs ht) hf ?_
    exact cont cv s2.heap s2.toks ps (Heap.ExtBut.refl _ _) (Nat.le_refl _) hPs ⟨#[], by simp⟩ ht

/-- all(.. for ..) -/
theorem pe_allG {c P : Addr} {elt tg iter : Expr} {ifs : List Expr} {scope : Scope} {own : List (Str × Nat)} {gpos p pos : Pos} {wi : TI} {g : TG} {tt : TT} {te : TE} {k : Nat}
    (hr : Room (k + 1) X.A) (hc : X.calm = true) (hN : X.N.Nodup) (hgl : Gl X "all") (hm : X.mg "all" = none) (TB : TabB X.base X.mg c P) (hcode : X.env.code = .ref c) (ok : BlkOk X.N X.env.scope scope own) (hco : scope.isCoroutine = false) (hcell : ∀ y ∈ scope.names, y.2 ≠ .cell) (hdot : scope.names.lookup (".0" : Str) = some NameKind.local)
    (hi : PI X tg iter wi) (pg : GxOk X scope k fun Y => PG Y tg g) (pt : GxOk X scope k fun Y => PTs Y ifs tt) (pe : GxOk X scope k fun Y => PE Y elt te) (hs : ∀ v, genFold iter X.env v = pure v)
    (he : starEach [.GeneratorExp elt [⟨tg, iter, ifs, 0⟩] scope gpos] X.env = (false, eval (.GeneratorExp elt [⟨tg, iter, ifs, 0⟩] scope gpos) X.env) :: starEach [] X.env) :
    PE X (.Call (.Name "all" p) [.GeneratorExp elt [⟨tg, iter, ifs, 0⟩] scope gpos] [] pos) (tGx false P wi g tt te (own.map (·.2))) := by
  refine ⟨fun pins s σ H Q I h => ?_⟩
  refine wpAny_Call_Name_kw (ld_blt I hgl hm boot_all_ ?_)
  refine PyProof.Rows.callWith_builtin1 ?_ he (by rfl)
  rw [he]
  show wpAny _ _ (spliced ((false, eval (.GeneratorExp elt [⟨tg, iter, ifs, 0⟩] scope gpos) X.env) :: backTo pos (starEach [] X.env))) _ _ s
  refine Calls.spliced_cons (eval_gen hr hc hN TB hcode ok hco hcell hdot hi pg pt pe hs I h fun a gn n s5 gs hgs hig hl hb hgo => ?_)
  refine Calls.spliced_nil ?_
  refine call_function_tree F.kind_all F.plain_all F.entry_all (F.args_all1 _) ?_
  unfold Builtin.«all»
  refine wpAny_bind (m := oneArg "all" _) (wpAny_pure ?_)
  refine wpAny_bind (wpAny_pyIter_gen hig ?_)
  exact wpAny_pure ⟨plainId_quiet F.plain_all_loop _, loop_all hr.hd (by have := hr.dp; show X.A.depth < _; omega) (fun c s' z => z) n s5 gs hgs hig hl hb hgo⟩
theorem pe_anyG {c P : Addr} {elt tg iter : Expr} {ifs : List Expr} {scope : Scope} {own : List (Str × Nat)} {gpos p pos : Pos} {wi : TI} {g : TG} {tt : TT} {te : TE} {k : Nat}
    (hr : Room (k + 1) X.A) (hc : X.calm = true) (hN : X.N.Nodup) (hgl : Gl X "any") (hm : X.mg "any" = none) (TB : TabB X.base X.mg c P) (hcode : X.env.code = .ref c) (ok : BlkOk X.N X.env.scope scope own) (hco : scope.isCoroutine = false) (hcell : ∀ y ∈ scope.names, y.2 ≠ .cell) (hdot : scope.names.lookup (".0" : Str) = some NameKind.local)
    (hi : PI X tg iter wi) (pg : GxOk X scope k fun Y => PG Y tg g) (pt : GxOk X scope k fun Y => PTs Y ifs tt) (pe : GxOk X scope k fun Y => PE Y elt te) (hs : ∀ v, genFold iter X.env v = pure v)
    (he : starEach [.GeneratorExp elt [⟨tg, iter, ifs, 0⟩] scope gpos] X.env = (false, eval (.GeneratorExp elt [⟨tg, iter, ifs, 0⟩] scope gpos) X.env) :: starEach [] X.env) :
    PE X (.Call (.Name "any" p) [.GeneratorExp elt [⟨tg, iter, ifs, 0⟩] scope gpos] [] pos) (tGx true P wi g tt te (own.map (·.2))) := by
  refine ⟨fun pins s σ H Q I h => ?_⟩
  refine wpAny_Call_Name_kw (ld_blt I hgl hm boot_any_ ?_)
  refine PyProof.Rows.callWith_builtin1 ?_ he (by rfl)
  rw [he]
  show wpAny _ _ (spliced ((false, eval (.GeneratorExp elt [⟨tg, iter, ifs, 0⟩] scope gpos) X.env) :: backTo pos (starEach [] X.env))) _ _ s
  refine Calls.spliced_cons (eval_gen hr hc hN TB hcode ok hco hcell hdot hi pg pt pe hs I h fun a gn n s5 gs hgs hig hl hb hgo => ?_)
  refine Calls.spliced_nil ?_
  refine call_function_tree F.kind_any F.plain_any F.entry_any (F.args_any1 _) ?_
  unfold Builtin.«any»
  refine wpAny_bind (m := oneArg "any" _) (wpAny_pure ?_)
  refine wpAny_bind (wpAny_pyIter_gen hig ?_)
  exact wpAny_pure ⟨plainId_quiet F.plain_any_loop _, loop_any hr.hd (by have := hr.dp; show X.A.depth < _; omega) (fun c s' z => z) n s5 gs hgs hig hl hb hgo⟩
end
/-! ### as denotations -/
section
variable {X : Cx} {W : Wd} {k : Nat} {E : XK} {a b c e o : Expr} {es ifs : List Expr} {pos p p2 : Pos} {d : Env → Mo PV} {dt : Env → Mo Bool}
theorem On.gx (h : On X W (k + 1) E) {A' : Around} (hA : Room k A') (s : Shared) (H : Hp) (env : PySem.Env) (fp : List Addr) (pn : List (Addr × Obj)) : On (gxC X A' s H env fp pn) W k E0 :=
  ⟨h.hK, h.hM, h.hc, h.nd, hA, fun _ _ _ _ _ _ _ z => (h.c0 _ _ _ _ _ z).elim, fun _ _ z => z.elim, h.c0⟩
open Classical in
/-- all (sv = false), any (sv = true) -/
noncomputable def gxF (sv : Bool) (pt : Pt) (dt : Env → Mo Bool) (d : Env → Mo PV) (chk : Sto → Prop) (ρ : Env) : List PV → Mo PV
  | [] => fun st => if chk st then .ok (.bl (!sv)) st else .stuck
  | q :: qs => fun st => if chk st then (match Pt.go pt q ρ with
    | none => .stuck
    | some ρ1 => bnd (nox (dt ρ1)) (fun b => if b = true then bnd (nox (d ρ1)) (fun y => bnd (blM y) fun c => if c = sv then fun st => .ok (.bl sv) st else gxF sv pt dt d chk ρ qs) else gxF sv pt dt d chk ρ qs) st) else .stuck
noncomputable def dGx (sv : Bool) (ds : Env → Mo Src) (pt : Pt) (dt : Env → Mo Bool) (d : Env → Mo PV) (vs : List Nat) : Env → Mo PV := fun ρ => bnd (ds ρ) fun S => gxF sv pt dt d S.chk (wipeE ρ vs) S.l
theorem mono_tab {ι : List Addr} {st : Sto} {H H2 : Hp} {P : Addr} (rs : RS W ι st H) (hP : P ∈ W.tb) (hPl : ∀ p ∈ W.tl, p.1 ≠ P) (t : Tabbed P H H2) (hm : ∀ ps, H P = some (.tbl ps) → ∃ more, H2 P = some (.tbl (ps ++ more))) : Mono ι H ι H2 ∧ RS W ι st H2 := by
  have m : Mono ι H ι H2 := by
    refine ⟨fun _ _ h => h, fun _ h n => absurd h n, fun a u h hn => ?_⟩
    by_cases ha : a = P
    · subst ha
      obtain ⟨ps, e, t1⟩ := rs.tb a hP
      rw [h] at e
      cases e
      obtain ⟨more, e2⟩ := hm ps h
      obtain ⟨ps2, e3, t2⟩ := t.1
      rw [e2] at e3
      cases e3
      exact ⟨_, e2, .inr ⟨ps, more, rfl, rfl, fun _ => t2⟩⟩
    · exact ⟨u, (t.2 a ha).trans h, Kp.refl u⟩
  refine ⟨m, rs.len, rs.nd, fun n u a h1 h2 => ?_, tab_mono rs m, fun p hp => ?_⟩
  rotate_left
  · obtain ⟨ps, h1, h2, h3⟩ := rs.tl p hp
    refine ⟨ps, (t.2 _ (hPl p hp)).trans h1, h2, fun pos cv hc => ?_⟩
    obtain ⟨c, e1, e2⟩ := h3 pos cv hc
    obtain ⟨ps', e3, _⟩ := rs.tb P hP
    exact ⟨c, e1, (t.2 _ fun z => by rw [z, e3] at e2; cases e2).trans e2⟩
  exact RO.mono rs m (t.2 a fun z => rs.notTab hP (by rw [← z]; exact List.mem_of_getElem? h2)) (rs.ob n u a h1 h2)
open Classical in
theorem gx_of {sv : Bool} {P : Addr} {pt : Pt} {ds : Env → Mo Src} {vs : List Nat} {σ : L2.St} {H : Hp} {Q : VK} (hP : P ∈ W.tb) (hPl : ∀ p ∈ W.tl, p.1 ≠ P) (t : tD W E (dGx sv ds pt dt d vs) σ H Q) : tGx sv P (tDI W E ds) (tDP W pt vs) (tDT W E0 dt) (tD W E0 d) vs σ H Q := by
  obtain ⟨ι, ρ, st, re, rs, g⟩ := t
  refine ⟨ι, ρ, st, re, rs, Good.imp (Good.bind g) fun S st1 ι1 H1 m1 r1 g1 J H1' mn r1' jo => ⟨r1'.tb P hP, fun H2 tbd hmore => ?_⟩⟩
  obtain ⟨mt, rt⟩ := mono_tab r1' hP hPl tbd hmore
  have re1 := ((re.mono rs m1).mono r1 mn).mono r1' mt
  refine ⟨fun i m H' => m = S.l.length - i ∧ ∃ ι' st', RE W ι' H' ρ σ ∧ RS W ι' st' H' ∧ Mono ι1 H1' ι' H' ∧ Good W E ι' H' (gxF sv pt dt d S.chk (wipeE ρ vs) (S.l.drop i) st') (kQ W Q), ⟨_, rfl, ι1, st1, re1, rt, mt, (g1.shift mn).shift mt⟩, ?_⟩
  rintro i m H' ⟨rfl, ι2, st2, re2, r2, m2, g2⟩
  by_cases hi : i < S.l.length
  · have hq : S.l[i]? = some S.l[i] := List.getElem?_eq_getElem hi
    rw [List.drop_eq_getElem_cons hi] at g2
    unfold gxF at g2
    obtain ⟨hc, g3⟩ := good_if g2
    obtain ⟨hgo, hy⟩ := (jo ι2 H' st2 m2 r2 hc i).1 _ hq
    refine .inr ⟨hgo, fun H3 => ∃ ι' st', RE W ι' H3 ρ σ ∧ RS W ι' st' H3 ∧ Mono ι1 H1' ι' H3 ∧ Good W E ι' H3 (gxF sv pt dt d S.chk (wipeE ρ vs) (S.l.drop (i + 1)) st') (kQ W Q), fun H'' z => ⟨S.l.length - (i + 1), by omega, rfl, z⟩, fun x H'' y => ?_⟩
    obtain ⟨m3, r3, rv⟩ := hy x H'' y
    cases hp : Pt.go pt S.l[i] (wipeE ρ vs) with
    | none => rw [hp] at g3; exact g3.elim
    | some ρ1 =>
      rw [hp] at g3
      have re3 := re2.mono r2 m3
      refine ⟨ι2, wipeE ρ vs, st2, _, re3.wipe vs, r3, rv, ρ1, hp, fun σ' re' hw => ⟨hw.trans (wipe_idem vs vs fun _ z => z), ?_⟩⟩
      refine ⟨ι2, ρ1, st2, re', r3, Good.imp (Good.nox (g3.shift m3)) fun b st4 ι4 H4 m4 r4 g4 => ?_⟩
      have re4 := re2.mono r2 (m3.trans m4)
      cases b with
      | false => exact ⟨ι4, st4, re4, r4, m2.trans (m3.trans m4), g4⟩
      | true =>
        show ite (true = true) _ _
        rw [if_pos rfl] at g4 ⊢
        refine ⟨ι4, ρ1, st4, re'.mono r3 m4, r4, Good.imp (Good.nox g4) fun y st5 ι5 H5 m5 r5 g5 yv hyv => ?_⟩
        obtain ⟨cc, rfl, rfl, g6⟩ := bl_of r5 hyv (Good.bind g5)
        refine ⟨cc, rfl, ?_⟩
        by_cases hcs : cc = sv
        · rw [if_pos hcs] at g6 ⊢
          exact g6.ok r5 _ (.bl sv)
        · rw [if_neg hcs] at g6 ⊢
          exact ⟨ι5, st5, re4.mono r4 m5, r5, (m2.trans (m3.trans m4)).trans m5, g6⟩
  · have hl : S.l.length ≤ i := by omega
    rw [List.drop_of_length_le hl] at g2
    unfold gxF at g2
    obtain ⟨hc, g3⟩ := good_if g2
    exact .inl ⟨(jo ι2 H' st2 m2 r2 hc i).2 hl, g3.ok r2 _ (.bl _)⟩
abbrev Gx (X : Cx) (scope : Scope) (p : Cx → Prop) : Prop := ∀ (A' : Around) (s : Shared) (H : Hp) (C : Addr) (code : Value) (fp : List Addr) (pn : List (Addr × Obj)), p (gxC X A' s H (genEnv scope (cloFrom X.env.cells scope.names []) C code builtinsNs X.env) fp pn)
theorem de_allG {cc P : Addr} {elt tg iter : Expr} {scope : Scope} {own : List (Str × Nat)} {gpos : Pos} {ds : Env → Mo Src} {pt : Pt} (TB : TabB X.base W.mg cc P) (hP : P ∈ W.tb) (hPl : ∀ p ∈ W.tl, p.1 ≠ P) (hcode : X.env.code = .ref cc) (hm : W.mg "all" = none)
    (hi : DI X W (k + 1) E tg iter ds) (ok : BlkOk X.N X.env.scope scope own) (hg : Gx X scope fun Y => DP Y W (own.map (·.2)) tg pt) (ht : Gx X scope fun Y => DTs Y W k E0 ifs dt) (he : Gx X scope fun Y => DE Y W k E0 elt d)
    (hgl : Gl X "all" := by rfl) (hco : scope.isCoroutine = false := by rfl) (hcell : ∀ y ∈ scope.names, y.2 ≠ .cell := by decide) (hdot : scope.names.lookup (".0" : Str) = some NameKind.local := by rfl) (hs : ∀ v, genFold iter X.env v = pure v := by intro _; rfl)
    (hst : starEach [.GeneratorExp elt [⟨tg, iter, ifs, 0⟩] scope gpos] X.env = (false, eval (.GeneratorExp elt [⟨tg, iter, ifs, 0⟩] scope gpos) X.env) :: starEach [] X.env := by rfl) :
    DE X W (k + 1) E (.Call (.Name "all" p) [.GeneratorExp elt [⟨tg, iter, ifs, 0⟩] scope gpos] [] pos) (dGx false ds pt dt d (own.map (·.2))) := ⟨fun o =>
  pe_imp (pe_allG o.room o.hc o.nd hgl (by rw [o.hM]; exact hm) (by rw [o.hM]; exact TB) hcode ok hco hcell hdot (hi.run o) (fun A' s H C code fp pn hA => (hg A' s H C code fp pn).run o.hK o.nd o.hc) (fun A' s H C code fp pn hA => (ht A' s H C code fp pn).run (o.gx hA s H _ fp pn)) (fun A' s H C code fp pn hA => (he A' s H C code fp pn).run (o.gx hA s H _ fp pn)) hs hst) fun _ _ _ t => gx_of hP hPl t⟩
theorem de_anyG {cc P : Addr} {elt tg iter : Expr} {scope : Scope} {own : List (Str × Nat)} {gpos : Pos} {ds : Env → Mo Src} {pt : Pt} (TB : TabB X.base W.mg cc P) (hP : P ∈ W.tb) (hPl : ∀ p ∈ W.tl, p.1 ≠ P) (hcode : X.env.code = .ref cc) (hm : W.mg "any" = none)
    (hi : DI X W (k + 1) E tg iter ds) (ok : BlkOk X.N X.env.scope scope own) (hg : Gx X scope fun Y => DP Y W (own.map (·.2)) tg pt) (ht : Gx X scope fun Y => DTs Y W k E0 ifs dt) (he : Gx X scope fun Y => DE Y W k E0 elt d)
    (hgl : Gl X "any" := by rfl) (hco : scope.isCoroutine = false := by rfl) (hcell : ∀ y ∈ scope.names, y.2 ≠ .cell := by decide) (hdot : scope.names.lookup (".0" : Str) = some NameKind.local := by rfl) (hs : ∀ v, genFold iter X.env v = pure v := by intro _; rfl)
    (hst : starEach [.GeneratorExp elt [⟨tg, iter, ifs, 0⟩] scope gpos] X.env = (false, eval (.GeneratorExp elt [⟨tg, iter, ifs, 0⟩] scope gpos) X.env) :: starEach [] X.env := by rfl) :
    DE X W (k + 1) E (.Call (.Name "any" p) [.GeneratorExp elt [⟨tg, iter, ifs, 0⟩] scope gpos] [] pos) (dGx true ds pt dt d (own.map (·.2))) := ⟨fun o =>
  pe_imp (pe_anyG o.room o.hc o.nd hgl (by rw [o.hM]; exact hm) (by rw [o.hM]; exact TB) hcode ok hco hcell hdot (hi.run o) (fun A' s H C code fp pn hA => (hg A' s H C code fp pn).run o.hK o.nd o.hc) (fun A' s H C code fp pn hA => (ht A' s H C code fp pn).run (o.gx hA s H _ fp pn)) (fun A' s H C code fp pn hA => (he A' s H C code fp pn).run (o.gx hA s H _ fp pn)) hs hst) fun _ _ _ t => gx_of hP hPl t⟩
end
end PD
/-! PD: more operators. -/
namespace PD
open PySem PySem.Spec PyProof.Rows L2
/-! ### tuple * int, small counts -/
theorem tuple_mul0 (l : Addr) (items : Array Value) (n : Nat) (dd : Option Addr) (sl : Array (Option Value)) (x : Int) (u : Tok) (c0 : (decide (x < -(2 ^ 63)) || decide (x ≥ 2 ^ 63)) = false) (c1 : (items.isEmpty || x == 1) = false) (c2 : (decide (x ≤ 0) || items.isEmpty) = true) :
    Meets (Builtin.«tuple.__mul__» ⟨[.ref l, .int x u], []⟩) (fun _ R s => s.heap.get? l = some { cls := .type "tuple", dict := dd, data := .seq items n, slots := sl } ∧
      R (.ok (.ret (Value.ref s.heap.objs.size))) { s with heap := s.heap.push { cls := Value.type "tuple", data := Data.seq #[] }, toks := s.toks }) :=
  .of_wp fun prog w A R s h => by
    obtain ⟨hp, g, d, tk, os⟩ := s
    obtain ⟨hl, h⟩ := h
    have f1 := AutoSeq1.idx_int
    wp_walk using wpAny_loadPart' hl
    repeat (first
      | (refine wpAny_ite_false (decide_eq_false (by rw [c0]; exact Bool.false_ne_true)) ?_; wp_walk using wpAny_loadPart' hl)
      | (refine wpAny_ite_false (decide_eq_false (by rw [c1]; exact Bool.false_ne_true)) ?_; wp_walk using wpAny_loadPart' hl)
      | (refine wpAny_ite_true (decide_eq_true (by rw [c2])) ?_; wp_walk using wpAny_loadPart' hl)
      | (refine wpAny_ite_false (decide_eq_false (Nat.not_lt.mpr (show (#[] : Array Value).size ≤ sizeLine by decide))) ?_; wp_walk using wpAny_loadPart' hl))
    exact ⟨_, rfl, h⟩
theorem tuple_mul1 (l : Addr) (items : Array Value) (n : Nat) (dd : Option Addr) (sl : Array (Option Value)) (x : Int) (u : Tok) (c0 : (decide (x < -(2 ^ 63)) || decide (x ≥ 2 ^ 63)) = false) (c1 : (items.isEmpty || x == 1) = true) :
    Meets (Builtin.«tuple.__mul__» ⟨[.ref l, .int x u], []⟩) (fun _ R s => s.heap.get? l = some { cls := .type "tuple", dict := dd, data := .seq items n, slots := sl } ∧ R (.ok (.ret (Value.ref l))) s) :=
  .of_wp fun prog w A R s h => by
    obtain ⟨hp, g, d, tk, os⟩ := s
    obtain ⟨hl, h⟩ := h
    have f1 := AutoSeq1.idx_int
    wp_walk using wpAny_loadPart' hl
    repeat (first
      | (refine wpAny_ite_false (decide_eq_false (by rw [c0]; exact Bool.false_ne_true)) ?_; wp_walk using wpAny_loadPart' hl)
      | (refine wpAny_ite_true (decide_eq_true (by rw [c1])) ?_; wp_walk using wpAny_loadPart' hl))
    exact ⟨_, rfl, h⟩
def rRepT2 (K : PySem.W.Frag) : R2 := fun x y H Q => ∃ l k xs, x = .ref l ∧ y = .int k ∧ SqT K H l xs ∧ -1000 ≤ k ∧ k ≤ 1000 ∧ xs.length ≤ 1000 ∧ (if xs = [] ∨ k = 1 then Q (.ref l) H else ∀ p, H p = none → Q (.ref p) (upd H p (.tup (List.replicate k.toNat xs).flatten)))
theorem op_repT2 {X : Cx} : OpR X (binaryOp .Mult) (rRepT2 X.K) := by
  intro pins s σ H x y v u Q I rx ry h
  obtain ⟨l, k, xs, rfl, rfl, hT, h1, h2, hz, q⟩ := h
  by_cases hb : xs ≠ [] ∧ 2 ≤ k
  · rw [if_neg (fun z => by rcases z with z | z; exact hb.1 z; omega)] at q
    exact op_repT pins s σ H _ _ v u Q I rx ry ⟨l, k, xs, rfl, rfl, hT, hb.1, hb.2, h2, hz, q⟩
  cases rx
  obtain ⟨t, rfl⟩ := ry
  obtain ⟨its, r, ⟨⟨cls, dd, data, sl⟩, ho, hc, n, hd⟩, hs⟩ := I.tuple hT
  simp only at hc hd
  subst hc hd
  have hle : its.length = xs.length := r.length.symm
  have c0 : (decide (k < -(2 ^ 63)) || decide (k ≥ 2 ^ 63)) = false := by
    rw [decide_eq_false (by omega), decide_eq_false (by omega)] <;> rfl
  have he : its.toArray.isEmpty = true ↔ xs = [] := by
    cases its with
    | nil => cases xs with
      | nil => exact ⟨fun _ => rfl, fun _ => rfl⟩
      | cons a b => cases hle
    | cons a b => cases xs with
      | nil => cases hle
      | cons c d => exact ⟨fun z => (by cases z), fun z => (by cases z)⟩
  by_cases h3 : xs = [] ∨ k = 1
  · rw [if_pos h3] at q
    have c1 : (its.toArray.isEmpty || k == 1) = true := by
      rcases h3 with z | z
      · rw [he.mpr z]; rfl
      · rw [z]; exact Bool.or_true _
    exact wpAny_binaryOp_repeat_ref (T := "tuple") (U := "int") (by decide) ⟨_, ho, rfl⟩ (fun s' => typeIs_int s' k t) noFill_tuple_mul F.fills_int_mul F.slot_int_rmul repeat_tuple F.slot_int_index.lookup
      (call_meets F.slot_int_rmul (typeIs_int s k t) F.entry_int_rmul (F.args_int_rmul_2 _ _) (int_rmul_tuple k t l its.toArray n dd sl)
        ⟨ho, rfl, ⟨_, ho, rfl⟩, call_meets F.slot_tuple_mul ⟨_, ho, rfl⟩ F.entry_tuple_mul (F.args_tuple_mul_2 _ _) (tuple_mul1 l its.toArray n dd sl k t c0 c1) ⟨ho, .ref l, H, I, rfl, q⟩⟩)
  · rw [if_neg h3] at q
    have hne : xs ≠ [] := fun z => h3 (.inl z)
    have hk1 : k ≠ 1 := fun z => h3 (.inr z)
    have hk : k ≤ 0 := Int.not_lt.mp fun z => hb ⟨hne, by omega⟩
    have hi : its.toArray.isEmpty = false := by
      cases q2 : its.toArray.isEmpty with
      | false => rfl
      | true => exact (hne (he.mp q2)).elim
    have c1 : (its.toArray.isEmpty || k == 1) = false := by
      rw [hi, Bool.false_or]
      exact beq_eq_false_iff_ne.mpr hk1
    have c2 : (decide (k ≤ 0) || its.toArray.isEmpty) = true := by rw [decide_eq_true hk]; rfl
    refine wpAny_binaryOp_repeat_ref (T := "tuple") (U := "int") (by decide) ⟨_, ho, rfl⟩ (fun s' => typeIs_int s' k t) noFill_tuple_mul F.fills_int_mul F.slot_int_rmul repeat_tuple F.slot_int_index.lookup
      (call_meets F.slot_int_rmul (typeIs_int s k t) F.entry_int_rmul (F.args_int_rmul_2 _ _) (int_rmul_tuple k t l its.toArray n dd sl)
        ⟨ho, rfl, ⟨_, ho, rfl⟩, call_meets F.slot_tuple_mul ⟨_, ho, rfl⟩ F.entry_tuple_mul (F.args_tuple_mul_2 _ _) (tuple_mul0 l its.toArray n dd sl k t c0 c1 c2) ⟨ho, ?_⟩⟩)
    have hk0 : k.toNat = 0 := by omega
    refine ⟨.ref s.heap.objs.size, _, I.laid (t' := s.toks) (o := .tup (List.replicate k.toNat xs).flatten) (fun b ob q => Heap.get?_push_of_some _ q) (Nat.le_refl _) ?_, rfl, q _ (I.hok.fresh (Nat.le_refl _))⟩
    rw [hk0]
    exact ⟨Nat.zero_le _, _, .nil, IsTup.new _ _⟩
section
variable {X : Cx} {W : Wd} {k : Nat} {E : XK} {a b c e o : Expr} {es ifs : List Expr} {pos p p2 : Pos} {da db dc d : Env → Mo PV} {dt du : Env → Mo Bool} {dl dm : Env → Mo (List PV)}
/-- *: ints, a tuple, a text -/
def oMulA : PV → PV → Mo PV
  | .int i, .int j => fun st => if CM i j then .ok (.int (i * j)) st else .stuck
  | .tup l, .int k => fun st => if -1000 ≤ k ∧ k ≤ 1000 ∧ l.length ≤ 1000 then .ok (.tup (List.replicate k.toNat l).flatten) st else .stuck
  | .str x, .int k => fun st => if -1000 ≤ k ∧ k ≤ 1000 ∧ x.length ≤ 1000 then .ok (.str ⟨(List.replicate k.toNat x.cps).foldl (· ++ ·) #[]⟩) st else .stuck
  | _, _ => fail
def rRepS : R2 := fun x y H Q => ∃ z k, x = .str z ∧ y = .int k ∧ -1000 ≤ k ∧ k ≤ 1000 ∧ z.length ≤ 1000 ∧ Q (.str ⟨(List.replicate k.toNat z.cps).foldl (· ++ ·) #[]⟩) H
theorem op_repS : OpR X (binaryOp .Mult) rRepS := by
  intro pins s σ H x y v u Q I rx ry h
  obtain ⟨z, k, rfl, rfl, h1, h2, hz, q⟩ := h
  obtain ⟨t, rfl⟩ := rx
  obtain ⟨t', rfl⟩ := ry
  have c0 : (decide (k < -(2 ^ 63 : Int)) || decide (k ≥ 2 ^ 63)) = false := by
    rw [decide_eq_false (by omega), decide_eq_false (by omega)] <;> rfl
  refine PySem.P.mul_str c0 (fun hk _ => ?_) (fun hk _ => ?_) ?_
  · have : (2 ^ 63 - 1) / k ≥ (2 ^ 63 - 1) / 1000 := by
      rw [ge_iff_le, Int.le_ediv_iff_mul_le (by omega)]
      have : ((2 ^ 63 - 1) / 1000 : Int) * k ≤ ((2 ^ 63 - 1) / 1000 : Int) * 1000 := Int.mul_le_mul_of_nonneg_left (by omega) (by decide)
      omega
    omega
  · have h9 : z.length * k.toNat ≤ 1000 * 1000 := Nat.mul_le_mul hz (by omega)
    show decide (z.length * k.toNat > sizeLine) = false
    rw [sizeLine_eq]
    exact decide_eq_false (by omega)
  · by_cases hk : k < 1
    · rw [if_pos hk]
      have e : k.toNat = 0 := by omega
      rw [e] at q
      exact ⟨by decide, .str _, H, I.tok _, ⟨_, rfl⟩, q⟩
    · rw [if_neg hk]
      by_cases hc : (k == 1 || z.length == 0) = true
      · rw [if_pos hc]
        have e : (⟨(List.replicate k.toNat z.cps).foldl (· ++ ·) #[]⟩ : Str) = z := by
          rw [Bool.or_eq_true] at hc
          rcases hc with hc | hc
          · have : k = 1 := by simpa using hc
            subst this
            obtain ⟨c⟩ := z
            simp
          · have hz0 : z.cps = #[] := by
              have : z.cps.size = 0 := by simpa [Str.length] using hc
              exact Array.eq_empty_of_size_eq_zero this
            obtain ⟨c⟩ := z
            subst hz0
            congr 1
            generalize k.toNat = n
            induction n with
            | zero => rfl
            | succ n ih => rw [List.replicate_succ, List.foldl_cons]; exact ih
        rw [e] at q
        exact ⟨.str z, H, I, ⟨_, rfl⟩, q⟩
      · rw [if_neg hc]
        refine ⟨?_, .str _, H, I.tok _, ⟨_, rfl⟩, q⟩
        have h9 : k.toNat * z.length ≤ 1000 * 1000 := Nat.mul_le_mul (by omega) hz
        have key : ∀ (n : Nat) (a : Array Nat), ((List.replicate n z.cps).foldl (· ++ ·) a).size = a.size + n * z.cps.size := by
          intro n
          induction n with
          | zero => intro a; simp
          | succ n ih => intro a; rw [List.replicate_succ, List.foldl_cons, ih, Array.size_append, Nat.succ_mul]; omega
        show Str.length _ ≤ sizeLine
        rw [sizeLine_eq]
        have k2 := key k.toNat #[]
        show Array.size (List.foldl (fun x1 x2 => x1 ++ x2) #[] (List.replicate k.toNat z.cps)) ≤ _
        rw [k2]
        have e : z.length = z.cps.size := rfl
        rw [e] at h9
        simp only [Array.size_empty]
        omega
def rMulA (K : PySem.W.Frag) : R2 := fun x y H Q => rI CMul (fun i j => .int (i * j)) x y H Q ∨ rRepT2 K x y H Q ∨ rRepS x y H Q
theorem fok_mulA : FOk W E (rMulA W.K) oMulA := by
  intro ι st H x y p q Q rs hx hy g0
  cases hx <;> cases hy <;> first
    | exact g0.elim
    | (obtain ⟨hc, g1⟩ := good_if g0
       first
        | exact .inl ⟨_, _, rfl, rfl, cm_ok hc, g1.ok rs _ (.int _)⟩
        | exact .inr (.inr ⟨_, _, rfl, rfl, hc.1, hc.2.1, hc.2.2, g1.ok rs _ (.str _)⟩)
        | (rename_i a vs l sq rr hz k
           refine .inr (.inl ⟨a, k, vs, rfl, rfl, sq, hc.1, hc.2.1, by rw [rr.length]; exact hc.2.2, ?_⟩)
           have rep : RVs W ι H (List.replicate k.toNat vs).flatten (List.replicate k.toNat l).flatten := by
             generalize k.toNat = n
             induction n with
             | zero => exact .nil
             | succ n ih => rw [List.replicate_succ, List.replicate_succ, List.flatten_cons, List.flatten_cons]; exact rr.append ih
           have hlen : (List.replicate k.toNat l).flatten.length ≤ 16777216 := by
             have e : (List.replicate k.toNat l).flatten.length = k.toNat * l.length := by simp
             have h9 : k.toNat * l.length ≤ 1000 * 1000 := Nat.mul_le_mul (by omega) hc.2.2
             omega
           split
           · rename_i hcs
             have e : (List.replicate k.toNat l).flatten = l := by
               rcases hcs with z | z
               · subst z
                 cases rr
                 generalize k.toNat = n
                 induction n with
                 | zero => rfl
                 | succ n ih => rw [List.replicate_succ, List.flatten_cons]; exact ih
               · subst z
                 simp
             rw [e] at g1
             exact g1.ok rs _ (.tup sq rr hz)
           · intro p hp
             exact good_newtup g1 rs rep hlen hp))
theorem op_mulA {X : Cx} : OpR X (binaryOp .Mult) (rMulA X.K) := OpR.or op_mul (OpR.or op_repT2 op_repS)
theorem de_mulA (ha : DE X W k E a da) (hb : DE X W k E b db) : DE X W k E (.BinOp a .Mult b pos) (dBin oMulA da db) := de_bin (fun o => by rw [← o.hK]; exact op_mulA) fok_mulA ha hb
/-! ### in -/
def rInP (K : PySem.W.Frag) (ng : Bool) : R2 := fun x y H Q => ∃ d ds, Dp K H x d ∧ (Dp K H y (.list ds) ∨ Dp K H y (.tuple ds)) ∧ d.plain = true ∧ PyData.plainAll ds = true ∧ PyData.depthAll ds ≤ 63 ∧ Q (.bl (if ng then !ds.any fun z => PyData.eqv z d else ds.any fun z => PyData.eqv z d)) H
theorem op_inP {X : Cx} (hu : X.A.units + 65 < cLine) : OpR X (compareOp .In) (rInP X.K false) := by
  intro pins s σ H x y v u Q I rx ry h
  obtain ⟨d, ds, hd, he, pd, pe, hz, q⟩ := h
  obtain ⟨as, r1⟩ := Dp.reads I d x v hd rx
  rcases he with he | he
  · obtain ⟨bs, r2⟩ := Dp.reads I (.list ds) y u he ry
    exact SeqAt.in_list_data r2 r1 pe pd (by omega) ⟨.bl _, H, I, rfl, q⟩
  · obtain ⟨bs, r2⟩ := Dp.reads I (.tuple ds) y u he ry
    exact SeqAt.in_tuple_data r2 r1 pe pd (by omega) ⟨.bl _, H, I, rfl, q⟩
theorem op_notInP {X : Cx} (hu : X.A.units + 65 < cLine) : OpR X (compareOp .NotIn) (rInP X.K true) := by
  intro pins s σ H x y v u Q I rx ry h
  obtain ⟨d, ds, hd, he, pd, pe, hz, q⟩ := h
  obtain ⟨as, r1⟩ := Dp.reads I d x v hd rx
  rcases he with he | he
  · obtain ⟨bs, r2⟩ := Dp.reads I (.list ds) y u he ry
    exact SeqAt.notIn_list_data r2 r1 pe pd (by omega) ⟨.bl _, H, I, rfl, q⟩
  · obtain ⟨bs, r2⟩ := Dp.reads I (.tuple ds) y u he ry
    exact SeqAt.notIn_tuple_data r2 r1 pe pd (by omega) ⟨.bl _, H, I, rfl, q⟩
def inQ (ng : Bool) (p : PV) (l : List PV) : Mo PV := fun st => if okd 60 p = true ∧ okds 60 l = true then .ok (.bl (if ng then !l.any fun z => eqb z p else l.any fun z => eqb z p)) st else .stuck
theorem any_toD {p : PV} (hp : okd 60 p = true) : ∀ (l : List PV), okds 60 l = true → ((toDs l).any fun z => PyData.eqv z (toD p)) = l.any fun z => eqb z p
  | [], _ => rfl
  | q :: l, h => by
    unfold okds at h
    rw [Bool.and_eq_true] at h
    unfold toDs
    rw [List.any_cons, List.any_cons, eqv_toD 60 q p h.1 hp, any_toD hp l h.2]
theorem in_of {ng : Bool} {ι : List Addr} {st : Sto} {H : Hp} {x y : V} {q : PV} {l : List PV} {vs : List V} {Q : VK} (rs : RS W ι st H) (hx : RV W ι H x q) (hy : IsSq W.K H y vs) (r : RVs W ι H vs l) (g : Good W E ι H (inQ ng q l st) (kQ W Q)) : rInP W.K ng x y H Q := by
  obtain ⟨hc, g1⟩ := good_if g
  obtain ⟨p1, p2⟩ := okd_plain 60 q hc.1
  obtain ⟨l1, l2⟩ := okds_plain 60 l hc.2
  have dv := dps_of 60 l vs hc.2 r
  have key : Dp W.K H y (.list (toDs l)) ∨ Dp W.K H y (.tuple (toDs l)) := by
    obtain ⟨a, rfl, z⟩ := hy
    rcases z with z | z
    · exact .inl (.lst z dv)
    · exact .inr (.tup z dv)
  refine ⟨toD q, toDs l, dp_of 60 q x hc.1 hx, key, p1, l1, by omega, ?_⟩
  rw [any_toD hc.1 l hc.2]
  exact g1.ok rs _ (.bl _)
theorem de_in (ha : DE X W k E a da) (hb : DE X W k E b db) (hm : behindInMarks .In b = false := by rfl) : DE X W k E (.Compare a [.In] [b] pos) (dBin (fun p q => bnd (sqM q) (inQ false p)) da db) :=
  de_cmp (r := rInP W.K false) (fun o => by rw [← o.hK]; exact op_inP (by have := o.room.un; omega)) (fun ι st H x y p q Q rs hx hy g => by
    have g0 := Good.bind g
    unfold sqM at g0
    cases z : seqOf st q with
    | none => rw [z] at g0; exact g0.elim
    | some l =>
      rw [z] at g0
      obtain ⟨vs, h1, h2, h3⟩ := seq_sq rs hy z
      exact in_of rs hx h1 h2 (g0.ok rs)) ha hb hm
theorem de_notin (ha : DE X W k E a da) (hb : DE X W k E b db) (hm : behindInMarks .NotIn b = false := by rfl) : DE X W k E (.Compare a [.NotIn] [b] pos) (dBin (fun p q => bnd (sqM q) (inQ true p)) da db) :=
  de_cmp (r := rInP W.K true) (fun o => by rw [← o.hK]; exact op_notInP (by have := o.room.un; omega)) (fun ι st H x y p q Q rs hx hy g => by
    have g0 := Good.bind g
    unfold sqM at g0
    cases z : seqOf st q with
    | none => rw [z] at g0; exact g0.elim
    | some l =>
      rw [z] at g0
      obtain ⟨vs, h1, h2, h3⟩ := seq_sq rs hy z
      exact in_of rs hx h1 h2 (g0.ok rs)) ha hb hm
/-! ### lists: times, and -/
def repM (l : List PV) (q : PV) : Mo (List PV) := fun st => match q with
  | .int k => if -1000000 ≤ k ∧ k ≤ 1000000 ∧ l.length * k.toNat ≤ 16777216 then .ok (List.replicate k.toNat l).flatten st else .stuck
  | _ => .stuck
theorem dl_rep (ha : DL X W k E a dl) (hb : DE X W k E b db) : DL X W k E (.BinOp a .Mult b pos) (fun ρ => bnd (dl ρ) fun l => bnd (db ρ) fun q => repM l q) := ⟨fun o => pe_imp (pe_op op_rep (ha.run o) (hb.run o)) fun σ H Q t => by
  obtain ⟨ι, ρ, st, re, rs, g⟩ := t
  refine ⟨ι, ρ, st, re, rs, Good.imp (Good.bind g) fun l st1 ι1 H1 m1 r1 g1 p vs hp0 hn he rr hz => ?_⟩
  refine ⟨ι1, ρ, st1, re.mono rs m1, r1, Good.imp (Good.bind g1) fun q st2 ι2 H2 m2 r2 g2 y hy => ?_⟩
  cases hy <;> try exact g2.elim
  rename_i kk
  obtain ⟨hc, g3⟩ := good_if g2
  have he2 := lst_mono m2 hn he
  have rr2 := rvs_mono r1 m2 _ _ rr
  have rep : RVs W ι2 H2 (List.replicate kk.toNat vs).flatten (List.replicate kk.toNat l).flatten := by
    generalize kk.toNat = n
    induction n with
    | zero => exact .nil
    | succ n ih => rw [List.replicate_succ, List.replicate_succ, List.flatten_cons, List.flatten_cons]; exact rr2.append ih
  refine ⟨p, kk, vs, rfl, rfl, he2, by omega, by omega, by rw [sizeLine_eq, rr.length]; exact hc.2.2, fun np hnp => ?_⟩
  have hlen : (List.replicate kk.toNat l).flatten.length ≤ 16777216 := by
    have e : (List.replicate kk.toNat l).flatten.length = kk.toNat * l.length := by simp
    rw [e, Nat.mul_comm]
    exact hc.2.2
  exact good_newlst g3 r2 rep hlen hnp (none_back rs (m1.trans m2) r2.some_ hnp)⟩
/-- an unlocked list, wherever it stands -/
def kU (W : Wd) (Q : VK) : List PV → Sto → List Addr → Hp → Prop := fun l _ ι' H' => ∀ p vs, H' p = some (.lst vs) → RVs W ι' H' vs l → l.length ≤ 16777216 → Q (.ref p) H'
def tDU (W : Wd) (E : XK) (d : Env → Mo (List PV)) : TE := fun σ H Q => ∃ ι ρ st, RE W ι H ρ σ ∧ RS W ι st H ∧ Good W E ι H (d ρ st) (kU W Q)
structure DU (X : Cx) (W : Wd) (k : Nat) (E : XK) (e : Expr) (d : Env → Mo (List PV)) : Prop where
  run : On X W k E → PE X e (tDU W E d)
theorem du_l (h : DL X W k E e dl) : DU X W k E e dl := ⟨fun o => pe_imp (h.run o) fun σ H Q t => by
  obtain ⟨ι, ρ, st, re, rs, g⟩ := t
  exact ⟨ι, ρ, st, re, rs, Good.imp g fun l st1 ι1 H1 m1 r1 g1 p vs hp hn e1 r z => g1 p vs e1 r z⟩⟩
def lstU (q : PV) : Mo (List PV) := fun st => match q with
  | .loc n => match st[n]? with
    | some (.lst false l) => .ok l st
    | _ => .stuck
  | _ => .stuck
theorem lu_of {ι : List Addr} {st : Sto} {H : Hp} {x : V} {q : PV} {kk : List PV → Sto → List Addr → Hp → Prop} (rs : RS W ι st H) (hx : RV W ι H x q) (g : Good W E ι H (lstU q st) kk) :
    ∃ a vs l, x = .ref a ∧ H a = some (.lst vs) ∧ RVs W ι H vs l ∧ l.length ≤ 16777216 ∧ kk l st ι H := by
  cases hx <;> try exact g.elim
  rename_i n a hn
  unfold lstU at g
  dsimp only at g
  cases q : st[n]? with
  | none => rw [q] at g; exact g.elim
  | some ob =>
    rw [q] at g
    have ro := rs.ob n ob a q hn
    cases ob with
    | dct _ _ => exact g.elim
    | sti _ => exact g.elim
    | lst lk l =>
      cases lk with
      | true => exact g.elim
      | false =>
        obtain ⟨vs, e, r, hz⟩ := ro
        exact ⟨a, vs, l, rfl, e, r, hz, g.ok rs⟩
theorem du_e (h : DE X W k E e d) : DU X W k E e (fun ρ => bnd (d ρ) lstU) := ⟨fun o => pe_imp (h.run o) fun σ H Q t => by
  obtain ⟨ι, ρ, st, re, rs, g⟩ := t
  refine ⟨ι, ρ, st, re, rs, Good.imp (Good.bind g) fun q st1 ι1 H1 m1 r1 g1 x hx => ?_⟩
  obtain ⟨a, vs, l, rfl, he, r, hz, g2⟩ := lu_of r1 hx g1
  exact g2 a vs he r hz⟩
theorem dl_catL (ha : DL X W k E a dl) (hb : DU X W k E b dm) : DL X W k E (.BinOp a .Add b pos) (fun ρ => bnd (dl ρ) fun l => bnd (dm ρ) fun m => capM (l ++ m)) := ⟨fun o => pe_imp (pe_op op_cat (ha.run o) (hb.run o)) fun σ H Q t => by
  obtain ⟨ι, ρ, st, re, rs, g⟩ := t
  refine ⟨ι, ρ, st, re, rs, Good.imp (Good.bind g) fun l st1 ι1 H1 m1 r1 g1 p vs hp0 hn he rr hz => ?_⟩
  refine ⟨ι1, ρ, st1, re.mono rs m1, r1, Good.imp (Good.bind g1) fun l2 st2 ι2 H2 m2 r2 g2 p2 vs2 he2 rr2 hz2 => ?_⟩
  obtain ⟨hc, g3⟩ := good_if g2
  rw [List.length_append] at hc
  refine ⟨p, p2, vs, vs2, rfl, rfl, lst_mono m2 hn he, he2, line_le (by rw [rr.length, rr2.length]; exact hc), fun np hnp => ?_⟩
  exact good_newlst g3 r2 ((rvs_mono r1 m2 _ _ rr).append rr2) (by rw [List.length_append]; exact hc) hnp (none_back rs (m1.trans m2) r2.some_ hnp)⟩
theorem dl_catE (ha : DE X W k E a da) (hb : DU X W k E b dm) : DL X W k E (.BinOp a .Add b pos) (fun ρ => bnd (da ρ) fun q => bnd (dm ρ) fun m => bnd (lstU q) fun l => capM (l ++ m)) := ⟨fun o => pe_imp (pe_op op_cat (ha.run o) (hb.run o)) fun σ H Q t => by
  obtain ⟨ι, ρ, st, re, rs, g⟩ := t
  refine ⟨ι, ρ, st, re, rs, Good.imp (Good.bind g) fun q st1 ι1 H1 m1 r1 g1 x hx => ?_⟩
  refine ⟨ι1, ρ, st1, re.mono rs m1, r1, Good.imp (Good.bind g1) fun l2 st2 ι2 H2 m2 r2 g2 p2 vs2 he2 rr2 hz2 => ?_⟩
  obtain ⟨p, vs, l, rfl, he, rr, hz, g2'⟩ := lu_of r2 (rv_mono r1 m2 q x hx) (Good.bind g2)
  obtain ⟨hc, g3⟩ := good_if g2'
  rw [List.length_append] at hc
  refine ⟨p, p2, vs, vs2, rfl, rfl, he, he2, line_le (by rw [rr.length, rr2.length]; exact hc), fun np hnp => ?_⟩
  exact good_newlst g3 r2 (rr.append rr2) (by rw [List.length_append]; exact hc) hnp (none_back rs (m1.trans m2) r2.some_ hnp)⟩
end
end PD
/-! PD: further rules. -/
namespace PD
open PySem PySem.Spec PyProof.Rows L2
section
variable {X : Cx} {W : Wd} {k : Nat} {E : XK} {a b c e o : Expr} {es ifs : List Expr} {pos p p2 : Pos} {da db dc d : Env → Mo PV} {dt du : Env → Mo Bool} {dl dm : Env → Mo (List PV)}
theorem ds_par2 {i j : Nat} {x y : Str} {px py pt pt2 : Pos} {kt k2 : Nat} (hij : i ≠ j) (ha : DA X W k E [a, b] dl) (hi : X.N[i]? = some x := by rfl) (hj : X.N[j]? = some y := by rfl) (hx : X.env.scope.names.lookup x = some .local := by rfl) (hy : X.env.scope.names.lookup y = some .local := by rfl)
    (hw : swappedStores [.Tuple [.Name x px, .Name y py] kt pt] (.Tuple [a, b] k2 pt2) X.env = pure (some [x, y]) := by rfl)
    (hs : swapsWithSole [.Tuple [.Name x px, .Name y py] kt pt] (.Tuple [a, b] k2 pt2) pos.line X.env = pure false := by rfl) : DS X W k E (.Assign [.Tuple [.Name x px, .Name y py] kt pt] (.Tuple [a, b] k2 pt2) pos) (dPar i j dl) :=
  ds_par hij ha hi hj hx hy fun o => ps_par o.hc o.nd hi hj hij hx hy (ha.run o) hw hs
theorem dt_in (ha : DE X W k E a da) (hb : DE X W k E b db) (hm : behindInMarks .In b = false := by rfl) : DT X W k E (.Compare a [.In] [b] pos) (dB (dBin (fun p q => bnd (sqM q) (inQ false p)) da db)) :=
  dt_cmp (r := rInP W.K false) (fun o => by rw [← o.hK]; exact op_inP (by have := o.room.un; omega)) (fun ι st H x y p q Q rs hx hy g => by
    have g0 := Good.bind g
    unfold sqM at g0
    cases z : seqOf st q with
    | none => rw [z] at g0; exact g0.elim
    | some l =>
      rw [z] at g0
      obtain ⟨vs, h1, h2, h3⟩ := seq_sq rs hy z
      exact in_of rs hx h1 h2 (g0.ok rs)) ha hb hm
theorem dt_notin (ha : DE X W k E a da) (hb : DE X W k E b db) (hm : behindInMarks .NotIn b = false := by rfl) : DT X W k E (.Compare a [.NotIn] [b] pos) (dB (dBin (fun p q => bnd (sqM q) (inQ true p)) da db)) :=
  dt_cmp (r := rInP W.K true) (fun o => by rw [← o.hK]; exact op_notInP (by have := o.room.un; omega)) (fun ι st H x y p q Q rs hx hy g => by
    have g0 := Good.bind g
    unfold sqM at g0
    cases z : seqOf st q with
    | none => rw [z] at g0; exact g0.elim
    | some l =>
      rw [z] at g0
      obtain ⟨vs, h1, h2, h3⟩ := seq_sq rs hy z
      exact in_of rs hx h1 h2 (g0.ok rs)) ha hb hm
/-! ### tuple(range(..)) -/
def tupR : List PV → Mo PV
  | [.int j] => fun st => if j ≤ 16777216 ∧ -16777216 ≤ j then .ok (.tup (rgP 0 j.toNat)) st else .stuck
  | _ => fail
theorem rvs_rg {ι : List Addr} {H : Hp} {n : Nat} : RVs W ι H (rgV 0 n) (rgP 0 n) := by
  unfold rgV rgP
  have e : ((n : Int) - 0).toNat = n := by omega
  rw [e]
  generalize List.range n = l
  induction l with
  | nil => exact .nil
  | cons a l ih => exact .cons (.int _) ih
theorem da_one (h : DA X W k E [a] dl) : True := True.intro
theorem de_tupR {p3 pos3 : Pos} (h : DE X W k E a da) (hg : Gl X "tuple") (hm : W.mg "tuple" = none) (hm2 : W.mg "range" = none) (hg2 : Gl X "range" := by rfl) (hs : starEach [a] X.env = (false, eval a X.env) :: starEach [] X.env := by rfl)
    (hs2 : starEach [.Call (.Name "range" p3) [a] [] pos3] X.env = (false, eval (.Call (.Name "range" p3) [a] [] pos3) X.env) :: starEach [] X.env := by rfl) :
    DE X W k E (.Call (.Name "tuple" p) [.Call (.Name "range" p3) [a] [] pos3] [] pos) (fun ρ => bnd (da ρ) fun q => tupR [q]) := ⟨fun o => pe_imp (pe_tupRg o.hc hg (by rw [o.hM]; exact hm) (prg_1 hg2 (by rw [o.hM]; exact hm2) (h.run o) hs) hs2) fun σ H Q t => by
  obtain ⟨ι, ρ, st, re, rs, g⟩ := t
  refine ⟨ι, ρ, st, re, rs, Good.imp (Good.bind g) fun q st1 ι1 H1 m1 r1 g1 v hv => ?_⟩
  cases hv <;> try exact g1.elim
  rename_i j
  obtain ⟨hc, g2⟩ := good_if g1
  refine ⟨j, rfl, ⟨by omega, by omega, by omega, by omega, by omega⟩, fun np hnp => ?_⟩
  have e : rgV 0 j = rgV 0 (j.toNat : Int) := by
    unfold rgV
    have : (j - 0).toNat = ((j.toNat : Int) - 0).toNat := by omega
    rw [this]
  rw [e]
  exact good_newtup g2 r1 rvs_rg (by unfold rgP; rw [List.length_map, List.length_range]; omega) hnp⟩
/-! ### chains as tests -/
theorem chain_of {r r' : R2} {f f' : PV → PV → Mo PV} {σ : L2.St} {H : Hp} {Q : VK} (hf : FOk W E r f) (hf' : FOk W E r' f') (t : tD W E (dChain f f' da db dc) σ H Q) : tChain r r' (tD W E da) (tD W E db) (tD W E dc) σ H Q := by
  obtain ⟨ι, ρ, st, re, rs, g⟩ := t
  refine ⟨ι, ρ, st, re, rs, Good.imp (Good.bind g) fun p st1 ι1 H1 m1 r1 g1 v1 hv1 => ?_⟩
  refine ⟨ι1, ρ, st1, re.mono rs m1, r1, Good.imp (Good.bind g1) fun q st2 ι2 H2 m2 r2 g2 v2 hv2 => ?_⟩
  refine hf ι2 st2 H2 v1 v2 p q _ r2 (rv_mono r1 m2 p v1 hv1) hv2 (Good.imp (Good.bind g2) fun z st3 ι3 H3 m3 r3 g3 v3 hv3 => ?_)
  obtain ⟨b, rfl, rfl, g4⟩ := bl_of r3 hv3 (Good.bind g3)
  refine ⟨b, rfl, ?_⟩
  cases b with
  | false => exact g4.ok r3 _ (.bl false)
  | true =>
    refine ⟨ι3, ρ, st3, ((re.mono rs m1).mono r1 m2).mono r2 m3, r3, Good.imp (Good.bind g4) fun w st4 ι4 H4 m4 r4 g5 v4 hv4 => ?_⟩
    exact hf' ι4 st4 H4 v2 v4 q w Q r4 (rv_mono r3 m4 q v2 (rv_mono r2 m3 q v2 hv2)) hv4 g5
theorem b_of {σ : L2.St} {H : Hp} {Q : Bool → Hp → Prop} (t : tDT W E (dB d) σ H Q) : tTest (tD W E d) σ H Q := by
  obtain ⟨ι, ρ, st, re, rs, g⟩ := t
  refine ⟨ι, ρ, st, re, rs, Good.imp (Good.bind g) fun q st1 ι1 H1 m1 r1 g1 v hv => ?_⟩
  obtain ⟨b, rfl, rfl, g2⟩ := bl_of r1 hv g1
  exact ⟨b, rfl, g2⟩
theorem dt_chain {op op' : CmpOp} {r r' : R2} {f f' : PV → PV → Mo PV} (ho : On X W k E → OpR X (compareOp op) r) (hf : FOk W E r f) (ho' : On X W k E → OpR X (compareOp op') r') (hf' : FOk W E r' f') (ha : DE X W k E a da) (hb : DE X W k E b db) (hc : DE X W k E c dc)
    (hm : lastMarks [op, op'] [b, c] = false := by with_unfolding_all rfl) : DT X W k E (.Compare a [op, op'] [b, c] pos) (dB (dChain f f' da db dc)) := ⟨fun o => pt_imp (pt_chain (ho o) (ho' o) (ha.run o) (hb.run o) (hc.run o) hm) fun _ _ _ t => chain_of hf hf' (b_of t)⟩
theorem dt_leLe (ha : DE X W k E a da) (hb : DE X W k E b db) (hc : DE X W k E c dc) (hm : lastMarks [.LtE, .LtE] [b, c] = false := by with_unfolding_all rfl) : DT X W k E (.Compare a [.LtE, .LtE] [b, c] pos) (dB (dChain oLe oLe da db dc)) := dt_chain (fun _ => op_le) (fok_I fun _ _ _ _ => .bl _) (fun _ => op_le) (fok_I fun _ _ _ _ => .bl _) ha hb hc hm
theorem dt_leLt (ha : DE X W k E a da) (hb : DE X W k E b db) (hc : DE X W k E c dc) (hm : lastMarks [.LtE, .Lt] [b, c] = false := by with_unfolding_all rfl) : DT X W k E (.Compare a [.LtE, .Lt] [b, c] pos) (dB (dChain oLe oLt da db dc)) := dt_chain (fun _ => op_le) (fok_I fun _ _ _ _ => .bl _) (fun _ => op_lt) (fok_I fun _ _ _ _ => .bl _) ha hb hc hm
/-! ### the greatest of a tuple of ints -/
def rMaxT (K : PySem.W.Frag) : List V → Hp → VK → Prop := fun vs H Q => ∃ (a : Addr) (n : Int) (ns : List Int), vs = [V.ref a] ∧ SqT K H a ((n :: ns).map V.int) ∧ Q (.int (ns.foldl max n)) H
theorem ints_alike (l : List Int) : PySem.W.AlikeAll (l.map PyData.int) := by
  refine ⟨fun x hx y hy => ?_, fun x hx => ?_⟩
  · obtain ⟨i, _, rfl⟩ := List.mem_map.mp hx
    obtain ⟨j, _, rfl⟩ := List.mem_map.mp hy
    rfl
  · obtain ⟨i, _, rfl⟩ := List.mem_map.mp hx
    exact fun z => (by cases z)
theorem ints_depth : ∀ l : List Int, PyData.depthAll (l.map PyData.int) ≤ 1
  | [] => by simp [PyData.depthAll]
  | i :: l => by
    have := ints_depth l
    simp only [List.map_cons, PyData.depthAll, PyData.depth]
    omega
theorem ints_dps {K : PySem.W.Frag} {H : Hp} : ∀ l : List Int, DpAll K H (l.map V.int) (l.map PyData.int)
  | [] => .nil
  | i :: l => .cons (.int i) (ints_dps l)
theorem call_maxT {X : Cx} (hc : X.calm = true) (hu : X.A.units + 64 < cLine) : CallR X (.builtin "max") (rMaxT X.K) := by
  intro pins s σ H xs us Q I r h
  obtain ⟨a, n, ns, rfl, hT, q⟩ := h
  cases r with
  | cons r1 rr =>
    cases rr
    cases r1
    obtain ⟨as, rd⟩ := Dp.reads I (.tuple ((n :: ns).map PyData.int)) (.ref a) (.ref a) (.tup hT (ints_dps _)) rfl
    cases rd with
    | tuple h1 h2 h3 h4 =>
      rename_i ob vs nn
      refine PySem.W.max_tuple_data (l := a) (vs := vs) (x := .int n) (xs := ns.map PyData.int) (I.ok.hd hc) ⟨ob, h1, h2, _, h3⟩ h4 (ints_alike (n :: ns)) ?_ fun i v h' tk bs hv hr hk => ?_
      · have := ints_depth (n :: ns)
        have e : PyData.depthAll (PyData.int n :: ns.map PyData.int) ≤ 1 := this
        omega
      · rw [PySem.W.maxD_ints] at hr
        cases hr with
        | int i t => exact ⟨.int _, H, I.kept hk, ⟨_, rfl⟩, q⟩
def maxS (q : PV) : Mo PV := fun st => match q with
  | .tup l => (bnd (intsM l) fun bs => fun st => if 0 < bs.length then .ok (.int (maxI bs)) st else .stuck) st
  | _ => .stuck
theorem foldl_max_mem : ∀ (ns : List Int) (n : Int), ns.foldl max n ∈ n :: ns ∧ ∀ y ∈ n :: ns, y ≤ ns.foldl max n
  | [], n => ⟨List.mem_cons_self .., fun y hy => by rw [List.mem_singleton] at hy; rw [hy]; exact Int.le_refl _⟩
  | m :: ns, n => by
    obtain ⟨h1, h2⟩ := foldl_max_mem ns (max n m)
    rw [List.foldl_cons]
    refine ⟨?_, fun y hy => ?_⟩
    · rcases List.mem_cons.mp h1 with z | z
      · rw [z]
        rcases Int.le_total n m with q | q
        · rw [Int.max_eq_right q]; simp
        · rw [Int.max_eq_left q]; simp
      · exact List.mem_cons_of_mem _ (List.mem_cons_of_mem _ z)
    · have h3 := h2 (max n m) (List.mem_cons_self ..)
      rcases List.mem_cons.mp hy with z | z
      · rw [z]; exact Int.le_trans (Int.le_max_left ..) h3
      · rcases List.mem_cons.mp z with z | z
        · rw [z]; exact Int.le_trans (Int.le_max_right ..) h3
        · exact h2 y (List.mem_cons_of_mem _ z)
theorem de_maxS (h : DE X W k E a d) (hg : Gl X "max") (hm : W.mg "max" = none) (hs : starEach [a] X.env = (false, eval a X.env) :: starEach [] X.env := by rfl) : DE X W k E (.Call (.Name "max" p) [a] [] pos) (fun ρ => bnd (d ρ) maxS) :=
  ⟨fun o => pe_imp (pe_callB (call_maxT o.hc (by have := o.room.un; omega)) hg (by rw [o.hM]; exact hm) boot_max_ (pa_cons (h.run o) pa_nil hs) (by decide) (by decide) hs (by rfl)) fun σ H Q t => by
    obtain ⟨ι, ρ, st, re, rs, g⟩ := t
    refine ⟨ι, ρ, st, re, rs, Good.imp (Good.bind g) fun q st1 ι1 H1 m1 r1 g1 v hv => ?_⟩
    cases hv <;> try exact g1.elim
    rename_i a vs l sq rr hz
    obtain ⟨bs, rfl, g2⟩ := ints_of r1 rr (Good.bind g1)
    obtain ⟨hc, g3⟩ := good_if g2
    cases bs with
    | nil => exact absurd hc (by decide)
    | cons n ns =>
      refine ⟨a, n, ns, rfl, by rw [o.hK]; exact sq, ?_⟩
      obtain ⟨h1, h2⟩ := foldl_max_mem ns n
      rw [maxI_spec h1 h2]
      exact g3.ok r1 _ (.int _)⟩
/-! ### the greater and the less of two data -/
theorem max_two_data {prog : Program} {w : World} {A : Around} {s : Shared} {E : Value → Shared → Prop} {x y : Value} {dx dy : PyData} {as bs : List Addr} {Q : Value → Shared → Prop} (hh : A.handled = none) (hx : Reads s.heap x dx as) (hy : Reads s.heap y dy bs) (ha : PySem.W.AlikeAll [dx, dy]) (hu : A.units + 2 + PyData.depthAll [dx, dy] < cLine)
    (h : ∀ h' tk, (∀ b o, s.heap.get? b = some o → h'.get? b = some o) → Q (if PySem.W.dataLt dx dy then y else x) { s with heap := h', toks := tk }) : wpAny (model prog w) A (call (.builtin "max") [x, y]) Q E s := by
  have hname : (toString "max" ++ toString ".loop" : String) = "max.loop" := by decide
  refine call_function_tree F.kind_max F.plain_max F.entry_max (F.args_max2 _ _) ?_
  show wpAny _ A.in1 (Builtin.Builtins.bindParams "max" ["key", "default"] 0 ⟨[], []⟩ >>= _) _ _ s
  refine wpAny_bind (wpAny_of_eq (show Builtin.Builtins.bindParams "max" ["key", "default"] 0 ⟨[], []⟩ = pure [none, none] from rfl) ?_)
  show wpAny _ A.in1 (newTuple [x, y] >>= _) _ _ s
  refine wpAny_bind (wpAny_newObj_type ?_)
  have hT : (s.heap.push { cls := .type "tuple", data := .seq #[x, y] }).IsTuple s.heap.objs.size #[x, y] := ⟨_, Heap.get?_push_size _ rfl, rfl, 0, rfl⟩
  have kp : ∀ b o, s.heap.get? b = some o → (s.heap.push { cls := .type "tuple", data := .seq #[x, y] }).get? b = some o := fun b o e => Heap.get?_push_of_some _ e
  have hr : ReadsAll (s.heap.push { cls := .type "tuple", data := .seq #[x, y] }) (#[x, y] : Array Value).toList [dx, dy] (as ++ (bs ++ [])) := .cons (Reads.keeps kp hx) (.cons (Reads.keeps kp hy) .nil)
  refine wpAny_bind (PySem.W.iter_tupleW (A := A.in1) (s := { s with heap := s.heap.push { cls := .type "tuple", data := .seq #[x, y] } }) hh hT fun s₂ e W st hfp hw hk => ?_)
  refine wpAny_bind (wpAny_newObj_type ?_)
  have hSf : s₂.heap.objs.size ∉ [(s.heap.push { cls := .type "tuple", data := .seq #[x, y] }).objs.size, s.heap.objs.size] := fun hm => Nat.lt_irrefl _ (hfp _ hm)
  rw [hname]
  have hcmp := PySem.W.cmpIn_gt (prog := prog) (w := w) (A := A.in1) (s := { s with heap := s.heap.push { cls := .type "tuple", data := .seq #[x, y] } }) hr ha (by show A.units + 1 + _ < _; omega)
  refine wpAny_pure ⟨plainId_quiet F.plain_max_loop _, codeAny_max_loop_firstH W (s.heap.push { cls := .type "tuple", data := .seq #[x, y] }) hw _ hcmp s₂.heap.objs.size hSf (fresh_in hk) _ (Nat.succ_pos 1) (fun b o e => Heap.get?_push_of_some _ (hk b o e)) (W.frame 0 s₂ _ s₂.toks st (Nat.le_refl _) fun b _ o e => Heap.get?_push_of_some _ e) (Heap.get?_push_size _ rfl) fun v s' hP hm => ?_⟩
  obtain ⟨h', tk, rfl, hk'⟩ := PySem.W.moved_old e rfl (Moved.drop_new (tk := s₂.toks) hm (Nat.le_refl _))
  have q := h h' tk fun b o z => hk' b o (kp b o z)
  have hP : (#[x, y] : Array Value)[argBest (fun i j => PySem.W.dataLt ([dx, dy].getD j .none) ([dx, dy].getD i .none)) 1]? = some v := hP
  unfold argBest at hP
  have e2 : PySem.W.dataLt ([dx, dy].getD (argBest (fun i j => PySem.W.dataLt ([dx, dy].getD j .none) ([dx, dy].getD i .none)) 0) .none) ([dx, dy].getD (0 + 1) .none) = PySem.W.dataLt dx dy := rfl
  simp only [e2] at hP
  cases z : PySem.W.dataLt dx dy with
  | true =>
    rw [z] at hP q
    have : v = y := by simpa using hP.symm
    subst this
    exact q
  | false =>
    rw [z] at hP q
    have : v = x := by simpa [argBest] using hP.symm
    subst this
    exact q
theorem min_two_data {prog : Program} {w : World} {A : Around} {s : Shared} {E : Value → Shared → Prop} {x y : Value} {dx dy : PyData} {as bs : List Addr} {Q : Value → Shared → Prop} (hh : A.handled = none) (hx : Reads s.heap x dx as) (hy : Reads s.heap y dy bs) (ha : PySem.W.AlikeAll [dx, dy]) (hu : A.units + 2 + PyData.depthAll [dx, dy] < cLine)
    (h : ∀ h' tk, (∀ b o, s.heap.get? b = some o → h'.get? b = some o) → Q (if PySem.W.dataLt dy dx then y else x) { s with heap := h', toks := tk }) : wpAny (model prog w) A (call (.builtin "min") [x, y]) Q E s := by
  have hname : (toString "min" ++ toString ".loop" : String) = "min.loop" := by decide
  refine call_function_tree F.kind_min F.plain_min F.entry_min (F.args_min2 _ _) ?_
  show wpAny _ A.in1 (Builtin.Builtins.bindParams "min" ["key", "default"] 0 ⟨[], []⟩ >>= _) _ _ s
  refine wpAny_bind (wpAny_of_eq (show Builtin.Builtins.bindParams "min" ["key", "default"] 0 ⟨[], []⟩ = pure [none, none] from rfl) ?_)
  show wpAny _ A.in1 (newTuple [x, y] >>= _) _ _ s
  refine wpAny_bind (wpAny_newObj_type ?_)
  have hT : (s.heap.push { cls := .type "tuple", data := .seq #[x, y] }).IsTuple s.heap.objs.size #[x, y] := ⟨_, Heap.get?_push_size _ rfl, rfl, 0, rfl⟩
  have kp : ∀ b o, s.heap.get? b = some o → (s.heap.push { cls := .type "tuple", data := .seq #[x, y] }).get? b = some o := fun b o e => Heap.get?_push_of_some _ e
  have hr : ReadsAll (s.heap.push { cls := .type "tuple", data := .seq #[x, y] }) (#[x, y] : Array Value).toList [dx, dy] (as ++ (bs ++ [])) := .cons (Reads.keeps kp hx) (.cons (Reads.keeps kp hy) .nil)
  refine wpAny_bind (PySem.W.iter_tupleW (A := A.in1) (s := { s with heap := s.heap.push { cls := .type "tuple", data := .seq #[x, y] } }) hh hT fun s₂ e W st hfp hw hk => ?_)
  refine wpAny_bind (wpAny_newObj_type ?_)
  have hSf : s₂.heap.objs.size ∉ [(s.heap.push { cls := .type "tuple", data := .seq #[x, y] }).objs.size, s.heap.objs.size] := fun hm => Nat.lt_irrefl _ (hfp _ hm)
  rw [hname]
  have hcmp := PySem.W.cmpIn_lt (prog := prog) (w := w) (A := A.in1) (s := { s with heap := s.heap.push { cls := .type "tuple", data := .seq #[x, y] } }) hr ha (by show A.units + 1 + _ < _; omega)
  refine wpAny_pure ⟨plainId_quiet F.plain_min_loop _, codeAny_min_loop_firstH W (s.heap.push { cls := .type "tuple", data := .seq #[x, y] }) hw _ hcmp s₂.heap.objs.size hSf (fresh_in hk) _ (Nat.succ_pos 1) (fun b o e => Heap.get?_push_of_some _ (hk b o e)) (W.frame 0 s₂ _ s₂.toks st (Nat.le_refl _) fun b _ o e => Heap.get?_push_of_some _ e) (Heap.get?_push_size _ rfl) fun v s' hP hm => ?_⟩
  obtain ⟨h', tk, rfl, hk'⟩ := PySem.W.moved_old e rfl (Moved.drop_new (tk := s₂.toks) hm (Nat.le_refl _))
  have q := h h' tk fun b o z => hk' b o (kp b o z)
  have hP : (#[x, y] : Array Value)[argBest (fun i j => PySem.W.dataLt ([dx, dy].getD i .none) ([dx, dy].getD j .none)) 1]? = some v := hP
  unfold argBest at hP
  have e2 : PySem.W.dataLt ([dx, dy].getD (0 + 1) .none) ([dx, dy].getD (argBest (fun i j => PySem.W.dataLt ([dx, dy].getD i .none) ([dx, dy].getD j .none)) 0) .none) = PySem.W.dataLt dy dx := rfl
  simp only [e2] at hP
  cases z : PySem.W.dataLt dy dx with
  | true =>
    rw [z] at hP q
    have : v = y := by simpa using hP.symm
    subst this
    exact q
  | false =>
    rw [z] at hP q
    have : v = x := by simpa [argBest] using hP.symm
    subst this
    exact q
def nnon : PV → Bool
  | .non => false
  | _ => true
/-- alike data, both for themselves and together -/
def alk (p q : PV) : Bool := okd 60 p && okd 60 q && PySem.W.alike (toD p) (toD p) && PySem.W.alike (toD p) (toD q) && PySem.W.alike (toD q) (toD p) && PySem.W.alike (toD q) (toD q) && nnon p && nnon q
def pvLt (p q : PV) : Bool := PySem.W.dataLt (toD p) (toD q)
theorem toD_none {p : PV} (h : okd 60 p = true) (hn : nnon p = true) : toD p ≠ .none := by
  cases p with
  | non => cases hn
  | loc i => rw [okd_loc] at h; cases h
  | fn j => rw [okd_fn] at h; cases h
  | clo l => rw [okd_clo] at h; cases h
  | pst l => rw [okd_pst] at h; cases h
  | kl l => rw [okd_kl] at h; cases h
  | bl b => exact fun z => (by cases z)
  | int i => exact fun z => (by cases z)
  | str i => exact fun z => (by cases z)
  | tup l => exact fun z => (by cases z)
theorem alk_all {p q : PV} (h : alk p q = true) : okd 60 p = true ∧ okd 60 q = true ∧ PySem.W.AlikeAll [toD p, toD q] ∧ PyData.depthAll [toD p, toD q] ≤ 60 := by
  unfold alk at h
  simp only [Bool.and_eq_true] at h
  obtain ⟨⟨⟨⟨⟨⟨⟨h1, h2⟩, h3⟩, h4⟩, h5⟩, h6⟩, h7⟩, h8⟩ := h
  have d1 := (okd_plain 60 p h1).2
  have d2 := (okd_plain 60 q h2).2
  refine ⟨h1, h2, ⟨fun x hx y hy => ?_, fun x hx => ?_⟩, by simp only [PyData.depthAll]; omega⟩
  · simp only [List.mem_cons, List.not_mem_nil, or_false] at hx hy
    rcases hx with rfl | rfl <;> rcases hy with rfl | rfl <;> assumption
  · simp only [List.mem_cons, List.not_mem_nil, or_false] at hx
    rcases hx with rfl | rfl
    · exact toD_none h1 h7
    · exact toD_none h2 h8
def oMaxD (p q : PV) : Mo PV := fun st => if alk p q = true then .ok (if pvLt p q then q else p) st else .stuck
def oMinD (p q : PV) : Mo PV := fun st => if alk p q = true then .ok (if pvLt q p then q else p) st else .stuck
def rMM (K : PySem.W.Frag) (mx : Bool) : List V → Hp → VK → Prop := fun vs H Q => ∃ x y dx dy, vs = [x, y] ∧ Dp K H x dx ∧ Dp K H y dy ∧ PySem.W.AlikeAll [dx, dy] ∧ PyData.depthAll [dx, dy] ≤ 60 ∧ Q (if (if mx then PySem.W.dataLt dx dy else PySem.W.dataLt dy dx) then y else x) H
theorem call_max2D {X : Cx} (hc : X.calm = true) (hu : X.A.units + 64 < cLine) : CallR X (.builtin "max") (rMM X.K true) := by
  intro pins s σ H xs us Q I r h
  obtain ⟨x, y, dx, dy, rfl, h1, h2, ha, hd, q⟩ := h
  obtain ⟨u, w', rfl, r1, r2⟩ := vals2 r
  obtain ⟨as, d1⟩ := Dp.reads I dx x u h1 r1
  obtain ⟨bs, d2⟩ := Dp.reads I dy y w' h2 r2
  refine max_two_data (I.ok.hd hc) d1 d2 ha (by omega) fun h' tk k => ⟨_, H, I.kept k, ?_, q⟩
  rw [if_pos (rfl : (true = true))]
  cases PySem.W.dataLt dx dy with
  | true => exact r2
  | false => exact r1
theorem call_min2D {X : Cx} (hc : X.calm = true) (hu : X.A.units + 64 < cLine) : CallR X (.builtin "min") (rMM X.K false) := by
  intro pins s σ H xs us Q I r h
  obtain ⟨x, y, dx, dy, rfl, h1, h2, ha, hd, q⟩ := h
  obtain ⟨u, w', rfl, r1, r2⟩ := vals2 r
  obtain ⟨as, d1⟩ := Dp.reads I dx x u h1 r1
  obtain ⟨bs, d2⟩ := Dp.reads I dy y w' h2 r2
  refine min_two_data (I.ok.hd hc) d1 d2 ha (by omega) fun h' tk k => ⟨_, H, I.kept k, ?_, q⟩
  rw [if_neg (Bool.false_ne_true)]
  cases PySem.W.dataLt dy dx with
  | true => exact r2
  | false => exact r1
theorem mm_of {mx : Bool} {σ : L2.St} {H : Hp} {Q : VK} (t : tD W E (dBin (if mx then oMaxD else oMinD) da db) σ H Q) : tCB (rMM W.K mx) (tCons (tD W E da) (tCons (tD W E db) tNil)) σ H Q := by
  obtain ⟨ι, ρ, st, re, rs, g⟩ := t
  refine ⟨ι, ρ, st, re, rs, Good.imp (Good.bind g) fun p st1 ι1 H1 m1 r1 g1 v1 hv1 => ?_⟩
  refine ⟨ι1, ρ, st1, re.mono rs m1, r1, Good.imp (Good.bind g1) fun q st2 ι2 H2 m2 r2 g2 v2 hv2 => ?_⟩
  have hv1 := rv_mono r1 m2 p v1 hv1
  cases mx with
  | true =>
    obtain ⟨hc, g3⟩ := good_if g2
    obtain ⟨k1, k2, k3, k4⟩ := alk_all hc
    refine ⟨v1, v2, toD p, toD q, rfl, dp_of 60 p v1 k1 hv1, dp_of 60 q v2 k2 hv2, k3, k4, g3.ok r2 _ ?_⟩
    show RV W ι2 H2 (if pvLt p q = true then v2 else v1) _
    cases pvLt p q with
    | true => exact hv2
    | false => exact hv1
  | false =>
    obtain ⟨hc, g3⟩ := good_if g2
    obtain ⟨k1, k2, k3, k4⟩ := alk_all hc
    refine ⟨v1, v2, toD p, toD q, rfl, dp_of 60 p v1 k1 hv1, dp_of 60 q v2 k2 hv2, k3, k4, g3.ok r2 _ ?_⟩
    show RV W ι2 H2 (if pvLt q p = true then v2 else v1) _
    cases pvLt q p with
    | true => exact hv2
    | false => exact hv1
theorem de_max2D (ha : DE X W k E a da) (hb : DE X W k E b db) (hg : Gl X "max") (hm : W.mg "max" = none) (hs : starEach [a, b] X.env = (false, eval a X.env) :: starEach [b] X.env := by rfl) (hs2 : starEach [b] X.env = (false, eval b X.env) :: starEach [] X.env := by rfl) (hpl : (backTo pos (starEach [b] X.env)).any (·.1) = false := by rfl) :
    DE X W k E (.Call (.Name "max" p) [a, b] [] pos) (dBin oMaxD da db) :=
  ⟨fun o => pe_imp (pe_callB (call_max2D o.hc (by have := o.room.un; omega)) hg (by rw [o.hM]; exact hm) boot_max_ (pa_cons (ha.run o) (pa_cons (hb.run o) pa_nil hs2) hs) (by decide) (by decide) hs hpl) fun σ H Q t => by
    rw [o.hK]
    exact mm_of (mx := true) t⟩
theorem de_min2D (ha : DE X W k E a da) (hb : DE X W k E b db) (hg : Gl X "min") (hm : W.mg "min" = none) (hs : starEach [a, b] X.env = (false, eval a X.env) :: starEach [b] X.env := by rfl) (hs2 : starEach [b] X.env = (false, eval b X.env) :: starEach [] X.env := by rfl) (hpl : (backTo pos (starEach [b] X.env)).any (·.1) = false := by rfl) :
    DE X W k E (.Call (.Name "min" p) [a, b] [] pos) (dBin oMinD da db) :=
  ⟨fun o => pe_imp (pe_callB (call_min2D o.hc (by have := o.room.un; omega)) hg (by rw [o.hM]; exact hm) boot_min_ (pa_cons (ha.run o) (pa_cons (hb.run o) pa_nil hs2) hs) (by decide) (by decide) hs hpl) fun σ H Q t => by
    rw [o.hK]
    exact mm_of (mx := false) t⟩
end
end PD
/-! PD: sorted(range(n), key=lambda i: t[i]). -/
namespace PD
open PySem PySem.Spec PyProof.Rows L2
section
variable {prog : Program} {w : World} {A : Around} {s : Shared} {E : Value → Shared → Prop}
theorem each_range : ∀ (l : List Value) (n0 : Nat), (∀ (i : Nat) v, l[i]? = some v → ∃ t, v = Value.int ((n0 + i : Nat) : Int) t) → PySem.W.EachIs (fun v (i : Nat) => ∃ t, v = Value.int i t) l (List.range' n0 l.length)
  | [], _, _ => .nil
  | v :: l, n0, h => by
    rw [List.length_cons, List.range'_succ]
    refine .cons (h 0 v rfl) (each_range l (n0 + 1) fun i u hu => ?_)
    obtain ⟨t, e⟩ := h (i + 1) u hu
    exact ⟨t, by rw [e]; congr 2; omega⟩
/-- sorted(range(j), key=f) -/
theorem sorted_range {r f : Addr} {j : Nat} {t u v : Tok} {Q : Value → Shared → Prop} (hh : A.handled = none) (hr : IsRange s.heap r 0 (j : Int) 1 t u v) (hj : j ≤ 16777216) (k : Nat → PyData) (hal : PySem.W.AllAlike ((List.range j).map k)) (hk : PySem.W.Sortable ((List.range j).map k))
    (hu : ∀ x, x ∈ List.range j → A.units + 2 + (k x).depth < cLine)
    (turn : ∀ (i : Nat) (tk0 : Tok), i < j → ∀ (h : Heap) (tk : Nat), (∀ b o, s.heap.get? b = some o → h.get? b = some o) →
      wpAny (model prog w) A.in1.in1 (call (.ref f) [.int i tk0]) (PySem.W.KeyPure (k i) { s with heap := h, toks := tk }) (fun _ _ => False) { s with heap := h, toks := tk })
    (h : ∀ (h1 : Heap) out c h' tk, (∀ b o, s.heap.get? b = some o → h1.get? b = some o) → (∀ b o, h1.get? b = some o → h'.get? b = some o) → h'.get? h1.objs.size = some (seqObj "list" (List.toArray out) c) → out.length = j → PySem.W.EachIs (fun v (i : Nat) => ∃ t, v = Value.int i t) out ((List.range j).mergeSort (PySem.W.dataLe false k)) →
      Q (.ref h1.objs.size) { s with heap := h', toks := tk }) :
    wpAny (model prog w) A (call (.builtin "sorted") [.ref r] [(Str.ofString "key", .ref f)]) Q E s := by
  refine call_function_entry_kw kind_sorted plain_sorted entry_sorted (PyProof.Rows.ksk_s1 _ _) ?_
  unfold Builtin.«sorted»
  refine wpAny_bind (m := checkCount "sorted" 1 1 _) (wpAny_pure ?_)
  refine wpAny_bind (collect_range (n := j) hh hr (small_one (by decide) (by decide) (by omega) (by omega)) (by rw [rangeSize_one]; split <;> omega) (by omega) fun h1 tk1 acc hk1 hacc => ?_)
  have hlen : acc.toList.length = j := by rw [Array.length_toList]; exact hacc.1
  refine wpAny_bind (wpAny_newList ?_ (by rw [hlen, sizeLine_eq]; exact hj))
  have hat : (h1.push { cls := .type "list", data := .seq acc.toList.toArray }).get? h1.objs.size = some (seqObj "list" acc.toList.toArray 0) := Heap.get?_push_size _ rfl
  refine wpAny_bind (wpAny_holding (wpAny_call_entry_kw slot_list_sort ⟨_, hat, rfl⟩ entry_list_sort ?body (PyProof.Rows.ksk_l1 _ _)))
  case body =>
    show wpAny (model prog w) A.in1.in1 (Builtin.«list.sort» ⟨[.ref h1.objs.size], [(Str.ofString "key", .ref f)]⟩) _ _ _
    rw [PyProof.Rows.ksk_t1]
    have hnew : s.heap.get? h1.objs.size = none := by
      cases e : s.heap.get? h1.objs.size with
      | none => rfl
      | some o => exact absurd (Heap.lt_size (hk1 _ _ e)) (Nat.lt_irrefl _)
    have eR : PySem.W.EachIs (fun v (i : Nat) => ∃ t, v = Value.int i t) acc.toList (List.range j) := by
      have e := each_range acc.toList 0 fun i v hv => by
        obtain ⟨t, e⟩ := hacc.2 i v (by rw [← hv, Array.getElem?_toList])
        exact ⟨t, by rw [e]; congr 1; omega⟩
      rw [hlen, ← List.range_eq_range'] at e
      exact e
    have up : ∀ {g : Heap}, PySem.W.KeepsBut h1.objs.size (h1.push { cls := .type "list", data := .seq acc.toList.toArray }) g → ∀ b o, s.heap.get? b = some o → g.get? b = some o := fun {g} kp b o q =>
      kp b o (fun z => by rw [z, hnew] at q; cases q) (Heap.get?_push_of_some _ (hk1 b o q))
    refine PySem.W.keyH_tree (kz := (List.range j).map k) (s := { s with heap := h1.push { cls := .type "list", data := .seq acc.toList.toArray }, toks := tk1 }) hat (by rw [List.length_map, List.length_range]; exact hlen.symm) (by rw [hlen, sizeLine_eq]; exact hj) hal hk (PySem.W.bound_map (A := A.in1.in1) hu)
      (PySem.W.keyH_turns eR fun v x hR hx hp tk kp => ?_) fun h' tk out c kp hD ko => ?_
    · obtain ⟨t0, rfl⟩ := hR
      exact turn x t0 (List.mem_range.mp hx) hp tk (up kp)
    · refine ⟨_, rfl, wpAny_pure ⟨_, rfl, ?_⟩⟩
      exact h h1 out c h' tk hk1 (fun b o q => kp b o (Nat.ne_of_lt (Heap.lt_size q)) (Heap.get?_push_of_some _ q)) hD ((ko.length (by rw [List.length_map, List.length_range]; exact hlen.symm)).trans hlen) (PySem.W.keyedOut_each k ko eR)
/-- the key: t[i], t a captured name -/
theorem lam_turn {f c cc tp : Addr} {qual T x : Str} {params : Arguments} {scope : Scope} {clos : List (Str × Addr)} {pm ctv u : Value} {its : List Value} {i : Nat} {tk0 : Tok} {pT px pos : Pos} {d : PyData} (hroom : A.depth < recursionLimit) (hl : s.heap.NoLimit)
    (hf : s.heap.get? f = some { cls := .type "function", data := .func (PySem.W.kla_fn "<lambda>" qual params (.Subscript (.Name T pT) (.Name x px) pos) scope clos pm (.ref cc) ctv) }) (hcd : s.heap.CodeRec (.ref cc) qual)
    (hbind : bindArgs (PySem.W.kla_fn "<lambda>" qual params (.Subscript (.Name T pT) (.Name x px) pos) scope clos pm (.ref cc) ctv) ⟨[.int i tk0], []⟩ = pure [(x, .int i tk0)])
    (hk : scope.kind = .function) (hco : scope.isCoroutine = false) (hgen : scope.isGenerator = false) (hcell : ∀ y ∈ scope.names, y.2 ≠ .cell) (hx : scope.names.lookup x = some .local) (hT : scope.names.lookup T = some .free)
    (hcl : clos.lookup T = some c) (hc : s.heap.IsCell c (some (.ref tp))) (ht : s.heap.IsTuple tp its.toArray) (hi : its[i]? = some u) (hi2 : i < 4611686018427387904) (hz : its.length ≤ 16777216) (hd : Reads s.heap u d [])
    (dT : (T == ("__debug__" : Str)) = false) (dT2 : (T == ("__classdict__" : Str)) = false) (dx : (x == ("__debug__" : Str)) = false) :
    wpAny (model prog w) A (call (.ref f) [.int i tk0]) (PySem.W.KeyPure d s) (fun _ _ => False) s := by
  refine wpAny_call (PySem.W.kla_callFunE hroom hf rfl hco hgen rfl hcd ?_)
  rw [hbind]
  refine wpAny_pure (wpAny_newFunctionEnv hcell (fun y hy => by
    have e : y = (x, .int i tk0) := by simpa using hy
    subst e; exact hx) (fun h1 hns hsb => ⟨hl.fresh _ hsb, ?_⟩) hk)
  have hk1 : ∀ b o, s.heap.get? b = some o → h1.get? b = some o := fun b o e => hsb.extBut b o (Nat.ne_of_lt (Heap.lt_size e)) (Heap.get?_push_of_some _ e)
  refine PySem.W.kla_codeExpr ?_
  have ht1 : h1.IsTuple tp its.toArray := let ⟨o, e, r⟩ := ht; ⟨o, hk1 _ _ e, r⟩
  have hc1 := hc.keeps hk1
  have hpl : ∀ o i : Value, subscripted (.Name x px) false o i = operate [o, i] (getItem o i) := fun _ _ => by with_unfolding_all rfl
  have hsq : seqIndex? (i : Int) its.toArray.size = some i := by
    rw [List.size_toArray]
    exact seqIndex_of (by omega) (by have := (List.getElem?_eq_some_iff.mp hi).1; omega)
  have hlk : List.lookup x [(x, Value.int (i : Int) tk0)].reverse = some (Value.int (i : Int) tk0) := by simp
  refine Subscript_ ?_
  refine wpAny_Name (wpAny_loadName_free hk hT hcl hc1 ?_ dT2) dT
  refine wpAny_Name (wpAny_loadName_local hk hx hns hlk ?_) dx
  refine subscriptTail_builtinR (x := u) ht1.typeIs slot_tuple_getitem.lookup ?_ (hpl _ _)
  refine PyProof.Rows.getItem_tuple (j := i) ht1 (by omega) (by omega) hsq (by simpa using hi) ⟨rfl, ?_⟩
  exact ⟨h1, _, rfl, hk1, PyProof.Rows.Reads.keeps hk1 hd⟩
end
/-! ### plain data is read without lists -/
mutual
theorem reads_nil {h : Heap} : ∀ (n : Nat) (p : PV) (u : Value) (as : List Addr), okd n p = true → Reads h u (toD p) as → as = []
  | n, .non, u, as, _, r => by rw [toD] at r; cases r; rfl
  | n, .bl b, u, as, _, r => by rw [toD] at r; cases r; rfl
  | n, .int b, u, as, _, r => by rw [toD] at r; cases r; rfl
  | n, .str b, u, as, _, r => by rw [toD] at r; cases r; rfl
  | 0, .tup l, u, as, z, r => by simp [okd] at z
  | n + 1, .tup l, u, as, z, r => by
    rw [toD] at r
    cases r with
    | tuple h1 h2 h3 h4 => exact readsAll_nil n l _ _ (by simpa [okd] using z) h4
  | n, .loc _, u, as, z, r => by rw [okd_loc] at z; cases z
  | n, .fn _, u, as, z, r => by rw [okd_fn] at z; cases z
  | n, .kl _, u, as, z, r => by rw [okd_kl] at z; cases z
  | n, .clo _, u, as, z, r => by rw [okd_clo] at z; cases z
  | n, .pst _, u, as, z, r => by rw [okd_pst] at z; cases z
theorem readsAll_nil {h : Heap} : ∀ (n : Nat) (l : List PV) (us : List Value) (as : List Addr), okds n l = true → ReadsAll h us (toDs l) as → as = []
  | n, [], us, as, _, r => by rw [toDs] at r; cases r; rfl
  | n, p :: l, us, as, z, r => by
    rw [toDs] at r
    simp only [okds, Bool.and_eq_true] at z
    cases r with
    | cons r1 r2 => rw [reads_nil n p _ _ z.1 r1, readsAll_nil n l _ _ z.2 r2]; rfl
end
/-- the tables after a lambda has been made -/
def LamNew (P : Addr) (q : Str) (H H2 : Hp) : Prop := LamX.TabS H2 P q ∧ (H2 = H ∨ ∃ ps more c, H P = some (.tbl ps) ∧ H c = none ∧ H2 = upd (upd H P (.tbl (ps ++ more))) c (LamX.CodeO c q))
section
variable {X : Cx} {pins : List (Addr × Obj)} {σ : L2.St} {H : Hp} {s : Shared}
/-- a lambda made -/
theorem eval_lam {c P : Addr} {params : Arguments} {body : Expr} {scope : Scope} {lpos : Pos} {Q : Value → Shared → Prop} {E : Value → Shared → Prop} (I : Inv X pins σ H s) (TB : GxR.TabB X.base X.mg c P) (hcode : X.env.code = .ref c) (ht : LamX.TabS H P (X.env.qual ++ "<lambda>"))
    (hfree : ∀ y ∈ scope.names, y.2 = .free → ∃ c, X.env.cells.lookup y.1 = some c) (hdef : defaultsOf params X.env = ([], []))
    (h : ∀ (f cc : Addr) (ctv : Value) (H2 : Hp) (s2 : Shared), Inv X pins σ H2 s2 → LamNew P (X.env.qual ++ "<lambda>") H H2 → (∀ b o, b ≠ P → s.heap.get? b = some o → s2.heap.get? b = some o) → s2.heap.CodeRec (.ref cc) (X.env.qual ++ "<lambda>") →
      s2.heap.get? f = some { cls := .type "function", data := .func (PySem.W.kla_fn "<lambda>" (X.env.qual ++ "<lambda>") params body scope (cloFrom X.env.cells scope.names []) ((X.mg "__name__").getD .none) (.ref cc) ctv) } → Q (.ref f) s2) :
    wpAny (model X.prog X.w) X.A (eval (.Lambda params body scope lpos) X.env) Q E s := by
  obtain ⟨ps, hP, hto, hco⟩ := ht
  have hPs : s.heap.get? P = some (PySem.W.tabObj ps) := I.hok P _ hP
  have cd : PySem.W.CodeHd s.heap c P := TB.code.keeps fun b u e => I.bk b u e
  obtain ⟨bm, ob, e1, e2, e3, e4, e5, e6, e7, e8⟩ := TB.bm
  have hb : s.heap.BuiltinsAt X.mg P := ⟨bm, ob, e1, e2, e3, e4, I.bk _ _ e5, e6, e7, e8⟩
  have hg : s.heap.Ns mainGlobals X.mg := I.mod.glob.keeps I.bk
  refine PySem.W.kla_eval hdef ?_
  cases hf : codeAmong lpos ps.toList with
  | none =>
    refine PySem.W.kla_makeFunction (closure_ok hfree) I.ok.glob hg hcode cd hPs hto hf TB.gP hb fun c' ctv h' tk hx hge hlt hrec htab => ?_
    obtain ⟨c2, oc, vs, t, ec, ho, hd, hv⟩ := hrec
    cases ec
    have I1 := LamX.inv_table (q := X.env.qual ++ "<lambda>") (t' := tk) I hP (fun b o hb e => hx b o hb e) htab hge ⟨oc, vs, t, ho, hd, hv⟩
    have I2 : Inv X pins σ _ { s with heap := h'.push (PySem.W.kla_obj "<lambda>" (X.env.qual ++ "<lambda>") params body scope (cloFrom X.env.cells scope.names []) ((X.mg "__name__").getD .none) c' ctv), toks := tk } := I1.kept (t' := tk) fun b o e => Heap.get?_push_of_some _ e
    have hc0 : H c' = none := I.hok.fresh hge
    have hcP : P ≠ c' := ne_of_none hP hc0
    refine h _ c' ctv _ _ I2 ⟨⟨_, by rw [upd_ne hcP]; exact upd_same, ?_, fun pos cv hcv => ?_⟩, .inr ⟨ps, _, c', hP, hc0, rfl⟩⟩ (fun b o hb e => Heap.get?_push_of_some _ (hx b o hb e)) ⟨c', oc, vs, t, rfl, Heap.get?_push_of_some _ ho, hd, hv⟩ (Heap.get?_push_size _ rfl)
    · have e : (ps ++ #[rawInt lpos.line, rawInt lpos.col, Value.ref c']).toList = ps.toList ++ [rawInt lpos.line, rawInt lpos.col, .ref c'] := by simp
      rw [e]
      exact TriplesOk_snoc _ _ _ _ hto
    · have e : (ps ++ #[rawInt lpos.line, rawInt lpos.col, Value.ref c']).toList = ps.toList ++ [rawInt lpos.line, rawInt lpos.col, .ref c'] := by simp
      rw [e] at hcv
      rcases LamX.among_app _ hto hcv with z | z
      · obtain ⟨c3, q1, q2⟩ := hco pos cv z
        refine ⟨c3, q1, ?_⟩
        rw [upd_ne (fun y => by rw [y, hc0] at q2; cases q2), upd_ne (fun y => by rw [y, hP] at q2; cases q2)]
        exact q2
      · exact ⟨c', z, upd_same⟩
  | some cv =>
    obtain ⟨c', rfl, hcc⟩ := hco _ _ hf
    refine PySem.W.kla_makeFunctionHit (closure_ok hfree) I.ok.glob hg hcode cd hPs hto hf hb fun ctv h' tk hk hsz => ?_
    obtain ⟨⟨oc, vs, t, ho, hd, hv⟩, _⟩ := I.hok c' _ hcc
    have kk : ∀ b o, s.heap.get? b = some o → (h'.push { cls := .type "function", data := .func (PySem.W.kla_fn "<lambda>" (X.env.qual ++ "<lambda>") params body scope (cloFrom X.env.cells scope.names []) ((X.mg "__name__").getD .none) (.ref c') ctv) }).get? b = some o := fun b o e => Heap.get?_push_of_some _ (hk b o e)
    exact h _ c' ctv H _ (I.kept (t' := tk) kk) ⟨⟨ps, hP, hto, hco⟩, .inl rfl⟩ (fun b o _ e => kk b o e) ⟨c', oc, vs, t, rfl, kk _ _ ho, hd, hv⟩ (Heap.get?_push_size _ rfl)
def sortIx (l : List PV) : List Nat := (List.range l.length).mergeSort (PySem.W.dataLe false fun i => (toDs l).getD i .none)
theorem toDs_length : ∀ l : List PV, (toDs l).length = l.length
  | [] => by rw [toDs]; rfl
  | p :: l => by rw [toDs, List.length_cons, List.length_cons, toDs_length l]
theorem map_getD {α : Type} (d : α) : ∀ l : List α, (List.range l.length).map (fun i => l.getD i d) = l := fun l => by
  apply List.ext_getElem?
  intro i
  rw [List.getElem?_map]
  by_cases h : i < l.length
  · rw [List.getElem?_range h]
    simp [List.getD, List.getElem?_eq_getElem h]
  · rw [List.getElem?_eq_none (by simpa using h), List.getElem?_eq_none (by omega)]
    rfl
theorem dps_get {K : PySem.W.Frag} {H : Hp} : ∀ {vs : List V} {ds : List PyData} {i : Nat} {v : V}, DpAll K H vs ds → vs[i]? = some v → Dp K H v (ds.getD i .none)
  | _, _, _, _, .nil, e => by simp at e
  | _, _, 0, _, .cons h _, e => by
    simp at e
    subst e
    simpa using h
  | _, _, i + 1, _, .cons _ r, e => by
    have := dps_get (i := i) r (by simpa using e)
    simpa using this
theorem okds_get {n : Nat} : ∀ {l : List PV} {i : Nat} {p : PV}, okds n l = true → l[i]? = some p → okd n p = true
  | [], _, _, _, e => by simp at e
  | q :: l, 0, p, h, e => by
    simp at e
    subst e
    simp only [okds, Bool.and_eq_true] at h
    exact h.1
  | q :: l, i + 1, p, h, e => by
    simp only [okds, Bool.and_eq_true] at h
    exact okds_get (i := i) h.2 (by simpa using e)
theorem toDs_get : ∀ {l : List PV} {i : Nat} {p : PV}, l[i]? = some p → (toDs l).getD i .none = toD p
  | [], _, _, e => by simp at e
  | q :: l, 0, p, e => by
    simp at e
    subst e
    rw [toDs]
    rfl
  | q :: l, i + 1, p, e => by
    rw [toDs]
    have := toDs_get (i := i) (p := p) (l := l) (by simpa using e)
    simpa using this
def kSortL (K : PySem.W.Frag) (P : Addr) (q : Str) (i : Nat) (σ : L2.St) (Q : VK) : Int → Int → Hp → Prop := fun a' b' H1 => a' = 0 ∧ ∃ (j : Nat) (tp : Addr) (vs : List V) (l : List PV), b' = (j : Int) ∧ j ≤ 16777216 ∧ σ[i]? = some (some (.ref tp)) ∧ okds 50 l = true ∧ l.length = j ∧ PySem.W.AllAlike (toDs l) ∧ PySem.W.Sortable (toDs l) ∧ LamX.TabS H1 P q ∧
  ∀ H2, LamNew P q H1 H2 → SqT K H2 tp vs ∧ DpAll K H2 vs (toDs l) ∧ vs.length = j ∧ ∀ nl, H2 nl = none → Q (.ref nl) (upd H2 nl (.lst ((sortIx l).map fun i : Nat => V.int i)))
def tSortL (K : PySem.W.Frag) (P : Addr) (q : Str) (i : Nat) (ta : TE) : TE := fun σ H Q => tRg1 ta σ H (kSortL K P q i σ Q)
/-- sorted(range(a), key=lambda x: T[x]) -/
theorem pe_sortLam {c P : Addr} {i : Nat} {T x : Str} {a : Expr} {params : Arguments} {scope : Scope} {p p1 p2 pos kp lpos pT px psub : Pos} {ta : TE} (hr : Room 2 X.A) (hc : X.calm = true) (hgs : Gl X "sorted") (hms : X.mg "sorted" = none) (hgr : Gl X "range") (hmr : X.mg "range" = none) (ha : PE X a ta)
    (TB : GxR.TabB X.base X.mg c P) (hcode : X.env.code = .ref c) (hN : X.N[i]? = some T) (hT : X.env.scope.names.lookup T = some .cell) (hsT : scope.names.lookup T = some .free) (hsx : scope.names.lookup x = some .local)
    (hsc : ∀ y ∈ scope.names, y.2 ≠ .cell) (hsf : ∀ y ∈ scope.names, y.2 = .free → y.1 = T) (hk : scope.kind = .function) (hco : scope.isCoroutine = false) (hgen : scope.isGenerator = false) (hdef : defaultsOf params X.env = ([], []))
    (hbind : ∀ (u : Value) (cl : List (Str × Addr)) (pm cdv ctv : Value), bindArgs (PySem.W.kla_fn "<lambda>" (X.env.qual ++ "<lambda>") params (.Subscript (.Name T pT) (.Name x px) psub) scope cl pm cdv ctv) ⟨[u], []⟩ = pure [(x, u)])
    (dT : (T == ("__debug__" : Str)) = false) (dT2 : (T == ("__classdict__" : Str)) = false) (dx : (x == ("__debug__" : Str)) = false)
    (hs : starEach [a] X.env = (false, eval a X.env) :: starEach [] X.env)
    (he : backTo pos (starEach [.Call (.Name "range" p1) [a] [] p2] X.env) = (false, eval (.Call (.Name "range" p1) [a] [] p2) X.env) :: backTo pos (starEach [] X.env)) :
    PE X (.Call (.Name "sorted" p) [.Call (.Name "range" p1) [a] [] p2] [⟨some "key", .Lambda params (.Subscript (.Name T pT) (.Name x px) psub) scope lpos, kp⟩] pos) (tSortL X.K P (X.env.qual ++ "<lambda>") i ta) := by
  refine ⟨fun pins s σ H Q I h => ?_⟩
  refine wpAny_Call_Name_kw (ld_blt I hgs hms boot_sorted ?_)
  refine PyProof.Rows.callWith_kw ?_ he (by rfl) (by rfl) (by rfl)
  rw [he]
  refine Calls.spliced_cons (thn (prg_1 (ta := ta) hgr hmr ha hs pins s σ H _ I h) fun xv s1 h1 => ?_)
  · obtain ⟨r, a', b', t, u, v, H1, rfl, hrg, I1, rfl, j, tp, vs, l, rfl, hj, hσ, hok, hlen, hal, hso, htab, hrest⟩ := h1
    refine Calls.spliced_nil ?_
    show wpAny _ _ (evalAll ((do let v ← eval (.Lambda params (.Subscript (.Name T pT) (.Name x px) psub) scope lpos) X.env; standAt pos; pure v) :: [])) _ _ s1
    have hcT : ∃ c, X.env.cells.lookup T = some c := I1.ok.has T (.inl hT)
    have hfree : ∀ y ∈ scope.names, y.2 = .free → ∃ c, X.env.cells.lookup y.1 = some c := fun y hy e => by rw [hsf y hy e]; exact hcT
    refine wpAny_evalAll_cons (wpAny_bind (eval_lam I1 TB hcode htab hfree hdef fun f cc ctv H2 s2 I2 hnew hk2 hrec hfo => wpAny_bind (wpAny_standAt (wpAny_pure (wpAny_evalAll_nil ?_)))))
    show wpAny _ _ (call (.builtin "sorted") [.ref r] [(Str.ofString "key", .ref f)]) _ _ s2
    obtain ⟨hsq, hdp, hvl, hQ⟩ := hrest H2 hnew
    obtain ⟨its, rvs, pl, hz⟩ := I2.tuple hsq
    have hlv := rvs.length
    -- the captured cell
    obtain ⟨m, hn, hloc⟩ := I2.loc
    obtain ⟨uu, ruu, hlook⟩ := hloc i T _ hN hσ (.inr (.inl hT))
    cases ruu
    obtain ⟨cT, hcTl, hcell⟩ : ∃ cT, X.env.cells.lookup T = some cT ∧ s2.heap.IsCell cT (some (.ref tp)) := by
      rcases hlook with ⟨k1, _⟩ | ⟨_, c2, e2, z⟩
      · have k1 : X.env.scope.names.lookup T = some .local := k1
        rw [hT] at k1; cases k1
      · exact ⟨c2, e2, z⟩
    have hcl : (cloFrom X.env.cells scope.names []).lookup T = some cT := by
      have hy : (T, NameKind.free) ∈ scope.names := PySem.mem_of_lookup hsT
      obtain ⟨c', e'⟩ := mem_lookup (cloFrom_has (cells := X.env.cells) (acc := []) hy)
      rcases cloFrom_mem (PySem.mem_of_lookup e') with hm | ⟨_, rfl⟩
      · cases hm
      · rw [e', hcTl]; rfl
    have hrP : r ≠ P := fun z => by
      obtain ⟨ps, hP, _⟩ := htab
      have e := I1.hok P _ hP
      have e2 : s1.heap.get? P = some { cls := .none, data := .fields ps } := e
      have hrg2 : s1.heap.get? r = _ := hrg
      rw [z, e2] at hrg2
      cases hrg2
    have hrg2 : IsRange s2.heap r 0 (j : Int) 1 t u v := hk2 r _ hrP hrg
    have hkeys : (List.range j).map (fun i => (toDs l).getD i .none) = toDs l := by
      have e := map_getD PyData.none (toDs l)
      rw [toDs_length, hlen] at e
      exact e
    refine sorted_range (I2.ok.hd hc) hrg2 hj (fun i => (toDs l).getD i .none) (by rw [hkeys]; exact hal) (by rw [hkeys]; exact hso) (fun x hx => ?_) (fun i0 tk0 hi0 hh tk kp => ?_) fun h1 out c0 h' tk k1 k2 hD hol eo => ?_
    · have h9 : (toDs l).getD x .none ∈ toDs l := by
        have hx' : x < (toDs l).length := by rw [toDs_length, hlen]; exact List.mem_range.mp hx
        rw [List.getD_eq_getElem?_getD, List.getElem?_eq_getElem hx']
        exact List.getElem_mem hx'
      have d1 := (okds_plain 50 l hok).2
      have d2 : ∀ (ds : List PyData) (d : PyData), d ∈ ds → d.depth ≤ PyData.depthAll ds := by
        intro ds
        induction ds with
        | nil => intro d hd; cases hd
        | cons d0 ds ih =>
          intro d hd
          simp only [PyData.depthAll]
          rcases List.mem_cons.mp hd with z | z
          · rw [z]; omega
          · have := ih d z; omega
      have := d2 _ _ h9
      have := hr.un
      omega
    · have hvi : i0 < vs.length := by rw [hvl]; exact hi0
      have hui : i0 < its.length := by rw [← hlv]; exact hvi
      obtain ⟨wv, ewv, rwv⟩ := Vals.get rvs (List.getElem?_eq_getElem hvi)
      have hli : i0 < l.length := by rw [hlen]; exact hi0
      have hpi : l[i0]? = some l[i0] := List.getElem?_eq_getElem hli
      have hdi := dps_get hdp (List.getElem?_eq_getElem hvi)
      obtain ⟨as, rd⟩ := Dp.reads I2 _ _ wv hdi rwv
      have e1 : (toDs l).getD i0 .none = toD l[i0] := toDs_get hpi
      rw [e1] at rd ⊢
      have e2 := reads_nil 50 l[i0] wv as (okds_get hok hpi) rd
      rw [e2] at rd
      exact lam_turn (s := { s2 with heap := hh, toks := tk }) (tp := tp) (its := its) (u := wv) (i := i0) (by have := hr.dp; show X.A.depth < _; omega) (I2.nolimit.keeps kp) (kp _ _ hfo) (let ⟨c2, o2, v2, t2, q1, q2, q3, q4⟩ := hrec; ⟨c2, o2, v2, t2, q1, kp _ _ q2, q3, q4⟩) (hbind _ _ _ _ _) hk hco hgen hsc hsx hsT hcl (hcell.keeps kp)
        (let ⟨o, e, r⟩ := pl; ⟨o, kp _ _ e, r⟩) ewv (by omega) (by rw [← hlv, hvl]; exact hj) (PyProof.Rows.Reads.keeps kp rd) dT dT2 dx
    · have I3 : Inv X pins σ H2 { s2 with heap := h1, toks := tk } := I2.kept k1
      have hnl : H2 h1.objs.size = none := I3.hok.fresh (Nat.le_refl _)
      have ev : Vals ((sortIx l).map fun i : Nat => V.int i) out := by
        have e9 : (List.range j).mergeSort (PySem.W.dataLe false fun i => (toDs l).getD i .none) = sortIx l := by unfold sortIx; rw [hlen]
        rw [e9] at eo
        clear hD hol e9
        generalize sortIx l = ix at eo
        induction eo with
        | nil => exact .nil
        | cons h t ih =>
          obtain ⟨t0, rfl⟩ := h
          exact .cons ⟨t0, rfl⟩ ih
      have I4 : Inv X pins σ (upd H2 h1.objs.size (.lst ((sortIx l).map fun i : Nat => V.int i))) { s2 with heap := h', toks := tk } := by
        refine I3.laid (t' := tk) k2 (Nat.le_refl _) ⟨by rw [ev.length, hol, sizeLine_eq]; exact hj, out, c0, ev, hD⟩
      exact ⟨.ref h1.objs.size, _, I4, rfl, hQ _ hnl⟩
end
def alkB (l : List PV) : Bool := (toDs l).all fun d => (toDs l).all fun d' => PySem.W.alike d d'
def tupB : List PV → Bool
  | [] => true
  | .tup (_ :: _) :: l => tupB l
  | _ => false
theorem tupB_ok : ∀ l : List PV, tupB l = true → ∀ d, d ∈ toDs l → ∃ x r, d = .tuple (x :: r)
  | [], _, d, hd => by rw [toDs] at hd; cases hd
  | .tup (a :: b) :: l, h, d, hd => by
    rw [toDs] at hd
    rcases List.mem_cons.mp hd with z | z
    · rw [z, toD, toDs]; exact ⟨_, _, rfl⟩
    · exact tupB_ok l h d z
  | .tup [] :: l, h, _, _ => by cases h
  | .non :: l, h, _, _ => by cases h
  | .bl _ :: l, h, _, _ => by cases h
  | .int _ :: l, h, _, _ => by cases h
  | .str _ :: l, h, _, _ => by cases h
  | .loc _ :: l, h, _, _ => by cases h
  | .fn _ :: l, h, _, _ => by cases h
  | .kl _ :: l, h, _, _ => by cases h
  | .clo _ :: l, h, _, _ => by cases h
  | .pst _ :: l, h, _, _ => by cases h
def sortR (q t : PV) : Mo (List PV) := fun st => match q, t with
  | .int j, .tup l => if j = l.length ∧ okds 50 l = true ∧ alkB l = true ∧ tupB l = true then .ok ((sortIx l).map fun i : Nat => PV.int i) st else .stuck
  | _, _ => .stuck
theorem lam_rs {W : Wd} {ι : List Addr} {st : Sto} {H H2 : Hp} {P : Addr} {q : Str} (rs : RS W ι st H) (hP : (P, q) ∈ W.tl) (hPu : ∀ p ∈ W.tl, p.1 = P → p.2 = q) (n : LamNew P q H H2) : Mono ι H ι H2 ∧ RS W ι st H2 := by
  obtain ⟨t2, n⟩ := n
  rcases n with rfl | ⟨ps, more, c, hP1, hc, rfl⟩
  · exact ⟨Mono.refl, rs⟩
  have hcP : P ≠ c := ne_of_none hP1 hc
  have same : ∀ b o, H b = some o → b ≠ P → upd (upd H P (.tbl (ps ++ more))) c (LamX.CodeO c q) b = some o := fun b o e hb => by
    rw [upd_ne (ne_of_none e hc), upd_ne hb]; exact e
  have hnP : P ∉ ι := fun ha => by
    obtain ⟨n, o, _, _, r⟩ := rs.at_ ha
    obtain ⟨u, e, z⟩ := r.there
    rw [hP1] at e; cases e; exact z.2.2.1 _ rfl
  have t3 := t2
  obtain ⟨ps2, e2, to2, _⟩ := t2
  have m : Mono ι H ι (upd (upd H P (.tbl (ps ++ more))) c (LamX.CodeO c q)) := by
    refine ⟨fun _ _ h => h, fun _ h n => absurd h n, fun a u h hn => ?_⟩
    by_cases ha : a = P
    · subst ha
      rw [hP1] at h
      cases h
      have e3 : upd (upd H a (.tbl (ps ++ more))) c (LamX.CodeO c q) a = some (.tbl (ps ++ more)) := by rw [upd_ne hcP]; exact upd_same
      rw [e3] at e2
      cases e2
      exact ⟨_, e3, .inr ⟨ps, more, rfl, rfl, fun _ => to2⟩⟩
    · exact ⟨u, same a u h ha, Kp.refl u⟩
  refine ⟨m, rs.len, rs.nd, fun n u a h1 h2 => ?_, tab_mono rs m, fun p hp => ?_⟩
  · have ha : a ≠ P := fun z => hnP (by rw [← z]; exact List.mem_of_getElem? h2)
    have r := rs.ob n u a h1 h2
    obtain ⟨x, e, _⟩ := r.there
    exact RO.mono rs m ((same a x e ha).trans e.symm) r
  · by_cases hp1 : p.1 = P
    · have e := hPu p hp hp1
      rw [hp1, e]
      exact t3
    · obtain ⟨ps3, h1, h2, h3⟩ := rs.tl p hp
      refine ⟨ps3, same _ _ h1 hp1, h2, fun pos cv hcv => ?_⟩
      obtain ⟨c3, q1, q2⟩ := h3 pos cv hcv
      exact ⟨c3, q1, same _ _ q2 fun z => by rw [z, hP1] at q2; cases q2⟩
section
variable {X : Cx} {W : Wd} {k : Nat} {E : XK} {a : Expr} {da : Env → Mo PV}
theorem dl_sortR {cc P : Addr} {i : Nat} {T x : Str} {params : Arguments} {scope : Scope} {p p1 p2 pos kp lpos pT px psub : Pos} (TB : GxR.TabB X.base W.mg cc P) (hP : (P, X.env.qual ++ "<lambda>") ∈ W.tl) (hPu : ∀ p ∈ W.tl, p.1 = P → p.2 = X.env.qual ++ "<lambda>") (hcode : X.env.code = .ref cc)
    (hms : W.mg "sorted" = none) (hmr : W.mg "range" = none) (ha : DE X W (k + 2) E a da) (hN : X.N[i]? = some T := by rfl) (hT : X.env.scope.names.lookup T = some .cell := by rfl) (hgs : Gl X "sorted" := by rfl) (hgr : Gl X "range" := by rfl) (hsT : scope.names.lookup T = some .free := by rfl) (hsx : scope.names.lookup x = some .local := by rfl)
    (hsc : ∀ y ∈ scope.names, y.2 ≠ .cell := by decide) (hsf : ∀ y ∈ scope.names, y.2 = .free → y.1 = T := by decide) (hk : scope.kind = .function := by rfl) (hco : scope.isCoroutine = false := by rfl) (hgen : scope.isGenerator = false := by rfl) (hdef : defaultsOf params X.env = ([], []) := by rfl)
    (hbind : ∀ (u : Value) (cl : List (Str × Addr)) (pm cdv ctv : Value), bindArgs (PySem.W.kla_fn "<lambda>" (X.env.qual ++ "<lambda>") params (.Subscript (.Name T pT) (.Name x px) psub) scope cl pm cdv ctv) ⟨[u], []⟩ = pure [(x, u)] := by intros; rfl)
    (dT : (T == ("__debug__" : Str)) = false := by decide) (dT2 : (T == ("__classdict__" : Str)) = false := by decide) (dx : (x == ("__debug__" : Str)) = false := by decide)
    (hs : starEach [a] X.env = (false, eval a X.env) :: starEach [] X.env := by rfl)
    (he : backTo pos (starEach [.Call (.Name "range" p1) [a] [] p2] X.env) = (false, eval (.Call (.Name "range" p1) [a] [] p2) X.env) :: backTo pos (starEach [] X.env) := by rfl) :
    DL X W (k + 2) E (.Call (.Name "sorted" p) [.Call (.Name "range" p1) [a] [] p2] [⟨some "key", .Lambda params (.Subscript (.Name T pT) (.Name x px) psub) scope lpos, kp⟩] pos) (fun ρ => bnd (da ρ) fun q => bnd (dVar i ρ) fun t => sortR q t) := ⟨fun o =>
  pe_imp (pe_sortLam (o.room.mono (by omega)) o.hc hgs (by rw [o.hM]; exact hms) hgr (by rw [o.hM]; exact hmr) (ha.run o) (by rw [o.hM]; exact TB) hcode hN hT hsT hsx hsc hsf hk hco hgen hdef hbind dT dT2 dx hs he) fun σ H Q t => by
    obtain ⟨ι, ρ, st, re, rs, g⟩ := t
    refine ⟨ι, ρ, st, re, rs, Good.imp (Good.bind g) fun q st1 ι1 H1 m1 r1 g1 v hv => ?_⟩
    have re1 := re.mono rs m1
    have g2 := Good.bind g1
    unfold dVar at g2
    cases qq : ρ[i]? with
    | none => rw [qq] at g2; exact g2.elim
    | some w =>
      cases w with
      | none => rw [qq] at g2; exact g2.elim
      | some w =>
        rw [qq] at g2
        obtain ⟨tv, h1, h2⟩ := re1.at_ i w qq
        have g3 := g2.ok r1
        cases hv <;> try exact g3.elim
        cases h2 <;> try exact g3.elim
        rename_i jj ta vs l sq rr hz
        obtain ⟨hc, g4⟩ := good_if g3
        obtain ⟨c1, c2, c3, c4⟩ := hc
        subst c1
        refine ⟨_, rfl, rfl, l.length, ta, vs, l, rfl, hz, h1, c2, rfl, ?_, .inl (tupB_ok l c4), r1.tl _ hP, fun H2 hnew => ?_⟩
        · intro d hd d' hd'
          have := List.all_eq_true.mp c3 d hd
          exact List.all_eq_true.mp this d' hd'
        · obtain ⟨m2, r2⟩ := lam_rs r1 hP hPu hnew
          have rr2 := rvs_mono r1 m2 _ _ rr
          refine ⟨by rw [o.hK]; exact sqt_mono r1 m2 sq, by rw [o.hK]; exact dps_of 50 l vs c2 rr2, rr2.length, fun nl hnl => ?_⟩
          have h9 : (sortIx l).length = l.length := by unfold sortIx; rw [List.length_mergeSort, List.length_range]
          refine good_newlst (g4.shift m2) r2 ?_ (by rw [List.length_map, h9]; exact hz) hnl (none_back rs (m1.trans m2) r2.some_ hnl)
          generalize sortIx l = ix
          induction ix with
          | nil => exact .nil
          | cons z ix ih => exact .cons (.int _) ih⟩
end
end PD
/-! PD: what a denotation yields, plainly. -/
namespace PD
open PySem PySem.Spec L2
structure Ok {α : Type} (r : Res α) (Q : α → Sto → Prop) : Prop where
  ex : ∃ a s, r = .ok a s ∧ Q a s
section
variable {α β : Type} {Q : α → Sto → Prop} {st : Sto}
@[simp] theorem ok_ok {a : α} : Ok (.ok a st) Q ↔ Q a st := ⟨fun h => by obtain ⟨b, s, e, q⟩ := h.ex; cases e; exact q, fun q => ⟨a, st, rfl, q⟩⟩
@[simp] theorem ok_stuck : Ok (.stuck : Res α) Q ↔ False := ⟨fun h => (by obtain ⟨b, s, e, q⟩ := h.ex; cases e), False.elim⟩
@[simp] theorem ok_exc {c : Nat} : Ok (.exc c st : Res α) Q ↔ False := ⟨fun h => (by obtain ⟨b, s, e, q⟩ := h.ex; cases e), False.elim⟩
@[simp] theorem ok_fail : Ok ((fail : Mo α) st) Q ↔ False := ok_stuck
theorem ok_same {r r' : Res α} (h : r = r') : Ok r Q ↔ Ok r' Q := by rw [h]
@[simp] theorem ok_bnd {m : Mo β} {f : β → Mo α} : Ok (bnd m f st) Q ↔ Ok (m st) (fun b st1 => Ok (f b st1) Q) := by
  unfold bnd
  cases m st with
  | ok a s => rw [ok_ok]
  | exc c s => exact ok_exc.trans ok_exc.symm
  | stuck => exact ok_stuck.trans ok_stuck.symm
@[simp] theorem ok_nox {m : Mo α} : Ok (nox m st) Q ↔ Ok (m st) Q := by
  unfold nox
  cases m st with
  | ok a s => exact Iff.rfl
  | exc c s => exact ok_stuck.trans ok_exc.symm
  | stuck => exact Iff.rfl
theorem ok_if {c : Prop} [Decidable c] {r : Res α} : Ok (if c then r else .stuck) Q ↔ c ∧ Ok r Q := by
  by_cases h : c
  · rw [if_pos h]; exact ⟨fun z => ⟨h, z⟩, fun z => z.2⟩
  · rw [if_neg h, ok_stuck]; exact ⟨fun z => z.elim, fun z => (h z.1).elim⟩
theorem Ok.imp {r : Res α} {Q' : α → Sto → Prop} (h : Ok r Q) (i : ∀ a st, Q a st → Q' a st) : Ok r Q' := by
  obtain ⟨a, s, e, q⟩ := h.ex
  exact ⟨a, s, e, i a s q⟩
theorem ok_eq {r : Res α} {a : α} {s : Sto} (h : r = .ok a s) : Ok r Q ↔ Q a s := by rw [h]; exact ok_ok
theorem Ok.eq {r : Res α} {a : α} {s : Sto} (h : Ok r (fun b s' => b = a ∧ s' = s)) : r = .ok a s := by
  obtain ⟨b, s', e, rfl, rfl⟩ := h.ex
  exact e
end
/-! ### pure specs -/
open Classical in
noncomputable def pureS (dom : List PV → Prop) (g : List PV → PV) : List PV → Mo PV := fun ps st => if dom ps then .ok (g ps) st else .stuck
theorem pureS_ok {dom : List PV → Prop} {g : List PV → PV} {ps : List PV} {st : Sto} (h : dom ps) : pureS dom g ps st = .ok (g ps) st := if_pos h
theorem nox_pure {dom : List PV → Prop} {g : List PV → PV} : NoX (pureS dom g) := fun ps st c st2 h => by
  unfold pureS at h
  split at h <;> cases h
theorem ref_pure {n : Nat} {F : List PV → Mo PV} {dom : List PV → Prop} {g : List PV → PV} (h : ∀ ps st, ps.length = n → dom ps → Ok (F ps st) (fun p st1 => p = g ps ∧ ∃ ex, st1 = st ++ ex)) (hg : ∀ ps m, dom ps → cl m (g ps) = true) : Ref n F (pureS dom g) := by
  intro ps st p2 st2 hl hc hs e
  unfold pureS at e
  split at e
  · rename_i hd
    cases e
    obtain ⟨a, s, e1, rfl, ex, rfl⟩ := (h ps st hl hd).ex
    exact ⟨_, _, e1, gc_take (Nat.le_refl _) (hg ps _ hd) hs⟩
  · cases e
theorem ref_same {n : Nat} {F : List PV → Mo PV} {dom : List PV → Prop} {g : List PV → PV} (h : ∀ ps st, dom ps → Ok (F ps st) (fun p st1 => p = g ps ∧ st1 = st)) (hg : ∀ ps m, dom ps → cl m (g ps) = true) : Ref n F (pureS dom g) :=
  ref_pure (fun ps st _ hd => (h ps st hd).imp fun p s z => ⟨z.1, [], by rw [z.2, List.append_nil]⟩) hg
def trunc (F : List PV → Mo PV) : List PV → Mo PV := fun ps st => match F ps st with
  | .ok p st1 => if (decide (st.length ≤ st1.length) && cl st.length p && (st1.take st.length).all (clO st.length)) = true then .ok p (st1.take st.length) else .stuck
  | _ => .stuck
theorem nox_trunc {F : List PV → Mo PV} : NoX (trunc F) := fun ps st c st2 h => by
  unfold trunc at h
  split at h
  · split at h <;> cases h
  · cases h
theorem ref_trunc {n : Nat} {F : List PV → Mo PV} : Ref n F (trunc F) := by
  intro ps st p2 st2 hl hc hs e
  unfold trunc at e
  cases q : F ps st with
  | ok p st1 =>
    rw [q] at e
    dsimp only at e
    split at e
    · rename_i hh
      cases e
      simp only [Bool.and_eq_true, decide_eq_true_eq, List.all_eq_true] at hh
      obtain ⟨⟨h1, h2⟩, h3⟩ := hh
      have hlen : (st1.take st.length).length = st.length := by rw [List.length_take]; omega
      have g := gc_take (n0 := st.length) (p := p2) (st := st1.take st.length) (ex := st1.drop st.length) (by omega) (by rw [hlen]; exact h2) (fun o ho => by rw [hlen]; exact h3 o ho)
      rw [List.take_append_drop] at g
      exact ⟨_, st1, rfl, g⟩
    · cases e
  | exc c s => rw [q] at e; cases e
  | stuck => rw [q] at e; cases e
theorem ref_self {n : Nat} {F : List PV → Mo PV} : Ref n F F := fun ps st p2 st2 _ _ _ e => ⟨p2, st2, e, .inl ⟨rfl, rfl⟩⟩
/-! ### loops -/
section
variable {Q : Fl → Sto → Prop}
/-- behind a turn: to go on, or what is told -/
def Aft (G : PD.Env → Sto → Prop) (Q : Fl → Sto → Prop) : Fl → Sto → Prop
  | .nx ρ, st => G ρ st
  | .ct ρ, st => G ρ st
  | .bk ρ, st => Q (.nx ρ) st
  | .rt p, st => Q (.rt p) st
theorem ok_for {g : PV → PD.Env → Mo PD.Env} {f : PD.Env → Mo Fl} {chk : Sto → Prop} (P : List PV → PD.Env → Sto → Prop) (hc : ∀ l ρ st, P l ρ st → chk st) (he : ∀ ρ st, P [] ρ st → Q (.nx ρ) st)
    (step : ∀ q l ρ st, P (q :: l) ρ st → Ok (g q ρ st) (fun ρ1 st1 => Ok (f ρ1 st1) (Aft (P l) Q))) : ∀ l ρ st, P l ρ st → Ok (foF g f chk l ρ st) Q
  | [], ρ, st, h => by
    unfold foF
    rw [if_pos (hc _ _ _ h)]
    exact ok_ok.mpr (he ρ st h)
  | q :: l, ρ, st, h => by
    unfold foF
    rw [if_pos (hc _ _ _ h)]
    rw [ok_bnd]
    refine (step q l ρ st h).imp fun ρ1 st1 h1 => ?_
    rw [ok_bnd]
    refine h1.imp fun fl st2 h2 => ?_
    cases fl with
    | nx ρ' => exact ok_for P hc he step l ρ' st2 h2
    | ct ρ' => exact ok_for P hc he step l ρ' st2 h2
    | bk ρ' => exact ok_ok.mpr h2
    | rt p => exact ok_ok.mpr h2
theorem ok_wh {dt : PD.Env → Mo Bool} {f : PD.Env → Mo Fl} (I : Nat → PD.Env → Sto → Prop) (step : ∀ n ρ st, I n ρ st → Ok (dt ρ st) (fun b st1 => if b = true then Ok (f ρ st1) (Aft (fun ρ' st' => ∃ m, m < n ∧ I m ρ' st') Q) else Q (.nx ρ) st1)) :
    ∀ n ρ st, I n ρ st → Ok (dWh dt f ρ st) Q := by
  intro n
  induction n using Nat.strongRecOn with
  | _ n ih =>
    intro ρ st h
    rw [dWh_eq, ok_bnd]
    refine (step n ρ st h).imp fun b st1 h1 => ?_
    cases b with
    | false => exact ok_ok.mpr h1
    | true =>
      rw [if_pos rfl] at h1 ⊢
      rw [ok_bnd]
      refine h1.imp fun fl st2 h2 => ?_
      cases fl with
      | nx ρ' => obtain ⟨m, hm, z⟩ := h2; exact ih m hm ρ' st2 z
      | ct ρ' => obtain ⟨m, hm, z⟩ := h2; exact ih m hm ρ' st2 z
      | bk ρ' => exact ok_ok.mpr h2
      | rt p => exact ok_ok.mpr h2
end
/-- a loop that leaves the store, and returns r at the first bad item -/
theorem for_find {g : PV → PD.Env → Mo PD.Env} {f : PD.Env → Mo Fl} {chk : Sto → Prop} {st : Sto} (I : PD.Env → Prop) (bad : PV → Bool) (r : PV) (hc : chk st) : ∀ (l : List PV) (ρ : PD.Env), (∀ q ∈ l, ∀ ρ, I ρ → Ok (g q ρ st) (fun ρ1 s1 => Ok (f ρ1 s1) (fun fl s2 => s2 = st ∧ if bad q = true then fl = .rt r else ∃ ρ', I ρ' ∧ (fl = .nx ρ' ∨ fl = .ct ρ')))) → I ρ →
    Ok (foF g f chk l ρ st) (fun fl s => s = st ∧ if l.any bad = true then fl = .rt r else ∃ ρ', I ρ' ∧ fl = .nx ρ')
  | [], ρ, _, hI => by
    unfold foF
    rw [if_pos hc]
    exact ok_ok.mpr ⟨rfl, by rw [if_neg (by simp)]; exact ⟨ρ, hI, rfl⟩⟩
  | q :: l, ρ, h, hI => by
    unfold foF
    rw [if_pos hc, ok_bnd]
    refine (h q (List.mem_cons_self ..) ρ hI).imp fun ρ1 s1 h1 => ?_
    rw [ok_bnd]
    refine h1.imp fun fl s2 h2 => ?_
    obtain ⟨rfl, h2⟩ := h2
    rw [List.any_cons]
    cases hb : bad q with
    | true =>
      rw [hb, if_pos rfl] at h2
      subst h2
      exact ok_ok.mpr ⟨rfl, by rw [Bool.true_or, if_pos rfl]⟩
    | false =>
      rw [hb, if_neg (by simp)] at h2
      obtain ⟨ρ', hI', e⟩ := h2
      rw [Bool.false_or]
      have ih := for_find I bad r hc l ρ' (fun q hq => h q (List.mem_cons_of_mem _ hq)) hI'
      rcases e with rfl | rfl
      · exact ih
      · exact ih
/-! ### comprehensions -/
theorem ok_lc {pt : Pt} {dt : PD.Env → Mo Bool} {d : PD.Env → Mo PV} {chk : Sto → Prop} {ρ : PD.Env} {Q : List PV → Sto → Prop} (P : List PV → List PV → Sto → Prop) (hc : ∀ l acc st, P l acc st → chk st) (he : ∀ acc st, P [] acc st → Q acc st)
    (step : ∀ q l acc st, P (q :: l) acc st → ∃ ρ1, Pt.go pt q ρ = some ρ1 ∧ Ok (dt ρ1 st) (fun b st1 => if b = true then Ok (d ρ1 st1) (fun y st2 => acc.length < 16777216 ∧ P l (acc ++ [y]) st2) else P l acc st1)) : ∀ l acc st, P l acc st → Ok (lcF pt dt d chk ρ l acc st) Q
  | [], acc, st, h => by
    unfold lcF
    rw [if_pos (hc _ _ _ h)]
    exact ok_ok.mpr (he acc st h)
  | q :: l, acc, st, h => by
    unfold lcF
    rw [if_pos (hc _ _ _ h)]
    obtain ⟨ρ1, e, z⟩ := step q l acc st h
    rw [e]
    dsimp only
    rw [ok_bnd, ok_nox]
    refine z.imp fun b st1 z1 => ?_
    cases b with
    | false => exact ok_lc P hc he step l acc st1 z1
    | true =>
      rw [if_pos rfl] at z1 ⊢
      rw [ok_bnd, ok_nox]
      refine z1.imp fun y st2 z2 => ?_
      rw [if_pos z2.1]
      exact ok_lc P hc he step l _ st2 z2.2
/-- without effect on the store -/
theorem lc_pure {pt : Pt} {dt : PD.Env → Mo Bool} {d : PD.Env → Mo PV} {chk : Sto → Prop} {ρ : PD.Env} {st : Sto} (t : PV → Bool) (f : PV → PV) (hc : chk st) : ∀ (l acc : List PV), (∀ q ∈ l, ∃ ρ1, Pt.go pt q ρ = some ρ1 ∧ dt ρ1 st = .ok (t q) st ∧ (t q = true → d ρ1 st = .ok (f q) st)) → acc.length + l.length ≤ 16777216 →
    lcF pt dt d chk ρ l acc st = .ok (acc ++ (l.filter t).map f) st
  | [], acc, _, _ => by
    unfold lcF
    rw [if_pos hc]
    simp
  | q :: l, acc, h, hl => by
    unfold lcF
    rw [if_pos hc]
    obtain ⟨ρ1, e, e1, e2⟩ := h q (List.mem_cons_self ..)
    rw [e]
    dsimp only
    unfold bnd nox
    rw [e1]
    dsimp only
    rw [List.length_cons] at hl
    cases ht : t q with
    | false =>
      rw [if_neg (by simp)]
      rw [lc_pure t f hc l acc (fun q hq => h q (List.mem_cons_of_mem _ hq)) (by omega), List.filter_cons_of_neg (by simp [ht])]
    | true =>
      rw [if_pos rfl, e2 ht]
      dsimp only
      rw [if_pos (by omega), lc_pure t f hc l _ (fun q hq => h q (List.mem_cons_of_mem _ hq)) (by rw [List.length_append, List.length_singleton]; omega), List.filter_cons_of_pos ht, List.map_cons, List.append_assoc]
      rfl
theorem gx_pure {sv : Bool} {pt : Pt} {dt : PD.Env → Mo Bool} {d : PD.Env → Mo PV} {chk : Sto → Prop} {ρ : PD.Env} {st : Sto} (f : PV → Bool) (hc : chk st) : ∀ (l : List PV), (∀ q ∈ l, ∃ ρ1, Pt.go pt q ρ = some ρ1 ∧ dt ρ1 st = .ok true st ∧ d ρ1 st = .ok (.bl (f q)) st) →
    gxF sv pt dt d chk ρ l st = .ok (.bl (if sv = true then l.any f else l.all f)) st
  | [], _ => by
    unfold gxF
    rw [if_pos hc]
    cases sv <;> rfl
  | q :: l, h => by
    unfold gxF
    rw [if_pos hc]
    obtain ⟨ρ1, e, e1, e2⟩ := h q (List.mem_cons_self ..)
    rw [e]
    dsimp only
    unfold bnd nox
    rw [e1]
    dsimp only
    rw [if_pos rfl, e2]
    dsimp only [blM]
    have ih := gx_pure (sv := sv) f hc l fun q hq => h q (List.mem_cons_of_mem _ hq)
    cases sv <;> cases hf : f q <;> simp_all
/-! ### the store -/
theorem dVar_ok {i : Nat} {ρ : PD.Env} {st : Sto} {p : PV} (h : ρ[i]? = some (some p)) : dVar i ρ st = .ok p st := by
  unfold dVar
  rw [h]
end PD
/-! PD: denotations, step by step. -/
namespace PD
open PySem PySem.Spec L2
section
variable {α β : Type} {Q : α → Sto → Prop} {st : Sto} {ρ : PD.Env} {i j : Nat} {p q z : PV} {da db dc d : PD.Env → Mo PV} {dt du : PD.Env → Mo Bool} {dl dm : PD.Env → Mo (List PV)} {f f1 f2 : PD.Env → Mo Fl} {l m : List PV}
@[simp] theorem ok_ite {c : Prop} [Decidable c] {a b : Res α} : Ok (if c then a else b) Q ↔ if c then Ok a Q else Ok b Q := by split <;> exact Iff.rfl
@[simp] theorem ok_ite_app {c : Prop} [Decidable c] {a b : Mo α} : Ok ((if c then a else b) st) Q ↔ if c then Ok (a st) Q else Ok (b st) Q := by split <;> exact Iff.rfl
@[simp] theorem e_var : dVar i ρ st = match ρ[i]? with | some (some p) => .ok p st | _ => .stuck := rfl
@[simp] theorem e_C : dC p ρ st = .ok p st := rfl
@[simp] theorem e_bin {g : PV → PV → Mo PV} : dBin g da db ρ = bnd (da ρ) fun p => bnd (db ρ) fun q => g p q := rfl
@[simp] theorem e_un {g : PV → Mo PV} : dUn g da ρ = bnd (da ρ) g := rfl
@[simp] theorem e_B : dB d ρ = bnd (d ρ) blM := rfl
@[simp] theorem e_andV : dAndV da db ρ = bnd (da ρ) fun q => bnd (blM q) fun b => if b = true then db ρ else fun st => .ok (.bl false) st := rfl
@[simp] theorem e_orV : dOrV da db ρ = bnd (da ρ) fun q => bnd (blM q) fun b => if b = true then fun st => .ok (.bl true) st else db ρ := rfl
@[simp] theorem e_notV : dNotV da ρ = bnd (da ρ) fun q => bnd (blM q) fun b => fun st => .ok (.bl (!b)) st := rfl
@[simp] theorem e_if : dIf dt da db ρ = bnd (dt ρ) fun b => if b = true then da ρ else db ρ := rfl
@[simp] theorem e_chain {g g' : PV → PV → Mo PV} : dChain g g' da db dc ρ = bnd (da ρ) fun p => bnd (db ρ) fun q => bnd (g p q) fun z => bnd (blM z) fun b => if b = true then bnd (dc ρ) fun w => g' q w else fun st => .ok (.bl false) st := rfl
@[simp] theorem e_isi {t : Kd} : dIsi t d ρ = bnd (d ρ) fun q => bnd (kdM q) fun kd => fun st => .ok (.bl (isK kd t)) st := rfl
@[simp] theorem e_cons : dCons da dl ρ = bnd (da ρ) fun p => bnd (dl ρ) fun ps => fun st => .ok (p :: ps) st := rfl
@[simp] theorem e_andT : dAndT dt du ρ = bnd (dt ρ) fun b => if b = true then du ρ else fun st => .ok false st := rfl
@[simp] theorem e_orT : dOrT dt du ρ = bnd (dt ρ) fun b => if b = true then fun st => .ok true st else du ρ := rfl
@[simp] theorem e_notT : dNotT dt ρ = bnd (dt ρ) fun b => fun st => .ok (!b) st := rfl
@[simp] theorem e_sl {d1 d2 : PD.Env → Mo (Option Int)} {g : PV → Option Int → Option Int → Mo PV} : dSl d d1 d2 g ρ = bnd (d ρ) fun q => bnd (d1 ρ) fun lo => bnd (d2 ρ) fun hi => g q lo hi := rfl
@[simp] theorem e_slL {d1 d2 : PD.Env → Mo (Option Int)} : dSlL d d1 d2 ρ = bnd (d ρ) fun q => bnd (d1 ρ) fun lo => bnd (d2 ρ) fun hi => bnd (lstM q) fun l => fun st => .ok (cutP l lo hi) st := rfl
@[simp] theorem e_yes : dYes ρ st = .ok true st := rfl
/-! statements -/
@[simp] theorem e_nil : dNil ρ st = .ok (.nx ρ) st := rfl
@[simp] theorem e_brk : dBrk ρ st = .ok (.bk ρ) st := rfl
@[simp] theorem e_cnt : dCnt ρ st = .ok (.ct ρ) st := rfl
@[simp] theorem e_ret : dRet d ρ = bnd (d ρ) fun q => fun st => .ok (.rt q) st := rfl
@[simp] theorem e_drop : dDrop d ρ = bnd (d ρ) fun _ => fun st => .ok (.nx ρ) st := rfl
@[simp] theorem e_ifS : dIfS dt f1 f2 ρ = bnd (dt ρ) fun b => if b = true then f1 ρ else f2 ρ := rfl
@[simp] theorem e_set : dSet i d ρ = bnd (d ρ) fun q => fun st => .ok (.nx (ρ.set i (some q))) st := rfl
@[simp] theorem e_asg {g : PV → PD.Env → Mo PD.Env} : dAsg d g ρ = bnd (d ρ) fun q => bnd (g q ρ) fun ρ' => fun st => .ok (.nx ρ') st := rfl
@[simp] theorem e_par : dPar i j dl ρ = bnd (dl ρ) fun l => match l with
  | [q, z] => fun st => .ok (.nx ((ρ.set i (some q)).set j (some z))) st
  | _ => fail := rfl
@[simp] theorem e_aug {g : Int → Int → Int} : dAug g i d ρ = bnd (dVar i ρ) fun q => bnd (d ρ) fun z => bnd (oI (fun x y => .int (g x y)) q z) fun w => fun st => .ok (.nx (ρ.set i (some w))) st := rfl
@[simp] theorem e_gNm : gNm i q ρ st = .ok (ρ.set i (some q)) st := rfl
@[simp] theorem e_gNl : gNl [] ρ st = .ok ρ st := rfl
@[simp] theorem e_gCs {g : PV → PD.Env → Mo PD.Env} {gs : List PV → PD.Env → Mo PD.Env} : gCs g gs (q :: l) ρ = bnd (g q ρ) fun ρ' => gs l ρ' := rfl
@[simp] theorem e_gTp {n : Nat} {gs : List PV → PD.Env → Mo PD.Env} : gTp n gs (.tup l) ρ st = if l.length = n then gs l ρ st else .stuck := rfl
@[simp] theorem e_gSb : gSb da db z ρ = bnd (da ρ) fun q => bnd (db ρ) fun i => bnd (setM q i z) fun _ => fun st => .ok ρ st := rfl
/-- behind a statement -/
def seqK (f2 : PD.Env → Mo Fl) (Q : Fl → Sto → Prop) : Fl → Sto → Prop
  | .nx ρ', s => Ok (f2 ρ' s) Q
  | .rt p, s => Q (.rt p) s
  | .bk ρ', s => Q (.bk ρ') s
  | .ct ρ', s => Q (.ct ρ') s
@[simp] theorem seqK_nx {Q : Fl → Sto → Prop} : seqK f2 Q (.nx ρ) st ↔ Ok (f2 ρ st) Q := Iff.rfl
@[simp] theorem seqK_rt {Q : Fl → Sto → Prop} : seqK f2 Q (.rt p) st ↔ Q (.rt p) st := Iff.rfl
@[simp] theorem seqK_bk {Q : Fl → Sto → Prop} : seqK f2 Q (.bk ρ) st ↔ Q (.bk ρ) st := Iff.rfl
@[simp] theorem seqK_ct {Q : Fl → Sto → Prop} : seqK f2 Q (.ct ρ) st ↔ Q (.ct ρ) st := Iff.rfl
@[simp] theorem ok_seq {Q : Fl → Sto → Prop} : Ok (dSeq f1 f2 ρ st) Q ↔ Ok (f1 ρ st) (seqK f2 Q) := by
  unfold dSeq
  rw [ok_bnd]
  have e : ∀ fl s, (Ok ((match fl with | .nx ρ' => f2 ρ' | r => fun st => .ok r st : Mo Fl) s) Q) = seqK f2 Q fl s := fun fl s => by cases fl <;> first | rfl | exact propext ok_ok
  have : (fun b st1 => Ok ((match b with | .nx ρ' => f2 ρ' | r => fun st => .ok r st : Mo Fl) st1) Q) = seqK f2 Q := by funext fl s; exact e fl s
  exact iff_of_eq (congrArg (Ok (f1 ρ st)) this)
@[simp] theorem aft_nx {G : PD.Env → Sto → Prop} {Q : Fl → Sto → Prop} : Aft G Q (.nx ρ) st ↔ G ρ st := Iff.rfl
@[simp] theorem aft_ct {G : PD.Env → Sto → Prop} {Q : Fl → Sto → Prop} : Aft G Q (.ct ρ) st ↔ G ρ st := Iff.rfl
@[simp] theorem aft_bk {G : PD.Env → Sto → Prop} {Q : Fl → Sto → Prop} : Aft G Q (.bk ρ) st ↔ Q (.nx ρ) st := Iff.rfl
@[simp] theorem aft_rt {G : PD.Env → Sto → Prop} {Q : Fl → Sto → Prop} : Aft G Q (.rt p) st ↔ Q (.rt p) st := Iff.rfl
@[simp] theorem retF_rt : retF (.rt p) st = .ok p st := rfl
@[simp] theorem retF_nx : retF (.nx ρ) st = .ok .non st := rfl
@[simp] theorem e_body {m : Nat} : bodyF m f l = bnd (f (start0 m l)) retF := rfl
@[simp] theorem e_for {ds : PD.Env → Mo Src} {g : PV → PD.Env → Mo PD.Env} : dFor ds g f ρ = bnd (ds ρ) fun S => foF g f S.chk S.l ρ := rfl
@[simp] theorem e_lc {ds : PD.Env → Mo Src} {pt : Pt} {vs : List Nat} : dLc ds pt dt d vs ρ = bnd (ds ρ) fun S => lcF pt dt d S.chk (wipeE ρ vs) S.l [] := rfl
@[simp] theorem e_gx {sv : Bool} {ds : PD.Env → Mo Src} {pt : Pt} {vs : List Nat} : dGx sv ds pt dt d vs ρ = bnd (ds ρ) fun S => gxF sv pt dt d S.chk (wipeE ρ vs) S.l := rfl
/-! operations -/
@[simp] theorem o_I {g : Int → Int → PV} {a b : Int} : oI g (PV.int a) (PV.int b) st = .ok (g a b) st := rfl
@[simp] theorem o_IC {C : Int → Int → Prop} [∀ i j, Decidable (C i j)] {g : Int → Int → PV} {a b : Int} : oIC C g (PV.int a) (PV.int b) st = if C a b then .ok (g a b) st else .stuck := rfl
@[simp] theorem o_addI {a b : Int} : oAdd (PV.int a) (PV.int b) st = .ok (PV.int (a + b)) st := rfl
@[simp] theorem o_addT : oAdd (.tup l) (.tup m) st = if l.length + m.length ≤ 16777216 then .ok (.tup (l ++ m)) st else .stuck := rfl
@[simp] theorem o_eq {ng : Bool} : oEq ng p q st = if okd 60 p = true ∧ okd 60 q = true then .ok (.bl (if ng then !eqb p q else eqb p q)) st else .stuck := rfl
@[simp] theorem o_isN {ng : Bool} : oIsN ng p q st = .ok (.bl (match p with | .non => !ng | _ => ng)) st := rfl
@[simp] theorem o_isB {ng a b : Bool} : oIsB ng (.bl a) (.bl b) st = .ok (.bl (if ng then !decide (a = b) else decide (a = b))) st := rfl
@[simp] theorem o_neg {a : Int} : oNeg (PV.int a) st = .ok (PV.int (-a)) st := rfl
@[simp] theorem m_bl {b : Bool} : blM (.bl b) st = .ok b st := rfl
@[simp] theorem m_truB {b : Bool} : truM (.bl b) st = .ok b st := rfl
@[simp] theorem m_kdN : kdM .non st = .ok .non st := rfl
@[simp] theorem m_kdB {b : Bool} : kdM (.bl b) st = .ok .bl st := rfl
@[simp] theorem m_kdI {a : Int} : kdM (PV.int a) st = .ok Kd.int st := rfl
@[simp] theorem m_kdS {a : Str} : kdM (.str a) st = .ok .str st := rfl
@[simp] theorem m_kdT : kdM (.tup l) st = .ok .tup st := rfl
@[simp] theorem m_lenT : lenM (.tup l) st = .ok (PV.int l.length) st := rfl
@[simp] theorem m_lenS {s : Str} : lenM (.str s) st = if s.length ≤ 16777216 then .ok (PV.int s.length) st else .stuck := rfl
@[simp] theorem m_lenK {ns : List Int} : lenM (.kl ns) st = .ok (PV.int ns.length) st := by
  show Res.ok (PV.int (ns.map PV.int).length) st = _
  rw [List.length_map]
@[simp] theorem m_lenL {n : Nat} : lenM (.loc n) st = match st[n]? with | some (.lst _ l) => .ok (PV.int l.length) st | _ => .stuck := by
  show (match seqOf st (.loc n) with | some l => Res.ok (PV.int l.length) st | none => .stuck) = _
  have e : seqOf st (.loc n) = match st[n]? with | some (.lst _ l) => some l | _ => none := rfl
  rw [e]
  cases st[n]? with
  | none => rfl
  | some o => cases o <;> rfl
@[simp] theorem m_sqT : sqM (.tup l) st = .ok l st := rfl
@[simp] theorem m_sqL {n : Nat} : sqM (.loc n) st = match st[n]? with | some (.lst _ l) => .ok l st | _ => .stuck := by
  show (match seqOf st (.loc n) with | some l => Res.ok l st | none => .stuck) = _
  have e : seqOf st (.loc n) = match st[n]? with | some (.lst _ l) => some l | _ => none := rfl
  rw [e]
  cases st[n]? with
  | none => rfl
  | some o => cases o <;> rfl
@[simp] theorem m_ixT {a : Int} : oIx (.tup l) (PV.int a) st = match atI l a with | some z => .ok z st | none => .stuck := rfl
@[simp] theorem m_ixL {n : Nat} {a : Int} : oIx (.loc n) (PV.int a) st = match st[n]? with | some (.lst _ l) => (match atI l a with | some z => .ok z st | none => .stuck) | _ => .stuck := by
  show (match seqOf st (.loc n) with | some l => (match atI l a with | some z => Res.ok z st | none => .stuck) | none => .stuck) = _
  have e : seqOf st (.loc n) = match st[n]? with | some (.lst _ l) => some l | _ => none := rfl
  rw [e]
  cases st[n]? with
  | none => rfl
  | some o => cases o <;> rfl
@[simp] theorem m_ixQ {a : Int} : ixQ l (PV.int a) st = match atI l a with | some z => .ok z st | none => .stuck := rfl
@[simp] theorem m_tup : tupM l st = if l.length ≤ 16777216 then .ok (.tup l) st else .stuck := rfl
@[simp] theorem m_cap : capM l st = if l.length ≤ 16777216 then .ok l st else .stuck := rfl
@[simp] theorem m_tupQ : tupQ l st = .ok (.tup l) st := rfl
@[simp] theorem m_lay : layL l st = .ok (.loc st.length) (st ++ [.lst false l]) := rfl
@[simp] theorem m_lstL {n : Nat} : lstM (.loc n) st = match st[n]? with | some (.lst _ l) => .ok l st | _ => .stuck := rfl
@[simp] theorem m_lstK {ns : List Int} : lstM (.kl ns) st = .ok (ns.map PV.int) st := rfl
@[simp] theorem m_lstW {n : Nat} : lstW (.loc n) st = match st[n]? with | some (.lst false l) => .ok (n, l) st | _ => .stuck := rfl
@[simp] theorem m_lstU {n : Nat} : lstU (.loc n) st = match st[n]? with | some (.lst false l) => .ok l st | _ => .stuck := rfl
@[simp] theorem m_setL {n : Nat} : setL n l z st = if l.length ≤ 16777216 then .ok z (st.set n (.lst false l)) else .stuck := rfl
@[simp] theorem m_app : appM q [z] = bnd (lstW q) fun nl => setL nl.1 (nl.2 ++ [z]) .non := rfl
@[simp] theorem m_popAt {a : Int} : popAtM q [PV.int a] = bnd (lstW q) fun nl => if -9223372036854775808 ≤ a ∧ a < 9223372036854775808 then (match seqIndex? a nl.2.length with
    | some j => match nl.2[j]? with
      | some y => setL nl.1 (nl.2.eraseIdx j) y
      | none => fail
    | none => fail) else fail := rfl
@[simp] theorem m_set {n : Nat} {a : Int} : setM (.loc n) (PV.int a) z st = match st[n]? with
    | some (.lst false l) => match ixN l.length a with
      | some j => .ok () (st.set n (.lst false (l.set j z)))
      | none => .stuck
    | _ => .stuck := rfl
@[simp] theorem m_int {a : Int} : intV (PV.int a) st = .ok (PV.int a) st := rfl
@[simp] theorem m_intM {a : Int} : intM (PV.int a) st = .ok (some a) st := rfl
@[simp] theorem m_slT {lo hi : Option Int} : slT (.tup l) lo hi st = .ok (.tup (cutP l lo hi)) st := rfl
@[simp] theorem m_call {n : Nat} {F : List PV → Mo PV} : callM n F l st = if l.length = n then F l st else .stuck := rfl
@[simp] theorem m_fn {tab : Nat → Option (List PV → Mo PV)} : fnM tab (.fn j) st = match tab j with | some F => .ok F st | none => .stuck := rfl
@[simp] theorem m_srcT : srcM (.tup l) st = .ok (sV l) st := rfl
@[simp] theorem m_srcL {n : Nat} : srcM (.loc n) st = match st[n]? with | some (.lst _ l) => .ok (sL n l) st | _ => .stuck := rfl
@[simp] theorem m_sv : svM l st = .ok (sV l) st := rfl
@[simp] theorem m_rg1 {a : Int} : rg1M [PV.int a] st = if RgOk a then .ok (sV (rgP 0 a.toNat)) st else .stuck := rfl
@[simp] theorem m_rg2 {a b : Int} : rg2M [PV.int a, PV.int b] st = if RgOk a ∧ RgOk b then .ok (sV (rgP a (b - a).toNat)) st else .stuck := rfl
@[simp] theorem sV_chk : (sV l).chk st ↔ True := Iff.rfl
@[simp] theorem sV_l : (sV l).l = l := rfl
end
end PD
/-! PD: recursion's ground, and the store. -/
namespace PD
open PySem PySem.Spec L2
section
variable {P : Program} {w : World} {W : Wd} {base : Heap} {k : Nat} {f : Addr}
theorem DFn.none_ {x qual : Str} {params : Arguments} {body : List Stmt} {scope : Scope} {fd : FuncData} {N ps : List Str} (hcx : W.cx = CX0) (Fd : FunD W.K x qual params body scope [] [] f fd) (S : FnScope N ps scope) (hb : Binds W.K fd ps []) :
    DFn P w W base (k + 1) f ps.length (fun _ => fail) := ⟨⟨fd, ps, rfl, Fd.ok S spF_len fun cdv A outer s H vs Q E hr z => by
  obtain ⟨ι, qs, st, rs, rr, hl, g⟩ := z
  exact g.elim, hb⟩, Fd.kp⟩
end
@[simp] theorem eqb_int {i j : Int} : eqb (.int i) (.int j) = (i == j) := by simp [eqb]
@[simp] theorem eqb_bl {i j : Bool} : eqb (.bl i) (.bl j) = (i == j) := by cases i <;> cases j <;> simp [eqb]
theorem bls_map (f : PV → Bool) {st : Sto} : ∀ l : List PV, blsM (l.map fun q => .bl (f q)) st = .ok (l.map f) st
  | [] => rfl
  | q :: l => by simp only [List.map_cons, blsM, bnd, bls_map f l]
theorem anyQ_map (f : PV → Bool) {st : Sto} (l : List PV) : anyQ (l.map fun q => .bl (f q)) st = .ok (.bl (l.any f)) st := by
  unfold anyQ bnd
  rw [bls_map]
  simp [List.any_map]
theorem allQ_map (f : PV → Bool) {st : Sto} (l : List PV) : allQ (l.map fun q => .bl (f q)) st = .ok (.bl (l.all f)) st := by
  unfold allQ bnd
  rw [bls_map]
  simp [List.all_map]
theorem lc_map {pt : Pt} {dt : PD.Env → Mo Bool} {d : PD.Env → Mo PV} {chk : Sto → Prop} {ρ : PD.Env} {st : Sto} (f : PV → PV) (hc : chk st) (l : List PV) (h : ∀ q ∈ l, ∃ ρ1, Pt.go pt q ρ = some ρ1 ∧ dt ρ1 st = .ok true st ∧ d ρ1 st = .ok (f q) st) (hl : l.length ≤ 16777216) :
    lcF pt dt d chk ρ l [] st = .ok (l.map f) st := by
  have z := lc_pure (pt := pt) (dt := dt) (d := d) (chk := chk) (ρ := ρ) (st := st) (fun _ => true) f hc l [] (fun q hq => by
    obtain ⟨ρ1, e1, e2, e3⟩ := h q hq
    exact ⟨ρ1, e1, e2, fun _ => e3⟩) (by simpa using hl)
  rw [List.filter_eq_self.mpr (fun _ _ => rfl), List.nil_append] at z
  exact z
@[simp] theorem sL_l {n : Nat} {l : List PV} : (sL n l).l = l := rfl
@[simp] theorem e_augS {f : Int → Int → Int} {da db d : Env → Mo PV} {ρ : PD.Env} : dAugS f da db d ρ = bnd (da ρ) fun q => bnd (db ρ) fun i => bnd (bnd (lstM q) fun l => ixQ l i) fun x => bnd (d ρ) fun y => bnd (oI (fun x y => .int (f x y)) x y) fun z => bnd (setM q i z) fun _ => fun st => .ok (.nx ρ) st := rfl
theorem ixN_nat {n i : Nat} (h : i < n) : ixN n (i : Int) = some i := by
  unfold ixN
  have h1 : (i : Int) < (n : Int) := by omega
  simp [h1]
end PD
/-! PD: a law's end. -/
namespace PD
open PySem PySem.Spec PyProof.Rows L2
/-- a list of ints is what the script is -/
def ScrAt (p : PV) (ns : List Int) (st : Sto) : Prop := p = .kl ns ∨ ∃ i lk, p = .loc i ∧ st[i]? = some (.lst lk (ns.map PV.int))
theorem rs_nil {W : Wd} {H : Hp} (h1 : ∀ P ∈ W.tb, H P = some (.tbl #[])) (h2 : ∀ p ∈ W.tl, H p.1 = some (.tbl #[])) : RS W [] [] H :=
  ⟨rfl, List.nodup_nil, fun n o a h => by simp at h, fun P hP => ⟨#[], h1 P hP, True.intro⟩, fun p hp => ⟨#[], h2 p hp, True.intro, fun pos cv h => by cases h⟩⟩
theorem rs_one {W : Wd} {H : Hp} {a : Addr} {o : Ob} (h1 : ∀ P ∈ W.tb, H P = some (.tbl #[])) (h2 : ∀ p ∈ W.tl, H p.1 = some (.tbl #[])) (h3 : RO W [a] H a o) : RS W [a] [o] H :=
  ⟨rfl, by simp, fun n u b h1 h2 => by
    cases n with
    | zero =>
      cases h1
      cases h2
      exact h3
    | succ n => simp at h1, fun P hP => ⟨#[], h1 P hP, True.intro⟩, fun p hp => ⟨#[], h2 p hp, True.intro, fun pos cv h => by cases h⟩⟩
theorem sp_law {W : Wd} {H : Hp} {a : Addr} {ns : List Int} {n : Nat} {F : List PV → Mo PV} (h1 : ∀ P ∈ W.tb, H P = some (.tbl #[])) (h2 : ∀ p ∈ W.tl, H p.1 = some (.tbl #[])) (hl : ns.length ≤ n) (hn : n ≤ 10000) (hs : SqL W.K H a (ns.map V.int))
    (hF : ∀ (p : PV) (ns : List Int) (st : Sto), ScrAt p ns st → ns.length ≤ n → Ok (F [p] st) (fun q _ => q = .bl true)) : spF W 1 F [.ref a] H (fun v _ => v = .bl true) fun _ _ _ => False := by
  have good : ∀ (ι : List Addr) (p : PV) (st : Sto), ScrAt p ns st → Good W E0 ι H (F [p] st) (kQ W fun v _ => v = .bl true) := fun ι p st h => by
    obtain ⟨q, s, e, rfl⟩ := (hF p ns st h hl).ex
    rw [e]
    intro ι' H' m rs v hv
    cases hv
    rfl
  rcases hs with hs | hs
  · rcases hs with e | ⟨o, e⟩
    · exact ⟨[a], [.loc 0], [.lst false (ns.map PV.int)], rs_one h1 h2 ⟨_, e, RVs.ints ns, by rw [List.length_map]; omega⟩, .cons (.loc rfl) .nil, rfl, good _ _ _ (.inr ⟨0, false, rfl, rfl⟩)⟩
    · exact ⟨[a], [.loc 0], [.lst true (ns.map PV.int)], rs_one h1 h2 ⟨o, _, e, RVs.ints ns, by rw [List.length_map]; omega⟩, .cons (.loc rfl) .nil, rfl, good _ _ _ (.inr ⟨0, true, rfl, rfl⟩)⟩
  · exact ⟨[], [.kl ns], [], rs_nil h1 h2, .cons (.kl hs (by omega)) .nil, rfl, good _ _ _ (.inl rfl)⟩
theorem lawAtS_of {l : PySem.W.OpenLaw} {w : World} {W : Wd} {h : Heap} {k n : Nat} {fa : Addr} {F : List PV → Mo PV} {cs : List (Addr × Addr)} {x qual a0 : Str} {params : Arguments} {body : List Stmt} {scope : Scope} {fd : FuncData}
    (hcs : ∀ p ∈ cs, h.get? p.2 = some { cls := .none, data := .fields #[] }) (hK : ∀ p ∈ cs, W.K.lookup p.2 = none) (hC : ∀ p ∈ cs, PySem.W.CodeHd h p.1 p.2)
    (Fd : FunD W.K x qual params body scope [] [] fa fd) (hb : ∀ (kV doc pm : Value) (an : Option Addr) (cdv ct : Value) (us : List Value), us.length = [a0].length → bindArgs (PySem.W.fnOf x qual params body scope .none kV doc pm an cdv ct) ⟨us, []⟩ = pure ([a0].zip us))
    (htb : ∀ P ∈ W.tb, ∃ p ∈ cs, p.2 = P) (htl : ∀ q ∈ W.tl, ∃ p ∈ cs, p.2 = q.1) (hn : n ≤ 10000)
    (hF : ∀ (p : PV) (ns : List Int) (st : Sto), ScrAt p ns st → ns.length ≤ n → Ok (F [p] st) (fun q _ => q = .bl true))
    (ok : ∀ base : Heap, W.K.In base → base.Ns mainGlobals W.mg → (∀ p ∈ cs, GxR.TabB base W.mg p.1 p.2) → FnOk l.prog w W.K W.mg base W.cx k fa fd [a0] (spF W 1 F)) : LamX.LawAtS l w W.K W.cx k n a0 W.mg fa h := by
  refine ⟨fd, cs, spF W 1 F, hcs, hK, hC, fun s u => Fd.bindsA (ps := [a0]) hb s [u] rfl, fun H a ns hl _ hT hS => sp_law (fun P hP => ?_) (fun q hq => ?_) hl hn hS hF, fun base h1 h2 h3 => ok base h1 h2 fun p hp => ?_⟩
  · obtain ⟨p, hp, rfl⟩ := htb P hP
    exact hT p hp
  · obtain ⟨p, hp, e⟩ := htl q hq
    rw [← e]
    exact hT p hp
  · obtain ⟨c, b, g⟩ := h3 p hp
    exact ⟨c, b, g⟩
end PD
/-! PD: xs[::-1], text slices, upper, extend, index, len(set(..)). -/
namespace HT
open PySem PySem.Spec PyProof.Rows L2
section
variable {prog : Program} {w : World} {A : Around} {E : Value → Shared → Prop} {s : Shared}
theorem pick_rev (xs : Array Value) : ((List.range xs.size).filterMap fun (m : Nat) => xs[(((xs.size : Int) - 1) + (m : Int) * (-1)).toNat]?).toArray = xs.toList.reverse.toArray := by
  congr 1
  refine List.ext_getElem? fun i => ?_
  have e : ((List.range xs.size).filterMap fun (m : Nat) => xs[(((xs.size : Int) - 1) + (m : Int) * (-1)).toNat]?) = (List.range xs.size).map fun m => xs.toList.getD (xs.size - 1 - m) .none := by
    have aux : ∀ (f : Nat → Option Value) (g : Nat → Value) (l : List Nat), (∀ m ∈ l, f m = some (g m)) → l.filterMap f = l.map g := fun f g l => by
      induction l with
      | nil => intro _; rfl
      | cons a l ih => intro h; rw [List.filterMap_cons, h a (List.mem_cons_self ..), List.map_cons, ih fun m hm => h m (List.mem_cons_of_mem _ hm)]
    refine aux _ _ _ fun m hm => ?_
    have hm := List.mem_range.mp hm
    have h1 : (((xs.size : Int) - 1) + (m : Int) * (-1)).toNat = xs.size - 1 - m := by omega
    rw [h1]
    have h2 : xs.size - 1 - m < xs.size := by omega
    simp [h2]
  rw [e, List.getElem?_map]
  by_cases hi : i < xs.size
  · rw [List.getElem?_range hi, List.getElem?_reverse (by simpa using hi)]
    have h2 : xs.size - 1 - i < xs.size := by omega
    simp [h2]
  · rw [List.getElem?_eq_none (by simp; omega), List.getElem?_eq_none (by simp; omega)]
    rfl
theorem getItem_tuple_rev {t sl : Addr} {items : Array Value} {tk : Tok} {Q : Value → Shared → Prop} (ht : IsTup s.heap t items) (hs : s.heap.IsSliceOf sl .none .none (.int (-1) tk))
    (h : Q (.ref s.heap.objs.size) { s with heap := s.heap.push { cls := .type "tuple", data := .seq items.toList.reverse.toArray } })
    (hsz : items.size ≤ sizeLine) : wpAny (model prog w) A (getItem (.ref t) (.ref sl)) Q E s := by
  have htake : sizeOk (.seq items.toList.reverse.toArray) := by
    show items.toList.reverse.toArray.size ≤ sizeLine
    rw [List.size_toArray, List.length_reverse, Array.length_toList]
    exact hsz
  obtain ⟨os, hos, hcs, hds⟩ := id hs
  have hTs : s.TypeIs (.ref sl) "slice" := ⟨os, hos, hcs⟩
  unfold getItem
  try with_reducible refine wpAny_holding ?_
  first | refine wpAny_bind (wpAny_pure ?_) | skip
  refine wpAny_bind (wpAny_sequenceKey ht.typeIs (by decide) ?_)
  refine wpAny_bind (wpAny_callSpecial?_slot (name := Str.ofString "__getitem__") ht.typeIs PyProof.Rows.slot_tuple_getitem
    (wpAny_call_entry PyProof.Rows.slot_tuple_getitem ht.typeIs entry_tuple_getitem ?_ (args_tuple_getitem _ _)))
  show wpAny _ _ (Builtin.Tuple.tupleItemsOf (.ref t) >>= _) _ _ s
  refine wpAny_bind (tupleItemsOf_ ht ?_)
  refine wpAny_bind (wpAny_typeOf hTs ?_)
  rw [if_pos (by decide)]
  have ap : ∀ Q' : Int × Int × Nat → Shared → Prop, Q' ((items.size : Int) - 1, -1, items.size) s → wpAny (model prog w) (A.in1) (Builtin.Slice.sliceApplied (.ref sl) (pure (items.size : Int))) Q' E s := fun Q' hq => by
    unfold Builtin.Slice.sliceApplied Builtin.Slice.sliceFields
    refine wpAny_bind (wpAny_bind (wpAny_field hos hds (x := .none) rfl (wpAny_bind (wpAny_field hos hds (x := .none) rfl (wpAny_bind (wpAny_field hos hds (x := .int (-1) tk) rfl (wpAny_pure ?_)))))))
    refine wpAny_bind (slicePart_ (.int (-1) tk) ?_)
    show wpAny _ _ (if ((-1 : Int) == 0) = true then _ else _) _ _ s
    rw [if_neg (by decide)]
    refine wpAny_bind (slicePart_ .none (wpAny_bind (slicePart_ .none (wpAny_bind (wpAny_pure ?_)))))
    have hp : Builtin.Slice.slicePlaces ((items.size : Int) - 1) (-1) (-1) = items.size := by
      unfold Builtin.Slice.slicePlaces
      have h1 : ¬ ((-1 : Int) > 0) := by omega
      simp only [h1, if_false]
      split
      · rw [show (-(-1) : Int) = 1 from rfl, Int.ediv_one]
        omega
      · omega
    show wpAny _ _ (pure ((items.size : Int) - 1, (-1 : Int), Builtin.Slice.slicePlaces ((items.size : Int) - 1) (-1) (-1))) _ _ s
    rw [hp]
    exact wpAny_pure hq
  refine wpAny_bind (ap _ ?_)
  have hno : ¬ ((((items.size : Int) - 1) == 0 && (-1 : Int) == 1 && items.size == items.size) = true) := by
    intro q
    rw [Bool.and_eq_true, Bool.and_eq_true] at q
    exact absurd (eq_of_beq q.1.2) (by decide)
  show wpAny _ _ (if (((items.size : Int) - 1) == 0 && (-1 : Int) == 1 && items.size == items.size) = true then _ else _) _ _ s
  rw [if_neg hno, pick_rev]
  first
    | exact wpAny_bind (m := Builtin.Tuple.tupleExact _) (wpAny_newObj_type (wpAny_pure ⟨_, rfl, wpAny_pure h⟩) htake)
    | exact wpAny_bind (m := Builtin.Tuple.tupleExact _) (wpAny_newObj_type (wpAny_bind (wpAny_pure (wpAny_pure ⟨_, rfl, wpAny_pure h⟩))) htake)
    | exact wpAny_bind (wpAny_bind (m := Builtin.Tuple.tupleExact _) (wpAny_newObj_type (wpAny_pure (wpAny_pure ⟨_, rfl, wpAny_pure h⟩)) htake))
    | exact wpAny_bind (wpAny_bind (m := Builtin.Tuple.tupleExact _) (wpAny_newObj_type (wpAny_pure ⟨_, rfl, wpAny_pure h⟩) htake))
end
end HT
/-! PD: dicts with int and text keys. -/
namespace PD
open PySem PySem.Spec PyProof.Rows L2
def keq : PV → PV → Bool
  | .int i, .int j => decide (i = j)
  | .str x, .str y => decide (x = y)
  | _, _ => false
def isKey : PV → Bool
  | .int _ => true
  | .str _ => true
  | _ => false
def lookP (l : List (PV × PV)) (y : PV) : Option PV := (l.find? fun kv => keq kv.1 y).map (·.2)
def putP (l : List (PV × PV)) (y z : PV) : List (PV × PV) := if (l.any fun kv => keq kv.1 y) = true then l.map (fun kv => if keq kv.1 y = true then (kv.1, z) else kv) else l ++ [(y, z)]
theorem keq_kP {k j : Key} : keq (kP k) (kP j) = decide (k = j) := by
  cases k <;> cases j <;> simp [kP, keq]
theorem keq_self {y : PV} (h : isKey y = true) : keq y y = true := by
  cases y <;> simp [isKey] at h <;> simp [keq]
theorem keq_eq {x y : PV} (h : keq x y = true) : x = y := by
  cases x <;> cases y <;> simp [keq] at h <;> subst h <;> rfl
theorem isKey_kP {y : PV} (h : isKey y = true) : ∃ k : Key, y = kP k := by
  cases y <;> simp [isKey] at h
  · exact ⟨.inl _, rfl⟩
  · exact ⟨.inr _, rfl⟩
theorem rv_key {W : Wd} {ι : List Addr} {H : Hp} {k : Key} {v : V} (h : RV W ι H v (kP k)) : v = kV k := by
  cases k <;> cases h <;> rfl
theorem rv_kP {W : Wd} {ι : List Addr} {H : Hp} {k : Key} : RV W ι H (kV k) (kP k) := by
  cases k
  · exact .int _
  · exact .str _
section
variable {W : Wd} {ι ι' : List Addr} {H : Hp}
theorem RKs.length : ∀ {ks : List (Key × V)} {l : List (PV × PV)}, RKs W ι H ks l → ks.length = l.length
  | _, _, .nil => rfl
  | _, _, .cons _ r => by rw [List.length_cons, List.length_cons, r.length]
theorem RKs.look {k : Key} : ∀ {ks : List (Key × V)} {l : List (PV × PV)}, RKs W ι H ks l → match lookP l (kP k) with | some p => ∃ v, valV ks k = some v ∧ RV W ι H v p | none => valV ks k = none
  | _, _, .nil => rfl
  | _, _, .cons (k := j) (v := v) (p := p) (vs := vs) (ps := ps) h r => by
    by_cases e : j = k
    · have e1 : lookP ((kP j, p) :: ps) (kP k) = some p := by
        unfold lookP
        rw [List.find?_cons, keq_kP, decide_eq_true e]
        rfl
      rw [e1]
      exact ⟨v, valV_pos (p := (j, v)) e, h⟩
    · have e1 : lookP ((kP j, p) :: ps) (kP k) = lookP ps (kP k) := by
        unfold lookP
        rw [List.find?_cons, keq_kP, decide_eq_false e]
      rw [e1, valV_neg (p := (j, v)) e]
      exact RKs.look r
theorem RKs.any {k : Key} : ∀ {ks : List (Key × V)} {l : List (PV × PV)}, RKs W ι H ks l → (l.any fun kv => keq kv.1 (kP k)) = ks.any fun kv => decide (kv.1 = k)
  | _, _, .nil => rfl
  | _, _, .cons (k := j) _ r => by
    rw [List.any_cons, List.any_cons, keq_kP, RKs.any r]
theorem RKs.repl {k : Key} {v : V} {p : PV} (hv : RV W ι H v p) : ∀ {ks : List (Key × V)} {l : List (PV × PV)}, RKs W ι H ks l → RKs W ι H (ks.map fun kv => if kv.1 = k then (kv.1, v) else kv) (l.map fun kv => if keq kv.1 (kP k) = true then (kv.1, p) else kv)
  | _, _, .nil => .nil
  | _, _, .cons (k := j) h r => by
    rw [List.map_cons, List.map_cons, keq_kP]
    by_cases e : j = k
    · rw [if_pos e, if_pos (decide_eq_true e)]
      exact .cons hv (RKs.repl hv r)
    · rw [if_neg e, if_neg (by rw [decide_eq_false e]; simp)]
      exact .cons h (RKs.repl hv r)
theorem RKs.snoc {k : Key} {v : V} {p : PV} (hv : RV W ι H v p) : ∀ {ks : List (Key × V)} {l : List (PV × PV)}, RKs W ι H ks l → RKs W ι H (ks ++ [(k, v)]) (l ++ [(kP k, p)])
  | _, _, .nil => .cons hv .nil
  | _, _, .cons h r => .cons h (RKs.snoc hv r)
theorem RKs.put {ks : List (Key × V)} {l : List (PV × PV)} {k : Key} {v : V} {p : PV} (r : RKs W ι H ks l) (hv : RV W ι H v p) : RKs W ι H (putK ks k v) (putP l (kP k) p) := by
  unfold putK putP
  rw [r.any]
  by_cases h : (ks.any fun kv => decide (kv.1 = k)) = true
  · rw [if_pos h, if_pos h]
    exact r.repl hv
  · rw [if_neg h, if_neg h]
    exact r.snoc hv
theorem ro_pre (m : ∀ (n : Nat) (a : Addr), ι[n]? = some a → ι'[n]? = some a) {a : Addr} {o : Ob} (h : RO W ι H a o) : RO W ι' H a o := by
  cases o with
  | lst lk l =>
    cases lk with
    | false => obtain ⟨ws, q1, q2, q3⟩ := h; exact ⟨ws, q1, rvs_pre m _ _ q2, q3⟩
    | true => obtain ⟨o, ws, q1, q2, q3⟩ := h; exact ⟨o, ws, q1, rvs_pre m _ _ q2, q3⟩
  | dct lk l =>
    cases lk with
    | false => obtain ⟨ws, q1, q2⟩ := h; exact ⟨ws, q1, rks_pre m q2⟩
    | true => obtain ⟨o, ws, q1, q2⟩ := h; exact ⟨o, ws, q1, rks_pre m q2⟩
  | sti l => exact h
/-- a new object is put into the store -/
theorem rs_lay {st : Sto} {p : Addr} {u : HO} {o : Ob} (rs : RS W ι st H) (hp : H p = none) (hr : RO W ι (upd H p u) p o) : RS W (ι ++ [p]) (st ++ [o]) (upd H p u) ∧ Mono ι H (ι ++ [p]) (upd H p u) := by
  have r1 : RS W ι st (upd H p u) := rs.other hp
  have hn : p ∉ ι := fun ha => by
    obtain ⟨n, ob, _, _, r⟩ := rs.at_ ha
    obtain ⟨x, e, _⟩ := r.there
    rw [hp] at e
    cases e
  have pre : ∀ (n : Nat) (a : Addr), ι[n]? = some a → (ι ++ [p])[n]? = some a := fun n x hx => by
    rw [List.getElem?_append_left (List.getElem?_eq_some_iff.mp hx).1]
    exact hx
  refine ⟨⟨by rw [List.length_append, List.length_append, r1.len]; rfl, ?_, fun n o x h3 h4 => ?_, r1.tb, r1.tl⟩, pre, fun x hx hx0 => ?_, fun x o hx hx0 => ⟨o, (upd_ne (ne_of_none hx hp)).trans hx, Kp.refl o⟩⟩
  · rw [List.nodup_append]
    refine ⟨r1.nd, by simp, fun x hx y hy => ?_⟩
    rw [List.mem_singleton] at hy
    subst hy
    exact fun zz => hn (zz ▸ hx)
  · by_cases hlt : n < ι.length
    · rw [List.getElem?_append_left hlt] at h4
      rw [List.getElem?_append_left (by rw [← r1.len]; exact hlt)] at h3
      exact ro_pre pre (r1.ob n o x h3 h4)
    · have h5 : n < (ι ++ [p]).length := (List.getElem?_eq_some_iff.mp h4).1
      have e2 : n = ι.length := by
        rw [List.length_append] at h5
        simp at h5
        omega
      subst e2
      rw [List.getElem?_append_right (Nat.le_refl _), Nat.sub_self] at h4
      rw [r1.len, List.getElem?_append_right (Nat.le_refl _), Nat.sub_self] at h3
      cases h3
      cases h4
      exact ro_pre pre hr
  · rcases List.mem_append.mp hx with h3 | h3
    · exact absurd h3 hx0
    · rw [List.mem_singleton] at h3
      rw [h3]
      exact hp
end
/-- the store with a new object -/
def layO (o : Ob) : Mo PV := fun st => .ok (.loc st.length) (st ++ [o])
section
variable {X : Cx} {W : Wd} {k : Nat} {E : XK} {a b c e : Expr} {es : List Expr} {pos : Pos} {da db dc : Env → Mo PV}
theorem good_lay {ι : List Addr} {st : Sto} {H : Hp} {Q : VK} {o : Ob} {u : HO} {p : Addr} (g : Good W E ι H (layO o st) (kQ W Q)) (rs : RS W ι st H) (hp : H p = none) (hr : RO W ι (upd H p u) p o) : Q (.ref p) (upd H p u) := by
  obtain ⟨r, m⟩ := rs_lay rs hp hr
  refine g _ _ m r _ (.loc ?_)
  rw [← rs.len, List.getElem?_append_right (Nat.le_refl _), Nat.sub_self]
  rfl
theorem de_dnew : DE X W k E (.Dict [] [] pos) (fun _ => layO (.dct false [])) := ⟨fun _ => pe_imp pe_dnewK fun σ H Q t => by
  obtain ⟨ι, ρ, st, re, rs, g⟩ := t
  exact fun p hp => good_lay g rs hp ⟨[], upd_same, .nil⟩⟩
/-- the dict at a place -/
def dctM (q : PV) : Mo (List (PV × PV)) := fun st => match q with
  | .loc n => match st[n]? with
    | some (.dct _ l) => .ok l st
    | _ => .stuck
  | _ => .stuck
theorem dct_of {α : Type} {ι : List Addr} {st : Sto} {H : Hp} {x : V} {q : PV} {ff : List (PV × PV) → Mo α} {kk : α → Sto → List Addr → Hp → Prop} (rs : RS W ι st H) (hx : RV W ι H x q) (g : Good W E ι H (bnd (dctM q) ff st) kk) :
    ∃ a ks l, x = .ref a ∧ Rd H a (.dK ks) ∧ RKs W ι H ks l ∧ Good W E ι H (ff l st) kk := by
  replace g := Good.bind g
  cases hx <;> try exact g.elim
  rename_i n a hn
  unfold dctM at g
  dsimp only at g
  cases q : st[n]? with
  | none => rw [q] at g; exact g.elim
  | some ob =>
    rw [q] at g
    have ro := rs.ob n ob a q hn
    cases ob with
    | lst _ _ => exact g.elim
    | sti _ => exact g.elim
    | dct lk l =>
      cases lk with
      | true => obtain ⟨o, ks, e, r⟩ := ro; exact ⟨a, ks, l, rfl, .inr ⟨o, e⟩, r, g.ok rs⟩
      | false => obtain ⟨ks, e, r⟩ := ro; exact ⟨a, ks, l, rfl, .inl e, r, g.ok rs⟩
def lookM (y : PV) (l : List (PV × PV)) : Mo PV := fun st => if isKey y = true then (match lookP l y with | some z => .ok z st | none => .stuck) else .stuck
def hasM' (ng : Bool) (y : PV) (l : List (PV × PV)) : Mo PV := fun st => if isKey y = true then .ok (.bl (if ng then !(lookP l y).isSome else (lookP l y).isSome)) st else .stuck
theorem look_of {ι : List Addr} {st : Sto} {H : Hp} {y : V} {i : PV} {a : Addr} {ks : List (Key × V)} {l : List (PV × PV)} {kk : PV → Sto → List Addr → Hp → Prop} (hd : Rd H a (.dK ks)) (r : RKs W ι H ks l) (hy : RV W ι H y i) (g : Good W E ι H (lookM i l st) kk) (rs : RS W ι st H) : ∃ v p, DGet H a y (some v) ∧ RV W ι H v p ∧ kk p st ι H := by
  obtain ⟨hk, g⟩ := good_if g
  obtain ⟨k, rfl⟩ := isKey_kP hk
  have z := r.look (k := k)
  cases q : lookP l (kP k) with
  | none => rw [q] at g; exact g.elim
  | some p =>
    rw [q] at z g
    obtain ⟨v, e, hv⟩ := z
    exact ⟨v, p, .inl ⟨ks, k, hd, rv_key hy, e.symm⟩, hv, g.ok rs⟩
theorem has_of {ng : Bool} {ι : List Addr} {st : Sto} {H : Hp} {y : V} {i : PV} {a : Addr} {ks : List (Key × V)} {l : List (PV × PV)} {kk : PV → Sto → List Addr → Hp → Prop} (hd : Rd H a (.dK ks)) (r : RKs W ι H ks l) (hy : RV W ι H y i) (g : Good W E ι H (hasM' ng i l st) kk) (rs : RS W ι st H) : ∃ o, DGet H a y o ∧ kk (.bl (if ng then !o.isSome else o.isSome)) st ι H := by
  obtain ⟨hk, g⟩ := good_if g
  obtain ⟨k, rfl⟩ := isKey_kP hk
  have z := r.look (k := k)
  refine ⟨valV ks k, .inl ⟨ks, k, hd, rv_key hy, rfl⟩, ?_⟩
  have e : (lookP l (kP k)).isSome = (valV ks k).isSome := by
    cases q : lookP l (kP k) with
    | none => rw [q] at z; rw [z]; rfl
    | some p => rw [q] at z; obtain ⟨v, e, _⟩ := z; rw [e]; rfl
  rw [e] at g
  exact g.ok rs
theorem de_dget (ha : DE X W k E a da) (hb : DE X W k E b db) (hs : NoSl b := by intro _ _; rfl) : DE X W k E (.Subscript a b pos) (fun ρ => bnd (da ρ) fun q => bnd (db ρ) fun i => bnd (dctM q) (lookM i)) :=
  ⟨fun o => pe_imp (pe_dget (by have := o.room.un; omega) (ha.run o) (hb.run o) hs) fun σ H Q t => by
    obtain ⟨ι, ρ, st, re, rs, g⟩ := t
    refine ⟨ι, ρ, st, re, rs, Good.imp (Good.bind g) fun q st1 ι1 H1 m1 r1 g1 x hx => ?_⟩
    refine ⟨ι1, ρ, st1, re.mono rs m1, r1, Good.imp (Good.bind g1) fun i st2 ι2 H2 m2 r2 g2 y hy => ?_⟩
    obtain ⟨d, ks, l, rfl, hd, r, g3⟩ := dct_of r2 (rv_mono r1 m2 q x hx) g2
    obtain ⟨v, p, e1, hv, g4⟩ := look_of hd r hy g3 r2
    exact ⟨d, v, rfl, e1, g4 v hv⟩⟩
theorem pc_dhas {ng : Bool} {op : CmpOp} {t : TE} (hop : On X W k E → PC X op a b t) (ht : ∀ σ H Q, (tD W E da σ H fun y H1 => tD W E db σ H1 fun x H2 => ∃ d o, x = .ref d ∧ DGet H2 d y o ∧ Q (.bl (if ng then !o.isSome else o.isSome)) H2) → t σ H Q) (hm : behindInMarks op b = false) :
    DE X W k E (.Compare a [op] [b] pos) (fun ρ => bnd (da ρ) fun i => bnd (db ρ) fun q => bnd (dctM q) (hasM' ng i)) :=
  ⟨fun o => pe_imp (pe_cmp (hop o) hm) fun σ H Q t => by
    obtain ⟨ι, ρ, st, re, rs, g⟩ := t
    refine ht σ H Q ⟨ι, ρ, st, re, rs, Good.imp (Good.bind g) fun i st1 ι1 H1 m1 r1 g1 y hy => ?_⟩
    refine ⟨ι1, ρ, st1, re.mono rs m1, r1, Good.imp (Good.bind g1) fun q st2 ι2 H2 m2 r2 g2 x hx => ?_⟩
    obtain ⟨d, ks, l, rfl, hd, r, g3⟩ := dct_of r2 hx g2
    obtain ⟨w, e1, g4⟩ := has_of hd r (rv_mono r1 m2 i y hy) g3 r2
    exact ⟨d, w, rfl, e1, g4 _ (.bl _)⟩⟩
theorem ptc_dhas {ng : Bool} {op : CmpOp} {t : TE} (hop : On X W k E → PC X op a b t) (ht : ∀ σ H Q, (tD W E da σ H fun y H1 => tD W E db σ H1 fun x H2 => ∃ d o, x = .ref d ∧ DGet H2 d y o ∧ Q (.bl (if ng then !o.isSome else o.isSome)) H2) → t σ H Q) (hm : behindInMarks op b = false) :
    DT X W k E (.Compare a [op] [b] pos) (dB (fun ρ => bnd (da ρ) fun i => bnd (db ρ) fun q => bnd (dctM q) (hasM' ng i))) :=
  ⟨fun o => pt_imp (pt_cmp (hop o) hm) fun σ H Q t => by
    obtain ⟨ι, ρ, st, re, rs, g⟩ := t
    refine ht σ H _ ⟨ι, ρ, st, re, rs, Good.imp (Good.bind (Good.bind g)) fun i st1 ι1 H1 m1 r1 g1 y hy => ?_⟩
    refine ⟨ι1, ρ, st1, re.mono rs m1, r1, Good.imp (Good.bind g1) fun q st2 ι2 H2 m2 r2 g2 x hx => ?_⟩
    obtain ⟨d, ks, l, rfl, hd, r, g3⟩ := dct_of r2 hx g2
    obtain ⟨w, e1, g4⟩ := has_of hd r (rv_mono r1 m2 i y hy) g3 r2
    exact ⟨d, w, rfl, e1, _, rfl, g4.ok r2⟩⟩
theorem de_din (ha : DE X W k E a da) (hb : DE X W k E b db) (hm : behindInMarks .In b = false := by rfl) : DE X W k E (.Compare a [.In] [b] pos) (fun ρ => bnd (da ρ) fun i => bnd (db ρ) fun q => bnd (dctM q) (hasM' false i)) :=
  pc_dhas (t := tDIn (tD W E da) (tD W E db)) (fun o => pc_din (by have := o.room.un; omega) (ha.run o) (hb.run o)) (fun σ H Q h => h) hm
theorem de_dnotin (ha : DE X W k E a da) (hb : DE X W k E b db) (hm : behindInMarks .NotIn b = false := by rfl) : DE X W k E (.Compare a [.NotIn] [b] pos) (fun ρ => bnd (da ρ) fun i => bnd (db ρ) fun q => bnd (dctM q) (hasM' true i)) :=
  pc_dhas (t := tDNotIn (tD W E da) (tD W E db)) (fun o => pc_dnotin (by have := o.room.un; omega) (ha.run o) (hb.run o)) (fun σ H Q h => h) hm
theorem dt_din (ha : DE X W k E a da) (hb : DE X W k E b db) (hm : behindInMarks .In b = false := by rfl) : DT X W k E (.Compare a [.In] [b] pos) (dB (fun ρ => bnd (da ρ) fun i => bnd (db ρ) fun q => bnd (dctM q) (hasM' false i))) :=
  ptc_dhas (t := tDIn (tD W E da) (tD W E db)) (fun o => pc_din (by have := o.room.un; omega) (ha.run o) (hb.run o)) (fun σ H Q h => h) hm
theorem dt_dnotin (ha : DE X W k E a da) (hb : DE X W k E b db) (hm : behindInMarks .NotIn b = false := by rfl) : DT X W k E (.Compare a [.NotIn] [b] pos) (dB (fun ρ => bnd (da ρ) fun i => bnd (db ρ) fun q => bnd (dctM q) (hasM' true i))) :=
  ptc_dhas (t := tDNotIn (tD W E da) (tD W E db)) (fun o => pc_dnotin (by have := o.room.un; omega) (ha.run o) (hb.run o)) (fun σ H Q h => h) hm
/-- d[y] = z -/
def putM (q y z : PV) : Mo Unit := fun st => match q with
  | .loc n => match st[n]? with
    | some (.dct false l) => if isKey y = true ∧ l.length < 16777216 then .ok () (st.set n (.dct false (putP l y z))) else .stuck
    | _ => .stuck
  | _ => .stuck
theorem put_of {ι : List Addr} {st : Sto} {H : Hp} {x y v : V} {q i z : PV} {kk : Unit → Sto → List Addr → Hp → Prop} (rs : RS W ι st H) (hx : RV W ι H x q) (hy : RV W ι H y i) (hv : RV W ι H v z) (g : Good W E ι H (putM q i z st) kk) : ∃ a H', x = .ref a ∧ DPut H a y v H' ∧ ∃ st', RS W ι st' H' ∧ Mono ι H ι H' ∧ kk () st' ι H' := by
  cases hx <;> try exact g.elim
  rename_i n a hn
  unfold putM at g
  dsimp only at g
  cases q : st[n]? with
  | none => rw [q] at g; exact g.elim
  | some ob =>
    rw [q] at g
    have ro := rs.ob n ob a q hn
    cases ob with
    | lst _ _ => exact g.elim
    | sti _ => exact g.elim
    | dct lk l =>
      cases lk with
      | true => exact g.elim
      | false =>
        obtain ⟨ks, e, r⟩ := ro
        dsimp only at g
        obtain ⟨⟨hk, hl⟩, g⟩ := good_if g
        obtain ⟨k, rfl⟩ := isKey_kP hk
        have m : Mono ι H ι (upd H a (.dK (putK ks k v))) := Mono.mut (List.mem_of_getElem? hn)
        have r2 := rs.upd (o := .dct false (putP l (kP k) z)) (ho := .dK (putK ks k v)) hn ⟨_, upd_same, rks_mono rs m (r.put hv)⟩
        exact ⟨a, _, rfl, .inl ⟨ks, k, e, rv_key hy, by rw [sizeLine_eq, r.length]; exact hl, rfl⟩, _, r2, m, g _ _ m r2⟩
def rPutD : TSet := fun x y v H Q => ∃ a H', x = .ref a ∧ DPut H a y v H' ∧ Q H'
end
end PD
/-! PD: dicts stored into, made of pairs; [::-1], text slices, upper, extend, index, len(set(..)). -/
namespace PD
open PySem PySem.Spec PyProof.Rows L2
section
variable {X : Cx} {W : Wd} {k : Nat} {E : XK} {a b c e : Expr} {es : List Expr} {p p2 pos : Pos} {da db dc d : Env → Mo PV} {dl : Env → Mo (List PV)}
theorem pset_put (hu : X.A.units + 1 < cLine) : PSet X rPutD := by
  intro pins s σ H o i v ov iv u Q I ro ri rv h
  obtain ⟨a, H', rfl, g, q⟩ := h
  cases ro
  exact d_setItem hu I g ri rv fun s' I' => ⟨H', I', q⟩
def gDb (da db : Env → Mo PV) : PV → Env → Mo Env := fun z ρ => bnd (da ρ) fun q => bnd (db ρ) fun i => bnd (putM q i z) fun _ => fun st => .ok ρ st
theorem dg_dsub (ha : DE X W k E a da) (hb : DE X W k E b db) (hs : ∀ v, assign (.Subscript a b pos) X.env v = (do
      let ov ← holding [v] (eval a X.env)
      let iv ← holding [v, ov] (eval b X.env)
      standAt pos
      holding [v, ov, iv] (setItem ov iv v)
      release [v, ov, iv] []) := by intro _; rfl) : DG X W k E (.Subscript a b pos) (gDb da db) := ⟨fun o => pg_imp (pg_sub (ha.run o) (hb.run o) (pset_put (by have := o.room.un; omega)) hs) fun v σ H Q t => by
  obtain ⟨ι, ρ, st, z, re, rs, r, g⟩ := t
  refine ⟨ι, ρ, st, re, rs, Good.imp (Good.bind g) fun q st1 ι1 H1 m1 r1 g1 x hx => ?_⟩
  refine ⟨ι1, ρ, st1, re.mono rs m1, r1, Good.imp (Good.bind g1) fun i st2 ι2 H2 m2 r2 g2 y hy => ?_⟩
  have re2 := (re.mono rs m1).mono r1 m2
  obtain ⟨w, H3, h1, h2, st3, r3, m3, g3⟩ := put_of r2 (rv_mono r1 m2 q x hx) hy (rv_mono r1 m2 z v (rv_mono rs m1 z v r)) (Good.bind g2)
  exact ⟨w, H3, h1, h2, g3.ok r3 σ (re2.mono r2 m3)⟩⟩
/-! ### extend -/
def extM : PV → List PV → Mo PV
  | q, [z] => bnd (lstW q) fun nl => bnd (lstU z) fun m => setL nl.1 (nl.2 ++ m) .non
  | _, _ => fail
theorem mok_ext : MOk W E rExtend extM := by
  intro ι st H x xs q l Q rs hx hxs g
  cases hxs with
  | nil => exact g.elim
  | cons h1 t1 =>
    cases t1 with
    | cons _ _ => exact g.elim
    | nil =>
      rename_i z
      obtain ⟨a, n, vs, l, rfl, hn, e, r, hz, g1⟩ := lw_of (ff := fun nl => bnd (lstU z) fun m => setL nl.1 (nl.2 ++ m) .non) rs hx g
      obtain ⟨b, ws, m, rfl, e2, r2, hz2, g2⟩ := lu_of (kk := fun m st1 ι1 H1 => Good W E ι1 H1 (setL n (l ++ m) .non st1) (kQ W Q)) rs h1 (Good.bind g1)
      have hl := (good_if g2).1
      rw [List.length_append] at hl
      exact ⟨a, b, vs, ws, rfl, rfl, e, e2, by rw [sizeLine_eq, r.length, r2.length]; exact hl, set_fin g2 rs hn (r.append r2) .non⟩
theorem de_extend {cpos apos : Pos} (ho : DE X W k E a d) (ha : DE X W k E e db) (hbase : attributeBase a "extend" X.env (eval a X.env) = eval a X.env := by rfl)
    (hfew : ((backTo cpos (starEach [e] X.env)).all (fun x => !x.1) && (backToKw cpos (keywordEach [] X.env)).all (fun x => x.1.isSome) && decide ([e].length + ([] : List Keyword).length + (if ([] : List Keyword).isEmpty then 0 else 1) < 30)) = true := by rfl)
    (hline : (apos.endLine == cpos.line) = true := by rfl) (hs : starEach [e] X.env = (false, eval e X.env) :: starEach [] X.env := by rfl) :
    DE X W k E (.Call (.Attribute a "extend" apos) [e] [] cpos) (fun ρ => bnd (d ρ) fun q => bnd (lstM q) fun _ => bnd (dCons db (fun _ st => .ok [] st) ρ) fun l => extM q l) :=
  de_lm PySem.F.slot_list_extend PySem.F.type_list_extend (fun o => mt_extend) mok_ext ho (da_cons ha da_nil hs) hbase hfew hline hs rfl
/-! ### text: slices, upper -/
def slTS (q : PV) (lo hi : Option Int) : Mo PV := fun st => match q with
  | .str z => if z.length ≤ 16777216 then .ok (.str (cutS z lo hi)) st else .stuck
  | _ => slT q lo hi st
theorem de_slTS {lo hi : Option Expr} {d1 d2 : Env → Mo (Option Int)} (h : DE X W k E e d) (h1 : DO X W k E lo d1) (h2 : DO X W k E hi d2) : DE X W k E (.Subscript e (.Slice lo hi none p2) pos) (dSl d d1 d2 slTS) :=
  ⟨fun o => pe_imp (pe_slice (SlR.or (r := rSlA W.K) (by rw [← o.hK]; exact sl_tupA) sl_str) (h.run o) (h1.run o) (h2.run o)) fun σ H Q t => by
    obtain ⟨ι, ρ, st, re, rs, g⟩ := t
    refine ⟨ι, ρ, st, re, rs, Good.imp (Good.bind g) fun q st1 ι1 H1 m1 r1 g1 v hv => ?_⟩
    refine ⟨ι1, ρ, st1, re.mono rs m1, r1, Good.imp (Good.bind g1) fun lo st2 ι2 H2 m2 r2 g2 => ?_⟩
    refine ⟨ι2, ρ, st2, (re.mono rs m1).mono r1 m2, r2, Good.imp (Good.bind g2) fun hi st3 ι3 H3 m3 r3 g3 => ?_⟩
    have hv3 := rv_mono r2 m3 q v (rv_mono r1 m2 q v hv)
    cases hv3 <;> first
      | exact g3.elim
      | (obtain ⟨hc, g4⟩ := good_if g3
         exact .inr ⟨_, rfl, line_le hc, g4.ok r3 _ (.str _)⟩)
      | (rename_i a vs l sq rr z
         refine .inl ⟨a, vs, rfl, sq, fun hw => ?_, fun _ w hw => ?_⟩
         · have e1 : cutP l lo hi = l := by
             unfold cutP
             rw [← rr.length, hw.1, hw.2]
             simp [rr.length]
           have g4 : Good W E ι3 H3 (.ok (.tup (cutP l lo hi)) st3) (kQ W Q) := g3
           rw [e1] at g4
           exact g4.ok r3 _ (.tup sq rr z)
         · exact good_newtup g3 r3 (cut_rv lo hi rr) (Nat.le_trans (cutP_len l lo hi) z) hw)⟩
def upM (q : PV) : Mo PV := fun st => match q with
  | .str z => if z.length ≤ 5592405 then .ok (.str (Txt.upper z)) st else .stuck
  | _ => .stuck
theorem de_upper {apos : Pos} (ho : DE X W k E a d) (hbase : attributeBase a "upper" X.env (eval a X.env) = eval a X.env := by rfl) (hline : (apos.endLine == pos.line) = true := by rfl) : DE X W k E (.Call (.Attribute a "upper" apos) [] [] pos) (fun ρ => bnd (d ρ) upM) :=
  ⟨fun o => pe_imp (pe_upper (ho.run o) hbase hline) fun σ H Q t => by
    obtain ⟨ι, ρ, st, re, rs, g⟩ := t
    refine ⟨ι, ρ, st, re, rs, Good.imp (Good.bind g) fun q st1 ι1 H1 m1 r1 g1 v hv => ?_⟩
    cases hv <;> first
      | exact g1.elim
      | (obtain ⟨hc, g2⟩ := good_if g1
         exact ⟨⟨_, rfl⟩, _, rfl, rfl, hc, g2.ok r1 _ (.str _)⟩)⟩
/-! ### [::-1] -/
def tRevT (K : PySem.W.Frag) (te : TE) : TE := fun σ H Q => te σ H fun x H1 => ∃ a xs, x = .ref a ∧ SqT K H1 a xs ∧ ∀ p, H1 p = none → Q (.ref p) (upd H1 p (.tup xs.reverse))
theorem pe_revT {te : TE} {k : Nat} {p1 p2 p3 : Pos} (he : PE X e te) : PE X (.Subscript e (.Slice none none (some (.UnaryOp .USub (.Constant (.int 1) k p1) p2)) p3) pos) (tRevT X.K te) := by
  refine ⟨fun pins s σ H Q I h => ?_⟩
  refine Subscript_ (thn (he.run pins s σ H _ I h) fun v s1 ⟨x, H1, I1, r1, q1⟩ => ?_)
  obtain ⟨a, xs, ex, hx, q⟩ := q1
  subst ex
  cases r1
  have hst : PO X (some (.UnaryOp .USub (.Constant (.int 1) k p1) p2)) (tPart (tUn (rU fun i => .int (-i)) (tC (.int 1)))) := po_some (pe_un un_neg pe_int)
  refine wpAny_Slice (thn (po_none.run pins s1 σ H1 (fun o H2 => o = none ∧ H2 = H1) I1 ⟨rfl, rfl⟩) fun vl s2 ⟨l, H2, I2, pl, el, e2⟩ => ?_)
  subst el e2
  refine thn (po_none.run pins s2 σ H2 (fun o H3 => o = none ∧ H3 = H2) I2 ⟨rfl, rfl⟩) fun vu s3 ⟨u, H3, I3, pu, eu, e3⟩ => ?_
  subst eu e3
  refine thn (hst.run pins s3 σ H3 (fun o H4 => o = some (-1) ∧ H4 = H3) I3 ⟨1, rfl, -1, rfl, rfl, rfl⟩) fun vs s4 ⟨o, H4, I4, ps, eo, e4⟩ => ?_
  subst eo e4
  cases pl
  cases pu
  cases ps with
  | int _ tk =>
    have I5 : Inv X pins σ H4 { s4 with heap := s4.heap.push { cls := .type "slice", data := .fields #[.none, .none, .int (-1) tk] } } := I4.kept (t' := s4.toks) fun b ob q => Heap.get?_push_of_some _ q
    obtain ⟨its, r, ht, hz⟩ := I5.tuple hx
    have hlen := r.length
    show wpAny (model X.prog X.w) X.A (subscriptTail e (.Slice none none (some (.UnaryOp .USub (.Constant (.int 1) k p1) p2)) p3) (.ref a) (.ref s4.heap.objs.size)) (EP X pins σ Q) X.xe { s4 with heap := s4.heap.push { cls := .type "slice", data := .fields #[.none, .none, .int (-1) tk] } }
    refine tail_any (ops := [.ref a, .ref s4.heap.objs.size]) ht.typeIs (PyProof.Rows.slot_tuple_getitem.lookup) ?_ (by with_unfolding_all rfl)
    refine HT.getItem_tuple_rev ht (Heap.IsSliceOf.new _ .none .none (.int (-1) tk)) ?_ (by rw [List.size_toArray]; omega)
    refine ⟨.ref _, _, I5.laid (t' := s4.toks) (o := .tup xs.reverse) (fun b ob q => Heap.get?_push_of_some _ q) (Nat.le_refl _) ?_, rfl, q _ (I5.hok.fresh (Nat.le_refl _))⟩
    exact ⟨by rw [List.length_reverse]; exact hz, _, r.reverse, IsTup.new _ _⟩
def revM (q : PV) : Mo PV := fun st => match q with
  | .tup l => .ok (.tup l.reverse) st
  | _ => .stuck
theorem de_revT {k0 : Nat} {p1 p2 p3 : Pos} (h : DE X W k E e d) : DE X W k E (.Subscript e (.Slice none none (some (.UnaryOp .USub (.Constant (.int 1) k0 p1) p2)) p3) pos) (fun ρ => bnd (d ρ) revM) :=
  ⟨fun o => pe_imp (pe_revT (h.run o)) fun σ H Q t => by
    obtain ⟨ι, ρ, st, re, rs, g⟩ := t
    refine ⟨ι, ρ, st, re, rs, Good.imp (Good.bind g) fun q st1 ι1 H1 m1 r1 g1 v hv => ?_⟩
    cases hv <;> first
      | exact g1.elim
      | (rename_i a vs l sq rr z
         have g2 : Good W E ι1 H1 (.ok (.tup l.reverse) st1) (kQ W Q) := g1
         exact ⟨a, vs, rfl, by rw [o.hK]; exact sq, fun p hp => good_newtup g2 r1 rr.reverse (by rw [List.length_reverse]; exact z) hp⟩)⟩
theorem dl_revL {k0 : Nat} {p1 p2 p3 : Pos} (h : DL X W k E e dl) : DL X W k E (.Subscript e (.Slice none none (some (.UnaryOp .USub (.Constant (.int 1) k0 p1) p2)) p3) pos) (fun ρ => bnd (dl ρ) fun l => fun st => .ok l.reverse st) :=
  ⟨fun o => pe_imp (pe_revL (h.run o)) fun σ H Q t => by
    obtain ⟨ι, ρ, st, re, rs, g⟩ := t
    refine ⟨ι, ρ, st, re, rs, Good.imp (Good.bind g) fun l st1 ι1 H1 m1 r1 g1 p vs hp hn e1 r z => ?_⟩
    refine ⟨p, vs, rfl, SqL.of e1, fun q hq => ?_⟩
    have m : Mono ι1 H1 ι1 (upd H1 q (.lst vs.reverse)) := Mono.new hq
    have hH : H q = none := by
      cases z0 : H q with
      | none => rfl
      | some o =>
        by_cases hi : q ∈ ι
        · obtain ⟨n, ob, e2, e3, ro⟩ := rs.at_ hi
          have e4 := m1.pre n q e3
          have : q ∈ ι1 := List.mem_of_getElem? e4
          obtain ⟨n', ob', _, _, ro'⟩ := r1.at_ this
          obtain ⟨x, e5, _⟩ := ro'.there
          rw [hq] at e5
          cases e5
        · obtain ⟨o', e5, _⟩ := m1.keep q o z0 hi
          rw [hq] at e5
          cases e5
    have hni : q ∉ ι1 := fun hi => by
      obtain ⟨n', ob', _, _, ro'⟩ := r1.at_ hi
      obtain ⟨x, e5, _⟩ := ro'.there
      rw [hq] at e5
      cases e5
    exact g1 ι1 _ m (r1.other hq) q vs.reverse hH hni upd_same (rvs_mono r1 m _ _ r.reverse) (by rw [List.length_reverse]; exact z)⟩
end
end PD
/-! PD: xs.index, len(set(..)), dict(pairs), len of a dict. -/
namespace PD
open PySem PySem.Spec PyProof.Rows L2
/-! ### distinct ints -/
def dst : List Int → List Int
  | [] => []
  | x :: l => if x ∈ l then dst l else x :: dst l
theorem mem_dst {k : Int} : ∀ {l : List Int}, k ∈ dst l ↔ k ∈ l
  | [] => Iff.rfl
  | x :: l => by
    unfold dst
    split
    · rename_i h
      rw [mem_dst, List.mem_cons]
      exact ⟨.inr, fun z => z.elim (fun e => e ▸ h) id⟩
    · rw [List.mem_cons, List.mem_cons, mem_dst]
theorem nodup_dst : ∀ l : List Int, (dst l).Nodup
  | [] => List.nodup_nil
  | x :: l => by
    unfold dst
    split
    · exact nodup_dst l
    · rename_i h
      exact List.nodup_cons.mpr ⟨fun z => h (mem_dst.mp z), nodup_dst l⟩
theorem dst_le : ∀ l : List Int, (dst l).length ≤ l.length
  | [] => Nat.le_refl _
  | x :: l => by
    unfold dst
    have := dst_le l
    split <;> simp <;> omega
theorem nodup_le_of {l m : List Int} (hn : l.Nodup) (h : ∀ a ∈ l, a ∈ m) : l.length ≤ m.length := by
  induction l generalizing m with
  | nil => exact Nat.zero_le _
  | cons a l ih =>
    have hm := h a (List.mem_cons_self ..)
    obtain ⟨h1, h2⟩ := List.nodup_cons.mp hn
    have := ih (m := m.erase a) h2 fun b hb => (List.mem_erase_of_ne (fun (e : b = a) => h1 (by rw [← e]; exact hb))).mpr (h b (List.mem_cons_of_mem _ hb))
    rw [List.length_erase_of_mem hm] at this
    have := List.length_pos_of_mem hm
    rw [List.length_cons]
    omega
theorem dst_length {l ns : List Int} (hn : l.Nodup) (h : ∀ k, k ∈ l ↔ k ∈ ns) : l.length = (dst ns).length :=
  Nat.le_antisymm (nodup_le_of hn fun a ha => mem_dst.mpr ((h a).mp ha)) (nodup_le_of (nodup_dst ns) fun a ha => (h a).mpr (mem_dst.mp ha))
theorem dst_nodup : ∀ {l : List Int}, l.Nodup ↔ (dst l).length = l.length
  | [] => by simp [dst]
  | x :: l => by
    unfold dst
    rw [List.nodup_cons]
    have hle := dst_le l
    split
    · rename_i h
      simp [h]
      omega
    · rename_i h
      rw [dst_nodup]
      simp [h]
theorem ne_before {i : Int} : ∀ {ns : List Int} {m : Nat}, m < ns.idxOf i → (h : m < ns.length) → (ns[m] == i) = false
  | [], _, _, h => absurd h (Nat.not_lt_zero _)
  | x :: ns, m, hm, h => by
    rw [List.idxOf_cons] at hm
    cases q : (x == i) with
    | true => rw [q] at hm; exact absurd hm (Nat.not_lt_zero _)
    | false =>
      rw [q] at hm
      cases m with
      | zero => exact q
      | succ m =>
        rw [List.getElem_cons_succ]
        have hm : m + 1 < ns.idxOf i + 1 := hm
        exact ne_before (by omega) _
section
variable {X : Cx} {W : Wd} {k : Nat} {E : XK} {a b c e : Expr} {es : List Expr} {p p2 q2 pos : Pos} {da db dc d : Env → Mo PV} {dl : Env → Mo (List PV)}
/-! ### len(set(..)) of ints -/
def tLenSetT (K : PySem.W.Frag) (ta : TE) : TE := fun σ H Q => ta σ H fun x H1 => ∃ (l : Addr) (ns : List Int), x = V.ref l ∧ SqT K H1 l (ns.map V.int) ∧ ns.length ≤ 4000 ∧ Q (.int (dst ns).length) H1
theorem pe_lenSetT {ta : TE} (hc : X.calm = true) (hg : Gl X "len") (hm : X.mg "len" = none) (hg2 : Gl X "set") (hm2 : X.mg "set" = none) (ha : PE X a ta)
    (na : starEach [a] X.env = (false, eval a X.env) :: starEach [] X.env := by rfl) : PE X (.Call (.Name "len" p) [.Call (.Name "set" p2) [a] [] q2] [] pos) (tLenSetT X.K ta) := by
  refine ⟨fun pins s σ H Q I h => ?_⟩
  refine Call_ (ld_blt I hg hm PySem.boot_len ?_)
  refine PyProof.Rows.callWith_builtin1 (PyProof.Rows.args_cons ?_ rfl) rfl rfl
  refine Call_ (ld_blt I hg2 hm2 PyProof.Rows.boot_set ?_)
  refine PyProof.Rows.callWith_type1 (PyProof.Rows.args_cons (thn (ha.run pins s σ H _ I h) fun v s1 ⟨x, H1, I1, r1, q1⟩ => PyProof.Rows.args_nil ?_) na) na rfl
  obtain ⟨l, ns, rfl, hq, h1, q1⟩ := q1
  cases r1
  obtain ⟨its, r, pl, hz⟩ := I1.tuple hq
  have hi : IntsAre its.toArray.toList ns := ints_of_vals (by simpa using r)
  refine call_set_tupI ns (I1.ok.hd hc) (show s1.heap.IsTuple l its.toArray from pl) hi (by unfold scanBound; omega) fun h' tk c hS _ hk => ?_
  refine PyProof.Rows.args_nil ?_
  obtain ⟨o, es, ep, t, ho, hex, hd, g, nd, hm3, hb, hf, hn, hr, hl2⟩ := hS
  have I2 : Inv X pins σ H1 { s1 with heap := h', toks := tk } := I1.kept fun b o e => hk b o e
  have hlen : es.size = (dst ns).length := by
    have z := dst_length (ns := ns) nd fun j => by rw [← hm3 j, decide_eq_true_eq]
    rw [List.length_map, Array.length_toList] at z
    exact z
  unfold scanBound at hb
  refine call_len_set ho hex hd hf (by omega) ⟨.int (dst ns).length, H1, I2.tok _, ⟨_, by rw [hlen]⟩, q1⟩
def intsV : List PV → Option (List Int)
  | [] => some []
  | .int i :: l => (intsV l).map (i :: ·)
  | _ :: _ => none
theorem intsV_some : ∀ {l : List PV} {ns : List Int}, intsV l = some ns → l = ns.map PV.int
  | [], ns, h => by cases h; rfl
  | p :: l, ns, h => by
    cases p <;> try (cases h; done)
    rename_i i
    have h : (intsV l).map (i :: ·) = some ns := h
    cases q : intsV l with
    | none => rw [q] at h; cases h
    | some m =>
      rw [q] at h
      cases h
      rw [intsV_some q]
      rfl
@[simp] theorem intsV_map (ns : List Int) : intsV (ns.map PV.int) = some ns := by
  induction ns with
  | nil => rfl
  | cons n ns ih => simp only [List.map_cons, intsV, ih, Option.map_some]
def lenSetM (q : PV) : Mo PV := fun st => match q with
  | .tup l => match intsV l with
    | some ns => if ns.length ≤ 4000 then .ok (.int (dst ns).length) st else .stuck
    | none => .stuck
  | _ => .stuck
theorem de_lenSet (h : DE X W k E a d) (hg : Gl X "len") (hm : W.mg "len" = none) (hg2 : Gl X "set") (hm2 : W.mg "set" = none)
    (na : starEach [a] X.env = (false, eval a X.env) :: starEach [] X.env := by rfl) : DE X W k E (.Call (.Name "len" p) [.Call (.Name "set" p2) [a] [] q2] [] pos) (fun ρ => bnd (d ρ) lenSetM) :=
  ⟨fun o => pe_imp (pe_lenSetT o.hc hg (by rw [o.hM]; exact hm) hg2 (by rw [o.hM]; exact hm2) (h.run o) na) fun σ H Q t => by
    obtain ⟨ι, ρ, st, re, rs, g⟩ := t
    refine ⟨ι, ρ, st, re, rs, Good.imp (Good.bind g) fun q st1 ι1 H1 m1 r1 g1 v hv => ?_⟩
    cases hv <;> first
      | exact g1.elim
      | (rename_i a vs l sq rr z
         have g2 : Good W E ι1 H1 (match intsV l with | some ns => if ns.length ≤ 4000 then .ok (.int (dst ns).length) st1 else .stuck | none => .stuck) (kQ W Q) := g1
         cases hns : intsV l with
         | none => rw [hns] at g2; exact g2.elim
         | some ns =>
           rw [hns] at g2
           obtain ⟨hc, g3⟩ := good_if g2
           have e := intsV_some hns
           subst e
           have e2 := RVs.of_ints rr
           subst e2
           exact ⟨a, ns, rfl, by rw [o.hK]; exact sq, hc, g3.ok r1 _ (.int _)⟩)⟩
/-! ### xs.index(x), ints -/
def idxM : PV → List PV → Mo PV
  | q, [.int i] => bnd (lstM q) fun l => fun st => match intsV l with
    | some ns => if i ∈ ns then .ok (.int (ns.idxOf i : Nat)) st else .stuck
    | none => .stuck
  | _, _ => fail
theorem flat_ints (ns : List Int) : (ns.map V.int).all flatV = true := by
  induction ns with
  | nil => rfl
  | cons n ns ih => rw [List.map_cons, List.all_cons, ih]; rfl
theorem mok_idx : MOk W E (rIndex W.K) idxM := by
  intro ι st H x xs q l Q rs hx hxs g
  cases hxs with
  | nil => exact g.elim
  | cons h1 t1 =>
    cases t1 with
    | cons _ _ => cases h1 <;> exact g.elim
    | nil =>
      cases h1 <;> try exact g.elim
      rename_i i
      obtain ⟨a, vs, l, rfl, sq, rr, hz, g2⟩ := lst_of (α := PV) rs hx (Good.bind g)
      cases hns : intsV l with
      | none => rw [hns] at g2; exact g2.elim
      | some ns =>
        rw [hns] at g2
        obtain ⟨hi, g3⟩ := good_if g2
        have e := intsV_some hns
        subst e
        have e2 := RVs.of_ints rr
        subst e2
        have hlt := List.idxOf_lt_length_iff.mpr hi
        refine ⟨a, ns.map V.int, .int i, ns.idxOf i, .int i, rfl, rfl, sq, rfl, flat_ints ns, ?_, ?_, fun m z hm hz => ?_, g3.ok rs _ (.int _)⟩
        · rw [List.getElem?_map, List.getElem?_eq_getElem hlt, List.getElem_idxOf]
          rfl
        · exact beq_self_eq_true i
        · rw [List.getElem?_map] at hz
          have hml : m < ns.length := by omega
          rw [List.getElem?_eq_getElem hml] at hz
          cases hz
          show (ns[m] == i) = false
          exact ne_before hm hml
theorem de_index {cpos apos : Pos} (ho : DE X W k E a d) (ha : DE X W k E e db) (hbase : attributeBase a "index" X.env (eval a X.env) = eval a X.env := by rfl)
    (hfew : ((backTo cpos (starEach [e] X.env)).all (fun x => !x.1) && (backToKw cpos (keywordEach [] X.env)).all (fun x => x.1.isSome) && decide ([e].length + ([] : List Keyword).length + (if ([] : List Keyword).isEmpty then 0 else 1) < 30)) = true := by rfl)
    (hline : (apos.endLine == cpos.line) = true := by rfl) (hs : starEach [e] X.env = (false, eval e X.env) :: starEach [] X.env := by rfl) :
    DE X W k E (.Call (.Attribute a "index" apos) [e] [] cpos) (fun ρ => bnd (d ρ) fun q => bnd (lstM q) fun _ => bnd (dCons db (fun _ st => .ok [] st) ρ) fun l => idxM q l) :=
  de_lm PySem.F.slot_list_index PySem.F.type_list_index (fun o => by rw [← o.hK]; exact mt_index) mok_idx ho (da_cons ha da_nil hs) hbase hfew hline hs rfl
end
end PD
/-! PD: dict(pairs), len of a dict. -/
namespace PD
open PySem PySem.Spec PyProof.Rows L2
def mergeP (l m : List (PV × PV)) : List (PV × PV) := m.foldl (fun acc kv => putP acc kv.1 kv.2) l
def pairsV : List PV → Option (List (PV × PV))
  | [] => some []
  | .tup [y, z] :: l => if isKey y = true then (pairsV l).map ((y, z) :: ·) else none
  | _ :: _ => none
section
variable {X : Cx} {W : Wd} {k : Nat} {E : XK} {a b c e : Expr} {es : List Expr} {p p2 q2 pos : Pos} {da db dc d : Env → Mo PV} {dl : Env → Mo (List PV)}
theorem rks_merge {ι : List Addr} {H : Hp} : ∀ {ms : List (Key × V)} {m : List (PV × PV)} {ks : List (Key × V)} {l : List (PV × PV)}, RKs W ι H ms m → RKs W ι H ks l → RKs W ι H (mergeK ks ms) (mergeP l m)
  | _, _, _, _, .nil, r => r
  | _, _, ks, l, .cons (k := k) (v := v) (p := p) (vs := vs) (ps := ps) h t, r => rks_merge (ks := putK ks k v) (l := putP l (kP k) p) t (r.put h)
theorem pairs_rv {ι : List Addr} {H : Hp} : ∀ {l : List PV} {vs : List V} {m : List (PV × PV)}, RVs W ι H vs l → pairsV l = some m → ∃ (ps : List Addr) (ms : List (Key × V)), vs = ps.map V.ref ∧ Paired (fun p kv => SqT W.K H p [kV kv.1, kv.2]) ps ms ∧ RKs W ι H ms m ∧ m.length = l.length
  | [], _, _, .nil, h => by
    cases h
    exact ⟨[], [], rfl, .nil, .nil, rfl⟩
  | q :: l, v :: vs, m, .cons hv r, h => by
    unfold pairsV at h
    split at h
    · rename_i e0
      cases e0
    · rename_i y z l1 e0
      cases e0
      split at h
      · rename_i hk
        cases q0 : pairsV l with
        | none => rw [q0] at h; cases h
        | some m1 =>
          rw [q0] at h
          cases h
          obtain ⟨ps, ms, rfl, h2, h3, h4⟩ := pairs_rv r q0
          obtain ⟨k, rfl⟩ := isKey_kP hk
          obtain ⟨a, us, rfl, sq, rr⟩ : ∃ a us, v = .ref a ∧ SqT W.K H a us ∧ RVs W ι H us [kP k, z] := by
            cases hv with
            | tup sq rr _ => exact ⟨_, _, rfl, sq, rr⟩
          cases rr with
          | cons h5 t5 =>
            cases t5 with
            | cons h6 t6 =>
              cases t6
              rw [rv_key h5] at sq
              exact ⟨a :: ps, (k, _) :: ms, rfl, .cons sq h2, .cons h6 h3, by rw [List.length_cons, List.length_cons, h4]⟩
      · cases h
    · cases h
def dictQ (l : List PV) : Mo PV := fun st => match pairsV l with
  | some m => layO (.dct false (mergeP [] m)) st
  | none => .stuck
theorem boot_dict__ : bootBuiltins "dict" = some (.type "dict") := by decide +kernel
theorem de_dictL (hq : DL X W k E e dl) (hg : Gl X "dict") (hm : W.mg "dict" = none) (hs : starEach [e] X.env = (false, eval e X.env) :: starEach [] X.env := by rfl) : DE X W k E (.Call (.Name "dict" p) [e] [] pos) (fun ρ => bnd (dl ρ) dictQ) :=
  ⟨fun o => pe_imp (pe_callTy (call_dictP o.hc) hg (by rw [o.hM]; exact hm) boot_dict__ (pa_cons (hq.run o) pa_nil hs) (by decide) (by decide) hs (by rfl)) fun σ H Q t => cbl_of (fun ι st H q vs l Q rs e1 r z g => by
    have g2 : Good W E ι H (match pairsV l with | some m => layO (.dct false (mergeP [] m)) st | none => .stuck) (kQ W Q) := g
    cases hp : pairsV l with
    | none => rw [hp] at g2; exact g2.elim
    | some m =>
      rw [hp] at g2
      obtain ⟨ps, ms, rfl, h2, h3, h4⟩ := pairs_rv r hp
      exact ⟨q, ps, ms, rfl, by rw [o.hK]; exact SqL.of e1, by rw [o.hK]; exact h2, fun p hp => good_lay g2 rs hp ⟨_, upd_same, rks_mono rs (Mono.new hp) (rks_merge h3 .nil)⟩⟩) t⟩
def rLenD : List V → Hp → VK → Prop := fun vs H Q => ∃ (a : Addr) (kvs : List (Key × V)), vs = [V.ref a] ∧ Rd H a (.dK kvs) ∧ Q (.int kvs.length) H
theorem cr_lenD : CallR X (.builtin "len") rLenD := by
  intro pins s σ H vs us Q I r h
  obtain ⟨a, kvs, rfl, hd, q⟩ := h
  rw [Vals.ref1 r]
  exact d_len I hd fun t s' I' => ⟨.int kvs.length, H, I', ⟨t, rfl⟩, q⟩
def lenD (q : PV) : Mo PV := bnd (dctM q) fun l => fun st => .ok (.int l.length) st
theorem de_lenD (h : DE X W k E e d) (hg : Gl X "len") (hm : W.mg "len" = none) (hs : starEach [e] X.env = (false, eval e X.env) :: starEach [] X.env := by rfl) : DE X W k E (.Call (.Name "len" p) [e] [] pos) (fun ρ => bnd (d ρ) lenD) :=
  ⟨fun o => pe_imp (pe_callB cr_lenD hg (by rw [o.hM]; exact hm) PySem.boot_len (pa_cons (h.run o) pa_nil hs) (by decide) (by decide) hs (by rfl)) fun σ H Q t => by
    obtain ⟨ι, ρ, st, re, rs, g⟩ := t
    refine ⟨ι, ρ, st, re, rs, Good.imp (Good.bind g) fun q st1 ι1 H1 m1 r1 g1 v hv => ?_⟩
    obtain ⟨a, ks, l, rfl, hd, r, g2⟩ := dct_of r1 hv g1
    refine ⟨a, ks, rfl, hd, ?_⟩
    rw [r.length]
    exact g2.ok r1 _ (.int _)⟩
end
/-! ### denotations, step by step -/
section
variable {Q : PV → Sto → Prop} {st : Sto} {l m : List PV} {kvs : List (PV × PV)} {n : Nat} {y z : PV}
@[simp] theorem m_layO {o : Ob} : layO o st = .ok (.loc st.length) (st ++ [o]) := rfl
@[simp] theorem m_dct : dctM (.loc n) st = match st[n]? with | some (.dct _ l) => .ok l st | _ => .stuck := rfl
@[simp] theorem m_look : lookM y kvs st = if isKey y = true then (match lookP kvs y with | some z => .ok z st | none => .stuck) else .stuck := rfl
@[simp] theorem m_has {ng : Bool} : hasM' ng y kvs st = if isKey y = true then .ok (.bl (if ng then !(lookP kvs y).isSome else (lookP kvs y).isSome)) st else .stuck := rfl
@[simp] theorem m_put : putM (.loc n) y z st = match st[n]? with
    | some (.dct false l) => if isKey y = true ∧ l.length < 16777216 then .ok () (st.set n (.dct false (putP l y z))) else .stuck
    | _ => .stuck := rfl
@[simp] theorem isKey_int {i : Int} : isKey (.int i) = true := rfl
@[simp] theorem isKey_str {s : Str} : isKey (.str s) = true := rfl
@[simp] theorem e_gDb {da db : PD.Env → Mo PV} {ρ : PD.Env} : gDb da db z ρ = bnd (da ρ) fun q => bnd (db ρ) fun i => bnd (putM q i z) fun _ => fun st => .ok ρ st := rfl
@[simp] theorem m_ext : extM y [z] = bnd (lstW y) fun nl => bnd (lstU z) fun m => setL nl.1 (nl.2 ++ m) .non := rfl
@[simp] theorem m_slTSs {s : Str} {lo hi : Option Int} : slTS (.str s) lo hi st = if s.length ≤ 16777216 then .ok (.str (cutS s lo hi)) st else .stuck := rfl
@[simp] theorem m_slTSt {lo hi : Option Int} : slTS (.tup l) lo hi st = .ok (.tup (cutP l lo hi)) st := rfl
@[simp] theorem m_up {s : Str} : upM (.str s) st = if s.length ≤ 5592405 then .ok (.str (Txt.upper s)) st else .stuck := rfl
@[simp] theorem m_rev : revM (.tup l) st = .ok (.tup l.reverse) st := rfl
@[simp] theorem m_lenSet {ns : List Int} : lenSetM (.tup (ns.map PV.int)) st = if ns.length ≤ 4000 then .ok (.int (dst ns).length) st else .stuck := by
  show (match intsV (ns.map PV.int) with | some ns => if ns.length ≤ 4000 then Res.ok (PV.int (dst ns).length) st else .stuck | none => .stuck) = _
  rw [intsV_map]
@[simp] theorem m_lenD : lenD (.loc n) st = match st[n]? with | some (.dct _ l) => .ok (.int l.length) st | _ => .stuck := by
  unfold lenD bnd
  rw [m_dct]
  cases st[n]? with
  | none => rfl
  | some o => cases o <;> rfl
@[simp] theorem m_popL {q : PV} : popM q [] = bnd (lstW q) fun nl => match nl.2[nl.2.length - 1]? with
    | some y => setL nl.1 nl.2.dropLast y
    | none => fail := rfl
end
end PD
/-! PD: plain lemmas: values, the box, stays. -/
namespace PD
open PySem PySem.Spec L2
/-- an integer within bounds -/
def isNum (v : PV) (lo hi : Int) : Bool := match v with
  | .int i => decide (lo ≤ i) && decide (i ≤ hi)
  | _ => false
/-- a value of the plain kinds -/
def plainV : PV → Prop
  | .loc _ => False
  | .fn _ => False
  | .kl _ => False
  | .clo _ => False
  | .pst _ => False
  | _ => True
def dom_is_number (ps : List PV) : Prop := ∃ v lo hi, ps = [v, .int lo, .int hi] ∧ plainV v
def val_is_number : List PV → PV
  | [v, .int lo, .int hi] => .bl (isNum v lo hi)
  | _ => .non
def dom_is_moment (ps : List PV) : Prop := ∃ v, ps = [v] ∧ plainV v
def val_is_moment : List PV → PV
  | [v] => .bl (isNum v 0 1000000)
  | _ => .non
/-- .. its parts, too -/
def plainT (v : PV) : Prop := plainV v ∧ ∀ l, v = .tup l → ∀ p ∈ l, plainV p
def isStay (v : PV) : Bool := match v with
  | .tup [.int a, .int b] => decide (0 ≤ a) && decide (a ≤ 1000000) && decide (0 ≤ b) && decide (b ≤ 1000000) && decide (a < b)
  | _ => false
def dom_is_stay (ps : List PV) : Prop := ∃ v, ps = [v] ∧ plainT v
def val_is_stay : List PV → PV
  | [v] => .bl (isStay v)
  | _ => .non
@[simp] theorem atI_0 {α : Type} {a : α} {l : List α} : atI (a :: l) 0 = some a := by
  unfold atI ixN
  simp
@[simp] theorem atI_1 {α : Type} {a b : α} {l : List α} : atI (a :: b :: l) 1 = some b := by
  unfold atI ixN
  have h : (1 : Int) < (l.length : Int) + 1 + 1 := by omega
  simp [h]
theorem isNum_int {v : PV} {lo hi : Int} (h : isNum v lo hi = true) : ∃ i, v = .int i ∧ lo ≤ i ∧ i ≤ hi := by
  cases v <;> simp [isNum] at h
  exact ⟨_, rfl, h⟩
/-- a tuple of such -/
def plainS (v : PV) : Prop := plainV v ∧ ∀ l, v = .tup l → ∀ p ∈ l, plainT p
def isStays (v : PV) (size : Int) : Bool := match v with
  | .tup l => decide ((l.length : Int) ≤ size) && l.all isStay
  | _ => false
def val_is_tuple_of : List PV → PV
  | [v, .int size, .fn _] => .bl (isStays v size)
  | _ => .non
def dom_is_stays (ps : List PV) : Prop := ∃ v, ps = [v] ∧ plainS v
def val_is_stays : List PV → PV
  | [v] => .bl (isStays v 60)
  | _ => .non
def isNat (v : PV) : Bool := match v with
  | .int i => decide (0 ≤ i)
  | _ => false
def isPl (n : Nat) (v : PV) : Bool := match v with
  | .tup l => decide (l.length = n) && l.all isNat
  | _ => false
def dom_is_placing (ps : List PV) : Prop := ∃ l v, ps = [.tup l, v] ∧ plainT v
def val_is_placing : List PV → PV
  | [.tup l, v] => .bl (isPl l.length v)
  | _ => .non
def stP (a : Int × Int) : PV := .tup [.int a.1, .int a.2]
def meetB (a b : Int × Int) : Bool := decide (a.1 < b.2) && decide (b.1 < a.2)
def withB (a b : Int × Int) : Bool := decide (b.1 < a.1) && decide (a.2 < b.2)
def crossB (a b : Int × Int) : Bool := meetB a b && ((decide (a.1 < b.1) && decide (a.2 < b.2)) || (decide (b.1 < a.1) && decide (b.2 < a.2)))
def dom_meets (ps : List PV) : Prop := ∃ a b : Int × Int, ps = [stP a, stP b]
def val_meets : List PV → PV
  | [.tup [.int a, .int b], .tup [.int c, .int d]] => .bl (meetB (a, b) (c, d))
  | _ => .non
def dom_is_within (ps : List PV) : Prop := ∃ a b : Int × Int, ps = [stP a, stP b]
def val_is_within : List PV → PV
  | [.tup [.int a, .int b], .tup [.int c, .int d]] => .bl (withB (a, b) (c, d))
  | _ => .non
def dom_crosses (ps : List PV) : Prop := ∃ a b : Int × Int, ps = [stP a, stP b]
def val_crosses : List PV → PV
  | [.tup [.int a, .int b], .tup [.int c, .int d]] => .bl (crossB (a, b) (c, d))
  | _ => .non
def hasM (a : Int × Int) (m : Int) : Bool := decide (a.1 ≤ m) && decide (m < a.2)
def dom_has_moment (ps : List PV) : Prop := ∃ (a : Int × Int) (m : Int), ps = [stP a, .int m]
def val_has_moment : List PV → PV
  | [.tup [.int a, .int b], .int m] => .bl (hasM (a, b) m)
  | _ => .non
/-- stays as a value -/
abbrev staysP (L : List (Int × Int)) : PV := .tup (L.map stP)
def presI (L : List (Int × Int)) (m : Int) : List Nat := (List.range L.length).filter fun i => hasM (L[i]?.getD (0, 0)) m
def intsP (l : List Nat) : PV := .tup (l.map fun i : Nat => PV.int i)
def dom_present (ps : List PV) : Prop := ∃ (L : List (Int × Int)) (m : Int), ps = [staysP L, .int m] ∧ L.length ≤ 16777216
def unSt : PV → Int × Int
  | .tup [.int a, .int b] => (a, b)
  | _ => (0, 0)
@[simp] theorem unSt_stP (a : Int × Int) : unSt (stP a) = a := rfl
theorem unSt_map (L : List (Int × Int)) : (L.map stP).map unSt = L := by
  rw [List.map_map]
  simp [Function.comp_def]
def val_present : List PV → PV
  | [.tup l, .int m] => intsP (presI (l.map unSt) m)
  | _ => .non
theorem val_present_eq (L : List (Int × Int)) (m : Int) : val_present [staysP L, .int m] = intsP (presI L m) := by
  show intsP (presI ((L.map stP).map unSt) m) = _
  rw [unSt_map]
theorem atI_nat {α : Type} {l : List α} {i : Nat} {a : α} (h : l[i]? = some a) : atI l (i : Int) = some a := by
  have hi : i < l.length := (List.getElem?_eq_some_iff.mp h).1
  have h2 : (i : Int) < (l.length : Int) := by omega
  unfold atI ixN
  simp [h2, h]
theorem stay_at {L : List (Int × Int)} {i : Nat} (h : i < L.length) : atI (L.map stP) (i : Int) = some (stP (L[i]?.getD (0, 0))) := by
  refine atI_nat ?_
  rw [List.getElem?_map, List.getElem?_eq_getElem h]
  rfl
theorem mem_rgP {q : PV} {n : Nat} (h : q ∈ rgP 0 n) : ∃ i : Nat, i < n ∧ q = .int (i : Int) := by
  unfold rgP at h
  obtain ⟨i, hi, rfl⟩ := List.mem_map.mp h
  exact ⟨i, List.mem_range.mp hi, by simp⟩
def natOf : PV → Nat
  | .int i => i.toNat
  | _ => 0
@[simp] theorem natOf_int (k : Nat) : natOf (.int (k : Int)) = k := by simp [natOf]
theorem cls_ints (m : Nat) (l : List Nat) : cls m (l.map fun i : Nat => PV.int i) = true := by
  induction l with
  | nil => rfl
  | cons a l ih => show (cl m (.int a) && _) = true; rw [ih]; rfl
theorem rgP_filter (n : Nat) (p : Nat → Bool) : ((rgP 0 n).filter fun q => p (natOf q)).map (fun q => q) = ((List.range n).filter p).map fun i : Nat => PV.int i := by
  unfold rgP
  rw [List.filter_map, List.map_map]
  have e : ((fun q => p (natOf q)) ∘ fun i : Nat => PV.int (0 + (i : Int))) = p := by
    funext i
    simp [natOf]
  rw [e]
  refine List.map_congr_left fun i _ => ?_
  simp
/-- whether no two of one number are bad together -/
def neverB (L : List (Int × Int)) (pl : List Int) (bad : Int × Int → Int × Int → Bool) : Bool :=
  (List.range L.length).all fun i => (List.range L.length).all fun j => !(decide (i ≠ j) && decide (pl[i]?.getD 0 = pl[j]?.getD 0) && bad (L[i]?.getD (0, 0)) (L[j]?.getD (0, 0)))
def unI : PV → Int
  | .int i => i
  | _ => 0
theorem unI_map (l : List Int) : (l.map PV.int).map unI = l := by
  rw [List.map_map]
  simp [Function.comp_def, unI]
theorem int_at {l : List Int} {i : Nat} (h : i < l.length) : atI (l.map PV.int) (i : Int) = some (.int (l[i]?.getD 0)) := by
  refine atI_nat ?_
  rw [List.getElem?_map, List.getElem?_eq_getElem h]
  rfl
theorem rgP_eq (n : Nat) : rgP 0 n = (List.range n).map fun i : Nat => PV.int (i : Int) := by
  unfold rgP
  refine List.map_congr_left fun i _ => ?_
  simp
theorem pvLt_st (a b : Int × Int) : pvLt (stP a) (stP b) = decide (a.1 < b.1 ∨ (a.1 = b.1 ∧ a.2 < b.2)) := by
  unfold pvLt
  simp only [stP, toD, toDs]
  exact PySem.W.dataLt_ii _ _ _ _
theorem alk_st (a b : Int × Int) : alk (stP a) (stP b) = true := by
  simp [alk, stP, okd, okds, toD, toDs, PySem.W.alike, PySem.W.alikeAll, nnon]

/-- the box at b, its cells at c -/
structure BoxAt (b c : Nat) (st : Sto) : Prop where
  ne : b ≠ c
  bx : ∃ v sd : Int, st[b]? = some (.lst false [.loc c, .int v, .int sd])
  cs : ∃ l : List Int, st[c]? = some (.lst false (l.map PV.int)) ∧ l.length ≤ 16777216
/-- nothing but the box and its cells has changed -/
structure Ch (b c : Nat) (st s : Sto) : Prop where
  le : st.length ≤ s.length
  eq : ∀ i, i < st.length → i ≠ b → i ≠ c → s[i]? = st[i]?
theorem Ch.refl {b c : Nat} {st : Sto} : Ch b c st st := ⟨Nat.le_refl _, fun _ _ _ _ => rfl⟩
theorem Ch.trans {b c : Nat} {s1 s2 s3 : Sto} (h : Ch b c s1 s2) (g : Ch b c s2 s3) : Ch b c s1 s3 := ⟨Nat.le_trans h.le g.le, fun i hi h1 h2 => by
  rw [g.eq i (Nat.lt_of_lt_of_le hi h.le) h1 h2, h.eq i hi h1 h2]⟩
theorem Ch.app {b c : Nat} {st ex : Sto} : Ch b c st (st ++ ex) := ⟨by simp, fun i hi _ _ => List.getElem?_append_left hi⟩
theorem Ch.setB {b c : Nat} {st : Sto} {o : Ob} : Ch b c st (st.set b o) := ⟨by simp, fun i hi h1 h2 => List.getElem?_set_ne (fun h => h1 h.symm)⟩
theorem Ch.setC {b c : Nat} {st : Sto} {o : Ob} : Ch b c st (st.set c o) := ⟨by simp, fun i hi h1 h2 => List.getElem?_set_ne (fun h => h2 h.symm)⟩
theorem BoxAt.lt {b c : Nat} {st : Sto} (h : BoxAt b c st) : b < st.length ∧ c < st.length := by
  obtain ⟨v, sd, e⟩ := h.bx
  obtain ⟨l, e2, _⟩ := h.cs
  exact ⟨(List.getElem?_eq_some_iff.mp e).1, (List.getElem?_eq_some_iff.mp e2).1⟩
theorem BoxAt.app {b c : Nat} {st ex : Sto} (h : BoxAt b c st) : BoxAt b c (st ++ ex) := ⟨h.ne, by
  obtain ⟨v, sd, e⟩ := h.bx
  exact ⟨v, sd, by rw [List.getElem?_append_left h.lt.1]; exact e⟩, by
  obtain ⟨l, e, hl⟩ := h.cs
  exact ⟨l, by rw [List.getElem?_append_left h.lt.2]; exact e, hl⟩⟩
theorem BoxAt.setO {b c i : Nat} {st : Sto} {o : Ob} (h : BoxAt b c st) (h1 : i ≠ b) (h2 : i ≠ c) : BoxAt b c (st.set i o) := ⟨h.ne, by
  obtain ⟨v, sd, e⟩ := h.bx
  exact ⟨v, sd, by rw [List.getElem?_set_ne h1]; exact e⟩, by
  obtain ⟨l, e, hl⟩ := h.cs
  exact ⟨l, by rw [List.getElem?_set_ne h2]; exact e, hl⟩⟩
theorem BoxAt.setB {b c : Nat} {st : Sto} {v sd : Int} (h : BoxAt b c st) : BoxAt b c (st.set b (.lst false [.loc c, .int v, .int sd])) := ⟨h.ne, ⟨v, sd, by rw [List.getElem?_set_self h.lt.1]⟩, by
  obtain ⟨l, e, hl⟩ := h.cs
  exact ⟨l, by rw [List.getElem?_set_ne h.ne]; exact e, hl⟩⟩
theorem BoxAt.setC {b c : Nat} {st : Sto} {l : List Int} (h : BoxAt b c st) (hl : l.length ≤ 16777216) : BoxAt b c (st.set c (.lst false (l.map PV.int))) := ⟨h.ne, by
  obtain ⟨v, sd, e⟩ := h.bx
  exact ⟨v, sd, by rw [List.getElem?_set_ne (Ne.symm h.ne)]; exact e⟩, ⟨l, by rw [List.getElem?_set_self h.lt.2], hl⟩⟩
/-- the same box, or another -/
def Bx (b c : Nat) (st s : Sto) : Prop := Ch b c st s ∧ BoxAt b c s
theorem atI3_0 {x y z : PV} : atI [x, y, z] 0 = some x := rfl
theorem atI3_1 {x y z : PV} : atI [x, y, z] 1 = some y := rfl
theorem atI3_2 {x y z : PV} : atI [x, y, z] 2 = some z := rfl
theorem ixN3_1 : ixN 3 1 = some 1 := rfl
theorem ixN3_2 : ixN 3 2 = some 2 := rfl
theorem seqIndex_0 {n : Nat} : seqIndex? 0 (n + 1) = some 0 := by simp [seqIndex?]
def sca : PV → Bool
  | .bl _ => true
  | .int _ => true
  | _ => false
theorem atI_get {l : List PV} {i : Nat} (h : i < l.length) : atI l (i : Int) = some l[i] := atI_nat (List.getElem?_eq_getElem h)
def okSt (lo hi : Int) (a : Int × Int) : Prop := lo ≤ a.1 ∧ a.1 < a.2 ∧ a.2 ≤ hi
def OkL (lo hi : Int) (L : List (Int × Int)) : Prop := ∀ a ∈ L, okSt lo hi a
/-- but the box, its cells and the object at r -/
structure Ch3 (b c r : Nat) (st s : Sto) : Prop where
  le : st.length ≤ s.length
  eq : ∀ i, i < st.length → i ≠ b → i ≠ c → i ≠ r → s[i]? = st[i]?
theorem Ch.ch3 {b c r : Nat} {st s : Sto} (h : Ch b c st s) : Ch3 b c r st s := ⟨h.le, fun i h1 h2 h3 _ => h.eq i h1 h2 h3⟩
theorem Ch3.trans {b c r : Nat} {s1 s2 s3 : Sto} (h : Ch3 b c r s1 s2) (g : Ch3 b c r s2 s3) : Ch3 b c r s1 s3 := ⟨Nat.le_trans h.le g.le, fun i hi h1 h2 h3 => by
  rw [g.eq i (Nat.lt_of_lt_of_le hi h.le) h1 h2 h3, h.eq i hi h1 h2 h3]⟩
theorem Ch3.setR {b c r : Nat} {st : Sto} {o : Ob} : Ch3 b c r st (st.set r o) := ⟨by simp, fun i hi h1 h2 h3 => List.getElem?_set_ne (fun h => h3 h.symm)⟩
def dom__law_present (ps : List PV) : Prop := ∃ (L : List (Int × Int)) (m : Int), ps = [staysP L, .int m] ∧ L.length ≤ 16777216
def dom__law_meets (ps : List PV) : Prop := ∃ a b : Int × Int, ps = [stP a, stP b] ∧ a.1 < a.2 ∧ b.1 < b.2
def val__law_meets : List PV → PV
  | [.tup [.int a, .int b], .tup [.int c, .int d]] => .bl (meetB (a, b) (c, d))
  | _ => .non
def dom__law_within (ps : List PV) : Prop := ∃ a b : Int × Int, ps = [stP a, stP b] ∧ a.1 < a.2 ∧ b.1 < b.2
def val__law_within : List PV → PV
  | [.tup [.int a, .int b], .tup [.int c, .int d]] => .bl (withB (a, b) (c, d))
  | _ => .non
def dom__law_crosses (ps : List PV) : Prop := ∃ a b : Int × Int, ps = [stP a, stP b] ∧ a.1 < a.2 ∧ b.1 < b.2
def val__law_crosses : List PV → PV
  | [.tup [.int a, .int b], .tup [.int c, .int d]] => .bl (crossB (a, b) (c, d))
  | _ => .non
theorem log2_small {n : Nat} (h : n ≤ 1000000) : n.log2 < 1920 := by
  by_cases h0 : n = 0
  · rw [h0]; decide
  · refine (Nat.log2_lt h0).mpr ?_
    have h1 : 2 ^ 20 ≤ 2 ^ 1920 := Nat.pow_le_pow_right (by omega) (by omega)
    have h2 : n < 2 ^ 20 := by omega
    exact Nat.lt_of_lt_of_le h2 h1
def dom_good_for_shelves (ps : List PV) : Prop := ∃ (L : List (Int × Int)) (pl : List Int), ps = [staysP L, .tup (pl.map PV.int)] ∧ L.length ≤ 16777216 ∧ pl.length = L.length
def val_good_for_shelves : List PV → PV
  | [.tup l, .tup m] => .bl (neverB (l.map unSt) (m.map unI) meetB)
  | _ => .non
theorem val_good_for_shelves_eq (L : List (Int × Int)) (pl : List Int) : val_good_for_shelves [staysP L, .tup (pl.map PV.int)] = .bl (neverB L pl meetB) := by
  show PV.bl (neverB ((L.map stP).map unSt) ((pl.map PV.int).map unI) _) = _
  rw [unSt_map, unI_map]
def dom_good_for_chutes (ps : List PV) : Prop := ∃ (L : List (Int × Int)) (pl : List Int), ps = [staysP L, .tup (pl.map PV.int)] ∧ L.length ≤ 16777216 ∧ pl.length = L.length
def val_good_for_chutes : List PV → PV
  | [.tup l, .tup m] => .bl (neverB (l.map unSt) (m.map unI) withB)
  | _ => .non
theorem val_good_for_chutes_eq (L : List (Int × Int)) (pl : List Int) : val_good_for_chutes [staysP L, .tup (pl.map PV.int)] = .bl (neverB L pl withB) := by
  show PV.bl (neverB ((L.map stP).map unSt) ((pl.map PV.int).map unI) _) = _
  rw [unSt_map, unI_map]
def dom_good_for_piles (ps : List PV) : Prop := ∃ (L : List (Int × Int)) (pl : List Int), ps = [staysP L, .tup (pl.map PV.int)] ∧ L.length ≤ 16777216 ∧ pl.length = L.length
def val_good_for_piles : List PV → PV
  | [.tup l, .tup m] => .bl (neverB (l.map unSt) (m.map unI) crossB)
  | _ => .non
theorem val_good_for_piles_eq (L : List (Int × Int)) (pl : List Int) : val_good_for_piles [staysP L, .tup (pl.map PV.int)] = .bl (neverB L pl crossB) := by
  show PV.bl (neverB ((L.map stP).map unSt) ((pl.map PV.int).map unI) _) = _
  rw [unSt_map, unI_map]
def wordB (L : List (Int × Int)) (pl : List Int) (n : Nat) : Bool := neverB L pl (if n = 0 then meetB else if n = 1 then withB else crossB)
/-- the i-th stay -/
abbrev gS (L : List (Int × Int)) (i : Nat) : Int × Int := L[i]?.getD (0, 0)
theorem toDs_getD (L : List (Int × Int)) {i : Nat} (h : i < L.length) : (toDs (L.map stP)).getD i .none = toD (stP (gS L i)) := by
  induction L generalizing i with
  | nil => exact absurd h (Nat.not_lt_zero _)
  | cons a L ih =>
    cases i with
    | zero => rfl
    | succ i =>
      have := ih (i := i) (by simpa using h)
      simpa [toDs, gS] using this
theorem sortIx_perm (L : List (Int × Int)) : (sortIx (L.map stP)).Perm (List.range L.length) := by
  unfold sortIx
  rw [List.length_map]
  exact List.mergeSort_perm _ _
theorem sortIx_pw (L : List (Int × Int)) : (sortIx (L.map stP)).Pairwise fun i j => (gS L i).1 ≤ (gS L j).1 := by
  have h := PySem.W.sort_pairwise (PySem.W.sortLe_total (PyProof.Rows.listOrd PyProof.Rows.itemOrd) false fun i : Nat => PySem.W.keyToks ((toDs (L.map stP)).getD i .none)) (List.range (L.map stP).length)
  have hp := sortIx_perm L
  refine List.Pairwise.imp_of_mem ?_ h
  intro i j hi hj e
  have hi' : i < L.length := List.mem_range.mp (hp.mem_iff.mp hi)
  have hj' : j < L.length := List.mem_range.mp (hp.mem_iff.mp hj)
  have e1 : (!PySem.W.dataLt ((toDs (L.map stP)).getD j .none) ((toDs (L.map stP)).getD i .none)) = true := e
  rw [toDs_getD L hi', toDs_getD L hj'] at e1
  have e2 : pvLt (stP (gS L j)) (stP (gS L i)) = false := by
    rw [Bool.not_eq_true'] at e1
    exact e1
  rw [pvLt_st] at e2
  simp at e2
  omega
theorem nodup_sub {α : Type} [DecidableEq α] : ∀ {l m : List α}, l.Nodup → (∀ a ∈ l, a ∈ m) → l.length ≤ m.length
  | [], _, _, _ => Nat.zero_le _
  | a :: l, m, hn, h => by
    have hm := h a (List.mem_cons_self ..)
    have ih := nodup_sub (l := l) (m := m.erase a) (List.nodup_cons.mp hn).2 fun b hb => by
      have hne : b ≠ a := fun e => (List.nodup_cons.mp hn).1 (e ▸ hb)
      exact (List.mem_erase_of_ne hne).mpr (h b (List.mem_cons_of_mem _ hb))
    rw [List.length_erase_of_mem hm] at ih
    have := List.length_pos_of_mem hm
    rw [List.length_cons]
    omega
theorem mex_le {tk : List Int} {v : Nat} (h : ∀ u : Nat, u < v → (u : Int) ∈ tk) : v ≤ tk.length := by
  have z := nodup_sub (l := (List.range v).map fun u : Nat => (u : Int)) (m := tk) (by
    exact List.pairwise_map.mpr (List.Pairwise.imp (fun {a b} hne e => hne (by omega)) (List.nodup_range (n := v)))) (fun a ha => by
    obtain ⟨u, hu, rfl⟩ := List.mem_map.mp ha
    exact h u (List.mem_range.mp hu))
  simpa using z
theorem okds_ints {n : Nat} (l : List Int) : okds n (l.map PV.int) = true := by
  induction l with
  | nil => cases n <;> rfl
  | cons a l ih => rw [List.map_cons, okds, okd_int, ih]; rfl
theorem inQ_ints {u : Int} {tk : List Int} {st : Sto} : inQ false (.int u) (tk.map PV.int) st = .ok (.bl (decide (u ∈ tk))) st := by
  unfold inQ
  rw [if_pos ⟨okd_int _ _, okds_ints _⟩]
  rw [if_neg (by simp), List.any_map]
  congr 2
  rw [Bool.eq_iff_iff, List.any_eq_true, decide_eq_true_iff]
  simp
def presN (L : List (Int × Int)) (m : Int) : Nat := (presI L m).length
/-- the numbers taken round i -/
def takenL (L : List (Int × Int)) (D : List Nat) (pl : List Int) (i : Nat) : List Int := (D.filter fun j => meetB (gS L i) (gS L j)).map fun j => pl[j]?.getD 0
structure Gr (L : List (Int × Int)) (D : List Nat) (pl : List Int) : Prop where
  len : pl.length = L.length
  nd : D.Nodup
  lt : ∀ j ∈ D, j < L.length
  zero : ∀ j, j < L.length → j ∉ D → pl[j]? = some 0
  num : ∀ j ∈ D, 0 ≤ pl[j]?.getD 0 ∧ pl[j]?.getD 0 < (presN L (gS L j).1 : Int)
  good : ∀ i ∈ D, ∀ j ∈ D, i ≠ j → pl[i]?.getD 0 = pl[j]?.getD 0 → meetB (gS L i) (gS L j) = false
theorem meetB_comm (a b : Int × Int) : meetB a b = meetB b a := by
  unfold meetB
  rw [Bool.and_comm]
theorem Gr.step {L : List (Int × Int)} {D : List Nat} {pl : List Int} {i u : Nat} (g : Gr L D pl) (hv : ∀ a ∈ L, a.1 < a.2) (hi : i < L.length) (hD : i ∉ D) (hs : ∀ j ∈ D, (gS L j).1 ≤ (gS L i).1) (h1 : (u : Int) ∉ takenL L D pl i) (h2 : u ≤ (takenL L D pl i).length) : Gr L (D ++ [i]) (pl.set i (u : Int)) := by
  have hne : ∀ j ∈ D, i ≠ j := fun j hj e => hD (e ▸ hj)
  have hget : ∀ j ∈ D, (pl.set i (u : Int))[j]?.getD 0 = pl[j]?.getD 0 := fun j hj => by rw [List.getElem?_set_ne (hne j hj)]
  have hself : (pl.set i (u : Int))[i]?.getD 0 = (u : Int) := by rw [List.getElem?_set_self (by rw [g.len]; exact hi)]; rfl
  have hnt : ∀ j ∈ D, (u : Int) = pl[j]?.getD 0 → meetB (gS L i) (gS L j) = false := fun j hj e => by
    cases hm : meetB (gS L i) (gS L j) with
    | false => rfl
    | true => exact absurd (List.mem_map.mpr ⟨j, List.mem_filter.mpr ⟨hj, hm⟩, e.symm⟩) h1
  have hv' : ∀ j, j < L.length → (gS L j).1 < (gS L j).2 := fun j hj => by
    unfold gS
    rw [List.getElem?_eq_getElem hj]
    exact hv _ (List.getElem_mem hj)
  have hcnt : u < presN L (gS L i).1 := by
    have z := nodup_sub (l := i :: D.filter fun j => meetB (gS L i) (gS L j)) (m := presI L (gS L i).1) (List.nodup_cons.mpr ⟨fun h => hD (List.mem_filter.mp h).1, g.nd.filter _⟩) (fun a ha => by
      unfold presI hasM
      rw [List.mem_cons] at ha
      rcases ha with rfl | ha
      · have := hv' _ hi
        exact List.mem_filter.mpr ⟨List.mem_range.mpr hi, by simp; omega⟩
      · obtain ⟨ha, hm⟩ := List.mem_filter.mp ha
        have q1 := hs a ha
        refine List.mem_filter.mpr ⟨List.mem_range.mpr (g.lt a ha), ?_⟩
        unfold meetB at hm
        simp at hm ⊢
        exact ⟨q1, hm.1⟩)
    unfold takenL at h2
    rw [List.length_map] at h2
    rw [List.length_cons] at z
    unfold presN
    omega
  constructor
  · rw [List.length_set, g.len]
  · rw [List.nodup_append]
    exact ⟨g.nd, by simp, fun a ha b hb e => by rw [List.mem_singleton] at hb; exact hD (hb ▸ e ▸ ha)⟩
  · intro j hj
    rw [List.mem_append, List.mem_singleton] at hj
    rcases hj with hj | rfl
    · exact g.lt j hj
    · exact hi
  · intro j hj hn
    rw [List.mem_append, List.mem_singleton, not_or] at hn
    rw [List.getElem?_set_ne (fun e => hn.2 e.symm)]
    exact g.zero j hj hn.1
  · intro j hj
    rw [List.mem_append, List.mem_singleton] at hj
    rcases hj with hj | rfl
    · rw [hget j hj]; exact g.num j hj
    · rw [hself]; omega
  · intro a ha b hb hab he
    rw [List.mem_append, List.mem_singleton] at ha hb
    rcases ha with ha | rfl <;> rcases hb with hb | rfl
    · rw [hget a ha, hget b hb] at he; exact g.good a ha b hb hab he
    · rw [hget a ha, hself] at he
      rw [meetB_comm]; exact hnt a ha he.symm
    · rw [hget b hb, hself] at he
      exact hnt b hb he
    · exact absurd rfl hab
def natsP (D : List Nat) : List PV := D.map fun i : Nat => PV.int i
/-- what was there is there -/
structure Keep (st s : Sto) : Prop where
  le : st.length ≤ s.length
  eq : ∀ i, i < st.length → s[i]? = st[i]?
theorem sort_stays {n : Int} {st : Sto} (L : List (Int × Int)) (h : n = (L.length : Int)) : sortR (.int n) (staysP L) st = .ok (natsP (sortIx (L.map stP))) st := by
  have h1 : okds 50 (L.map stP) = true := by
    clear h
    induction L with
    | nil => rfl
    | cons a L ih => rw [List.map_cons, okds, ih]; simp [stP, okd, okds]
  have h2 : tupB (L.map stP) = true := by
    clear h h1
    induction L with
    | nil => rfl
    | cons a L ih => rw [List.map_cons]; exact ih
  have e3 : ∀ d ∈ toDs (L.map stP), ∃ a b : Int, d = toD (stP (a, b)) := by
    clear h h1 h2
    induction L with
    | nil => intro d hd; cases hd
    | cons a L ih =>
      intro d hd
      rw [List.map_cons, toDs, List.mem_cons] at hd
      rcases hd with rfl | hd
      · exact ⟨a.1, a.2, rfl⟩
      · exact ih d hd
  have h3 : alkB (L.map stP) = true := by
    unfold alkB
    rw [List.all_eq_true]
    intro d hd
    rw [List.all_eq_true]
    intro d' hd'
    obtain ⟨a, b, rfl⟩ := e3 d hd
    obtain ⟨a', b', rfl⟩ := e3 d' hd'
    simp [stP, toD, toDs, PySem.W.alike, PySem.W.alikeAll]
  have h4 : n = (((L.map stP).length : Nat) : Int) := by rw [List.length_map]; exact h
  show (if _ then _ else _) = _
  rw [if_pos ⟨h4, h1, h3, h2⟩]
  rfl
theorem maxI_is {l : List Int} {m : Int} (h1 : m ∈ l) (h2 : ∀ y ∈ l, y ≤ m) : maxI l = m := (maxI_spec h1 h2).symm
theorem maxI_mem {l : List Int} (h : l ≠ []) : maxI l ∈ l := by
  induction l with
  | nil => exact absurd rfl h
  | cons a l ih =>
    cases l with
    | nil => simp [maxI]
    | cons b l =>
      rw [maxI]
      split
      · exact List.mem_cons_of_mem _ (ih (by simp))
      · exact List.mem_cons_self ..
      · simp
theorem maxI_ge {l : List Int} {y : Int} (h : y ∈ l) : y ≤ maxI l := by
  induction l with
  | nil => cases h
  | cons a l ih =>
    cases l with
    | nil =>
      rw [List.mem_singleton] at h
      rw [h]
      simp [maxI]
    | cons b l =>
      rw [maxI]
      rcases List.mem_cons.mp h with rfl | h
      · split <;> omega
      · have := ih h
        split <;> omega
      · simp
theorem intsM_ints {st : Sto} (l : List Int) : intsM (l.map PV.int) st = .ok l st := by
  induction l with
  | nil => rfl
  | cons a l ih => simp only [List.map_cons, intsM, bnd, ih]
theorem dSeq_assoc {f g h : PD.Env → Mo Fl} : dSeq (dSeq f g) h = dSeq f (dSeq g h) := by
  funext ρ st
  unfold dSeq bnd
  cases f ρ st with
  | ok fl s => cases fl <;> rfl
  | exc c s => rfl
  | stuck => rfl
theorem mem_cutP {l : List PV} {lo hi : Option Int} {p : PV} (h : p ∈ cutP l lo hi) : p ∈ l := by
  unfold cutP at h
  exact List.mem_of_mem_drop (List.mem_of_mem_take h)
theorem plainT_ints (pl : List Int) : plainT (.tup (pl.map PV.int)) := ⟨True.intro, fun l e => by
  cases e
  intro p hp
  obtain ⟨a, _, rfl⟩ := List.mem_map.mp hp
  exact True.intro⟩
theorem plainV_ints {pl : List Int} : ∀ p ∈ pl.map PV.int, plainV p := fun p hp => by
  obtain ⟨a, _, rfl⟩ := List.mem_map.mp hp
  exact True.intro
end PD
/-! PD: max, min of a list that a name holds. -/
namespace PD
open PySem PySem.Spec PyProof.Rows L2
section
variable {X : Cx} {W : Wd} {k : Nat} {E : XK} {e : Expr} {p pos : Pos} {d : Env → Mo PV}
theorem de_maxV (h : DE X W k E e d) (hg : Gl X "max") (hm : W.mg "max" = none) (hs : starEach [e] X.env = (false, eval e X.env) :: starEach [] X.env := by rfl) : DE X W k E (.Call (.Name "max" p) [e] [] pos) (fun ρ => bnd (d ρ) fun q => bnd (lstM q) maxQ) :=
  ⟨fun o => pe_imp (pe_callB (r := rMax W.K) (by rw [← o.hK]; exact cr_max o.hc) hg (by rw [o.hM]; exact hm) boot_max_ (pa_cons (h.run o) pa_nil hs) (by decide) (by decide) hs (by rfl)) fun σ H Q t => by
    obtain ⟨ι, ρ, st, re, rs, g⟩ := t
    refine ⟨ι, ρ, st, re, rs, Good.imp (Good.bind g) fun q st1 ι1 H1 m1 r1 g1 v hv => ?_⟩
    obtain ⟨a, vs, l, rfl, sq, rr, hz, g2⟩ := lst_of (α := PV) r1 hv (Good.bind g1)
    obtain ⟨bs, rfl, g3⟩ := ints_of r1 rr (Good.bind g2)
    obtain ⟨hc, g4⟩ := good_if g3
    exact ⟨a, bs, rfl, sq, hc, fun m h1 h2 => by rw [maxI_spec h1 h2]; exact g4.ok r1 _ (.int _)⟩⟩
theorem de_minV (h : DE X W k E e d) (hg : Gl X "min") (hm : W.mg "min" = none) (hs : starEach [e] X.env = (false, eval e X.env) :: starEach [] X.env := by rfl) : DE X W k E (.Call (.Name "min" p) [e] [] pos) (fun ρ => bnd (d ρ) fun q => bnd (lstM q) minQ) :=
  ⟨fun o => pe_imp (pe_callB (r := rMin W.K) (by rw [← o.hK]; exact cr_min o.hc) hg (by rw [o.hM]; exact hm) boot_min_ (pa_cons (h.run o) pa_nil hs) (by decide) (by decide) hs (by rfl)) fun σ H Q t => by
    obtain ⟨ι, ρ, st, re, rs, g⟩ := t
    refine ⟨ι, ρ, st, re, rs, Good.imp (Good.bind g) fun q st1 ι1 H1 m1 r1 g1 v hv => ?_⟩
    obtain ⟨a, vs, l, rfl, sq, rr, hz, g2⟩ := lst_of (α := PV) r1 hv (Good.bind g1)
    obtain ⟨bs, rfl, g3⟩ := ints_of r1 rr (Good.bind g2)
    obtain ⟨hc, g4⟩ := good_if g3
    exact ⟨a, bs, rfl, sq, hc, fun m h1 h2 => by rw [minI_spec h1 h2]; exact g4.ok r1 _ (.int _)⟩⟩
end
end PD
/-! PD: loops over a range. -/
namespace PD
open PySem PySem.Spec L2
section
variable {Q : Fl → Sto → Prop}
theorem ok_forR {g : PV → PD.Env → Mo PD.Env} {f : PD.Env → Mo Fl} {n : Nat} {ρ : PD.Env} {st : Sto} (P : Nat → PD.Env → Sto → Prop) (h0 : P 0 ρ st) (he : ∀ ρ st, P n ρ st → Q (.nx ρ) st)
    (step : ∀ i ρ st, i < n → P i ρ st → Ok (g (.int (i : Int)) ρ st) (fun ρ1 st1 => Ok (f ρ1 st1) (Aft (P (i + 1)) Q))) : Ok (foF g f (sV (rgP 0 n)).chk (rgP 0 n) ρ st) Q := by
  refine ok_for (chk := (sV (rgP 0 n)).chk) (fun l ρ s => ∃ m, m ≤ n ∧ l = (rgP 0 n).drop m ∧ P m ρ s) (fun _ _ _ _ => True.intro) ?_ ?_ _ _ _ ⟨0, Nat.zero_le _, rfl, h0⟩
  · rintro ρ s ⟨m, hm, e, hP⟩
    have : n ≤ m := by
      have := congrArg List.length e
      rw [List.length_drop] at this
      unfold rgP at this
      simp at this
      omega
    obtain rfl : m = n := by omega
    exact he ρ s hP
  · rintro q l ρ s ⟨m, hm, e, hP⟩
    have hlt : m < n := by
      have := congrArg List.length e
      rw [List.length_drop] at this
      unfold rgP at this
      simp at this
      omega
    have hlen : m < (rgP 0 n).length := by unfold rgP; simpa using hlt
    rw [List.drop_eq_getElem_cons hlen] at e
    obtain ⟨rfl, rfl⟩ := List.cons.inj e
    have e2 : (rgP 0 n)[m] = .int (m : Int) := by
      have : (rgP 0 n)[m]? = some (.int (m : Int)) := by
        rw [rgP_eq, List.getElem?_map, List.getElem?_range hlt]
        rfl
      rw [List.getElem?_eq_getElem hlen] at this
      exact Option.some.inj this
    rw [e2]
    refine (step m ρ s hlt hP).imp fun ρ1 s1 h1 => h1.imp fun fl s2 h2 => ?_
    cases fl with
    | nx ρ' => exact ⟨m + 1, hlt, rfl, h2⟩
    | ct ρ' => exact ⟨m + 1, hlt, rfl, h2⟩
    | bk ρ' => exact h2
    | rt p => exact h2
/-- a loop over what a list of plain things shows -/
theorem ok_forL {α : Type} {F : α → PV} {g : PV → PD.Env → Mo PD.Env} {f : PD.Env → Mo Fl} {chk : Sto → Prop} {ρ : PD.Env} {st : Sto} (l : List α) (P : List α → PD.Env → Sto → Prop) (hc : ∀ l ρ st, P l ρ st → chk st) (h0 : P l ρ st) (he : ∀ ρ st, P [] ρ st → Q (.nx ρ) st)
    (step : ∀ a l ρ st, P (a :: l) ρ st → Ok (g (F a) ρ st) (fun ρ1 st1 => Ok (f ρ1 st1) (Aft (P l) Q))) : Ok (foF g f chk (l.map F) ρ st) Q := by
  refine ok_for (fun m ρ s => ∃ l : List α, m = l.map F ∧ P l ρ s) (fun _ _ _ ⟨l, _, h⟩ => hc l _ _ h) ?_ ?_ _ _ _ ⟨l, rfl, h0⟩
  · rintro ρ s ⟨l, e, hP⟩
    cases l with
    | nil => exact he ρ s hP
    | cons a l => cases e
  · rintro q m ρ s ⟨l, e, hP⟩
    cases l with
    | nil => cases e
    | cons a l =>
      rw [List.map_cons] at e
      obtain ⟨rfl, rfl⟩ := List.cons.inj e
      refine (step a l ρ s hP).imp fun ρ1 s1 h1 => h1.imp fun fl s2 h2 => ?_
      cases fl with
      | nx ρ' => exact ⟨l, rfl, h2⟩
      | ct ρ' => exact ⟨l, rfl, h2⟩
      | bk ρ' => exact h2
      | rt p => exact h2
end
end PD
/-! PD: dicts by numbers, plainly. -/
namespace PD
open PySem PySem.Spec L2
/-- the dict of these numbers, in this order -/
def dN (K : List Nat) (f : Nat → PV) : List (PV × PV) := K.map fun (i : Nat) => (.int (i : Int), f i)
theorem dN_length {K : List Nat} {f : Nat → PV} : (dN K f).length = K.length := List.length_map _
theorem look_dN {f : Nat → PV} {j : Nat} : ∀ {K : List Nat}, lookP (dN K f) (.int (j : Int)) = if j ∈ K then some (f j) else none
  | [] => rfl
  | i :: K => by
    show ((((.int (i : Int), f i) :: dN K f).find? fun kv => keq kv.1 (.int (j : Int))).map (·.2)) = _
    rw [List.find?_cons]
    by_cases h : i = j
    · subst h
      have e : keq (PV.int (i : Int)) (.int (i : Int)) = true := decide_eq_true rfl
      rw [e, if_pos (List.mem_cons_self ..)]
      rfl
    · have e : keq (PV.int (i : Int)) (.int (j : Int)) = false := decide_eq_false (by omega)
      rw [e]
      show lookP (dN K f) (.int (j : Int)) = _
      rw [look_dN]
      by_cases h2 : j ∈ K
      · rw [if_pos h2, if_pos (List.mem_cons_of_mem _ h2)]
      · rw [if_neg h2, if_neg (fun z => (List.mem_cons.mp z).elim (fun e => h e.symm) h2)]
theorem any_dN {f : Nat → PV} {j : Nat} : ∀ {K : List Nat}, ((dN K f).any fun kv => keq kv.1 (.int (j : Int))) = decide (j ∈ K)
  | [] => rfl
  | i :: K => by
    show (keq (PV.int (i : Int)) (.int (j : Int)) || (dN K f).any fun kv => keq kv.1 (.int (j : Int))) = _
    rw [any_dN, Bool.eq_iff_iff]
    simp only [keq, Bool.or_eq_true, decide_eq_true_eq, List.mem_cons]
    constructor
    · rintro (h | h)
      · exact .inl (by omega)
      · exact .inr h
    · rintro (h | h)
      · exact .inl (by omega)
      · exact .inr h
theorem put_dN {K : List Nat} {f : Nat → PV} {j : Nat} {z : PV} : putP (dN K f) (.int (j : Int)) z = dN (if j ∈ K then K else K ++ [j]) (fun i => if i = j then z else f i) := by
  unfold putP
  rw [any_dN]
  by_cases h : j ∈ K
  · rw [if_pos (decide_eq_true h), if_pos h]
    unfold dN
    rw [List.map_map]
    refine List.map_congr_left fun i _ => ?_
    show (if keq (PV.int (i : Int)) (.int (j : Int)) = true then (PV.int (i : Int), z) else (PV.int (i : Int), f i)) = (PV.int (i : Int), if i = j then z else f i)
    by_cases e : i = j
    · subst e
      have e2 : keq (PV.int (i : Int)) (.int (i : Int)) = true := decide_eq_true rfl
      rw [if_pos e2, if_pos rfl]
    · rw [if_neg (by rw [show keq (PV.int (i : Int)) (.int (j : Int)) = false from decide_eq_false (by omega)]; simp), if_neg e]
  · rw [if_neg (by simp [h]), if_neg h]
    unfold dN
    rw [List.map_append]
    congr 1
    · refine List.map_congr_left fun i hi => ?_
      have : ¬ i = j := fun e => h (by rw [← e]; exact hi)
      show (PV.int (i : Int), f i) = (PV.int (i : Int), if i = j then z else f i)
      rw [if_neg this]
    · show [(PV.int (j : Int), z)] = [(PV.int (j : Int), if j = j then z else f j)]
      rw [if_pos rfl]
theorem dN_congr {K : List Nat} {f g : Nat → PV} (h : ∀ i ∈ K, f i = g i) : dN K f = dN K g := List.map_congr_left fun i hi => by rw [h i hi]
/-! ### paths -/
section
variable {r : Nat → Nat → Prop}
/-- each stands in r to the next one -/
def Pth (r : Nat → Nat → Prop) : List Nat → Prop
  | a :: b :: l => r a b ∧ Pth r (b :: l)
  | _ => True
theorem Pth.tail {a : Nat} {l : List Nat} (h : Pth r (a :: l)) : Pth r l := by
  cases l with
  | nil => exact True.intro
  | cons b l => exact h.2
theorem Pth.imp {r' : Nat → Nat → Prop} (hi : ∀ a b, r a b → r' a b) : ∀ {l : List Nat}, Pth r l → Pth r' l
  | [], _ => True.intro
  | [_], _ => True.intro
  | a :: b :: l, h => ⟨hi a b h.1, Pth.imp hi h.2⟩
theorem Pth.append : ∀ {l m : List Nat}, Pth r l → Pth r m → (∀ a b, l.getLast? = some a → m.head? = some b → r a b) → Pth r (l ++ m)
  | [], m, _, hm, _ => hm
  | [a], [], _, _, _ => True.intro
  | [a], b :: m, _, hm, h => ⟨h a b rfl rfl, hm⟩
  | a :: b :: l, m, hl, hm, h => ⟨hl.1, Pth.append hl.2 hm fun x y e e2 => h x y (by rw [List.getLast?_cons_cons]; exact e) e2⟩
theorem Pth.left : ∀ {l m : List Nat}, Pth r (l ++ m) → Pth r l
  | [], _, _ => True.intro
  | [a], _, _ => True.intro
  | a :: b :: l, m, h => ⟨h.1, Pth.left (l := b :: l) h.2⟩
theorem Pth.right : ∀ {l m : List Nat}, Pth r (l ++ m) → Pth r m
  | [], _, h => h
  | a :: l, m, h => Pth.right (l := l) (Pth.tail h)
theorem Pth.dropLast {l : List Nat} (h : Pth r l) : Pth r l.dropLast := by
  cases hl : l.getLast? with
  | none =>
    rw [List.getLast?_eq_none_iff] at hl
    subst hl
    exact True.intro
  | some z =>
    have hne : l ≠ [] := fun e => by subst e; cases hl
    have e : l.dropLast ++ [z] = l := by
      rw [List.getLast?_eq_some_getLast hne] at hl
      rw [← Option.some.inj hl]
      exact List.dropLast_concat_getLast hne
    rw [← e] at h
    exact h.left
theorem Pth.reverse (hs : ∀ a b, r a b → r b a) : ∀ {l : List Nat}, Pth r l → Pth r l.reverse
  | [], _ => True.intro
  | [_], _ => True.intro
  | a :: b :: l, h => by
    rw [List.reverse_cons]
    refine Pth.append (Pth.reverse hs h.2) True.intro fun x y e e2 => ?_
    rw [List.reverse_cons, List.getLast?_append] at e
    simp at e e2
    subst e e2
    exact hs _ _ h.1
theorem Pth.at_ : ∀ {l : List Nat}, Pth r l → ∀ k a b, l[k]? = some a → l[k + 1]? = some b → r a b
  | a :: b :: l, h, 0, x, y, e1, e2 => by
    simp at e1 e2
    subst e1 e2
    exact h.1
  | a :: b :: l, h, k + 1, x, y, e1, e2 => Pth.at_ (l := b :: l) h.2 k x y (by simpa using e1) (by simpa using e2)
  | [a], _, k, x, y, _, e2 => by simp at e2
  | [], _, k, x, y, e1, _ => by simp at e1
/-- a path by a function is the only one between its ends -/
theorem pth_unique {f : Nat → Option Nat} {rk : Nat → Nat} (hrk : ∀ a b, f a = some b → r a b → rk b < rk a) : ∀ {l m : List Nat} {x c : Nat}, Pth (fun a b => f a = some b ∧ r a b) l → Pth (fun a b => f a = some b ∧ r a b) m → l.head? = some x → m.head? = some x → l.getLast? = some c → m.getLast? = some c → l = m := by
  have low : ∀ {l : List Nat} {x c : Nat}, Pth (fun a b => f a = some b ∧ r a b) (x :: l) → l ≠ [] → (x :: l).getLast? = some c → rk c < rk x := by
    intro l
    induction l with
    | nil => intro x c _ h; exact absurd rfl h
    | cons b l ih =>
      intro x c hp _ hc
      have h1 := hrk x b hp.1.1 hp.1.2
      rw [List.getLast?_cons_cons] at hc
      cases l with
      | nil =>
        simp at hc
        subst hc
        exact h1
      | cons d l => exact Nat.lt_trans (ih hp.2 (by simp) hc) h1
  intro l
  induction l with
  | nil => intro m x c _ _ h; cases h
  | cons a l ih =>
    intro m x c hl hm h1 h2 h3 h4
    simp at h1
    subst h1
    cases m with
    | nil => cases h2
    | cons b m =>
      simp at h2
      subst h2
      cases l with
      | nil =>
        simp at h3
        subst h3
        cases m with
        | nil => rfl
        | cons d m => exact absurd (low hm (by simp) h4) (Nat.lt_irrefl _)
      | cons d l =>
        cases m with
        | nil =>
          simp at h4
          subst h4
          exact absurd (low hl (by simp) h3) (Nat.lt_irrefl _)
        | cons e m =>
          have he : d = e := by
            have q1 := hl.1.1
            have q2 := hm.1.1
            rw [q1] at q2
            exact Option.some.inj q2
          subst he
          rw [List.getLast?_cons_cons] at h3 h4
          rw [ih hl.2 hm.2 rfl rfl h3 h4]
theorem pth_nodup {rk : Nat → Nat} (hrk : ∀ a b, r a b → rk b < rk a) : ∀ {l : List Nat}, Pth r l → l.Nodup ∧ ∀ a m, l = a :: m → ∀ x ∈ m, rk x < rk a
  | [], _ => ⟨List.nodup_nil, fun _ _ h => (nomatch h)⟩
  | [a], _ => ⟨by simp, fun b m h x hx => by cases h; cases hx⟩
  | a :: b :: l, h => by
    obtain ⟨h1, h2⟩ := pth_nodup hrk h.2
    have hab := hrk a b h.1
    have hall : ∀ x ∈ b :: l, rk x < rk a := fun x hx => by
      rcases List.mem_cons.mp hx with rfl | hx
      · exact hab
      · exact Nat.lt_trans (h2 b l rfl x hx) hab
    refine ⟨List.nodup_cons.mpr ⟨fun z => Nat.lt_irrefl _ (hall a z), h1⟩, fun c m e x hx => ?_⟩
    cases e
    exact hall x hx
end
end PD
/-! PD: enumerate of a list or a tuple. -/
namespace HT
open PySem PySem.Spec PyProof.Rows L2
open PySem.Sem (wp)
theorem meets_enum1 {v : Value} {o : Obj} {H : Heap → Prop} (B : Begins v o H) :
    Meets (Builtin.«enumerate.__new__» ⟨[.type "enumerate", v], []⟩) (fun _ R s => H s.heap ∧
      R (.ok (.ret (.ref (s.heap.push o).objs.size))) { s with heap := (s.heap.push o).push { cls := .type "enumerate", data := .fields #[.none, .bool false, .ref s.heap.objs.size, rawInt 0, .none, .none] } }) :=
  .of_wp fun prog w A R s h => by
    obtain ⟨hp, g, d, tk, os⟩ := s
    obtain ⟨h1, h⟩ := h
    have hsub := sub_enumerate
    have q1 : ∀ {A' : Around} {E : Value → Shared → Prop} {Q : Value → Shared → Prop}, Q (.ref hp.objs.size) ⟨hp.push o, g, d, tk, os⟩ → wpAny (model prog w) A' (pyIter v) Q E ⟨hp, g, d, tk, os⟩ :=
      fun q => B.iter prog w _ _ ⟨hp, g, d, tk, os⟩ _ h1 q
    wp_walk using q1
    refine wpAny_stack_any fun st => wpAny_pure ?_
    split
    · rename_i c _ _ _ _ _
      cases (c == Value.type "enumerate") <;> (wp_walk using q1; exact ⟨_, rfl, h⟩)
    · wp_walk using q1
      exact ⟨_, rfl, h⟩
section
variable {prog : Program} {w : World} {A : Around} {E : Value → Shared → Prop} {s : Shared}
theorem call_enum_tuple {t : Addr} {items : Array Value} {Q : Value → Shared → Prop} (ht : s.heap.IsTuple t items)
    (h : ∀ h', IsEnum h' (s.heap.objs.size + 1) s.heap.objs.size 0 .none → h'.IsTupleIter s.heap.objs.size t 0 → (∀ b o, s.heap.get? b = some o → h'.get? b = some o) → Q (.ref (s.heap.objs.size + 1)) { s with heap := h' }) :
    wpAny (model prog w) A (call (.type "enumerate") [.ref t]) Q E s := by
  refine callType_new F.called_enumerate (by decide) (F.typeCall_enumerate_1 _) (F.newCall_enumerate_1 _) (fun obj => F.args_object_init_2 obj _) F.entry_enumerate_new (meets_enum1 (begins_tuple t items)) ⟨ht, ?_⟩
  show _ ∧ _
  have hz : (s.heap.push { cls := .type "tuple_iterator", data := .fields #[.ref t, .int 0 0] }).objs.size = s.heap.objs.size + 1 := Heap.size_push ..
  have he := Heap.get?_push_size (s.heap.push { cls := .type "tuple_iterator", data := .fields #[.ref t, .int 0 0] }) (o := { cls := .type "enumerate", data := .fields #[.none, .bool false, .ref s.heap.objs.size, rawInt 0, .none, .none] }) rfl
  rw [hz] at he ⊢
  exact ⟨⟨_, he, rfl⟩, h _ he ⟨_, Heap.get?_push_of_some _ (Heap.get?_push_size _ rfl), rfl, rfl⟩ fun b o x => Heap.get?_push_of_some _ (Heap.get?_push_of_some _ x)⟩
theorem draws_tuple {it t : Addr} {items : Array Value} (hne : t ≠ it) (hh : A.handled = none) : Draws prog w A it [it, t] items.size (fun i x => items[i]? = some x) (fun i h => h.IsTupleIter it t i ∧ h.IsTuple t items) where
  live := fun i h st => let ⟨o, ho, _⟩ := st.1; ⟨o, ho⟩
  frame := fun i h h' st k => ⟨st.1.at fun o e => k it (by simp) o e, let ⟨o, ho, r⟩ := st.2; ⟨o, k t (by simp) o ho, r⟩⟩
  item := fun i s Q E hi st hQ => RZ.nextOf_tuple_item st.1 st.2 (Array.getElem?_eq_getElem hi) fun h' st' sb => hQ _ h' s.toks (Array.getElem?_eq_getElem hi) ⟨st', let ⟨o, ho, r⟩ := st.2; ⟨o, (sb.2 t hne).trans ho, r⟩⟩ sb
  done := fun s Q E st hE => RZ.nextOf_tuple_end hh st.1 st.2 (Array.getElem?_eq_none (Nat.le_refl _)) hE
theorem draws_end {it t : Addr} {items : Array Value} {i : Nat} (hne : t ≠ it) (hh : A.handled = none) (hi : items.size ≤ i) : Draws prog w A it [it, t] i (fun _ _ => True) (fun j h => j = i ∧ h.IsTupleIter it t i ∧ h.IsTuple t items) where
  live := fun j h st => let ⟨o, ho, _⟩ := st.2.1; ⟨o, ho⟩
  frame := fun j h h' st k => ⟨st.1, st.2.1.at fun o e => k it (by simp) o e, let ⟨o, ho, r⟩ := st.2.2; ⟨o, k t (by simp) o ho, r⟩⟩
  item := fun j s Q E hj st hQ => by have := st.1; omega
  done := fun s Q E st hE => RZ.nextOf_tuple_end hh st.2.1 st.2.2 (Array.getElem?_eq_none hi) hE
end
end HT
namespace PD
open PySem PySem.Spec PyProof.Rows L2
theorem isEnum_ne_tup {h : Heap} {e it t : Addr} {i : Int} {old : Value} {items : Array Value} (he : IsEnum h e it i old) (ht : h.IsTuple t items) : e ≠ t := fun z => by
  subst z
  obtain ⟨o, ho, hc, _⟩ := ht
  unfold IsEnum at he
  rw [he] at ho
  cases ho
  have hc : Value.type "enumerate" = Value.type "tuple" := hc
  injection hc with hc
  exact absurd hc (by decide)
/-- the tuple at a, the items in new pairs -/
def Itet (K : PySem.W.Frag) (a : Addr) : It :=
  ⟨fun i H => ∃ (xs : List V) (x : V), SqT K H a xs ∧ xs[i]? = some x, fun i H v H' => ∃ T x, v = .ref T ∧ H T = none ∧ H' = upd H T (.tup [.int (i : Nat), x]) ∧ ∀ xs, SqT K H a xs → xs[i]? = some x, fun i H => ∃ xs : List V, SqT K H a xs ∧ xs.length ≤ i⟩
theorem turn_enumT {P : Program} {w : World} {K : PySem.W.Frag} {elts : List Expr} {kk : Nat} {tpos : Pos} (a e it : Addr) :
    Turn P w K (.Tuple elts kk tpos) (Itet K a) [e, it] e (fun i h => (∃ old, IsEnum h e it ((i : Nat) : Int) old) ∧ h.IsTupleIter it a i ∧ e ≠ it ∧ it ≠ a) where
  mem := by simp
  obj := fun i h st b hb => by
    obtain ⟨⟨old, he⟩, ⟨o, ho, hc, hd⟩, _⟩ := st
    have e' : b = e ∨ b = it := by simpa using hb
    rcases e' with rfl | rfl
    · exact ⟨_, he, fun v q => nomatch q⟩
    · exact ⟨o, ho, fun v q => by rw [hd] at q; cases q⟩
  keep := fun i h h' st k => let ⟨⟨old, he⟩, hi, hne, h2⟩ := st; ⟨⟨old, k e (by simp) _ he⟩, hi.at fun o q => k it (by simp) o q, hne, h2⟩
  item := by
    intro X hP hw hK hc i pins s σ H E I hf st hg
    subst hP hw hK
    obtain ⟨⟨old, he⟩, hit, hne, hna⟩ := st
    obtain ⟨xs, x, hq, hx⟩ := hg
    obtain ⟨its, rv, p, hz⟩ := I.tuple hq
    have ht : s.heap.IsTuple a its.toArray := p
    obtain ⟨u, hu, ru⟩ := rv.get hx
    have hil : it < s.heap.objs.size := by obtain ⟨_, q, _⟩ := hit; exact Heap.lt_size q
    have hel : e < s.heap.objs.size := Heap.lt_size he
    have hea : e ≠ a := isEnum_ne_tup he ht
    have hi : i < its.toArray.size := by
      have := (List.getElem?_eq_some_iff.mp hu).1
      simpa using this
    refine wpAny_pyNext_enum_itemD (HT.draws_tuple (Ne.symm hna) (I.ok.hd hc)) he ⟨hit, ht⟩ hi hne (by simp [hne, hea]) fun y h' tk hy ho hst hT hsz hk => ?_
    have hyu : y = u := by
      have hy : its.toArray[i]? = some y := hy
      simp [hu] at hy
      exact hy.symm
    subst hyu
    refine ⟨_, rfl, wpAny_letOwnedTupleGo_enum (s := { s with heap := h', toks := tk + 1 }) ho fun h'' he' sb => ?_⟩
    have hT2 : h''.get? s.heap.objs.size = some { cls := .type "tuple", data := .seq #[.int i tk, y] } := (sb.2 _ (Nat.ne_of_gt hel)).trans hT
    have new : ObjOk X.prog X.w (upd H s.heap.objs.size (.tup [.int (i : Nat), x])) h'' s.heap.objs.size (.tup [.int (i : Nat), x]) :=
      ⟨by show 2 ≤ sizeLine; decide, [.int i tk, y], .cons ⟨_, rfl⟩ (.cons ru .nil), ⟨_, hT2, rfl, _, rfl⟩⟩
    have I1 : Inv X pins σ (upd H s.heap.objs.size (.tup [.int (i : Nat), x])) { s with heap := h'', toks := tk + 1 } :=
      I.turnedNew (ch := [e, it]) (fun b ob hb q => (sb.2 b (fun z => hb (by simp [z]))).trans (hk b ob (fun z => hb (by simp [z])) (fun z => hb (by simp [z])) q)) hf (Nat.le_refl _) new
    refine ⟨.ref s.heap.objs.size, _, I1, rfl, ⟨_, x, rfl, I.hok.fresh (Nat.le_refl _), rfl, fun ys hy => by rw [I.tuple_inj hy hq]; exact hx⟩, ⟨⟨y, ?_⟩, hst.1.at fun o q => (sb.2 it (Ne.symm hne)).trans q, hne, hna⟩, fun b hb => ?_⟩
    · have e1 : ((i + 1 : Nat) : Int) = (i : Int) + 1 := by omega
      rw [e1]
      exact he'
    · have hb' : b < s.heap.objs.size := by
        have e' : b = e ∨ b = it := by simpa using hb
        rcases e' with rfl | rfl <;> assumption
      rw [upd_ne (Nat.ne_of_lt hb')]
      exact (hf b hb).1
  done := by
    intro X hP hw hK hc i pins s σ H E I hf st hg
    subst hP hw hK
    obtain ⟨⟨old, he⟩, hit, hne, hna⟩ := st
    obtain ⟨xs, hq, hx⟩ := hg
    obtain ⟨its, rv, p, hz⟩ := I.tuple hq
    obtain ⟨f0, f1, f2, f3, f4, f5⟩ := hf it (by simp)
    have hl := rv.length
    have ht : s.heap.IsTuple a its.toArray := p
    exact wpAny_pyNext_enum_endD (HT.draws_end (Ne.symm hna) (I.ok.hd hc) (i := i) (items := its.toArray) (by simp; omega)) he ⟨rfl, hit, ht⟩ fun h' eb => ⟨rfl, I.turned (t' := s.toks) (fun b o hb q => eb b o hb q) f0 f1 f3 f4 f5⟩
  self := fun A i s Q E st h => let ⟨⟨_, he⟩, _⟩ := st; wpAny_pyIter_enum he h
/-- enumerate of a list or a tuple -/
def iEnumS (K : PySem.W.Frag) (ta : TA) : TI := fun σ H R => ta σ H fun vs H1 => ∃ a, vs = [.ref a] ∧ (((∃ xs, SqL K H1 a xs) ∧ R (Ite K a) H1) ∨ ((∃ xs, SqT K H1 a xs) ∧ R (Itet K a) H1))
theorem pi_enumS {X : Cx} {e : Expr} {ta : TA} {p pos tpos : Pos} {elts : List Expr} {kk : Nat} (hg : Gl X "enumerate") (hm : X.mg "enumerate" = none) (ha : PA X [e] ta) (hs : starEach [e] X.env = [(false, eval e X.env)] := by rfl) :
    PI X (.Tuple elts kk tpos) (.Call (.Name "enumerate" p) [e] [] pos) (iEnumS X.K ta) := by
  refine ⟨fun pins s σ H R I h => ?_⟩
  refine Call_ (ld_blt I hg hm boot_enumerate (PyProof.Rows.callWith_type1 (thn (ha.run pos pins s σ H _ I h) fun us s1 ⟨vs, H1, I1, r1, q1⟩ => ?_) hs rfl))
  obtain ⟨a, ex, q⟩ := q1
  subst ex
  cases r1 with
  | cons r rr =>
    cases rr
    cases r
    have fresh : ∀ b ∈ [s1.heap.objs.size + 1, s1.heap.objs.size], FpOk X pins H1 b := fun b hb => by
      have e' : b = s1.heap.objs.size + 1 ∨ b = s1.heap.objs.size := by simpa using hb
      have hle : s1.heap.objs.size ≤ b := by rcases e' with rfl | rfl <;> omega
      exact I1.fpOk hle (I1.hok.fresh hle)
    rcases q with ⟨⟨xs, hq⟩, q⟩ | ⟨⟨xs, hq⟩, q⟩
    · obtain ⟨its, rv, p', hz⟩ := I1.list hq
      refine call_enumerate_list p'.isList fun h' he hit hsz hk => wpAny_pyIter_enum he ?_
      exact ⟨s1.heap.objs.size + 1, [s1.heap.objs.size + 1, s1.heap.objs.size], _, _, H1, rfl, I1.kept (t' := s1.toks) hk, turn_enum a (s1.heap.objs.size + 1) s1.heap.objs.size, ⟨⟨.none, he⟩, hit, Nat.succ_ne_self _⟩, fresh, q⟩
    · obtain ⟨its, rv, p', hz⟩ := I1.tuple hq
      have ht : s1.heap.IsTuple a its.toArray := p'
      have hla : a < s1.heap.objs.size := by obtain ⟨_, q, _⟩ := ht; exact Heap.lt_size q
      refine HT.call_enum_tuple ht fun h' he hit hk => wpAny_pyIter_enum he ?_
      exact ⟨s1.heap.objs.size + 1, [s1.heap.objs.size + 1, s1.heap.objs.size], _, _, H1, rfl, I1.kept (t' := s1.toks) hk, turn_enumT a (s1.heap.objs.size + 1) s1.heap.objs.size, ⟨⟨.none, he⟩, hit, Nat.succ_ne_self _, Nat.ne_of_gt hla⟩, fresh, q⟩
section
variable {X : Cx} {W : Wd} {k : Nat} {E : XK} {e : Expr} {d : Env → Mo PV} {p pos : Pos}
/-- numbered from i -/
def enuP : Nat → List PV → List PV
  | _, [] => []
  | i, q :: l => .tup [.int i, q] :: enuP (i + 1) l
theorem enuP_get : ∀ (l : List PV) (i j : Nat), (enuP j l)[i]? = (l[i]?).map fun q => .tup [.int ((j + i : Nat) : Int), q]
  | [], i, j => by simp [enuP]
  | q :: l, 0, j => by simp [enuP]
  | q :: l, i + 1, j => by
    rw [enuP, List.getElem?_cons_succ, List.getElem?_cons_succ, enuP_get l i (j + 1)]
    congr 1
    funext z
    have : j + 1 + i = j + (i + 1) := by omega
    rw [this]
@[simp] theorem enuP_len : ∀ (l : List PV) (j : Nat), (enuP j l).length = l.length
  | [], _ => rfl
  | q :: l, j => by rw [enuP, List.length_cons, List.length_cons, enuP_len l]
theorem enu_yld {ι : List Addr} {st : Sto} {H H' : Hp} {i : Nat} {v : V} {q : PV} {T : Addr} {xs : List V} {x : V} (rs : RS W ι st H) (hT : H T = none) (e : H' = upd H T (.tup [.int (i : Nat), x])) (rv : RV W ι H x q) : Mono ι H ι H' ∧ RS W ι st H' ∧ RV W ι H' (.ref T) (.tup [.int (i : Nat), q]) := by
  subst e
  have m : Mono ι H ι (upd H T (.tup [.int (i : Nat), x])) := Mono.new hT
  exact ⟨m, rs.other hT, .tup (.inl (.inl upd_same)) (rvs_mono rs m _ _ (.cons (.int _) (.cons rv .nil))) (by simp)⟩
theorem jok_enumL {ι : List Addr} {H : Hp} {n : Nat} {a : Addr} {l : List PV} (hn : ι[n]? = some a) : JOk W ⟨enuP 0 l, (sL n l).chk⟩ (Ite W.K a) ι H := by
  intro ι' H' st m rs hc i
  have hr : ∃ vs, SqL W.K H' a vs ∧ RVs W ι' H' vs l := by
    rcases hc with h | h
    all_goals
      obtain ⟨vs, q, r, _⟩ := ro_sql (rs.ob n _ a h (m.pre n a hn))
      exact ⟨vs, q, r⟩
  obtain ⟨vs, sq, r⟩ := hr
  refine ⟨fun q hq => ?_, fun hl => ⟨vs, sq, by rw [r.length]; simpa using hl⟩⟩
  have hq : (enuP 0 l)[i]? = some q := hq
  rw [enuP_get, Option.map_eq_some_iff] at hq
  obtain ⟨z, hz, rfl⟩ := hq
  obtain ⟨v, hv, rv⟩ := r.get hz
  refine ⟨⟨vs, v, sq, hv⟩, fun x H'' y => ?_⟩
  obtain ⟨T, x', rfl, hT, e, y⟩ := y
  have e2 := y vs sq
  rw [hv] at e2
  cases e2
  have := enu_yld (i := i) (xs := vs) (v := v) rs hT e rv
  rw [Nat.zero_add]
  exact this
theorem jok_enumT {ι : List Addr} {st0 : Sto} {H : Hp} {a : Addr} {vs : List V} {l : List PV} (r0 : RS W ι st0 H) (he : SqT W.K H a vs) (r : RVs W ι H vs l) : JOk W (sV (enuP 0 l)) (Itet W.K a) ι H := by
  intro ι' H' st m rs hc i
  have r := rvs_mono r0 m _ _ r
  have sq : SqT W.K H' a vs := sqt_mono r0 m he
  refine ⟨fun q hq => ?_, fun hl => ⟨vs, sq, by rw [r.length]; simpa [sV] using hl⟩⟩
  have hq : (enuP 0 l)[i]? = some q := hq
  rw [enuP_get, Option.map_eq_some_iff] at hq
  obtain ⟨z, hz, rfl⟩ := hq
  obtain ⟨v, hv, rv⟩ := r.get hz
  refine ⟨⟨vs, v, sq, hv⟩, fun x H'' y => ?_⟩
  obtain ⟨T, x', rfl, hT, e, y⟩ := y
  have e2 := y vs sq
  rw [hv] at e2
  cases e2
  have := enu_yld (i := i) (xs := vs) (v := v) rs hT e rv
  rw [Nat.zero_add]
  exact this
def enuM : List PV → Mo Src
  | [.tup l] => fun st => .ok (sV (enuP 0 l)) st
  | [.loc n] => fun st => match st[n]? with
    | some (.lst _ l) => .ok ⟨enuP 0 l, (sL n l).chk⟩ st
    | _ => .stuck
  | _ => fail
theorem di_enum {dl : Env → Mo (List PV)} {elts : List Expr} {kk : Nat} {tpos : Pos} (h : DA X W k E [e] dl) (hg : Gl X "enumerate") (hm : W.mg "enumerate" = none) (hs : starEach [e] X.env = [(false, eval e X.env)] := by rfl) : DI X W k E (.Tuple elts kk tpos) (.Call (.Name "enumerate" p) [e] [] pos) (fun ρ => bnd (dl ρ) enuM) := ⟨fun o => pi_imp (pi_enumS hg (by rw [o.hM]; exact hm) (h.run o) hs) fun σ H R t => by
  obtain ⟨ι, ρ, st, re, rs, g⟩ := t
  refine ⟨ι, ρ, st, re, rs, Good.imp (Good.bind g) fun l st1 ι1 H1 m1 r1 g1 vs hv => ?_⟩
  rw [o.hK]
  cases hv with
  | nil => exact g1.elim
  | cons h1 t1 =>
    cases t1 with
    | cons _ _ => cases h1 <;> exact g1.elim
    | nil =>
      cases h1 <;> try exact g1.elim
      · rename_i a vs l sq rr z
        exact ⟨a, rfl, .inr ⟨⟨vs, sq⟩, g1.ok r1 _ H1 Mono.refl r1 (jok_enumT r1 sq rr)⟩⟩
      · rename_i n a hn
        unfold enuM at g1
        dsimp only at g1
        cases q : st1[n]? with
        | none => rw [q] at g1; exact g1.elim
        | some ob =>
          rw [q] at g1
          cases ob with
          | dct _ _ => exact g1.elim
          | sti _ => exact g1.elim
          | lst lk l =>
            obtain ⟨vs, sq, _, _⟩ := ro_sql (r1.ob n _ a q hn)
            exact ⟨a, rfl, .inl ⟨⟨vs, sq⟩, g1.ok r1 _ H1 Mono.refl r1 (jok_enumL hn)⟩⟩⟩
end
end PD
/-! PD: sorted(set(..)) of ints, any length; sorted of what holds ints. -/
namespace HT
open PySem PySem.Spec PyProof.Rows L2
section
variable {P : Program} {w : World} {A : Around} {E : Value → Shared → Prop} {s : Shared}
/-- set of a list of ints -/
theorem call_set_listI {l : Addr} {items : Array Value} (ns : List Int) {Q : Value → Shared → Prop} (hh : A.handled = none) (hl : s.heap.IsList l items) (hit : IntsAre items.toList ns) (hb : ns.length + 1 < scanBound)
    (h : ∀ (h' : Heap) (tk c : Nat), SetR w h' s.heap.objs.size (fun j => decide (j ∈ ns)) c → (∀ b o, s.heap.get? b = some o → h'.get? b = some o) → Q (.ref s.heap.objs.size) { s with heap := h', toks := tk }) :
    wpAny (model P w) A (call (.type "set") [.ref l]) Q E s := by
  obtain ⟨c, tl, hmro⟩ := F.called_set.mro
  have hmade := F.called_set.made
  have hsub := F.called_set.sub
  have h1 := F.called_set.notType
  have h2 := F.called_set.canCreate
  have hct := F.typeCall_set_1 (.ref l)
  refine wpAny_call (codeAny_of_tree ?_)
  show wpAny _ _ (callAny (.type "set") _) _ _ _
  refine wpAny_pure ⟨Code.quiet_builtin _ (by decide +kernel), codeAny_builtin F.entry_type_call ?_⟩
  rw [Around.under_plain (weight_type_call_type "set" [.ref l] []) rfl]
  repeat (any_goals (first | assumption | wp_step))
  have hz : ∀ o, (s.heap.push o).objs.size = s.heap.objs.size + 1 := fun o => Heap.size_push ..
  refine codeAny_mono (code_set_led1 (.ref l) (E := E) (Q₁ := fun obj s₁ => obj = .ref s.heap.objs.size ∧ s₁ = { s with heap := s.heap.push { cls := .type "set", dict := none, data := .set #[] 0 (.fresh 0 0 (!w.params.followText "set-order")) } }) ⟨rfl, rfl⟩) fun r s₁ hr => ?_
  match r, hr with
  | .error e, hr => exact hr
  | .ok .next, hr => exact hr.elim
  | .ok .brk, hr => exact hr.elim
  | .ok .cont, hr => exact hr.elim
  | .ok (.ret obj), hr =>
    obtain ⟨rfl, rfl⟩ := hr
    generalize hs0 : ({ cls := .type "set", dict := none, data := .set #[] 0 (.fresh 0 0 (!w.params.followText "set-order")) } : Obj) = o0
    have hS : (s.heap.push o0).get? s.heap.objs.size = some o0 := Heap.get?_push_size _ (by rw [← hs0]; rfl)
    have hT : Shared.TypeIs { s with heap := s.heap.push o0 } (.ref s.heap.objs.size) "set" := ⟨_, hS, by rw [← hs0]⟩
    have hli := F.called_set.init.lookup
    have hbi := F.called_set.init.bind (.ref s.heap.objs.size)
    repeat (any_goals (first | assumption | wp_step))
    refine codeAny_mono (codeAny_call_builtin (R := wants (fun r s₂ => r = .none ∧ ∃ h' tk c, s₂ = { s with heap := h', toks := tk } ∧ SetR w h' s.heap.objs.size (fun j => decide (j ∈ ns)) c ∧ (∀ b o, s.heap.get? b = some o → h'.get? b = some o)) E)
      F.called_set.init.plain F.entry_set_init (check_set_init_1 hT ?_)) fun r₂ s₂ hr₂ => ?_
    · obtain ⟨⟨ocls, odict, odata, oslots⟩, hol, hcl, nl, hdl⟩ := hl
      simp only at hcl hdl
      subst hcl hdl
      have hol' : (s.heap.push o0).get? l = some { cls := .type "list", dict := odict, data := .seq items nl, slots := oslots } := Heap.get?_push_of_some _ hol
      have hsls := F.sub_list_set
      have hslf := F.sub_list_frozenset
      have hne : (Value.type "list" == Value.type "dict") = false := by decide
      have hl1 : (s.heap.push o0).IsList l items := ⟨_, hol', rfl, nl, rfl⟩
      subst hs0
      unfold Builtin.«set.__init__» noKeywords Builtin.Frozenset.updateFrom
      generalize hPI : pyIter = PI
      wp_walk
      subst hPI
      refine wpAny_pyIter_list hl1 ?_
      refine wpAny_bind (wpAny_runValue ?_)
      have hlS : l < s.heap.objs.size := Heap.lt_size hol
      have hisz : items.size = ns.length := by
        have q := IntsAre.length hit
        rwa [Array.length_toList] at q
      have hneI : ∀ o, l ≠ (s.heap.push o).objs.size := fun o => by rw [hz]; exact Nat.ne_of_lt (Nat.lt_succ_of_lt hlS)
      have hSf : ∀ o, s.heap.objs.size ∉ [(s.heap.push o).objs.size, l] := fun o => by
        rw [hz]
        simp only [List.mem_cons, List.not_mem_nil, or_false, not_or]
        exact ⟨Nat.ne_of_lt (Nat.lt_succ_self _), Nat.ne_of_gt hlS⟩
      have hval : ∀ (i : Nat) (v : Value), items[i]? = some v → ∃ k t, ns[i]? = some k ∧ v = .int k t := fun i v hv => by
        have hi : i < ns.length := by rw [← hisz]; exact (Array.getElem?_eq_some_iff.mp hv).1
        obtain ⟨t, e⟩ := PyProof.Rows.IntsAre.int_at hit i v (by rw [Array.getElem?_toList]; exact hv)
        refine ⟨ns[i], t, List.getElem?_eq_getElem hi, ?_⟩
        rw [e, List.getD_eq_getElem?_getD, List.getElem?_eq_getElem hi] <;> rfl
      refine set_update_ints ((Walks.list (by simp [hh]) _ l (hneI _) items).toS) s.heap.objs.size (hSf _) ns hisz hb hval (items.size - 0) 0 _ (by omega) (Nat.zero_le _)
        ⟨⟨_, Heap.get?_push_size _ rfl, rfl, rfl⟩, hl1.push _⟩ ⟨0, Nat.le_refl 0, setR_new_at (Heap.get?_push_of_some _ hS)⟩ ?_
      intro s' c' hm hc' hS'
      obtain ⟨h', g2, d', tk', os'⟩ := s'
      have eg : g2 = s.gens := hm.gens
      have ed : d' = s.drawn := hm.drawn
      have eo : os' = s.os := hm.os
      subst eg ed eo
      show wpAny _ _ _ _ _ _
      refine wpAny_pure ?_
      show wpAny _ _ (ret Value.none) _ _ _
      refine wpAny_pure ⟨rfl, h', tk', c', rfl, hS', fun b o e => ?_⟩
      have hb0 : b < s.heap.objs.size := Heap.lt_size e
      have hb1 : b ≠ s.heap.objs.size := Nat.ne_of_lt hb0
      have hb2 : ∀ o, b ≠ (s.heap.push o).objs.size := fun o => by rw [hz]; exact Nat.ne_of_lt (Nat.lt_succ_of_lt hb0)
      exact hm.heap b o (by simp only [List.mem_cons, List.not_mem_nil, or_false, not_or]; exact ⟨hb1, hb2 _⟩) (Heap.get?_push_of_some _ (Heap.get?_push_of_some _ e))
    · match r₂, hr₂ with
      | .error e, hr₂ => exact hr₂
      | .ok .next, hr₂ => exact hr₂.elim
      | .ok .brk, hr₂ => exact hr₂.elim
      | .ok .cont, hr₂ => exact hr₂.elim
      | .ok (.ret r), hr₂ =>
        obtain ⟨rfl, h', tk, c, rfl, hS', hk'⟩ := hr₂
        repeat (any_goals (first | assumption | wp_step))
        exact h _ _ _ hS' hk'
/-- sorted of a set of ints, any length -/
theorem sorted_setAny {a : Addr} {S : Int → Bool} {n : Nat} {Q : Value → Shared → Prop} (R : SetR w s.heap a S n) (hh : A.handled = none)
    (hQ : ∀ s' p (out : Array Value) (c : Nat) (ns : List Int), (∀ b o, s.heap.get? b = some o → s'.heap.get? b = some o) → s'.gens = s.gens → s'.os = s.os → s.heap.objs.size ≤ p →
      s'.heap.get? p = some (seqObj "list" out c) → IntsAre out.toList ns → ns.Pairwise (· < ·) → (∀ k, k ∈ ns ↔ S k = true) → ns.length = n → Q (.ref p) s') :
    wpAny (model P w) A (call (.builtin "sorted") [.ref a]) Q E s := by
  obtain ⟨o, es, ep, t, ho, hex, hd, g, nd, hm, hb, hf, hn, hr, hl⟩ := R
  refine Calls.call_function_entry kind_sorted plain_sorted entry_sorted (args_sorted1 _) ?_
  unfold Builtin.«sorted»
  refine wpAny_bind (m := checkCount "sorted" 1 1 _) (wpAny_pure ?_)
  refine wpAny_bind (collect_set (A := A.in1) hh ⟨o, ho, hex.1, hd⟩ hf hb hr hl fun s1 vs k1 hz g1 o1 pm => ?_)
  have hI : IntsAre vs (vs.map Builtin.Re.reRawOf) := ints_of vs fun v hv => by
    obtain ⟨e, he, q⟩ := List.mem_map.mp (pm.mem_iff.mp hv)
    obtain ⟨k, tk, h1, _⟩ := g e he
    exact ⟨k, tk, by rw [← q]; exact h1⟩
  have pk : (vs.map Builtin.Re.reRawOf).Perm (es.toList.map keyOf) := by
    have q := pm.map Builtin.Re.reRawOf
    rw [List.map_map] at q
    exact q
  have hvl : vs.length ≤ sizeLine := by
    rw [pm.length_eq, List.length_map, Array.length_toList]
    exact fits_of_scanBound hb
  refine wpAny_bind (wpAny_newList ?_ hvl)
  have hoL : (s1.heap.push (seqObj "list" vs.toArray 0)).get? s1.heap.objs.size = some (seqObj "list" vs.toArray 0) := Heap.get?_push_size _ rfl
  refine wpAny_bind (wpAny_holding (wpAny_call_entry slot_list_sort ⟨_, hoL, rfl⟩ entry_list_sort (SrtO.list_sort_ord SrtO.swo_int hoL hvl (fun h2 => SrtO.ints_sortable hI h2) fun out a1 a2 => ⟨_, rfl, ?_⟩) (args_list_sort _)))
  obtain ⟨b1, b2, b3⟩ := SrtO.ints_out hI a1 a2
  obtain ⟨c, hc⟩ := sortedHeap_at (vs := vs) (out := out.toArray) hoL
  have pn := b2.trans pk
  refine wpAny_pure ⟨_, rfl, hQ _ s1.heap.objs.size out.toArray c (out.map SrtO.iv) (fun b u e => ?_) g1 o1 hz hc (by simpa using b1) (lt_of_le_nodup _ b3 (pn.nodup_iff.mpr nd)) (fun k => by rw [pn.mem_iff, ← hm k]) ?_⟩
  · have q := k1 b u e
    have hlt := Heap.lt_size q
    show (sortedHeap (s1.heap.push (seqObj "list" vs.toArray 0)) s1.heap.objs.size vs out.toArray).get? b = some u
    rw [sortedHeap_old (Nat.ne_of_lt hlt) (by rw [size_push']; exact Nat.lt_succ_of_lt hlt)]
    exact Heap.get?_push_of_some _ q
  · rw [pn.length_eq, List.length_map, Array.length_toList]
    exact hn
end
end HT
namespace PD
open PySem PySem.Spec PyProof.Rows L2
/-- the distinct ones in their order -/
def srtI (ns : List Int) : List Int := (dst ns).mergeSort fun a b => decide (a ≤ b)
theorem mem_srtI {ns : List Int} {k : Int} : k ∈ srtI ns ↔ k ∈ ns := by
  unfold srtI
  rw [(List.mergeSort_perm _ _).mem_iff, mem_dst]
theorem srtI_lt (ns : List Int) : (srtI ns).Pairwise (· < ·) := by
  have h1 : (srtI ns).Pairwise (· ≤ ·) := by
    have := List.pairwise_mergeSort (le := fun a b : Int => decide (a ≤ b)) (fun a b c h1 h2 => by simp at *; omega) (fun a b => by simp; omega) (dst ns)
    exact this.imp fun h => by simpa using h
  exact lt_of_le_nodup _ h1 ((List.mergeSort_perm _ _).nodup_iff.mpr (nodup_dst ns))
theorem lt_unique : ∀ {l m : List Int}, l.Pairwise (· < ·) → m.Pairwise (· < ·) → (∀ k, k ∈ l ↔ k ∈ m) → l = m
  | [], [], _, _, _ => rfl
  | [], b :: m, _, _, h => absurd ((h b).mpr (List.mem_cons_self ..)) List.not_mem_nil
  | a :: l, [], _, _, h => absurd ((h a).mp (List.mem_cons_self ..)) List.not_mem_nil
  | a :: l, b :: m, h1, h2, h => by
    rw [List.pairwise_cons] at h1 h2
    have hab : a = b := by
      rcases List.mem_cons.mp ((h a).mp (List.mem_cons_self ..)) with e | e
      · exact e
      · rcases List.mem_cons.mp ((h b).mpr (List.mem_cons_self ..)) with e2 | e2
        · exact e2.symm
        · have := h1.1 b e2
          have := h2.1 a e
          omega
    subst hab
    refine congrArg (a :: ·) (lt_unique h1.2 h2.2 fun k => ?_)
    have hk := h k
    constructor
    · intro q
      rcases List.mem_cons.mp (hk.mp (List.mem_cons_of_mem _ q)) with e | e
      · have := h1.1 k q; omega
      · exact e
    · intro q
      rcases List.mem_cons.mp (hk.mpr (List.mem_cons_of_mem _ q)) with e | e
      · have := h2.1 k q; omega
      · exact e
theorem srtI_length (ns : List Int) : (srtI ns).length ≤ ns.length := by
  unfold srtI
  rw [List.length_mergeSort]
  exact dst_le ns
section
variable {X : Cx} {W : Wd} {k : Nat} {E : XK} {a e : Expr} {p p2 q2 pos : Pos} {da d : Env → Mo PV} {dl : Env → Mo (List PV)}
def tSortSet (K : PySem.W.Frag) (ta : TE) : TE := fun σ H Q => ta σ H fun x H1 => ∃ (l : Addr) (ns : List Int), x = V.ref l ∧ (SqL K H1 l (ns.map V.int) ∨ SqT K H1 l (ns.map V.int)) ∧ ns.length ≤ 4000 ∧ ∀ p, H1 p = none → Q (.ref p) (upd H1 p (.lst ((srtI ns).map V.int)))
theorem pe_sortSet {ta : TE} (hc : X.calm = true) (hg : Gl X "sorted") (hm : X.mg "sorted" = none) (hg2 : Gl X "set") (hm2 : X.mg "set" = none) (ha : PE X a ta)
    (na : starEach [a] X.env = (false, eval a X.env) :: starEach [] X.env := by rfl) : PE X (.Call (.Name "sorted" p) [.Call (.Name "set" p2) [a] [] q2] [] pos) (tSortSet X.K ta) := by
  refine ⟨fun pins s σ H Q I h => ?_⟩
  refine Call_ (ld_blt I hg hm PyProof.Rows.boot_sorted ?_)
  refine PyProof.Rows.callWith_builtin1 (PyProof.Rows.args_cons ?_ rfl) rfl rfl
  refine Call_ (ld_blt I hg2 hm2 PyProof.Rows.boot_set ?_)
  refine PyProof.Rows.callWith_type1 (PyProof.Rows.args_cons (thn (ha.run pins s σ H _ I h) fun v s1 ⟨x, H1, I1, r1, q1⟩ => PyProof.Rows.args_nil ?_) na) na rfl
  obtain ⟨l, ns, rfl, hq, hl, q1⟩ := q1
  cases r1
  have fin : ∀ (h' : Heap) (tk c : Nat), SetR X.w h' s1.heap.objs.size (fun j => decide (j ∈ ns)) c → (∀ b o, s1.heap.get? b = some o → h'.get? b = some o) →
      wpAny (model X.prog X.w) X.A (call (.builtin "sorted") [.ref s1.heap.objs.size]) (fun v s2 => ∃ x H2, Inv X pins σ H2 s2 ∧ RelV x v ∧ Q x H2) X.xe { s1 with heap := h', toks := tk } := by
    intro h' tk c hS hk
    have I2 : Inv X pins σ H1 { s1 with heap := h', toks := tk } := I1.kept fun b o e => hk b o e
    have hS : SetR X.w ({ s1 with heap := h', toks := tk } : Shared).heap s1.heap.objs.size (fun j => decide (j ∈ ns)) c := hS
    revert I2 hS
    generalize ({ s1 with heap := h', toks := tk } : Shared) = s2
    intro I2 hS
    refine HT.sorted_setAny hS (I2.ok.hd hc) fun s' p out c ns' k g o hp hg hi hs hm hl' => ?_
    have e0 : ns' = srtI ns := lt_unique hs (srtI_lt ns) fun j => by rw [hm j, decide_eq_true_eq, mem_srtI]
    subst e0
    have hlen : ((srtI ns).map V.int).length ≤ sizeLine := by
      rw [List.length_map, sizeLine_eq]
      have := srtI_length ns
      omega
    have hn : H1 p = none := I2.hok.fresh hp
    have J : Inv X pins σ (upd H1 p (.lst ((srtI ns).map V.int))) { s2 with heap := s'.heap, gens := s'.gens, drawn := s'.drawn, toks := s'.toks } :=
      I2.call (ch := []) (Un.laid k hp hn) (I2.hok.laid k hp ⟨hlen, out.toList, c, vals_of_ints hi, hg⟩) (by rw [g]; exact I2.bare) (fun _ z => nomatch z)
    have e : s' = { s2 with heap := s'.heap, gens := s'.gens, drawn := s'.drawn, toks := s'.toks } := by
      cases s'
      cases s2
      cases o
      rfl
    rw [e]
    exact ⟨.ref p, _, J, rfl, q1 p hn⟩
  rcases hq with hq | hq
  · obtain ⟨its, r, pl, hz⟩ := I1.list hq
    exact HT.call_set_listI ns (I1.ok.hd hc) pl.isList (ints_of_vals (by simpa using r)) (by unfold scanBound; omega) fun h' tk c hS hk => PyProof.Rows.args_nil (fin h' tk c hS hk)
  · obtain ⟨its, r, pl, hz⟩ := I1.tuple hq
    exact call_set_tupI ns (I1.ok.hd hc) (show s1.heap.IsTuple l its.toArray from pl) (ints_of_vals (by simpa using r)) (by unfold scanBound; omega) fun h' tk c hS _ hk => PyProof.Rows.args_nil (fin h' tk c hS hk)
def sortSetQ (l : List PV) : Mo (List PV) := fun st => match intsV l with
  | some ns => if ns.length ≤ 4000 then .ok ((srtI ns).map PV.int) st else .stuck
  | none => .stuck
theorem rvs_intsL {ι : List Addr} {H : Hp} : ∀ ns : List Int, RVs W ι H (ns.map V.int) (ns.map PV.int)
  | [] => .nil
  | _ :: ns => .cons (.int _) (rvs_intsL ns)
theorem dl_sortSetL (h : DL X W k E a dl) (hm : W.mg "sorted" = none) (hm2 : W.mg "set" = none) (hg : Gl X "sorted" := by rfl) (hg2 : Gl X "set" := by rfl)
    (na : starEach [a] X.env = (false, eval a X.env) :: starEach [] X.env := by rfl) : DL X W k E (.Call (.Name "sorted" p) [.Call (.Name "set" p2) [a] [] q2] [] pos) (fun ρ => bnd (dl ρ) sortSetQ) :=
  ⟨fun o => pe_imp (pe_sortSet o.hc hg (by rw [o.hM]; exact hm) hg2 (by rw [o.hM]; exact hm2) (h.run o) na) fun σ H Q t => by
    obtain ⟨ι, ρ, st, re, rs, g⟩ := t
    refine ⟨ι, ρ, st, re, rs, Good.imp (Good.bind g) fun l st1 ι1 H1 m1 r1 g1 p vs h0 hn he rr hz => ?_⟩
    have g2 : Good W E ι1 H1 (match intsV l with | some ns => if ns.length ≤ 4000 then .ok ((srtI ns).map PV.int) st1 else .stuck | none => .stuck) (kL W H Q) := g1
    cases hns : intsV l with
    | none => rw [hns] at g2; exact g2.elim
    | some ns =>
      rw [hns] at g2
      obtain ⟨hc, g3⟩ := good_if g2
      have e := intsV_some hns
      subst e
      have e2 := RVs.of_ints rr
      subst e2
      refine ⟨p, ns, rfl, .inl (.inl (.inl he)), hc, fun nl hnl => ?_⟩
      exact good_newlst g3 r1 (rvs_intsL _) (by rw [List.length_map]; have := srtI_length ns; omega) hnl (none_back rs m1 r1.some_ hnl)⟩
def sortSetM (q : PV) : Mo (List PV) := bnd (sqM q) sortSetQ
end
end PD
/-! PD: sorted of a dict by ints. -/
namespace PD
open PySem PySem.Spec PyProof.Rows L2
def ordI (ns : List Int) : List Int := ns.mergeSort fun a b => decide (a ≤ b)
theorem ordI_perm (ns : List Int) : (ordI ns).Perm ns := List.mergeSort_perm _ _
theorem ordI_le (ns : List Int) : (ordI ns).Pairwise (· ≤ ·) := by
  have := List.pairwise_mergeSort (le := fun a b : Int => decide (a ≤ b)) (fun a b c h1 h2 => by simp at *; omega) (fun a b => by simp; omega) ns
  exact this.imp fun h => by simpa using h
theorem ordI_is {ns ms : List Int} (h1 : ms.Perm ns) (h2 : ms.Pairwise (· ≤ ·)) : ms = ordI ns :=
  List.Perm.eq_of_pairwise (le := fun a b : Int => a ≤ b) (fun a b _ _ h h' => Int.le_antisymm h h') h2 (ordI_le ns) (h1.trans (ordI_perm ns).symm)
section
variable {X : Cx} {W : Wd} {k : Nat} {E : XK} {a e : Expr} {p p2 q2 pos : Pos} {da d : Env → Mo PV} {dl : Env → Mo (List PV)}
def sortDQ (l : List (PV × PV)) : Mo (List PV) := fun st => match intsV (l.map (·.1)) with
  | some ns => if ns.length < 64 then .ok ((ordI ns).map PV.int) st else .stuck
  | none => .stuck
theorem rks_ints {ι : List Addr} {H : Hp} : ∀ {ks : List (Key × V)} {l : List (PV × PV)} {ns : List Int}, RKs W ι H ks l → l.map (·.1) = ns.map PV.int → ks.map (·.1) = ns.map Sum.inl
  | _, _, [], .nil, _ => rfl
  | _, _, _ :: _, .nil, h => by cases h
  | _, _, [], .cons _ _, h => by cases h
  | _, _, n :: ns, .cons (k := k) _ r, h => by
    rw [List.map_cons, List.map_cons] at h
    injection h with h1 h2
    rw [List.map_cons, List.map_cons, rks_ints r h2]
    congr 1
    cases k with
    | inl i => cases h1; rfl
    | inr x => cases h1
theorem dl_sortD (h : DE X W k E a d) (hm : W.mg "sorted" = none) (hg : Gl X "sorted" := by rfl) (hs : starEach [a] X.env = (false, eval a X.env) :: starEach [] X.env := by rfl) : DL X W k E (.Call (.Name "sorted" p) [a] [] pos) (fun ρ => bnd (d ρ) fun q => bnd (dctM q) sortDQ) :=
  ⟨fun o => pe_imp (pe_callB (call_sortedDI (X := X) o.hc) hg (by rw [o.hM]; exact hm) PyProof.Rows.boot_sorted (pa_cons (h.run o) pa_nil hs) (by decide) (by decide) hs (by rfl)) fun σ H Q t => by
    obtain ⟨ι, ρ, st, re, rs, g⟩ := t
    refine ⟨ι, ρ, st, re, rs, Good.imp (Good.bind g) fun q st1 ι1 H1 m1 r1 g1 x hx => ?_⟩
    obtain ⟨a, ks, l, rfl, hd, r, g2⟩ := dct_of r1 hx g1
    have g3 : Good W E ι1 H1 (match intsV (l.map (·.1)) with | some ns => if ns.length < 64 then .ok ((ordI ns).map PV.int) st1 else .stuck | none => .stuck) (kL W H Q) := g2
    cases hns : intsV (l.map (·.1)) with
    | none => rw [hns] at g3; exact g3.elim
    | some ns =>
      rw [hns] at g3
      obtain ⟨hc, g4⟩ := good_if g3
      refine ⟨a, ks, ns, rfl, hd, rks_ints r (intsV_some hns), hc, fun ys p hp hy hn => ?_⟩
      rw [ordI_is hp hy]
      exact good_newlst g4 r1 (rvs_intsL _) (by rw [List.length_map, (ordI_perm ns).length_eq]; omega) hn (none_back rs m1 r1.some_ hn)⟩
end
end PD
/-! PD: sorted(d.items()), ints by ints. -/
namespace PD
open PySem PySem.Spec PyProof.Rows L2
section
variable {X : Cx} {pins : List (Addr × Obj)} {σ : L2.St} {H H' : Hp} {s : Shared} {h' : Heap} {tk : Nat}
/-- many new objects at once -/
theorem inv_many (I : Inv X pins σ H s) (hk : ∀ b o, s.heap.get? b = some o → h'.get? b = some o) (hoff : ∀ b, b < s.heap.objs.size → H' b = H b)
    (hok : ∀ b u, s.heap.objs.size ≤ b → H' b = some u → ObjOk X.prog X.w H' h' b u) : Inv X pins σ H' { s with heap := h', toks := tk } := by
  have kp : ∀ b u, H b = some u → H' b = some u := fun b u e => by
    by_cases hb : b < s.heap.objs.size
    · rw [hoff b hb]; exact e
    · rw [I.hok.fresh (Nat.le_of_not_lt hb)] at e; cases e
  refine I.call' (ch := []) rfl ⟨fun b o q _ _ _ => hk b o q, fun b o q _ _ _ => ⟨o.slots, hk b o q⟩, fun b o q n _ => ?_, fun b o q _ => ⟨o, hk b o q⟩, fun b xs q => kp b _ q, fun b o u q => kp b _ q, fun b ps q => ⟨#[], by rw [kp b _ q]; simp⟩⟩ (fun b u q => ?_) I.bare fun b z => nomatch z
  · rw [hoff b (Heap.lt_size q)]; exact n
  · by_cases hb : b < s.heap.objs.size
    · rw [hoff b hb] at q
      exact (I.hok b u q).stay (fun d v _ y => hk d v y) (fun d y => kp d _ y) fun d xs y => kp d _ y
    · exact hok b u (Nat.le_of_not_lt hb) q
end
theorem paired_of {α β : Type} {F : α → β → Prop} : ∀ {xs : List α} {ys : List β}, xs.length = ys.length → (∀ (i : Nat) (x : α) (y : β), xs[i]? = some x → ys[i]? = some y → F x y) → Paired F xs ys
  | [], [], _, _ => .nil
  | [], _ :: _, h, _ => by cases h
  | _ :: _, [], h, _ => by cases h
  | x :: xs, y :: ys, h, k => .cons (k 0 x y rfl rfl) (paired_of (Nat.succ.inj h) fun i a b h1 h2 => k (i + 1) a b h1 h2)
def lexLe (p q : Int × Int) : Bool := !SrtO.lexB q p
theorem lexLe_iff {p q : Int × Int} : lexLe p q = true ↔ p.1 < q.1 ∨ (p.1 = q.1 ∧ p.2 ≤ q.2) := by
  unfold lexLe
  rw [Bool.not_eq_true', ← Bool.not_eq_true, SrtO.lexB_iff]
  omega
def ordPP (ps : List (Int × Int)) : List (Int × Int) := ps.mergeSort lexLe
theorem ordPP_is {ps qs : List (Int × Int)} (h1 : qs.Perm ps) (h2 : qs.Pairwise fun p q => lexLe p q = true) : qs = ordPP ps := by
  have h3 : (ordPP ps).Pairwise fun p q => lexLe p q = true := List.pairwise_mergeSort (le := lexLe) (fun a b c h1 h2 => by rw [lexLe_iff] at *; omega) (fun a b => by rw [Bool.or_eq_true, lexLe_iff, lexLe_iff]; omega) ps
  refine List.Perm.eq_of_pairwise (le := fun p q => lexLe p q = true) (fun a b _ _ h h' => ?_) h2 h3 (h1.trans (List.mergeSort_perm _ _).symm)
  rw [lexLe_iff] at h h'
  refine Prod.ext ?_ ?_ <;> omega
def entI (p : Int × Int) : Key × V := (.inl p.1, .int p.2)
/-- the pairs of ints, in their order, in new tuples -/
def tSortIt (te : TE) : TE := fun σ H Q => te σ H fun x H1 => ∃ (d : Addr) (ps : List (Int × Int)), x = .ref d ∧ Rd H1 d (.dK (ps.map entI)) ∧
  ∀ (H' : Hp) (L : Addr) (ts : List Addr), (∀ b o, H1 b = some o → H' b = some o) → (∀ b ∈ L :: ts, H1 b = none) → L ∉ ts → H' L = some (.lst (ts.map V.ref)) → Paired (fun (t : Addr) (q : Int × Int) => H' t = some (.tup [.int q.1, .int q.2])) ts (ordPP ps) → Q (.ref L) H'
section
variable {X : Cx} {e : Expr} {te : TE} {p apos cpos pos : Pos}
theorem pe_sortIt (hc : X.calm = true) (he : PE X e te) (hg : Gl X "sorted") (hm : X.mg "sorted" = none) (hbase : attributeBase e "items" X.env (eval e X.env) = eval e X.env := by rfl) (hline : (apos.endLine == cpos.line) = true := by rfl)
    (hs : starEach [.Call (.Attribute e "items" apos) [] [] cpos] X.env = (false, eval (.Call (.Attribute e "items" apos) [] [] cpos) X.env) :: starEach [] X.env := by rfl) :
    PE X (.Call (.Name "sorted" p) [.Call (.Attribute e "items" apos) [] [] cpos] [] pos) (tSortIt te) := by
  refine ⟨fun pins s σ H Q I hq => ?_⟩
  refine Call_ (ld_blt I hg hm PyProof.Rows.boot_sorted ?_)
  refine PyProof.Rows.callWith_builtin1 (PyProof.Rows.args_cons ?_ hs) hs rfl
  refine wpAny_Call_method (T := "dict") (id := "dict.items") hbase rfl hline F.plainAttrs_dict F.slot_dict_items F.type_dict_items (thn (he.run pins s σ H _ I hq) fun u s1 ⟨x, H1, I1, rx, d, ps, ex, hd, q⟩ => ?_)
  subst ex
  obtain rfl : u = Value.ref d := rx
  obtain ⟨hz, hs0, vs, kv, hdo⟩ := dk_rd I1.hok hd
  refine ⟨hdo.typeIs, hdo.mapOf.noDict, ?_⟩
  refine method_meetsIn F.slot_dict_items F.entry_dict_items rfl (PySem.evalArgs_none ⟨rfl, hdo.typeIs, F.args_dict_items_1 _, _, meets_dict_items (mixKind X.prog X.w) d hs0, ⟨vs, hdo⟩, ?_⟩)
  refine PyProof.Rows.args_nil ?_
  obtain ⟨od, es, ep, hod, hex, hdat, -, hpr, -⟩ := id hdo
  have l1 : ps.length = vs.length := by
    have := Paired.length kv
    rwa [List.length_map] at this
  have l2 : es.size = vs.length := by
    have := hpr.length
    rwa [Array.length_toList] at this
  rw [List.length_map] at hz
  -- entry j
  have ent : ∀ (j : Nat) (en : DictEntry), es[j]? = some en → ∃ (p : Int × Int) (t1 t2 : Tok), ps[j]? = some p ∧ en.key = .int p.1 t1 ∧ en.val = .int p.2 t2 := by
    intro j en he
    have hj : j < vs.length := by rw [← l2]; exact (Array.getElem?_eq_some_iff.mp he).1
    obtain ⟨p, hp⟩ : ∃ p, ps[j]? = some p := ⟨ps[j], List.getElem?_eq_getElem (by omega)⟩
    obtain ⟨kq, hkq⟩ : ∃ kq, vs[j]? = some kq := ⟨vs[j], List.getElem?_eq_getElem hj⟩
    obtain ⟨y, hy, g1, g2⟩ := LiI.paired_get kv (x := entI p) (i := j) (by rw [List.getElem?_map, hp]; rfl)
    rw [hkq] at hy
    cases hy
    obtain ⟨r1, r2⟩ := hpr.get? (i := j) (e := en) (k := kq.1) (v := kq.2) (by rw [Array.getElem?_toList]; exact he) hkq
    have g1 : Sum.inl p.1 = kq.1 := g1
    rw [← g1] at r1
    obtain ⟨t2, g2⟩ : ∃ t, kq.2 = .int p.2 t := g2
    have r1 : keyIs (.inl p.1) en.key = true := r1
    rcases keyIs_shape r1 with ⟨i, t1, e1, e2⟩ | ⟨x, t1, e1, e2⟩
    · have e3 : p.1 = i := by injection e1
      subst e3
      exact ⟨p, t1, t2, hp, e2, r2.trans g2⟩
    · cases e1
  have hview : (s1.heap.push { cls := .type "dict_items", data := .fields #[.ref d] }).IsItemsView s1.heap.objs.size d := ⟨_, Heap.get?_push_size _ rfl, rfl, rfl⟩
  have hraw : DT.Raw (s1.heap.push { cls := .type "dict_items", data := .fields #[.ref d] }) d es ep := ⟨od, Heap.get?_push_of_some _ hod, hex, hdat⟩
  have I2 : Inv X pins σ H1 { s1 with heap := s1.heap.push { cls := .type "dict_items", data := .fields #[.ref d] } } := I1.kept (t' := s1.toks) fun b ob q => Heap.get?_push_of_some _ q
  revert I2 hview hraw
  generalize hs2 : ({ s1 with heap := s1.heap.push { cls := .type "dict_items", data := .fields #[.ref d] } } : Shared) = s2
  intro hview hraw I2
  have eh : s2.heap = s1.heap.push { cls := .type "dict_items", data := .fields #[.ref d] } := by rw [← hs2]
  have e0 : s1.heap.objs.size < s2.heap.objs.size := by rw [eh, Heap.size_push]; exact Nat.lt_succ_self _
  rw [← eh] at hview hraw
  refine DT.sortedI (es := es) (ep := ep) (I2.ok.hd hc) hview hraw (by omega) fun h' tk as hk hlt hl hG => ?_
  have nd : as.Nodup := List.Pairwise.imp (fun h => Nat.ne_of_lt h) hG.rise
  have lak : as.length = ps.length := by omega
  have hob : (h'.push { cls := .type "list", data := .seq (as.map Value.ref).toArray }).get? h'.objs.size = some (seqObj "list" (as.map Value.ref).toArray 0) := Heap.get?_push_size _ rfl
  have ka : ∀ b o, h'.get? b = some o → (h'.push { cls := .type "list", data := .seq (as.map Value.ref).toArray }).get? b = some o := fun b o e => Heap.get?_push_of_some _ e
  have hLn : ∀ b o, h'.get? b = some o → b ≠ h'.objs.size := fun b o e => Nat.ne_of_lt (Heap.lt_size e)
  revert hob ka hLn
  generalize h'.push { cls := .type "list", data := .seq (as.map Value.ref).toArray } = h2
  generalize hL : h'.objs.size = L
  intro hob ka hLn
  have pr : ∀ (j : Nat) (b : Addr), as[j]? = some b → ∃ (p : Int × Int) (t1 t2 : Tok), ps[j]? = some p ∧ h2.get? b = some { cls := .type "tuple", data := .seq #[.int p.1 t1, .int p.2 t2] } ∧ s2.heap.objs.size ≤ b ∧ b ≠ L := by
    intro j b hj
    obtain ⟨en, he, hg⟩ := hG.pairs j b hj
    obtain ⟨p, t1, t2, hp, k1, k2⟩ := ent j en he
    refine ⟨p, t1, t2, hp, ?_, Nat.le_of_lt (hG.above b (List.mem_of_getElem? hj)), hLn _ _ hg⟩
    rw [ka _ _ hg, k1, k2]
  let kk : Value → Int × Int := fun u => match u with
    | .ref b => (ps[as.idxOf b]?).getD (0, 0)
    | _ => (0, 0)
  have kkj : ∀ (j : Nat) (b : Addr) (p : Int × Int), as[j]? = some b → ps[j]? = some p → kk (.ref b) = p := by
    intro j b p hj hp
    show (ps[as.idxOf b]?).getD (0, 0) = p
    have hjl := (List.getElem?_eq_some_iff.mp hj)
    obtain ⟨hj1, hj2⟩ := hjl
    have : as.idxOf b = j := by rw [← hj2]; exact nd.idxOf_getElem j hj1
    rw [this, hp]
    rfl
  have hIsP : ∀ v ∈ as.map Value.ref, Srt.IsPair h2 v (kk v).1 (kk v).2 := by
    intro v hv
    obtain ⟨b, hb, rfl⟩ := List.mem_map.mp hv
    obtain ⟨j, hj⟩ := List.mem_iff_getElem?.mp hb
    obtain ⟨p, t1, t2, hp, hg, _, _⟩ := pr j b hj
    rw [kkj j b p hj hp]
    exact ⟨b, _, t1, t2, 0, rfl, hg, rfl, rfl⟩
  have hz2 : (as.map Value.ref).length ≤ sizeLine := by rw [List.length_map]; omega
  refine wpAny_call_entry PyProof.Rows.slot_list_sort ⟨_, hob, rfl⟩ PyProof.Rows.entry_list_sort
    (SrtO.list_sort_ord (s := { s2 with heap := h2, toks := tk }) (SrtO.swo_lex kk) hob hz2 (fun h2' => SrtO.pairs_sortableO (by omega) hIsP fun o e => ?_) fun out a1 a2 => ⟨.none, rfl, ?_⟩) (PyProof.Rows.args_list_sort _)
  · have e' : some o = some (seqObj "list" (as.map Value.ref).toArray 0) := e.symm.trans hob
    cases e'
    intro c
    exact absurd (Value.type.inj c) (by decide)
  · obtain ⟨ep', he'⟩ := PyProof.Rows.sortedHeap_at (vs := as.map Value.ref) (out := out.toArray) hob
    let back : Value → Addr := fun u => match u with
      | .ref b => b
      | _ => 0
    obtain ⟨bs, hbs⟩ : ∃ bs : List Addr, bs = out.map back := ⟨_, rfl⟩
    have ho : out = bs.map Value.ref := by
      rw [hbs, List.map_map]
      have : ∀ u ∈ out, (Value.ref ∘ back) u = u := fun u hu => by
        obtain ⟨b, _, rfl⟩ := List.mem_map.mp (a2.perm.mem_iff.mp hu)
        rfl
      exact ((List.map_congr_left this).trans (List.map_id out)).symm
    have hperm : bs.Perm as := by
      have := a2.perm.map back
      rw [List.map_map, ← hbs] at this
      have e : as.map (back ∘ Value.ref) = as := List.map_id'' (fun _ => rfl) as
      rw [e] at this
      exact this
    have hkk : as.map (fun b => kk (.ref b)) = ps := by
      refine List.ext_getElem? fun j => ?_
      rw [List.getElem?_map]
      cases hj : as[j]? with
      | none =>
        rw [List.getElem?_eq_none_iff] at hj
        exact (List.getElem?_eq_none (by omega)).symm
      | some b =>
        obtain ⟨p, _, _, hp, _⟩ := pr j b hj
        rw [hp, Option.map_some, kkj j b p hj hp]
    have hord : bs.map (fun b => kk (.ref b)) = ordPP ps := by
      refine ordPP_is ?_ ?_
      · have := hperm.map fun b => kk (.ref b)
        rwa [hkk] at this
      · rw [List.pairwise_map]
        rw [ho] at a1
        have a3 := a1
        unfold SrtO.Srtd at a3
        rw [List.pairwise_map] at a3
        refine a3.imp fun {a b} h => ?_
        have h : SrtO.lexB (kk (.ref b)) (kk (.ref a)) = false := h
        unfold lexLe
        rw [h]
        rfl
    have hLas : L ∉ as := fun z => by
      obtain ⟨j, hj⟩ := List.mem_iff_getElem?.mp z
      obtain ⟨_, _, _, _, _, _, hne⟩ := pr j L hj
      exact hne rfl
    have asz : ∀ b ∈ as, s2.heap.objs.size ≤ b := fun b hb => by
      obtain ⟨j, hj⟩ := List.mem_iff_getElem?.mp hb
      obtain ⟨_, _, _, _, _, h5, _⟩ := pr j b hj
      exact h5
    have hLs : s2.heap.objs.size ≤ L := by rw [← hL]; exact Nat.le_of_lt hlt
    have hat := LiI.putT_at as (ps.map entI) H1 (by rw [List.length_map]; omega) nd
    have hoff : ∀ b, b ∉ as → b ≠ L → upd (LiI.putT H1 as (ps.map entI)) L (.lst (bs.map V.ref)) b = H1 b := fun b h1 h2 => by rw [upd_ne h2, LiI.putT_off as _ _ h1]
    have hput : ∀ (j : Nat) (b : Addr) (p : Int × Int), as[j]? = some b → ps[j]? = some p → upd (LiI.putT H1 as (ps.map entI)) L (.lst (bs.map V.ref)) b = some (.tup [.int p.1, .int p.2]) := fun j b p hj hp => by
      obtain ⟨y, hy, e⟩ := LiI.paired_get hat hj
      rw [List.getElem?_map, hp] at hy
      cases hy
      rw [upd_ne (fun z => hLas (by rw [← z]; exact List.mem_of_getElem? hj)), e]
      rfl
    have h3 : ∀ b o, h2.get? b = some o → b ≠ L → (sortedHeap h2 L (as.map Value.ref) out.toArray).get? b = some o := fun b o e hb => by
      rw [PyProof.Rows.sortedHeap_old hb (Heap.lt_size e)]; exact e
    have J : Inv X pins σ (upd (LiI.putT H1 as (ps.map entI)) L (.lst (bs.map V.ref))) { s2 with heap := sortedHeap h2 L (as.map Value.ref) out.toArray, toks := tk } := by
      refine inv_many I2 (fun b o e => h3 b o (ka _ _ (hk _ _ e)) (hLn _ _ (hk _ _ e))) (fun b hb => hoff b (fun z => ?_) ?_) fun b u hb hu => ?_
      · exact absurd (asz b z) (Nat.not_le_of_lt hb)
      · exact Nat.ne_of_lt (Nat.lt_of_lt_of_le hb hLs)
      · by_cases hbL : b = L
        · subst hbL
          rw [upd_same] at hu
          cases hu
          refine ⟨by rw [List.length_map, hperm.length_eq]; omega, out, ep', ?_, he'⟩
          rw [ho]
          exact LiI.vals_refs bs
        · by_cases hba : b ∈ as
          · obtain ⟨j, hj⟩ := List.mem_iff_getElem?.mp hba
            obtain ⟨p, t1, t2, hp, hg, _, _⟩ := pr j b hj
            rw [hput j b p hj hp] at hu
            cases hu
            exact ⟨by show 2 ≤ sizeLine; decide, [.int p.1 t1, .int p.2 t2], .cons ⟨_, rfl⟩ (.cons ⟨_, rfl⟩ .nil), ⟨_, h3 _ _ hg hbL, rfl, 0, rfl⟩⟩
          · rw [hoff b hba hbL, I2.hok.fresh hb] at hu
            cases hu
    refine ⟨.ref L, _, J, rfl, q _ L bs (fun b o e => ?_) (fun b hb => ?_) (fun z => hLas (hperm.mem_iff.mp z)) upd_same ?_⟩
    · have hbs2 : b < s2.heap.objs.size := Nat.lt_of_not_le fun z => by rw [I2.hok.fresh z] at e; cases e
      rw [hoff b (fun z => absurd (asz b z) (Nat.not_le_of_lt hbs2)) (Nat.ne_of_lt (Nat.lt_of_lt_of_le hbs2 hLs))]
      exact e
    · refine I2.hok.fresh ?_
      rcases List.mem_cons.mp hb with rfl | hb
      · exact hLs
      · exact asz b (hperm.mem_iff.mp hb)
    · rw [← hord]
      refine paired_of (by rw [List.length_map]) fun i x y hx hy => ?_
      rw [List.getElem?_map, hx] at hy
      cases hy
      obtain ⟨j, hj⟩ := List.mem_iff_getElem?.mp (hperm.mem_iff.mp (List.mem_of_getElem? hx))
      obtain ⟨p, _, _, hp, _⟩ := pr j x hj
      have e9 := hput j x p hj hp
      rw [← kkj j x p hj hp] at e9
      exact e9
end
section
variable {X : Cx} {W : Wd} {k : Nat} {E : XK} {e : Expr} {d : Env → Mo PV} {p apos cpos pos : Pos}
def pairsOf : List (PV × PV) → Option (List (Int × Int))
  | [] => some []
  | (.int i, .int j) :: l => (pairsOf l).map fun ps => (i, j) :: ps
  | _ => none
theorem pairsOf_some : ∀ {l : List (PV × PV)} {ps : List (Int × Int)}, pairsOf l = some ps → l = ps.map fun p => (PV.int p.1, PV.int p.2)
  | [], ps, h => by cases h; rfl
  | (.int i, .int j) :: l, ps, h => by
    unfold pairsOf at h
    rw [Option.map_eq_some_iff] at h
    obtain ⟨qs, h1, rfl⟩ := h
    rw [pairsOf_some h1]
    rfl
  | (.int i, .non) :: l, ps, h => by cases h
  | (.int i, .bl _) :: l, ps, h => by cases h
  | (.int i, .str _) :: l, ps, h => by cases h
  | (.int i, .tup _) :: l, ps, h => by cases h
  | (.int i, .loc _) :: l, ps, h => by cases h
  | (.int i, .fn _) :: l, ps, h => by cases h
  | (.int i, .kl _) :: l, ps, h => by cases h
  | (.int i, .clo _) :: l, ps, h => by cases h
  | (.int i, .pst _) :: l, ps, h => by cases h
  | (.non, _) :: l, ps, h => by cases h
  | (.bl _, _) :: l, ps, h => by cases h
  | (.str _, _) :: l, ps, h => by cases h
  | (.tup _, _) :: l, ps, h => by cases h
  | (.loc _, _) :: l, ps, h => by cases h
  | (.fn _, _) :: l, ps, h => by cases h
  | (.kl _, _) :: l, ps, h => by cases h
  | (.clo _, _) :: l, ps, h => by cases h
  | (.pst _, _) :: l, ps, h => by cases h
@[simp] theorem pairsOf_map : ∀ ps : List (Int × Int), pairsOf (ps.map fun p => (PV.int p.1, PV.int p.2)) = some ps
  | [] => rfl
  | p :: ps => by rw [List.map_cons, pairsOf, pairsOf_map ps]; rfl
theorem rks_pairs {ι : List Addr} {H : Hp} : ∀ {ks : List (Key × V)} {ps : List (Int × Int)}, RKs W ι H ks (ps.map fun p => (PV.int p.1, PV.int p.2)) → ks = ps.map entI
  | _, [], r => by cases r; rfl
  | _, p :: ps, r => by
    rw [List.map_cons] at r
    generalize hq : (PV.int p.1, PV.int p.2) = q at r
    cases r with
    | cons rv rr =>
      rename_i k v pv vs
      injection hq with e1 e2
      subst e2
      cases rv
      rw [rks_pairs rr, List.map_cons]
      congr 1
      cases k with
      | inl i => cases e1; rfl
      | inr x => cases e1
def pairP (p : Int × Int) : PV := .tup [.int p.1, .int p.2]
def sortItQ (l : List (PV × PV)) : Mo (List PV) := fun st => match pairsOf l with
  | some ps => if ps.length ≤ 16777216 then .ok ((ordPP ps).map pairP) st else .stuck
  | none => .stuck
theorem rv_pairs {ι : List Addr} {H : Hp} : ∀ {ts : List Addr} {ps : List (Int × Int)}, Paired (fun (t : Addr) (q : Int × Int) => H t = some (.tup [.int q.1, .int q.2])) ts ps → RVs W ι H (ts.map V.ref) (ps.map pairP)
  | _, _, .nil => .nil
  | _, _, .cons h t => .cons (.tup (.inl (.inl h)) (.cons (.int _) (.cons (.int _) .nil)) (by simp)) (rv_pairs t)
theorem dl_sortIt (h : DE X W k E e d) (hm : W.mg "sorted" = none) (hg : Gl X "sorted" := by rfl) (hbase : attributeBase e "items" X.env (eval e X.env) = eval e X.env := by rfl) (hline : (apos.endLine == cpos.line) = true := by rfl)
    (hs : starEach [.Call (.Attribute e "items" apos) [] [] cpos] X.env = (false, eval (.Call (.Attribute e "items" apos) [] [] cpos) X.env) :: starEach [] X.env := by rfl) :
    DL X W k E (.Call (.Name "sorted" p) [.Call (.Attribute e "items" apos) [] [] cpos] [] pos) (fun ρ => bnd (d ρ) fun q => bnd (dctM q) sortItQ) :=
  ⟨fun o => pe_imp (pe_sortIt o.hc (h.run o) hg (by rw [o.hM]; exact hm) hbase hline hs) fun σ H Q t => by
    obtain ⟨ι, ρ, st, re, rs, g⟩ := t
    refine ⟨ι, ρ, st, re, rs, Good.imp (Good.bind g) fun q st1 ι1 H1 m1 r1 g1 x hx => ?_⟩
    obtain ⟨a, ks, l, rfl, hd, r, g2⟩ := dct_of r1 hx g1
    have g3 : Good W E ι1 H1 (match pairsOf l with | some ps => if ps.length ≤ 16777216 then .ok ((ordPP ps).map pairP) st1 else .stuck | none => .stuck) (kL W H Q) := g2
    cases hns : pairsOf l with
    | none => rw [hns] at g3; exact g3.elim
    | some ps =>
      rw [hns] at g3
      obtain ⟨hc, g4⟩ := good_if g3
      have e := pairsOf_some hns
      subst e
      have e2 := rks_pairs r
      subst e2
      refine ⟨a, ps, rfl, hd, fun H' L ts hk hn hL hat hp => ?_⟩
      have m : Mono ι1 H1 ι1 H' := ⟨fun _ _ h => h, fun _ h n => absurd h n, fun a u h _ => ⟨u, hk a u h, Kp.refl u⟩⟩
      have r2 : RS W ι1 st1 H' := ⟨r1.len, r1.nd, fun n u b h1 h2 => by
        have rr := r1.ob n u b h1 h2
        obtain ⟨y, e, _⟩ := rr.there
        exact RO.mono r1 m ((hk b y e).trans e.symm) rr, tab_mono r1 m, tl_keep r1.tl fun b o e _ => hk b o e⟩
      have hLn : H1 L = none := hn L (List.mem_cons_self ..)
      refine (g4.shift m) ι1 H' Mono.refl r2 L (ts.map V.ref) (none_back rs m1 r1.some_ hLn) (fun z => ?_) hat (rv_pairs hp) ?_
      · exact r1.some_ L z hLn
      · rw [List.length_map]
        unfold ordPP
        rw [List.length_mergeSort]
        exact hc⟩
end
end PD
/-! PD: a, b, .. = x, x a list. -/
namespace PD
open PySem PySem.Spec PyProof.Rows L2
section
variable {X : Cx} {W : Wd} {k : Nat} {E : XK} {es : List Expr} {gs : List PV → Env → Mo Env} {pos : Pos}
def gTpL (n : Nat) (gs : List PV → Env → Mo Env) : PV → Env → Mo Env := fun q ρ st => match q with
  | .loc m => match st[m]? with
    | some (.lst _ l) => if l.length = n then gs l ρ st else .stuck
    | _ => .stuck
  | _ => .stuck
theorem dg_tupL {x1 n : Nat} (h : DGs X W k E es gs) (hn : (assignEach es X.env).length = n := by rfl) (hst : (assignEach es X.env).findIdx? (·.1) = none := by rfl) : DG X W k E (.Tuple es x1 pos) (gTpL n gs) := ⟨fun o => pg_imp (pg_unl o.hc (h.run o) hn hst) fun v σ H Q t => by
  obtain ⟨ι, ρ, st, q, re, rs, r, g⟩ := t
  cases r <;> try exact g.elim
  rename_i m a hm
  unfold gTpL at g
  dsimp only at g
  cases q : st[m]? with
  | none => rw [q] at g; exact g.elim
  | some ob =>
    rw [q] at g
    cases ob with
    | dct _ _ => exact g.elim
    | sti _ => exact g.elim
    | lst lk l =>
      obtain ⟨vs, sq, rr, _⟩ := ro_sql (rs.ob m _ a q hm)
      obtain ⟨hc, g1⟩ := good_if g
      exact ⟨a, vs, rfl, by rw [o.hK]; exact sq, by rw [rr.length]; exact hc, ι, ρ, st, l, re, rs, rr, g1⟩⟩
@[simp] theorem e_gTpL {n m : Nat} {gs : List PV → Env → Mo Env} {ρ : Env} {st : Sto} : gTpL n gs (.loc m) ρ st = match st[m]? with | some (.lst _ l) => if l.length = n then gs l ρ st else .stuck | _ => .stuck := rfl
end
end PD
/-! PD: sorted(xs) of plain data, any length; list(range(n)). -/
namespace PD
open PySem PySem.Spec PyProof.Rows L2
section
variable {X : Cx} {pins : List (Addr × Obj)} {σ : L2.St} {H : Hp} {s : Shared}
def AtV (vs : List V) (v : Value) (i : Nat) : Prop := ∃ x, vs[i]? = some x ∧ RelV x v
theorem each_vals {vs : List V} : ∀ (l : List Value) (n0 : Nat), (∀ (i : Nat) v, l[i]? = some v → AtV vs v (n0 + i)) → PySem.W.EachIs (AtV vs) l (List.range' n0 l.length)
  | [], _, _ => .nil
  | v :: l, n0, h => by
    rw [List.length_cons, List.range'_succ]
    refine .cons (h 0 v rfl) (each_vals l (n0 + 1) fun i u hu => ?_)
    have := h (i + 1) u hu
    rw [show n0 + (i + 1) = n0 + 1 + i by omega] at this
    exact this
theorem each_all {vs : List V} {its : List Value} (r : Vals vs its) : PySem.W.EachIs (AtV vs) its (List.range vs.length) := by
  have e := each_vals (vs := vs) its 0 fun i v hv => by
    have hi : i < vs.length := by rw [r.length]; exact (List.getElem?_eq_some_iff.mp hv).1
    obtain ⟨u, h1, h2⟩ := Vals.get r (List.getElem?_eq_getElem hi)
    rw [hv] at h1
    cases h1
    exact ⟨vs[i], by rw [Nat.zero_add]; exact List.getElem?_eq_getElem hi, h2⟩
  rw [← List.range_eq_range', ← r.length] at e
  exact e
theorem vals_ix {vs : List V} {ix : List Nat} {out : List Value} (h : PySem.W.EachIs (AtV vs) out ix) : Vals (ix.map fun i => vs.getD i .non) out := by
  induction h with
  | nil => exact .nil
  | cons h t ih =>
    obtain ⟨x, e, r⟩ := h
    refine .cons ?_ ih
    show RelV (vs.getD _ .non) _
    rw [List.getD_eq_getElem?_getD, e]
    exact r
theorem depth_mem : ∀ (ds : List PyData) (d : PyData), d ∈ ds → d.depth ≤ PyData.depthAll ds
  | [], d, hd => by cases hd
  | d0 :: ds, d, hd => by
    simp only [PyData.depthAll]
    rcases List.mem_cons.mp hd with z | z
    · rw [z]; omega
    · have := depth_mem ds d z; omega
def rSortAny (K : PySem.W.Frag) : List V → Hp → VK → Prop := fun args H Q => ∃ (a : Addr) (vs : List V) (ps : List PV), args = [V.ref a] ∧ SqL K H a vs ∧ DpAll K H vs (toDs ps) ∧ vs.length = ps.length ∧ ps.length ≤ 16777216 ∧ okds 50 ps = true ∧ PySem.W.AllAlike (toDs ps) ∧ PySem.W.Sortable (toDs ps) ∧
  ∀ nl, H nl = none → Q (.ref nl) (upd H nl (.lst ((sortIx ps).map fun i => vs.getD i .non)))
theorem cr_sortAny (hr : Room 2 X.A) (hc : X.calm = true) : CallR X (.builtin "sorted") (rSortAny X.K) := by
  intro pins s σ H args us Q I r h
  obtain ⟨a, vs, ps, rfl, hs, hdp, hvl, hpl, hok, hal, hso, q⟩ := h
  obtain ⟨its, rv, hl, hz⟩ := I.list hs
  rw [Vals.ref1 r]
  have hkeys : (List.range vs.length).map (fun i => (toDs ps).getD i .none) = toDs ps := by
    have e := map_getD PyData.none (toDs ps)
    rw [toDs_length, ← hvl] at e
    exact e
  refine PySem.W.sorted_data (R := AtV vs) (enc := fun i => (toDs ps).getD i .none) (bs := List.range vs.length) (vs := its) hl.isList (each_all rv) ((each_all rv).mono ?rd) (by rw [hkeys]; exact hal) (by rw [hkeys]; exact hso) (by rw [List.length_range, hvl, sizeLine_eq]; exact hpl) ?un fun out hol eo => ?fin
  case rd =>
    intro v i hv
    obtain ⟨x, e, rx⟩ := hv
    exact Dp.reads I _ _ v (dps_get hdp e) rx
  case un =>
    intro x hx
    have h9 : (toDs ps).getD x .none ∈ toDs ps := by
      have hx' : x < (toDs ps).length := by rw [toDs_length, ← hvl]; exact List.mem_range.mp hx
      rw [List.getD_eq_getElem?_getD, List.getElem?_eq_getElem hx']
      exact List.getElem_mem hx'
    have d1 := (okds_plain 50 ps hok).2
    have := depth_mem _ _ h9
    have := hr.un
    omega
  case fin =>
    have e9 : (List.range vs.length).mergeSort (PySem.W.dataLe false fun i => (toDs ps).getD i .none) = sortIx ps := by unfold sortIx; rw [hvl]
    rw [e9] at eo
    have ev := vals_ix eo
    obtain ⟨ep, he'⟩ := PyProof.Rows.sortedAll_at s.heap its (List.toArray out)
    have hlen : ((sortIx ps).map fun i => vs.getD i .non).length ≤ sizeLine := by
      rw [ev.length, hol, List.length_range, hvl, sizeLine_eq]
      exact hpl
    exact ⟨.ref _, upd H (s.heap.objs.size + 1) (.lst ((sortIx ps).map fun i => vs.getD i .non)), I.laid (t' := s.toks) (fun _ _ => PyProof.Rows.sortedAll_old) (Nat.le_succ _) ⟨hlen, out, ep, ev, he'⟩, rfl, q _ (I.hok.fresh (Nat.le_succ _))⟩
end
def intB : List PV → Bool
  | [] => true
  | .int _ :: l => intB l
  | _ => false
theorem intB_ok : ∀ l : List PV, intB l = true → ∀ d, d ∈ toDs l → ∃ i, d = .int i
  | [], _, d, hd => by rw [toDs] at hd; cases hd
  | .int a :: l, h, d, hd => by
    rw [toDs] at hd
    rcases List.mem_cons.mp hd with z | z
    · rw [z, toD]; exact ⟨_, rfl⟩
    · exact intB_ok l h d z
  | .tup _ :: l, h, _, _ => by cases h
  | .non :: l, h, _, _ => by cases h
  | .bl _ :: l, h, _, _ => by cases h
  | .str _ :: l, h, _, _ => by cases h
  | .loc _ :: l, h, _, _ => by cases h
  | .fn _ :: l, h, _, _ => by cases h
  | .kl _ :: l, h, _, _ => by cases h
  | .clo _ :: l, h, _, _ => by cases h
  | .pst _ :: l, h, _, _ => by cases h
theorem srt_ok {l : List PV} (h : (tupB l || intB l) = true) : PySem.W.Sortable (toDs l) := by
  rw [Bool.or_eq_true] at h
  rcases h with h | h
  · exact .inl (tupB_ok l h)
  · refine .inr fun d hd => ?_
    obtain ⟨i, rfl⟩ := intB_ok l h d hd
    exact ⟨nofun, nofun⟩
/-- sorted, by the order of data -/
def sortP (l : List PV) : List PV := (sortIx l).map fun i => l.getD i .non
def sortLQ (l : List PV) : Mo (List PV) := fun st => if okds 50 l = true ∧ alkB l = true ∧ (tupB l || intB l) = true then .ok (sortP l) st else .stuck
theorem sortIx_len (l : List PV) : (sortIx l).length = l.length := by unfold sortIx; rw [List.length_mergeSort, List.length_range]
theorem sortIx_lt {l : List PV} {i : Nat} (h : i ∈ sortIx l) : i < l.length := by
  unfold sortIx at h
  exact List.mem_range.mp ((List.mergeSort_perm _ _).mem_iff.mp h)
theorem rvs_at {W : Wd} {ι : List Addr} {H : Hp} : ∀ {vs : List V} {l : List PV} {i : Nat}, RVs W ι H vs l → i < l.length → RV W ι H (vs.getD i .non) (l.getD i .non)
  | _, _, 0, .cons h _, _ => h
  | _, _, i + 1, .cons _ t, hi => by
    have := rvs_at (i := i) t (by simpa using hi)
    simpa using this
theorem rvs_ix {W : Wd} {ι : List Addr} {H : Hp} {vs : List V} {l : List PV} (r : RVs W ι H vs l) : ∀ {ix : List Nat}, (∀ i ∈ ix, i < l.length) → RVs W ι H (ix.map fun i => vs.getD i .non) (ix.map fun i => l.getD i .non)
  | [], _ => .nil
  | i :: ix, h => .cons (rvs_at r (h i (List.mem_cons_self ..))) (rvs_ix r fun j hj => h j (List.mem_cons_of_mem _ hj))
section
variable {X : Cx} {W : Wd} {k : Nat} {E : XK} {a : Expr} {d : Env → Mo PV} {dl : Env → Mo (List PV)} {p pos : Pos}
theorem alkB_ok {l : List PV} (h : alkB l = true) : PySem.W.AllAlike (toDs l) := fun d hd d' hd' => List.all_eq_true.mp (List.all_eq_true.mp h d hd) d' hd'
theorem dl_sortL (h : DL X W (k + 2) E a dl) (hm : W.mg "sorted" = none) (hg : Gl X "sorted" := by rfl) (hs : starEach [a] X.env = (false, eval a X.env) :: starEach [] X.env := by rfl) : DL X W (k + 2) E (.Call (.Name "sorted" p) [a] [] pos) (fun ρ => bnd (dl ρ) sortLQ) :=
  ⟨fun o => pe_imp (pe_callB (cr_sortAny (X := X) (o.room.mono (by omega)) o.hc) hg (by rw [o.hM]; exact hm) PyProof.Rows.boot_sorted (pa_cons (h.run o) pa_nil hs) (by decide) (by decide) hs (by rfl)) fun σ H Q t => by
    obtain ⟨ι, ρ, st, re, rs, g⟩ := t
    refine ⟨ι, ρ, st, re, rs, Good.imp (Good.bind g) fun l st1 ι1 H1 m1 r1 g1 q vs h0 hn he rr hz => ?_⟩
    have g2 : Good W E ι1 H1 (if okds 50 l = true ∧ alkB l = true ∧ (tupB l || intB l) = true then .ok (sortP l) st1 else .stuck) (kL W H Q) := g1
    obtain ⟨⟨h1, h2, h3⟩, g3⟩ := good_if g2
    refine ⟨q, vs, l, rfl, .inl (.inl he), by rw [o.hK]; exact dps_of 50 l vs h1 rr, rr.length, hz, h1, alkB_ok h2, srt_ok h3, fun nl hnl => ?_⟩
    exact good_newlst g3 r1 (rvs_ix rr fun i hi => sortIx_lt hi) (by unfold sortP; rw [List.length_map, sortIx_len]; exact hz) hnl (none_back rs m1 r1.some_ hnl)⟩
/-- .. of a list that the store tells -/
theorem dl_sortV (h : DE X W (k + 2) E a d) (hm : W.mg "sorted" = none) (hg : Gl X "sorted" := by rfl) (hs : starEach [a] X.env = (false, eval a X.env) :: starEach [] X.env := by rfl) : DL X W (k + 2) E (.Call (.Name "sorted" p) [a] [] pos) (fun ρ => bnd (d ρ) fun q => bnd (lstM q) sortLQ) :=
  ⟨fun o => pe_imp (pe_callB (cr_sortAny (X := X) (o.room.mono (by omega)) o.hc) hg (by rw [o.hM]; exact hm) PyProof.Rows.boot_sorted (pa_cons (h.run o) pa_nil hs) (by decide) (by decide) hs (by rfl)) fun σ H Q t => by
    obtain ⟨ι, ρ, st, re, rs, g⟩ := t
    refine ⟨ι, ρ, st, re, rs, Good.imp (Good.bind g) fun q st1 ι1 H1 m1 r1 g1 v hv => ?_⟩
    obtain ⟨a, vs, l, rfl, sq, rr, hz, g2⟩ := lst_of (α := List PV) r1 hv (Good.bind g1)
    have g2 : Good W E ι1 H1 (if okds 50 l = true ∧ alkB l = true ∧ (tupB l || intB l) = true then .ok (sortP l) st1 else .stuck) (kL W H Q) := g2
    obtain ⟨⟨h1, h2, h3⟩, g3⟩ := good_if g2
    refine ⟨a, vs, l, rfl, by rw [o.hK]; exact sq, by rw [o.hK]; exact dps_of 50 l vs h1 rr, rr.length, hz, h1, alkB_ok h2, srt_ok h3, fun nl hnl => ?_⟩
    exact good_newlst g3 r1 (rvs_ix rr fun i hi => sortIx_lt hi) (by unfold sortP; rw [List.length_map, sortIx_len]; exact hz) hnl (none_back rs m1 r1.some_ hnl)⟩
/-! ### list(range(n)) -/
def lrgQ : PV → Mo (List PV)
  | .int j => fun st => if j ≤ 16777216 ∧ -16777216 ≤ j then .ok (rgP 0 j.toNat) st else .stuck
  | _ => fail
theorem dl_listR {da : Env → Mo PV} {p3 pos3 : Pos} (h : DE X W k E a da) (hm : W.mg "list" = none) (hm2 : W.mg "range" = none) (hg : Gl X "list" := by rfl) (hg2 : Gl X "range" := by rfl) (hs : starEach [a] X.env = (false, eval a X.env) :: starEach [] X.env := by rfl)
    (hs2 : starEach [.Call (.Name "range" p3) [a] [] pos3] X.env = (false, eval (.Call (.Name "range" p3) [a] [] pos3) X.env) :: starEach [] X.env := by rfl) :
    DL X W k E (.Call (.Name "list" p) [.Call (.Name "range" p3) [a] [] pos3] [] pos) (fun ρ => bnd (da ρ) lrgQ) := ⟨fun o => pe_imp (pe_listRg o.hc hg (by rw [o.hM]; exact hm) (prg_1 hg2 (by rw [o.hM]; exact hm2) (h.run o) hs) hs2) fun σ H Q t => by
  obtain ⟨ι, ρ, st, re, rs, g⟩ := t
  refine ⟨ι, ρ, st, re, rs, Good.imp (Good.bind g) fun q st1 ι1 H1 m1 r1 g1 v hv => ?_⟩
  cases hv <;> try exact g1.elim
  rename_i j
  obtain ⟨hc, g2⟩ := good_if g1
  refine ⟨j, rfl, ⟨by omega, by omega, by omega, by omega, by omega⟩, fun np hnp => ?_⟩
  have e : rgV 0 j = rgV 0 (j.toNat : Int) := by
    unfold rgV
    have : (j - 0).toNat = ((j.toNat : Int) - 0).toNat := by omega
    rw [this]
  rw [e]
  exact good_newlst g2 r1 rvs_rg (by unfold rgP; rw [List.length_map, List.length_range]; omega) hnp (none_back rs m1 r1.some_ hnp)⟩
end
end PD
/-! PD: comprehensions with two sources. -/
namespace PD
open PySem PySem.Spec PyProof.Rows L2
section
variable {X : Cx} {W : Wd} {k : Nat} {E : XK} {pos : Pos} {d : Env → Mo PV} {dt dt1 : Env → Mo Bool}
def accM (n : Nat) (y : PV) : Mo Unit := fun st => match st[n]? with
  | some (.lst false l) => if l.length < 16777216 then .ok () (st.set n (.lst false (l ++ [y]))) else .stuck
  | _ => .stuck
open Classical in
noncomputable def lgF (pt : Pt) (dt : Env → Mo Bool) (d : Env → Mo PV) (chk : Sto → Prop) (n : Nat) (ρ : Env) : List PV → Mo Unit
  | [] => fun st => if chk st then .ok () st else .stuck
  | q :: qs => fun st => if chk st then (match Pt.go pt q ρ with
    | none => .stuck
    | some ρ1 => bnd (nox (dt ρ1)) (fun b => if b = true then bnd (nox (d ρ1)) (fun y => bnd (accM n y) fun _ => lgF pt dt d chk n ρ qs) else lgF pt dt d chk n ρ qs) st) else .stuck
open Classical in
noncomputable def lhF (pt : Pt) (dt : Env → Mo Bool) (ds1 : Env → Mo Src) (pt1 : Pt) (dt1 : Env → Mo Bool) (d : Env → Mo PV) (vs1 : List Nat) (chk : Sto → Prop) (n : Nat) (ρ : Env) : List PV → Mo Unit
  | [] => fun st => if chk st then .ok () st else .stuck
  | q :: qs => fun st => if chk st then (match Pt.go pt q ρ with
    | none => .stuck
    | some ρ1 => bnd (nox (dt ρ1)) (fun b => if b = true then bnd (nox (ds1 ρ1)) (fun S1 => bnd (lgF pt1 dt1 d S1.chk n (wipeE ρ1 vs1) S1.l) fun _ => lhF pt dt ds1 pt1 dt1 d vs1 chk n ρ qs) else lhF pt dt ds1 pt1 dt1 d vs1 chk n ρ qs) st) else .stuck
noncomputable def dLc2 (ds : Env → Mo Src) (pt : Pt) (dt : Env → Mo Bool) (ds1 : Env → Mo Src) (pt1 : Pt) (dt1 : Env → Mo Bool) (d : Env → Mo PV) (vs vs1 : List Nat) : Env → Mo PV :=
  fun ρ => bnd (ds ρ) fun S => fun st => bnd (lhF pt dt ds1 pt1 dt1 d vs1 S.chk st.length (wipeE ρ vs) S.l) (fun _ st' => .ok (.loc st.length) st') (st ++ [.lst false []])
open Classical in
theorem lc2_of {pt pt1 : Pt} {ds ds1 : Env → Mo Src} {vs vs1 : List Nat} {σ : L2.St} {H : Hp} {Q : VK} (t : tD W E (dLc2 ds pt dt ds1 pt1 dt1 d vs vs1) σ H Q) : tLc2 (tDI W E ds) (tDP W pt vs) (tDT W E0 dt) (tDI W E0 ds1) (tDP W pt1 vs1) (tDT W E0 dt1) (tD W E0 d) vs vs1 σ H Q := by
  obtain ⟨ι, ρ, st, re, rs, g⟩ := t
  refine ⟨ι, ρ, st, re, rs, Good.imp (Good.bind g) fun S st1 ι1 H1 m1 r1 g1 J H1' mn r1' jo D hD => ?_⟩
  have re1 := (re.mono rs m1).mono r1 mn
  obtain ⟨rL, mL⟩ := rs_lay (u := .lst []) (o := .lst false []) r1' hD ⟨[], upd_same, .nil, Nat.zero_le _⟩
  have g2 : Good W E (ι1 ++ [D]) (upd H1' D (.lst [])) (bnd (lhF pt dt ds1 pt1 dt1 d vs1 S.chk st1.length (wipeE ρ vs) S.l) (fun _ st' => .ok (.loc st1.length) st') (st1 ++ [.lst false []])) (kQ W Q) := (g1.shift mn).shift mL
  have g3 := Good.bind g2
  have hlen := r1'.len
  have hnD : (ι1 ++ [D])[st1.length]? = some D := by rw [← hlen]; simp
  let n := st1.length
  let k0 : Unit → Sto → List Addr → Hp → Prop := fun _ st ι H => Good W E ι H (.ok (.loc n) st) (kQ W Q)
  let S0 := fun (i : Nat) (H' : Hp) => ∃ ι' st', RE W ι' H' ρ σ ∧ RS W ι' st' H' ∧ Mono ι1 H1' ι' H' ∧ ι'[n]? = some D ∧ Good W E ι' H' (lhF pt dt ds1 pt1 dt1 d vs1 S.chk n (wipeE ρ vs) (S.l.drop i) st') k0
  refine ⟨fun i m H' => m = S.l.length - i ∧ S0 i H', ⟨_, rfl, ι1 ++ [D], _, re1.mono r1' mL, rL, mL, hnD, g3⟩, ?_⟩
  rintro i m H' ⟨rfl, ι2, st2, re2, r2, m2, hn2, g4⟩
  by_cases hi : i < S.l.length
  · have hq : S.l[i]? = some S.l[i] := List.getElem?_eq_getElem hi
    rw [List.drop_eq_getElem_cons hi] at g4
    unfold lhF at g4
    obtain ⟨hc, g5⟩ := good_if g4
    obtain ⟨hgo, hy⟩ := (jo ι2 H' st2 m2 r2 hc i).1 _ hq
    refine .inr ⟨hgo, S0 (i + 1), fun H'' z => ⟨S.l.length - (i + 1), by omega, rfl, z⟩, fun x H'' y => ?_⟩
    obtain ⟨m3, r3, rv⟩ := hy x H'' y
    cases hp : Pt.go pt S.l[i] (wipeE ρ vs) with
    | none => rw [hp] at g5; exact g5.elim
    | some ρ1 =>
      rw [hp] at g5
      have re3 := re2.mono r2 m3
      have g6 := Good.shift g5 m3
      refine ⟨ι2, wipeE ρ vs, st2, _, re3.wipe vs, r3, rv, ρ1, hp, fun σ' re' hw => ⟨hw.trans (wipe_idem vs vs fun _ z => z), ?_⟩⟩
      refine ⟨ι2, ρ1, st2, re', r3, Good.imp (Good.nox g6) fun b st4 ι4 H4 m4 r4 g7 => ?_⟩
      have re4 := re2.mono r2 (m3.trans m4)
      have hn4 := (m3.trans m4).pre _ _ hn2
      cases b with
      | false => exact ⟨ι4, st4, re4, r4, m2.trans (m3.trans m4), hn4, g7⟩
      | true =>
        show ite (true = true) _ _
        rw [if_pos rfl] at g7 ⊢
        refine ⟨ι4, ρ1, st4, re'.mono r3 m4, r4, Good.imp (Good.nox g7) fun S1 st5 ι5 H5 m5 r5 g8 J1 H5' mn5 r5' jo1 => ?_⟩
        have re5 := (re4.mono r4 m5).mono r5 mn5
        have re5' := ((re'.mono r3 m4).mono r4 m5).mono r5 mn5
        have g9 := Good.bind (Good.shift g8 mn5)
        let k1 : Unit → Sto → List Addr → Hp → Prop := fun _ st ι H => Good W E ι H (lhF pt dt ds1 pt1 dt1 d vs1 S.chk n (wipeE ρ vs) (S.l.drop (i + 1)) st) k0
        let S2 := fun (j : Nat) (H' : Hp) => ∃ ι' st', RE W ι' H' ρ σ ∧ RE W ι' H' ρ1 σ' ∧ RS W ι' st' H' ∧ Mono ι1 H1' ι' H' ∧ Mono ι5 H5' ι' H' ∧ ι'[n]? = some D ∧ Good W E ι' H' (lgF pt1 dt1 d S1.chk n (wipeE ρ1 vs1) (S1.l.drop j) st') k1
        refine ⟨fun j k H' => k = S1.l.length - j ∧ S2 j H', ⟨_, rfl, ι5, st5, re5, re5', r5', m2.trans (m3.trans (m4.trans (m5.trans mn5))), Mono.refl, mn5.pre _ _ (m5.pre _ _ hn4), g9⟩, ?_⟩
        rintro j k H6 ⟨rfl, ι6, st6, re6, re6', r6, m6, m6', hn6, h1⟩
        by_cases hj : j < S1.l.length
        · have hq1 : S1.l[j]? = some S1.l[j] := List.getElem?_eq_getElem hj
          rw [List.drop_eq_getElem_cons hj] at h1
          unfold lgF at h1
          obtain ⟨hc1, h2⟩ := good_if h1
          obtain ⟨hgo1, hy1⟩ := (jo1 ι6 H6 st6 m6' r6 hc1 j).1 _ hq1
          refine .inr ⟨hgo1, S2 (j + 1), fun H'' z => ⟨S1.l.length - (j + 1), by omega, rfl, z⟩, fun x1 H7 y1 => ?_⟩
          obtain ⟨m7, r7, rv1⟩ := hy1 x1 H7 y1
          cases hp1 : Pt.go pt1 S1.l[j] (wipeE ρ1 vs1) with
          | none => rw [hp1] at h2; exact h2.elim
          | some ρ2 =>
            rw [hp1] at h2
            have h3 := Good.shift h2 m7
            refine ⟨ι6, wipeE ρ1 vs1, st6, _, (re6'.mono r6 m7).wipe vs1, r7, rv1, ρ2, hp1, fun σ2 re'' hw2 => ⟨hw2.trans (wipe_idem vs1 vs1 fun _ z => z), ?_⟩⟩
            refine ⟨ι6, ρ2, st6, re'', r7, Good.imp (Good.nox h3) fun b1 st8 ι8 H8 m8 r8 h4 => ?_⟩
            have mm8 := m7.trans m8
            have re8 := re6.mono r6 mm8
            have re8' := re6'.mono r6 mm8
            have hn8 := mm8.pre _ _ hn6
            cases b1 with
            | false => exact ⟨ι8, st8, re8, re8', r8, m6.trans mm8, m6'.trans mm8, hn8, h4⟩
            | true =>
              show ite (true = true) _ _
              rw [if_pos rfl] at h4 ⊢
              refine ⟨ι8, ρ2, st8, re''.mono r7 m8, r8, Good.imp (Good.nox h4) fun y st9 ι9 H9 m9 r9 h5 yv hyv => ?_⟩
              have mm9 := mm8.trans m9
              have hn9 := m9.pre _ _ hn8
              have h6 := Good.bind h5
              unfold accM at h6
              cases qn : st9[n]? with
              | none => rw [qn] at h6; exact h6.elim
              | some ob =>
                rw [qn] at h6
                cases ob with
                | sti l => exact h6.elim
                | dct lk l => exact h6.elim
                | lst lk l =>
                  cases lk with
                  | true => exact h6.elim
                  | false =>
                    obtain ⟨hl, h7⟩ := good_if h6
                    obtain ⟨av, e9, ra, hz⟩ := r9.ob n _ D qn hn9
                    refine ⟨av, e9, by rw [ra.length, sizeLine_eq]; exact hl, ?_⟩
                    have hin : D ∈ ι9 := List.mem_of_getElem? hn9
                    have mu : Mono ι9 H9 ι9 (upd H9 D (.lst (av ++ [yv]))) := Mono.mut hin
                    have ra2 : RVs W ι9 (upd H9 D (.lst (av ++ [yv]))) (av ++ [yv]) (l ++ [y]) := rvs_mono r9 mu _ _ (ra.append (.cons hyv .nil))
                    have r10 := r9.upd (ho := .lst (av ++ [yv])) (o := .lst false (l ++ [y])) hn9 ⟨_, upd_same, ra2, by rw [List.length_append, List.length_singleton]; exact hl⟩
                    have mm := mm9.trans mu
                    exact ⟨ι9, _, re6.mono r6 mm, re6'.mono r6 mm, r10, m6.trans mm, m6'.trans mm, hn9, (Good.shift h7 mu).ok r10⟩
        · have hl : S1.l.length ≤ j := by omega
          rw [List.drop_of_length_le hl] at h1
          unfold lgF at h1
          obtain ⟨hc1, h2⟩ := good_if h1
          exact .inl ⟨(jo1 ι6 H6 st6 m6' r6 hc1 j).2 hl, ι6, st6, re6, r6, m6, hn6, h2.ok r6⟩
  · have hl : S.l.length ≤ i := by omega
    rw [List.drop_of_length_le hl] at g4
    unfold lhF at g4
    obtain ⟨hc, g5⟩ := good_if g4
    have g6 : Good W E ι2 H' (.ok (.loc n) st2) (kQ W Q) := g5.ok r2
    exact .inl ⟨(jo ι2 H' st2 m2 r2 hc i).2 hl, g6.ok r2 _ (.loc hn2)⟩
theorem de_lc2 {elt tg iter tg1 iter1 : Expr} {ifs ifs1 : List Expr} {scope : Scope} {own : List (Str × Nat)} {vs1 : List Nat} {ds ds1 : Env → Mo Src} {pt pt1 : Pt} (hi : DI X W k E tg iter ds) (ok : BlkOk X.N X.env.scope scope own) (hg : Bk X scope fun Y => DP Y W (own.map (·.2)) tg pt) (ht : Bk X scope fun Y => DTs Y W k E0 ifs dt)
    (hi1 : Bk X scope fun Y => DI Y W k E0 tg1 iter1 ds1) (hg1 : Bk X scope fun Y => DP Y W vs1 tg1 pt1) (ht1 : Bk X scope fun Y => DTs Y W k E0 ifs1 dt1)
    (he : Bk X scope fun Y => DE Y W k E0 elt d) (hv : ∀ i ∈ vs1, i ∈ own.map (·.2) := by decide) (hs : ∀ x, foldedSetIterable iter X.env x = pure x := by intro _; rfl) (hs1 : ∀ env x, foldedSetIterable iter1 env x = pure x := by intro _ _; rfl) :
    DE X W k E (.ListComp elt [⟨tg, iter, ifs, 0⟩, ⟨tg1, iter1, ifs1, 0⟩] scope pos) (dLc2 ds pt dt ds1 pt1 dt1 d (own.map (·.2)) vs1) := ⟨fun o =>
  pe_imp (pe_lc2 o.hc o.nd (hi.run o) ok hv (fun s H C cl fp => (hg s H C cl fp).run o.hK o.nd o.hc) (fun s H C cl fp => (ht s H C cl fp).run (o.blk s H scope _ fp)) (fun s H C cl fp => (hi1 s H C cl fp).run (o.blk s H scope _ fp)) (fun s H C cl fp => (hg1 s H C cl fp).run o.hK o.nd o.hc)
    (fun s H C cl fp => (ht1 s H C cl fp).run (o.blk s H scope _ fp)) (fun s H C cl fp => (he s H C cl fp).run (o.blk s H scope _ fp)) hs hs1) fun _ _ _ t => lc2_of t⟩
end
end PD
/-! PD: sets of tuples of ints: set(t) of a tuple, x in s. -/
namespace HT
open PySem PySem.Spec PyProof.Rows L2
section
variable {P : Program} {w : World} {A : Around} {E : Value → Shared → Prop} {s : Shared}
variable {a : Addr} {L : List (Addr × List Int)} {es : Array (Int × Value)} {ep : Nat} {t : SetTable} {x : Addr} {k : List Int}
/-- the start of the way of k in the table t -/
abbrev st0 (P : Program) (w : World) (t : SetTable) (k : List Int) : SetTable.Probe := runAt t.mask (SetTable.bits (thash P w k) % (t.mask + 1)) (SetTable.bits (thash P w k))
theorem nth_dummy (m : Nat) : ∀ (n : Nat) (p : SetTable.Probe), p.dummy = none → (nth m p n).dummy = none
  | 0, _, h => h
  | n + 1, p, h => nth_dummy m n (adv m p) (by unfold adv; split <;> exact h)
theorem at_way (t : SetTable) (k : List Int) (c q : Nat) : (nth t.mask (nth t.mask (st0 P w t k) c) q).j = way t.mask (thash P w k) (c + q) := congrArg SetTable.Probe.j (nth_add t.mask c _ q).symm
/-- what is asked of a candidate -/
theorem look_rest (R : SetTR P w s.heap a L es ep t) (hx : IsT P w s.heap k x) (hu : A.units < cLine) {f j i : Nat} {next : SetTable.Probe} {p : Addr × List Int} {Q : SetFound → Shared → Prop} (hp : L[i]? = some p) (hj : t.place.toList[i]? = some j)
    (hin : p.2 = k → Q (.there (some i)) s) (hno : p.2 ≠ k → wpAny (model P w) A (setSearchFrom a (.ref x) (thash P w k) false f (some next)) Q E s) :
    wpAny (model P w) A (searchRest a (.ref x) (thash P w k) false f es t j i next) Q E s := by
  obtain ⟨o, ho, hex, hd⟩ := R.ob
  have hpt := R.tup p (List.mem_of_getElem? hp)
  have hsl : t.slot j = .live i := slot_live R.tab.ris hj
  unfold searchRest
  rw [R.entry hp]
  dsimp only
  refine wpAny_bind (wpAny_holding (wpAny_eqBool_tuple hu hpt hx ?_))
  refine wpAny_bind (wpAny_setState_of ho hd R.fits ?_)
  dsimp only
  refine wp_if_neg (by simp) ?_
  try refine wpAny_bind (wpAny_pure ?_)
  rw [sameMem]
  dsimp only
  simp only [if_true, hsl, R.entry hp]
  refine wpAny_bind (wpAny_isSame_ref_self (wpAny_bind (wpAny_pure ?_)))
  simp only [if_true]
  by_cases h : p.2 = k
  · refine wp_if_pos (by simp [h]) ?_
    exact wpAny_pure (hin h)
  · refine wp_if_neg (by simp [h]) ?_
    exact hno h
/-- from the c-th step of the way on -/
theorem look_from (R : SetTR P w s.heap a L es ep t) (hx : IsT P w s.heap k x) (hu : A.units < cLine) {K : Nat} (hKf : K < 10 * SetTable.turns t.mask)
    (hK : way t.mask (thash P w k) K ∉ t.place.toList) (hKb : ∀ c, c < K → way t.mask (thash P w k) c ∈ t.place.toList) {Q : SetFound → Shared → Prop}
    (hin : k ∈ L.map (·.2) → ∀ i, Q (.there (some i)) s) (hout : k ∉ L.map (·.2) → ∀ j d, Q (.free j d) s) :
    ∀ (f c : Nat) (stand : Option SetTable.Probe), stand.getD (t.probeStart (thash P w k)) = nth t.mask (st0 P w t k) c → c ≤ K → K - c < f →
      (∀ (i : Nat) p, L[i]? = some p → p.2 = k → ∃ c', c ≤ c' ∧ c' < K ∧ t.place.toList[i]? = some (way t.mask (thash P w k) c')) →
      wpAny (model P w) A (setSearchFrom a (.ref x) (thash P w k) false f stand) Q E s := by
  intro f
  induction f with
  | zero => exact fun c _ _ _ hf => absurd hf (Nat.not_lt_zero _)
  | succ f ih =>
    intro c stand hst hc hf hre
    obtain ⟨o, ho, hex, hd⟩ := R.ob
    have hsz : t.place.toList.length = L.length := by
      have h2 := R.tab.sz
      rw [List.length_map] at h2
      rw [Array.length_toList]
      exact h2
    have hend : c + (K - c) = K := by omega
    have hashAt : ∀ (i : Nat) (p : Addr × List Int), L[i]? = some p → ((es[i]?.map (fun e : Int × Value => e.1)).getD 0) = thash P w p.2 := fun i p hp => by rw [R.entry hp]; rfl
    -- no row of k is passed before the q-th step if none of the rows there has its hash
    have passed : ∀ n, (∀ q i, q < n → t.place.toList[i]? = some (nth t.mask (nth t.mask (st0 P w t k) c) q).j → ((es[i]?.map (fun e : Int × Value => e.1)).getD 0) ≠ thash P w k) → ∀ (i : Nat) p, L[i]? = some p → p.2 = k → ∃ c', c + n ≤ c' ∧ c' < K ∧ t.place.toList[i]? = some (way t.mask (thash P w k) c') := fun n hn i p hp hk => by
      obtain ⟨c', a1, a2, a3⟩ := hre i p hp hk
      refine ⟨c', ?_, a2, a3⟩
      rcases Nat.lt_or_ge c' (c + n) with z | z
      · exact absurd ((hashAt i p hp).trans (congrArg (thash P w) hk)) (hn (c' - c) i (by omega) (by rw [at_way, show c + (c' - c) = c' by omega]; exact a3))
      · exact z
    rw [setSearchFrom_succ]
    refine wpAny_bind (wpAny_setState_of ho hd R.fits ?_)
    dsimp only
    refine wp_if_neg R.gw ?_
    try refine wpAny_bind (wpAny_pure ?_)
    rw [hst]
    rcases go_spec t R.tab.ris R.tab.dm (fun i => (es[i]?.map (·.1)).getD 0) (thash P w k) (10 * SetTable.turns t.mask) (K - c) _ (nth_dummy t.mask c _ rfl) (by omega)
      (fun q hq => by rw [at_way]; exact hKb (c + q) (by omega)) (by rw [at_way, hend]; exact hK) with ⟨q, i, hq, hi, hh, hno, hpr⟩ | ⟨hno, hpr⟩
    · have hpr2 : t.probe (fun i => (es[i]?.map (·.1)).getD 0) (thash P w k) (nth t.mask (st0 P w t k) c) = _ := hpr
      rw [hpr2]
      dsimp only
      have hil : i < L.length := by
        have := (List.getElem?_eq_some_iff.mp hi).1
        omega
      have hp : L[i]? = some L[i] := List.getElem?_eq_getElem hil
      have rest : wpAny (model P w) A (searchRest a (.ref x) (thash P w k) false f es t (nth t.mask (nth t.mask (st0 P w t k) c) q).j i (nth t.mask (nth t.mask (st0 P w t k) c) (q + 1))) Q E s := by
        refine look_rest R hx hu hp hi (fun h => hin (List.mem_map.mpr ⟨L[i], List.getElem_mem hil, h⟩) i) fun hne => ?_
        refine ih (c + (q + 1)) _ ((nth_add t.mask c _ (q + 1)).symm) (by omega) (by omega) fun i0 p0 h0 hk0 => ?_
        obtain ⟨c', a1, a2, a3⟩ := passed q (fun q' i' hq' h' => hno q' i' hq' h') i0 p0 h0 hk0
        refine ⟨c', ?_, a2, a3⟩
        rcases Nat.lt_or_ge (c + q) c' with y | y
        · omega
        · have ec : c' = c + q := by omega
          have s0 := slot_live R.tab.ris a3
          rw [ec, ← at_way, slot_live R.tab.ris hi] at s0
          injection s0 with s0
          subst s0
          rw [hp] at h0
          cases h0
          exact absurd hk0 hne
      by_cases hl : t.led = true
      · refine wp_if_neg (by simp [hl]) ?_
        try refine wpAny_bind (wpAny_pure ?_)
        exact rest
      · refine wp_if_pos (by simp [hl]) ?_
        refine wpAny_bind (seen_tup hx (fun y hy => ?_) ?_)
        · obtain ⟨e, he, rfl⟩ := List.mem_map.mp hy
          have he1 : e ∈ es ∧ e.1 = thash P w k := by simpa using he
          have he2 : e ∈ es.toList := by simpa using he1.1
          rw [R.rows] at he2
          obtain ⟨p2, hp2, rfl⟩ := List.mem_map.mp he2
          exact ⟨p2.2, p2.1, rfl, R.tup p2 hp2⟩
        · refine wp_if_neg (by decide) ?_
          try refine wpAny_bind (wpAny_pure ?_)
          exact rest
    · have hpr2 : t.probe (fun i => (es[i]?.map (·.1)).getD 0) (thash P w k) (nth t.mask (st0 P w t k) c) = _ := hpr
      rw [hpr2]
      dsimp only
      refine wpAny_pure (hout (fun hm => ?_) _ _)
      obtain ⟨p0, h0, hk0⟩ := List.mem_map.mp hm
      obtain ⟨i0, hi0, e0⟩ := List.getElem_of_mem h0
      have h00 : L[i0]? = some p0 := by rw [List.getElem?_eq_getElem hi0, e0]
      obtain ⟨c', a1, a2, a3⟩ := passed (K - c) (fun q' i' hq' h' => hno q' i' hq' h') i0 p0 h00 hk0
      omega
theorem find_tup (R : SetTR P w s.heap a L es ep t) (hx : IsT P w s.heap k x) (hu : A.units < cLine) {Q : Option Nat → Shared → Prop} (h : ∀ r : Option Nat, r.isSome = decide (k ∈ L.map (·.2)) → Q r s) : wpAny (model P w) A (setFind a (.ref x) (thash P w k)) Q E s := by
  obtain ⟨o, ho, hex, hd⟩ := R.ob
  have hroom := R.room
  obtain ⟨K, hKf, hK, hKb⟩ := R.tab.first (by rw [List.length_map]; omega) (thash P w k)
  have hbig : K < 100000 := by
    have : 10 * SetTable.turns t.mask ≤ 1420 := by
      unfold SetTable.turns
      rcases R.tab.mok with e | e | e <;> omega
    omega
  unfold setFind setFindIn
  refine wpAny_bind (wpAny_setState_of ho hd R.fits ?_)
  dsimp only
  refine wp_if_neg (by simp [byScan, Value.scannable]) ?_
  try refine wpAny_bind (wpAny_pure ?_)
  unfold setSearch
  refine wpAny_bind (look_from R hx hu hKf hK hKb (fun hm i => ?_) (fun hm j d => ?_) 100000 0 none rfl (Nat.zero_le _) (by omega) fun i p hp hk => ?_)
  · exact wpAny_pure (h (some i) (by simp [hm]))
  · exact wpAny_pure (h none (by simp [hm]))
  · have hi : (L.map fun p => thash P w p.2)[i]? = some (thash P w k) := by rw [List.getElem?_map, hp, ← hk]; rfl
    have hil : i < t.place.toList.length := by
      have h1 := (List.getElem?_eq_some_iff.mp hp).1
      have h2 := R.tab.sz
      rw [List.length_map] at h2
      rw [Array.length_toList]
      omega
    have hj := List.getElem?_eq_getElem hil
    obtain ⟨c, hc, e⟩ := R.tab.before hK hi hj
    exact ⟨c, Nat.zero_le _, hc, by rw [hj, e]⟩
/-- x in s -/
theorem in_setT (R : SetTR P w s.heap a L es ep t) (hx : IsT P w s.heap k x) (hu : A.units + 2 < cLine) (hT : s.TypeIs (.ref a) "set") {Q : Value → Shared → Prop} (h : Q (.bool (decide (k ∈ L.map (·.2)))) { s with toks := s.toks + (k.length + 1) }) :
    wpAny (model P w) A (compareOp .In (.ref x) (.ref a)) Q E s := by
  show wpAny _ _ (do return .bool (← contains (.ref a) (.ref x))) Q E s
  refine wpAny_bind ?_
  unfold contains
  try with_reducible refine wpAny_holding ?_
  refine wpAny_bind (wpAny_specialOf hT F.slot_set_contains.lookup ?_)
  show wpAny _ _ (if (some (Value.builtin "set.__contains__") == some Value.none) = true then _ else _) _ E s
  rw [if_neg (by rw [beq_builtin_none]; exact Bool.false_ne_true)]
  refine wpAny_bind (wpAny_callSpecialUnlessNone?_slot (name := Str.ofString "__contains__") hT F.slot_set_contains
    (wpAny_call_entry F.slot_set_contains hT entry_set_contains ?_ (F.args_set_contains_2 _ _)))
  unfold Builtin.«frozenset.__contains__» Builtin.Frozenset.oneOther
  simp only [List.isEmpty_nil, bind_assoc]
  unfold Builtin.Frozenset.addrOf Builtin.Frozenset.withSetAsKey setContains
  refine wpAny_bind (wpAny_pure ?_)
  try dsimp only
  refine wpAny_bind (wpAny_pure ?_)
  try dsimp only
  refine wpAny_bind (wpAny_tryCatch ?_)
  refine wpAny_holding ?_
  refine wpAny_bind (wpAny_pyHash_tuple (by show A.in1.units < _; have : A.in1.units = A.units + 1 := rfl; omega) hx ?_)
  refine wpAny_bind (find_tup (s := { s with toks := s.toks + (k.length + 1) }) R hx (by show A.in1.units < _; have : A.in1.units = A.units + 1 := rfl; omega) fun r hr => ?_)
  refine wpAny_pure ?_
  show wpAny _ _ (ret (Value.bool r.isSome)) _ _ _
  rw [hr]
  exact wpAny_pure ⟨_, rfl, wpAny_truthy_bool (wpAny_pure h)⟩
end
end HT
/-! PD: sets of tuples of ints as values. -/
namespace HT
open PySem PySem.Spec PyProof.Rows L2
section
variable {P : Program} {w : World} {A : Around} {E : Value → Shared → Prop} {s : Shared}
/-- set(t), t a tuple of tuples of ints -/
theorem call_set_tupT {l : Addr} {items : Array Value} (ks : List (Addr × List Int)) {Q : Value → Shared → Prop} (hh : A.handled = none) (hl : s.heap.IsTuple l items) (hit : items.toList = ks.map fun p => Value.ref p.1)
    (hk : ∀ p ∈ ks, IsT P w s.heap p.2 p.1) (hfew : ks.length < 64) (hu : A.units + 3 < cLine)
    (h : ∀ (h' : Heap) (tk : Nat) L es ep t, SetTR P w h' s.heap.objs.size L es ep t → Got ks ks.length L → (∀ b o, s.heap.get? b = some o → h'.get? b = some o) → Q (.ref s.heap.objs.size) { s with heap := h', toks := tk }) :
    wpAny (model P w) A (call (.type "set") [.ref l]) Q E s := by
  obtain ⟨c, tl, hmro⟩ := F.called_set.mro
  have hmade := F.called_set.made
  have hsub := F.called_set.sub
  have h1 := F.called_set.notType
  have h2 := F.called_set.canCreate
  have hct := F.typeCall_set_1 (.ref l)
  have hisz : items.size = ks.length := by rw [← Array.length_toList, hit, List.length_map]
  refine wpAny_call (codeAny_of_tree ?_)
  show wpAny _ _ (callAny (.type "set") _) _ _ _
  refine wpAny_pure ⟨Code.quiet_builtin _ (by decide +kernel), codeAny_builtin F.entry_type_call ?_⟩
  rw [Around.under_plain (weight_type_call_type "set" [.ref l] []) rfl]
  repeat (any_goals (first | assumption | wp_step))
  have hz : ∀ o, (s.heap.push o).objs.size = s.heap.objs.size + 1 := fun o => Heap.size_push ..
  refine codeAny_mono (code_set_led1 (.ref l) (E := E) (Q₁ := fun obj s₁ => obj = .ref s.heap.objs.size ∧ s₁ = { s with heap := s.heap.push { cls := .type "set", dict := none, data := .set #[] 0 (.fresh 0 0 (!w.params.followText "set-order")) } }) ⟨rfl, rfl⟩) fun r s₁ hr => ?_
  match r, hr with
  | .error e, hr => exact hr
  | .ok .next, hr => exact hr.elim
  | .ok .brk, hr => exact hr.elim
  | .ok .cont, hr => exact hr.elim
  | .ok (.ret obj), hr =>
    obtain ⟨rfl, rfl⟩ := hr
    generalize hs0 : ({ cls := .type "set", dict := none, data := .set #[] 0 (.fresh 0 0 (!w.params.followText "set-order")) } : Obj) = o0
    have hS : (s.heap.push o0).get? s.heap.objs.size = some o0 := Heap.get?_push_size _ (by rw [← hs0]; rfl)
    have hT : Shared.TypeIs { s with heap := s.heap.push o0 } (.ref s.heap.objs.size) "set" := ⟨_, hS, by rw [← hs0]⟩
    have hli := F.called_set.init.lookup
    have hbi := F.called_set.init.bind (.ref s.heap.objs.size)
    repeat (any_goals (first | assumption | wp_step))
    refine codeAny_mono (codeAny_call_builtin (R := wants (fun r s₂ => r = .none ∧ ∃ h' tk L es ep t, s₂ = { s with heap := h', toks := tk } ∧ SetTR P w h' s.heap.objs.size L es ep t ∧ Got ks ks.length L ∧ (∀ b o, s.heap.get? b = some o → h'.get? b = some o)) E)
      F.called_set.init.plain F.entry_set_init (check_set_init_1 hT ?_)) fun r₂ s₂ hr₂ => ?_
    · obtain ⟨⟨ocls, odict, odata, oslots⟩, hol, hcl, nl, hdl⟩ := hl
      simp only at hcl hdl
      subst hcl hdl
      have hol' : (s.heap.push o0).get? l = some { cls := .type "tuple", dict := odict, data := .seq items nl, slots := oslots } := Heap.get?_push_of_some _ hol
      have hsls := F.sub_tuple_set
      have hslf := F.sub_tuple_frozenset
      have hne : (Value.type "tuple" == Value.type "dict") = false := by decide
      have hl1 : (s.heap.push o0).IsTuple l items := ⟨_, hol', rfl, nl, rfl⟩
      subst hs0
      unfold Builtin.«set.__init__» noKeywords Builtin.Frozenset.updateFrom
      generalize hPI : pyIter = PI
      wp_walk
      subst hPI
      refine wpAny_pyIter_tuple hl1 ?_
      refine wpAny_bind (wpAny_runValue ?_)
      have hlS : l < s.heap.objs.size := Heap.lt_size hol
      have hneI : ∀ o, l ≠ (s.heap.push o).objs.size := fun o => by rw [hz]; exact Nat.ne_of_lt (Nat.lt_succ_of_lt hlS)
      have hSf : ∀ o, s.heap.objs.size ∉ [(s.heap.push o).objs.size, l] := fun o => by
        rw [hz]
        simp only [List.mem_cons, List.not_mem_nil, or_false, not_or]
        exact ⟨Nat.ne_of_lt (Nat.lt_succ_self _), Nat.ne_of_gt hlS⟩
      have hval : ∀ (i : Nat) (v : Value), items[i]? = some v → ∃ p, ks[i]? = some p ∧ v = .ref p.1 := fun i v hv => by
        rw [← Array.getElem?_toList, hit, List.getElem?_map, Option.map_eq_some_iff] at hv
        obtain ⟨p, h1, h2⟩ := hv
        exact ⟨p, h1, h2.symm⟩
      have nonew : ∀ b, s.heap.objs.size ≤ b → s.heap.get? b = none := fun b hb => by
        cases q : s.heap.get? b with
        | none => rfl
        | some o => exact absurd (Heap.lt_size q) (Nat.not_lt.mpr hb)
      refine set_update_tups ((Walks.tuple (by simp [hh]) _ l (hneI _) items).toS) s.heap.objs.size (hSf _) ks hisz hfew hval s.heap hk (nonew _ (Nat.le_refl _)) (fun b hb => nonew b (by rw [List.mem_singleton.mp hb]; exact Nat.le_trans (Nat.le_succ _) (Nat.le_of_eq (hz _).symm))) hu (items.size - 0) 0 _ (by omega) (Nat.zero_le _)
        ⟨⟨_, Heap.get?_push_size _ rfl, rfl, rfl⟩, hl1.push _⟩ (fun b o e => Heap.get?_push_of_some _ (Heap.get?_push_of_some _ e)) ⟨[], #[], 0, _, setTR_fresh (Heap.get?_push_of_some _ hS), Got.zero ks⟩ ?_
      intro s' L es ep t hm hS' g' hkp
      obtain ⟨h', g2, d', tk', os'⟩ := s'
      have eg : g2 = s.gens := hm.gens
      have ed : d' = s.drawn := hm.drawn
      have eo : os' = s.os := hm.os
      subst eg ed eo
      show wpAny _ _ _ _ _ _
      refine wpAny_pure ?_
      show wpAny _ _ (ret Value.none) _ _ _
      rw [hisz] at g'
      exact wpAny_pure ⟨rfl, h', tk', L, es, ep, t, rfl, hS', g', hkp⟩
    · match r₂, hr₂ with
      | .error e, hr₂ => exact hr₂
      | .ok .next, hr₂ => exact hr₂.elim
      | .ok .brk, hr₂ => exact hr₂.elim
      | .ok .cont, hr₂ => exact hr₂.elim
      | .ok (.ret r), hr₂ =>
        obtain ⟨rfl, h', tk, L, es, ep, t, rfl, hS', g', hk'⟩ := hr₂
        repeat (any_goals (first | assumption | wp_step))
        exact h _ _ _ _ _ _ hS' g' hk'
end
end HT
namespace PD
open PySem PySem.Spec PyProof.Rows L2
/-- tuples of ints -/
def tupsV : List PV → Option (List (List Int))
  | [] => some []
  | .tup l :: ps => match intsV l, tupsV ps with
    | some ns, some r => some (ns :: r)
    | _, _ => none
  | _ => none
theorem tupsV_some : ∀ {ps : List PV} {l : List (List Int)}, tupsV ps = some l → ps = l.map fun ns => PV.tup (ns.map PV.int)
  | [], l, h => by cases h; rfl
  | .tup q :: ps, l, h => by
    unfold tupsV at h
    cases h1 : intsV q with
    | none => rw [h1] at h; cases h
    | some ns =>
      cases h2 : tupsV ps with
      | none => rw [h1, h2] at h; cases h
      | some r =>
        rw [h1, h2] at h
        cases h
        rw [List.map_cons, intsV_some h1, ← tupsV_some h2]
  | .non :: ps, l, h => by cases h
  | .bl _ :: ps, l, h => by cases h
  | .int _ :: ps, l, h => by cases h
  | .str _ :: ps, l, h => by cases h
  | .loc _ :: ps, l, h => by cases h
  | .fn _ :: ps, l, h => by cases h
  | .kl _ :: ps, l, h => by cases h
  | .clo _ :: ps, l, h => by cases h
  | .pst _ :: ps, l, h => by cases h
@[simp] theorem tupsV_map : ∀ l : List (List Int), tupsV (l.map fun ns => PV.tup (ns.map PV.int)) = some l
  | [] => rfl
  | ns :: l => by rw [List.map_cons, tupsV, intsV_map, tupsV_map l]
/-- the values of tuples of ints -/
theorem rvs_tups {W : Wd} {ι : List Addr} {H : Hp} : ∀ {l : List (List Int)} {vs : List V}, RVs W ι H vs (l.map fun ns => PV.tup (ns.map PV.int)) → ∃ ks : List (Addr × List Int), vs = ks.map (fun p => V.ref p.1) ∧ ks.map (·.2) = l ∧ ∀ p ∈ ks, SqT W.K H p.1 (p.2.map V.int)
  | [], _, .nil => ⟨[], rfl, rfl, (fun _ h => nomatch h)⟩
  | ns :: l, _, .cons (.tup sq rr _) t => by
    obtain ⟨ks, rfl, e, h⟩ := rvs_tups t
    have e2 := RVs.of_ints rr
    subst e2
    refine ⟨(_, ns) :: ks, rfl, by rw [List.map_cons, e], fun p hp => ?_⟩
    rcases List.mem_cons.mp hp with rfl | hp
    · exact sq
    · exact h p hp
section
variable {X : Cx} {W : Wd} {k : Nat} {E : XK} {a b e : Expr} {d da db : Env → Mo PV} {p pos : Pos}
def rSetTup (K : PySem.W.Frag) (P : Program) (w : World) : List V → Hp → VK → Prop := fun xs H Q => ∃ (l : Addr) (ks : List (Addr × List Int)), xs = [V.ref l] ∧ SqT K H l (ks.map fun p => V.ref p.1) ∧ (∀ p ∈ ks, SqT K H p.1 (p.2.map V.int)) ∧ ks.length < 64 ∧
  ∀ a L, H a = none → (∀ p ∈ L, p ∈ ks) → (∀ p ∈ ks, p.2 ∈ L.map (·.2)) → Q (.ref a) (upd H a (SetTO P w a L))
theorem cr_setTup (hc : X.calm = true) (hu : X.A.units + 64 < cLine) : CallR X (.type "set") (rSetTup X.K X.prog X.w) := by
  intro pins s σ H xs us Q I r h
  obtain ⟨l, ks, rfl, hl, hk, hf, q⟩ := h
  rw [Vals.ref1 r]
  obtain ⟨its, rv, pl, hz⟩ := I.tuple hl
  have hn : H s.heap.objs.size = none := I.hok.fresh (Nat.le_refl _)
  refine HT.call_set_tupT (P := X.prog) (w := X.w) ks (I.ok.hd hc) (show s.heap.IsTuple l its.toArray from pl) (by simpa using refs_of_vals rv) (fun p hp => I.isT (hk p hp)) hf (by omega) fun h' tk L es ep t R g k => ?_
  refine ⟨.ref s.heap.objs.size, upd H s.heap.objs.size (SetTO X.prog X.w s.heap.objs.size L), I.laid (t' := tk) k (Nat.le_refl _) (setTO_new R.t0), rfl, q _ L hn (fun p hp => ?_) fun p hp => ?_⟩
  · exact List.mem_of_mem_take (g.sub p hp)
  · exact g.all p (by rw [List.take_length]; exact hp)
/-- set(t) -/
def setTM : PV → Mo PV
  | .tup l => fun st => match tupsV l with
    | some ks => if ks.length < 64 then .ok (.pst ks) st else .stuck
    | none => .stuck
  | _ => fail
theorem new_pst {ι : List Addr} {st : Sto} {H : Hp} {Q : VK} {a : Addr} {L : List (Addr × List Int)} {l : List (List Int)} (g : Good W E ι H (.ok (.pst l) st) (kQ W Q)) (rs : RS W ι st H) (ha : H a = none) (hs : ∀ p ∈ L, SqT W.K H p.1 (p.2.map V.int)) (hm : ∀ k, k ∈ L.map (·.2) ↔ k ∈ l) : Q (.ref a) (upd H a (SetTO W.P W.w a L)) := by
  have m : Mono ι H ι (upd H a (SetTO W.P W.w a L)) := Mono.new ha
  exact (Good.shift g m).ok (rs.other ha) _ (.pst upd_same (fun p hp => sqt_mono rs m (hs p hp)) hm)
theorem de_setT (hP : X.prog = W.P) (hw : X.w = W.w) (h : DE X W k E a d) (hm : W.mg "set" = none) (hg : Gl X "set" := by rfl) (hs : starEach [a] X.env = (false, eval a X.env) :: starEach [] X.env := by rfl) : DE X W k E (.Call (.Name "set" p) [a] [] pos) (fun ρ => bnd (d ρ) setTM) :=
  ⟨fun o => pe_imp (pe_callTy (cr_setTup (X := X) o.hc (by have := o.room.un; omega)) hg (by rw [o.hM]; exact hm) PyProof.Rows.boot_set (pa_cons (h.run o) pa_nil hs) (by decide) (by decide) hs (by rfl)) fun σ H Q t => by
    obtain ⟨ι, ρ, st, re, rs, g⟩ := t
    refine ⟨ι, ρ, st, re, rs, Good.imp (Good.bind g) fun q st1 ι1 H1 m1 r1 g1 v hv => ?_⟩
    cases hv <;> try exact g1.elim
    rename_i l0 vs l sq rr hz
    have g2 : Good W E ι1 H1 (match tupsV l with | some ks => if ks.length < 64 then .ok (.pst ks) st1 else .stuck | none => .stuck) (kQ W Q) := g1
    cases hns : tupsV l with
    | none => rw [hns] at g2; exact g2.elim
    | some kl =>
      rw [hns] at g2
      obtain ⟨hc, g3⟩ := good_if g2
      have e := tupsV_some hns
      subst e
      obtain ⟨ks, rfl, rfl, hk⟩ := rvs_tups rr
      refine ⟨l0, ks, rfl, by rw [o.hK]; exact sq, by rw [o.hK]; exact hk, by rw [List.length_map] at hc; exact hc, fun a L ha h1 h2 => ?_⟩
      rw [hP, hw]
      refine new_pst g3 r1 ha (fun p hp => hk p (h1 p hp)) fun k => ⟨fun z => ?_, fun z => ?_⟩
      · obtain ⟨p, hp, rfl⟩ := List.mem_map.mp z
        exact List.mem_map.mpr ⟨p, h1 p hp, rfl⟩
      · obtain ⟨p, hp, rfl⟩ := List.mem_map.mp z
        exact h2 p hp⟩
/-- x in s -/
def rInT (K : PySem.W.Frag) (P : Program) (w : World) (ng : Bool) : R2 := fun x y H Q => ∃ (b a : Addr) (ns : List Int) (L : List (Addr × List Int)), x = .ref b ∧ y = .ref a ∧ SqT K H b (ns.map V.int) ∧ H a = some (SetTO P w a L) ∧ (∀ p ∈ L, SqT K H p.1 (p.2.map V.int)) ∧ Q (.bl (decide (ns ∈ L.map (·.2)))) H
theorem op_inT (hu : X.A.units + 2 < cLine) : OpR X (compareOp .In) (rInT X.K X.prog X.w false) := by
  intro pins s σ H x y v u Q I rx ry h
  obtain ⟨b, a, ns, L, rfl, rfl, hb, ha, hL, q⟩ := h
  cases rx
  cases ry
  have R0 : SetT0 X.prog X.w s.heap a L := (I.hok a _ ha).1
  obtain ⟨es, ep, t, R⟩ := R0.full fun p hp => I.isT (hL p hp)
  obtain ⟨o, ho, hex, hd⟩ := R.ob
  exact HT.in_setT R (I.isT hb) hu ⟨o, ho, hex.1⟩ ⟨.bl _, H, I.tok _, rfl, q⟩
def inTQ (p q : PV) : Mo PV := fun st => match p, q with
  | .tup l, .pst ks => match intsV l with
    | some ns => .ok (.bl (decide (ns ∈ ks))) st
    | none => .stuck
  | _, _ => .stuck
theorem fok_inT : FOk W E (rInT W.K W.P W.w false) inTQ := by
  intro ι st H x y p q Q rs hx hy g
  cases hx <;> try exact g.elim
  cases hy <;> try exact g.elim
  rename_i b vs l sq rr hz a L ks hm1 hL0 hm
  have g2 : Good W E ι H (match intsV l with | some ns => .ok (.bl (decide (ns ∈ ks))) st | none => .stuck) (kQ W Q) := g
  cases hns : intsV l with
  | none => rw [hns] at g2; exact g2.elim
  | some ns =>
    rw [hns] at g2
    have e := intsV_some hns
    subst e
    have e2 := RVs.of_ints rr
    subst e2
    refine ⟨b, a, ns, L, rfl, rfl, sq, by first | exact hm1 | exact hL0, by first | exact hL0 | exact hm1, ?_⟩
    have e3 : decide (ns ∈ L.map (·.2)) = decide (ns ∈ ks) := by
      rw [Bool.eq_iff_iff, decide_eq_true_eq, decide_eq_true_eq]
      exact hm ns
    rw [e3]
    exact g2.ok rs _ (.bl _)
theorem de_inT (hP : X.prog = W.P) (hw : X.w = W.w) (ha : DE X W k E a da) (hb : DE X W k E b db) (hm : behindInMarks .In b = false := by rfl) : DE X W k E (.Compare a [.In] [b] pos) (dBin inTQ da db) :=
  de_cmp (r := rInT W.K W.P W.w false) (fun o => by rw [← o.hK, ← hP, ← hw]; exact op_inT (by have := o.room.un; omega)) fok_inT ha hb hm
end
end PD
/-! PD: a world with a lambda; the lambda's frame. -/
namespace PD
open PySem PySem.Spec PyProof.Rows L2
abbrev Wd.lamOf (W : Wd) (f c : Addr) (q : Str) (vs : List V) : Wd := { W with lam := some (f, c, q, vs) }
mutual
def noclo : PV → Bool
  | .clo _ => false
  | .tup l => noclos l
  | _ => true
def noclos : List PV → Bool
  | [] => true
  | p :: l => noclo p && noclos l
end
def nocloks : List (PV × PV) → Bool
  | [] => true
  | p :: l => noclo p.2 && nocloks l
def nocloO : Ob → Bool
  | .lst _ l => noclos l
  | .dct _ l => nocloks l
  | .sti _ => true
section
variable {W : Wd} {ι : List Addr} {H : Hp} {st : Sto} {f c : Addr} {q : Str} {vs0 : List V}
mutual
theorem rv_in (hl : W.lam = none) : ∀ (p : PV) (v : V), RV W ι H v p → RV (W.lamOf f c q vs0) ι H v p
  | .non, _, .non => .non
  | .bl _, _, .bl _ => .bl _
  | .int _, _, .int _ => .int _
  | .str _, _, .str _ => .str _
  | .tup ps, _, .tup h r z => .tup h (rvs_in hl ps _ r) z
  | .loc _, _, .loc h => .loc h
  | .fn _, _, .fn h => .fn h
  | .kl _, _, .kl h z => .kl h z
  | .clo ps, _, .clo h _ _ => by rw [hl] at h; cases h
  | .pst _, _, .pst h a b => .pst h a b
theorem rvs_in (hl : W.lam = none) : ∀ (ps : List PV) (vs : List V), RVs W ι H vs ps → RVs (W.lamOf f c q vs0) ι H vs ps
  | [], _, .nil => .nil
  | p :: ps, _, .cons h r => .cons (rv_in hl p _ h) (rvs_in hl ps _ r)
end
mutual
theorem rv_out : ∀ (p : PV) (v : V), noclo p = true → RV (W.lamOf f c q vs0) ι H v p → RV W ι H v p
  | .non, _, _, .non => .non
  | .bl _, _, _, .bl _ => .bl _
  | .int _, _, _, .int _ => .int _
  | .str _, _, _, .str _ => .str _
  | .tup ps, _, z, .tup h r y => .tup h (rvs_out ps _ (by simpa [noclo] using z) r) y
  | .loc _, _, _, .loc h => .loc h
  | .fn _, _, _, .fn h => .fn h
  | .kl _, _, _, .kl h z => .kl h z
  | .clo ps, _, z, _ => by simp [noclo] at z
  | .pst _, _, _, .pst h a b => .pst h a b
theorem rvs_out : ∀ (ps : List PV) (vs : List V), noclos ps = true → RVs (W.lamOf f c q vs0) ι H vs ps → RVs W ι H vs ps
  | [], _, _, .nil => .nil
  | p :: ps, _, z, .cons h r => by
    simp only [noclos, Bool.and_eq_true] at z
    exact .cons (rv_out p _ z.1 h) (rvs_out ps _ z.2 r)
end
mutual
theorem rv_noclo (hl : W.lam = none) : ∀ (p : PV) (v : V), RV W ι H v p → noclo p = true
  | .non, _, _ => by simp [noclo]
  | .bl _, _, _ => by simp [noclo]
  | .int _, _, _ => by simp [noclo]
  | .str _, _, _ => by simp [noclo]
  | .tup ps, _, .tup h r z => by simpa [noclo] using rvs_noclo hl ps _ r
  | .loc _, _, _ => by simp [noclo]
  | .fn _, _, _ => by simp [noclo]
  | .kl _, _, _ => by simp [noclo]
  | .clo ps, _, .clo h _ _ => by rw [hl] at h; cases h
  | .pst _, _, _ => by simp [noclo]
theorem rvs_noclo (hl : W.lam = none) : ∀ (ps : List PV) (vs : List V), RVs W ι H vs ps → noclos ps = true
  | [], _, .nil => by simp [noclos]
  | p :: ps, _, .cons h r => by
    simp only [noclos, Bool.and_eq_true]
    exact ⟨rv_noclo hl p _ h, rvs_noclo hl ps _ r⟩
end
theorem rks_in (hl : W.lam = none) : ∀ {ps : List (PV × PV)} {vs : List (Key × V)}, RKs W ι H vs ps → RKs (W.lamOf f c q vs0) ι H vs ps
  | _, _, .nil => .nil
  | _, _, .cons h r => .cons (rv_in hl _ _ h) (rks_in hl r)
theorem rks_out : ∀ {ps : List (PV × PV)} {vs : List (Key × V)}, nocloks ps = true → RKs (W.lamOf f c q vs0) ι H vs ps → RKs W ι H vs ps
  | _, _, _, .nil => .nil
  | _, _, z, .cons h r => by
    simp only [nocloks, Bool.and_eq_true] at z
    exact .cons (rv_out _ _ z.1 h) (rks_out z.2 r)
theorem rks_noclo (hl : W.lam = none) : ∀ {ps : List (PV × PV)} {vs : List (Key × V)}, RKs W ι H vs ps → nocloks ps = true
  | _, _, .nil => rfl
  | _, _, .cons h r => by
    simp only [nocloks, Bool.and_eq_true]
    exact ⟨rv_noclo hl _ _ h, rks_noclo hl r⟩
theorem ro_in (hl : W.lam = none) {a : Addr} : ∀ {o : Ob}, RO W ι H a o → RO (W.lamOf f c q vs0) ι H a o
  | .lst false l, ⟨vs, e, r, z⟩ => ⟨vs, e, rvs_in hl _ _ r, z⟩
  | .lst true l, ⟨o, vs, e, r, z⟩ => ⟨o, vs, e, rvs_in hl _ _ r, z⟩
  | .dct false l, ⟨ks, e, r⟩ => ⟨ks, e, rks_in hl r⟩
  | .dct true l, ⟨o, ks, e, r⟩ => ⟨o, ks, e, rks_in hl r⟩
  | .sti l, h => h
theorem ro_out {a : Addr} : ∀ {o : Ob}, nocloO o = true → RO (W.lamOf f c q vs0) ι H a o → RO W ι H a o
  | .lst false l, n, ⟨vs, e, r, z⟩ => ⟨vs, e, rvs_out _ _ n r, z⟩
  | .lst true l, n, ⟨o, vs, e, r, z⟩ => ⟨o, vs, e, rvs_out _ _ n r, z⟩
  | .dct false l, n, ⟨ks, e, r⟩ => ⟨ks, e, rks_out n r⟩
  | .dct true l, n, ⟨o, ks, e, r⟩ => ⟨o, ks, e, rks_out n r⟩
  | .sti l, _, h => h
theorem ro_noclo (hl : W.lam = none) {a : Addr} : ∀ {o : Ob}, RO W ι H a o → nocloO o = true
  | .lst false l, ⟨vs, e, r, z⟩ => rvs_noclo hl _ _ r
  | .lst true l, ⟨o, vs, e, r, z⟩ => rvs_noclo hl _ _ r
  | .dct false l, ⟨ks, e, r⟩ => rks_noclo hl r
  | .dct true l, ⟨o, ks, e, r⟩ => rks_noclo hl r
  | .sti l, _ => rfl
theorem rs_in (hl : W.lam = none) (r : RS W ι st H) : RS (W.lamOf f c q vs0) ι st H := ⟨r.len, r.nd, fun n o a h1 h2 => ro_in hl (r.ob n o a h1 h2), r.tb, r.tl⟩
theorem rs_out (hn : ∀ (n : Nat) (o : Ob), st[n]? = some o → nocloO o = true) (r : RS (W.lamOf f c q vs0) ι st H) : RS W ι st H := ⟨r.len, r.nd, fun n o a h1 h2 => ro_out (hn n o h1) (r.ob n o a h1 h2), r.tb, r.tl⟩
theorem rs_noclo (hl : W.lam = none) (r : RS W ι st H) : ∀ (n : Nat) (o : Ob), st[n]? = some o → nocloO o = true := fun n o h => by
  obtain ⟨a, _, z⟩ := r.addr h
  exact ro_noclo hl z
end
/-! ### a lambda's frame -/
/-- one parameter, captured names, globals -/
structure Lam1 (sc scope : Scope) (px : Str) : Prop where
  kind : scope.kind = .function
  co : scope.isCoroutine = false
  gen : scope.isGenerator = false
  own : ∀ y ∈ scope.names, y.2 ≠ .cell ∧ (y.2 = .local → y.1 = px)
  par : scope.names.lookup px = some .local
  free : ∀ y ∈ scope.names, y.2 = .free → sc.names.lookup y.1 = some .cell ∨ sc.names.lookup y.1 = some .free
def lam1B (sc scope : Scope) (px : Str) : Bool :=
  decide (scope.kind = .function) && !scope.isCoroutine && !scope.isGenerator && (scope.names.all fun y => !decide (y.2 = .cell) && (!decide (y.2 = .local) || decide (y.1 = px)) && (!decide (y.2 = .free) || decide (sc.names.lookup y.1 = some .cell) || decide (sc.names.lookup y.1 = some .free))) && decide (scope.names.lookup px = some .local)
theorem lam1_by {sc scope : Scope} {px : Str} (h : lam1B sc scope px = true) : Lam1 sc scope px := by
  unfold lam1B at h
  simp only [Bool.and_eq_true, Bool.or_eq_true, Bool.not_eq_true', decide_eq_true_eq, decide_eq_false_iff_not, List.all_eq_true] at h
  obtain ⟨⟨⟨⟨h1, h2⟩, h3⟩, h4⟩, h5⟩ := h
  refine ⟨h1, h2, h3, fun y hy => ⟨(h4 y hy).1.1, fun e => ?_⟩, h5, fun y hy e => ?_⟩
  · rcases (h4 y hy).1.2 with z | z
    · exact absurd e z
    · exact z
  · rcases (h4 y hy).2 with (z | z) | z
    · exact absurd e z
    · exact .inl z
    · exact .inr z
theorem Lam1.has {X : Cx} {scope : Scope} {px : Str} (L : Lam1 X.env.scope scope px) (ok : X.Ok) : ∀ y ∈ scope.names, y.2 = .free → ∃ c, X.env.cells.lookup y.1 = some c := fun y hy e => by
  rcases L.free y hy e with k | k
  · exact ok.has _ (.inl k)
  · exact ok.has _ (.inr k)
section
variable {X : Cx} {pins : List (Addr × Obj)} {σ : L2.St} {H HZ : Hp} {s s1 : Shared}
theorem lam_start3 {A : Around} {outer : List PySem.Env} {E : XK} {scope : Scope} {px : Str} {f c' : Addr} {h₁ : Heap} {tk ix : Nat} {u : Value} {v : V} (I : Inv X pins σ H s) (L : Lam1 X.env.scope scope px) (hN : X.N.Nodup) (hix : X.N[ix]? = some px) (hv : RelV v u)
    (e0 : Env0 X.prog X.w X.K X.mg X.base A outer s1 HZ) (hd : A.handled = none)
    (un : Un (frs X.stack) [] H HZ s.heap s1.heap) (hns : h₁.Ns s1.heap.objs.size fun y => [(px, u)].reverse.lookup y) (kp : ∀ b o, s1.heap.get? b = some o → h₁.get? b = some o) :
    Inv (LamX.lamCx X A outer s1 HZ E scope f c') [] (σ.set ix (some v)) HZ { s1 with heap := h₁, toks := tk } := by
  have hfree := L.has I.ok
  have cm : ∀ {y c}, (cloFrom X.env.cells scope.names []).lookup y = some c → X.env.cells.lookup y = some c := fun {y c} e => by
    rcases cloFrom_mem (PySem.mem_of_lookup e) with hm | ⟨h1, h2⟩
    · cases hm
    · obtain ⟨c1, hc⟩ := hfree _ h1 rfl
      have hc : X.env.cells.lookup y = some c1 := hc
      rw [h2, hc]
      rfl
  have look : ∀ {y}, scope.names.lookup y = some .free → ∃ c, (cloFrom X.env.cells scope.names []).lookup y = some c := fun {y} hl => mem_lookup (cloFrom_has (cells := X.env.cells) (acc := []) (PySem.mem_of_lookup hl))
  have cellK : ∀ {c : Addr} {v : Option Value}, H c = none → s.heap.IsCell c v → h₁.IsCell c v := fun {c v} n ⟨o, ho, hd⟩ => by
    obtain ⟨sl, q⟩ := un.any ho n (by simp)
    exact ⟨_, kp _ _ q, hd⟩
  have noA : ∀ b : Addr, b ∉ (LamX.lamCx X A outer s1 HZ E scope f c').ex := fun b z => absurd (show b ∈ ([] : List Addr) from z) (by simp)
  have noC : ∀ {y}, scope.names.lookup y ≠ some .cell := fun {y} z => (L.own _ (PySem.mem_of_lookup z)).1 rfl
  have hx : ∀ {y}, scope.names.lookup y = some .local → y = px := fun {y} z => (L.own _ (PySem.mem_of_lookup z)).2 rfl
  refine ⟨⟨e0.mod, L.kind, rfl, rfl, Nat.le_refl _, fun y z c e1 e2 => I.ok.inj y z c (cm e1) (cm e2), fun y hy => ?_, fun y c z _ => ?_, fun _ => hd, Around.frames_deeper e0.frames, .inr ⟨rfl, rfl⟩, fun b z => absurd z (noA b), e0.bs, e0.bsz, fun b _ _ => noA b,
      fun b z => absurd z (noA b), e0.funs, e0.frf⟩,
    rfl, e0.bare, Un.kept kp, ⟨_, hns, fun i y v' e1 e2 e3 => ?_⟩, fun y c e => ?_, e0.hok.fresh (Nat.le_refl _), fun y c e => ?_, fun q hq => absurd (show q ∈ ([] : List (Addr × Obj)) ++ [] from hq) (by simp), e0.hok.kept kp, by rw [List.length_set]; exact I.len⟩
  · rcases (show scope.names.lookup y = some .cell ∨ scope.names.lookup y = some .free from hy) with hy | hy
    · exact absurd hy noC
    · exact look hy
  · exact absurd (show false = true from z) (by decide)
  · have e1 : X.N[i]? = some y := e1
    rcases (show Vis scope y from e3) with k | k | k
    · have ey := hx k
      subst ey
      have hi : i = ix := by
        obtain ⟨h1, q1⟩ := List.getElem?_eq_some_iff.mp e1
        obtain ⟨h2, q2⟩ := List.getElem?_eq_some_iff.mp hix
        exact (List.getElem_inj hN).mp (q1.trans q2.symm)
      subst hi
      have hlt : i < σ.length := by rw [I.len]; exact (List.getElem?_eq_some_iff.mp e1).1
      rw [List.getElem?_set_self hlt] at e2
      cases e2
      exact ⟨u, hv, .inl ⟨k, by simp⟩⟩
    · exact absurd k noC
    · have hne : i ≠ ix := fun z => by
        subst z
        rw [hix] at e1
        cases e1
        rw [L.par] at k
        cases k
      rw [List.getElem?_set_ne (Ne.symm hne)] at e2
      obtain ⟨m, hn, hl⟩ := I.loc
      have hvis : Vis X.env.scope y := (L.free _ (PySem.mem_of_lookup k) rfl).elim (fun k => .inr (.inl k)) (fun k => .inr (.inr k))
      obtain ⟨w', r, q⟩ := hl i y v' e1 e2 hvis
      obtain ⟨c2, h2⟩ := look k
      refine ⟨w', r, .inr ⟨.inr k, c2, h2, ?_⟩⟩
      have c1 := cm h2
      rcases q with ⟨k', _⟩ | ⟨_, c3, e', z⟩
      · have k' : X.env.scope.names.lookup y = some .local := k'
        rcases L.free _ (PySem.mem_of_lookup k) rfl with k2 | k2 <;> rw [show X.env.scope.names.lookup y = _ from k2] at k' <;> cases k'
      · rw [c1] at e'
        cases e'
        exact cellK (I.freeC y _ c1) z
  · obtain ⟨w', z⟩ := I.cell y c (cm e)
    exact ⟨w', cellK (I.freeC y c (cm e)) z⟩
  · obtain ⟨v, o, ho, hd⟩ := I.cell y c (cm e)
    exact un.free c o ho (I.freeC y c (cm e)) (by simp)
end
end PD
/-! PD: a lambda handed to a def. -/
namespace PD
open PySem PySem.Spec PyProof.Rows L2
def cloM (q : PV) : Mo (List PV) := fun st => match q with
  | .clo caps => .ok caps st
  | _ => .stuck
def setAll : Env → List Nat → List PV → Env
  | ρ, i :: is, c :: cs => setAll (ρ.set i (some c)) is cs
  | ρ, _, _ => ρ
/-- the lambda's names: what it has captured, and its parameter -/
def envOf (n : Nat) (cs : List Nat) (ix : Nat) (caps : List PV) (p : PV) : Env := (setAll (List.replicate n none) cs caps).set ix (some p)
def lamF (n : Nat) (cs : List Nat) (ix : Nat) (db : Env → Mo PV) : List PV → PV → Mo PV := fun caps p => if caps.length = cs.length then db (envOf n cs ix caps p) else fail
def capsM : List Nat → Env → Mo (List PV)
  | [], _ => fun st => .ok [] st
  | i :: is, ρ => bnd (dVar i ρ) fun q => bnd (capsM is ρ) fun l => fun st => .ok (q :: l) st
open Classical in
/-- the call: no lambda comes back -/
noncomputable def lamM (F : Mo PV) : Mo PV := fun st => match F st with
  | .ok z st' => if noclo z = true ∧ ∀ (i : Nat) (o : Ob), st'[i]? = some o → st[i]? = some o ∨ nocloO o = true then .ok z st' else .stuck
  | _ => .stuck
def dAct (i : Nat) (F : List PV → PV → Mo PV) (d : Env → Mo PV) : Env → Mo PV := fun ρ => bnd (dVar i ρ) fun q => bnd (cloM q) fun caps => bnd (d ρ) fun p => F caps p
section
variable {W : Wd} {ι : List Addr} {H : Hp} {σ : L2.St}
theorem RE.put {ρ : Env} (re : RE W ι H ρ σ) {i : Nat} {v : V} {p : PV} (h : σ[i]? = some (some v)) (r : RV W ι H v p) : RE W ι H (ρ.set i (some p)) σ := by
  refine ⟨by rw [List.length_set]; exact re.len, fun j q hq => ?_⟩
  by_cases hj : i = j
  · subst hj
    have hi : i < ρ.length := by rw [re.len]; exact (List.getElem?_eq_some_iff.mp h).1
    rw [List.getElem?_set_self hi] at hq
    cases hq
    exact ⟨v, h, r⟩
  · rw [List.getElem?_set_ne hj] at hq
    exact re.at_ j q hq
theorem RE.setAll : ∀ {cs : List Nat} {ρ : Env} {vs : List V} {caps : List PV}, RE W ι H ρ σ → (∀ (j i : Nat) (v : V), cs[j]? = some i → vs[j]? = some v → σ[i]? = some (some v)) → RVs W ι H vs caps → RE W ι H (PD.setAll ρ cs caps) σ
  | [], ρ, vs, caps, re, _, _ => by unfold PD.setAll; exact re
  | i :: is, ρ, _, [], re, _, _ => by unfold PD.setAll; exact re
  | i :: is, ρ, v :: vs, c :: caps, re, h, .cons r t => by
    unfold PD.setAll
    exact RE.setAll (re.put (h 0 i v rfl rfl) r) (fun j i' v' h1 h2 => h (j + 1) i' v' h1 h2) t
theorem RE.none_ (n : Nat) (h : σ.length = n) : RE W ι H (List.replicate n none) σ := ⟨by rw [List.length_replicate]; exact h.symm, fun i p e => by
  rw [List.getElem?_replicate] at e
  split at e <;> cases e⟩
theorem caps_of {E : XK} {ρ : Env} {st : Sto} (re : RE W ι H ρ σ) (rs : RS W ι st H) : ∀ {cs : List Nat} {k : List PV → Sto → List Addr → Hp → Prop}, Good W E ι H (capsM cs ρ st) k → ∃ (vs : List V) (caps : List PV), RVs W ι H vs caps ∧ caps.length = cs.length ∧ (∀ (j i : Nat) (v : V), cs[j]? = some i → vs[j]? = some v → σ[i]? = some (some v)) ∧ k caps st ι H
  | [], k, g => ⟨[], [], .nil, rfl, fun j i v h => (by simp at h), g.ok rs⟩
  | i :: is, k, g => by
    unfold capsM at g
    have g0 := Good.bind g
    unfold dVar at g0
    cases q : ρ[i]? with
    | none => rw [q] at g0; exact g0.elim
    | some w =>
      cases w with
      | none => rw [q] at g0; exact g0.elim
      | some w =>
        rw [q] at g0
        obtain ⟨v, h1, h2⟩ := re.at_ i w q
        obtain ⟨vs, caps, r, hl, h3, h4⟩ := caps_of re rs (Good.bind (g0.ok rs))
        refine ⟨v :: vs, w :: caps, .cons h2 r, by rw [List.length_cons, List.length_cons, hl], fun j i' v' e1 e2 => ?_, h4.ok rs⟩
        cases j with
        | zero =>
          cases e1
          cases e2
          exact h1
        | succ j => exact h3 j i' v' e1 e2
end
section
variable {X : Cx} {pins : List (Addr × Obj)} {σ : L2.St} {H : Hp} {s : Shared}
/-- a(e), in the def that got the lambda, entered at s -/
theorem de_act {W : Wd} {Ng : List Str} {qg : Str} {sg : Scope} {g f c' : Addr} {cdg pm ctv : Value} {params : Arguments} {body e : Expr} {scope : Scope} {k i ix n : Nat} {a px : Str} {p1 p2 : Pos} {vs : List V} {cs : List Nat} {db de : Env → Mo PV} {Eg : XK}
    (I : Inv X pins σ H s) (L : Lam1 X.env.scope scope px) (hNd : X.N.Nodup) (hix : X.N[ix]? = some px) (hn : X.N.length = n)
    (hf : s.heap.get? f = some (PySem.W.kla_obj "<lambda>" (X.env.qual ++ "<lambda>") params body scope (cloFrom X.env.cells scope.names []) pm c' ctv)) (hfn : H f = none) (hfr : f ∉ frs X.stack)
    (hbind : ∀ u : Value, bindArgs (PySem.W.kla_fn "<lambda>" (X.env.qual ++ "<lambda>") params body scope (cloFrom X.env.cells scope.names []) pm (.ref c') ctv) ⟨[u], []⟩ = pure [(px, u)])
    (hlam : W.lam = some (f, c', X.env.qual ++ "<lambda>", vs)) (hcx : W.cx = CX0) (hvs : ∀ (j i : Nat) (v : V), cs[j]? = some i → vs[j]? = some v → σ[i]? = some (some v)) (hK : X.K = W.K) (hM : X.mg = W.mg)
    (hbody : ∀ (A : Around) (outer : List PySem.Env) (s : Shared) (H : Hp), DE (LamX.lamCx X A outer s H E0 scope f c').nox W k E0 body db)
    (hN : Ng[i]? = some a) (hva : Vis sg a)
    (he : DE (cxOf W.cx X.prog X.w X.K X.mg X.base Ng qg sg g cdg X.A X.stack s H Eg).nox W (k + 1) E0 e de)
    (hs : starEach [e] (cxOf W.cx X.prog X.w X.K X.mg X.base Ng qg sg g cdg X.A X.stack s H Eg).nox.env = (false, eval e (cxOf W.cx X.prog X.w X.K X.mg X.base Ng qg sg g cdg X.A X.stack s H Eg).nox.env) :: starEach [] (cxOf W.cx X.prog X.w X.K X.mg X.base Ng qg sg g cdg X.A X.stack s H Eg).nox.env)
    (hd : (a == ("__debug__" : Str)) = false) (hcd : (a == ("__classdict__" : Str)) = false) :
    DE (cxOf W.cx X.prog X.w X.K X.mg X.base Ng qg sg g cdg X.A X.stack s H Eg).nox W (k + 1) E0 (.Call (.Name a p1) [e] [] p2) (dAct i (lamF n cs ix db) de) := by
  refine ⟨fun oZ => ⟨fun pinsZ sZ σZ HZ Q IZ t => ?_⟩⟩
  obtain ⟨ι, ρ, st, re, rs, gd⟩ := t
  unfold dAct at gd
  have g0 := Good.bind gd
  unfold dVar at g0
  cases q : ρ[i]? with
  | none => rw [q] at g0; exact g0.elim
  | some w =>
    cases w with
    | none => rw [q] at g0; exact g0.elim
    | some w =>
      rw [q] at g0
      obtain ⟨v, h1, h2⟩ := re.at_ i w q
      have g1 := Good.bind (g0.ok rs)
      cases h2 <;> try exact g1.elim
      rename_i f0 c0 q0 vs0 caps hw hc0 rr
      rw [hlam] at hw
      cases hw
      have g2 := g1.ok rs
      refine wpAny_Call_Name_kw (thn ((pe_var (pos := p1) (i := i) hN hva hd hcd).run pinsZ sZ σZ HZ (fun v H1 => v = .ref f ∧ H1 = HZ) IZ ⟨.ref f, h1, rfl, rfl⟩) fun u s1 ⟨v, H1, I1, r1, q1⟩ => ?_)
      obtain ⟨ev, eH⟩ := q1
      subst ev
      rw [eH] at I1
      obtain rfl : u = Value.ref f := r1
      have keep : ∀ {s' : Shared} {H' : Hp}, Inv (cxOf W.cx X.prog X.w X.K X.mg X.base Ng qg sg g cdg X.A X.stack s H Eg).nox pinsZ σZ H' s' → s'.heap.get? f = some (PySem.W.kla_obj "<lambda>" (X.env.qual ++ "<lambda>") params body scope (cloFrom X.env.cells scope.names []) pm c' ctv) :=
        fun {s' H'} J => J.base.keep f _ hf hfn hfr (fun z => nomatch (show f ∈ ([] : List Addr) from z))
      refine PySem.W.callWith_F (first := []) ⟨_, _, _, _, keep I1⟩ (thn ((pa_cons (he.run oZ) pa_nil hs).run p2 pinsZ s1 σZ HZ (fun us H2 => ∃ (v : V) (p : PV) (ι2 : List Addr) (st2 : Sto), us = [v] ∧ RS W ι2 st2 H2 ∧ RV W ι2 H2 v p ∧ H2 c' = some (LamX.CodeO c' (X.env.qual ++ "<lambda>")) ∧ RVs W ι2 H2 vs caps ∧ Good W E0 ι2 H2 (lamF n cs ix db caps p st2) (kQ W Q)) I1
        ⟨ι, ρ, st, re, rs, Good.imp (Good.bind g2) fun p st1 ι1 H1 m1 r1 g3 v hv => ⟨v, p, ι1, st1, rfl, r1, hv, ext_mono rs m1 hc0, rvs_mono rs m1 _ _ rr, g3⟩⟩) fun us s2 ⟨xs, H2, I2, r2, v, p, ι2, st2, ex, rs2, hv, hc2, rr2, g3⟩ => ⟨⟨_, _, _, _, keep I2⟩, ?_⟩) hs (by rfl)
      subst ex
      cases r2 with
      | cons rv rt =>
        cases rt
        rename_i u _
        have of2 := keep I2
        have hr : Room (k + 1) (X.A.deeper (envOfC qg sg s.heap.objs.size g cdg)) := oZ.room
        obtain ⟨⟨oc, vs', tk', hoc, hdc, hvc⟩, _, _⟩ := I2.hok c' _ hc2
        have rc : codeAny (model X.prog X.w) (X.A.deeper (envOfC qg sg s.heap.objs.size g cdg)) (.call (.ref f) ⟨[u], []⟩) (CR CX0 (envOfC qg sg s.heap.objs.size g cdg :: X.stack) X.prog X.w H2 s2 Q E0) s2 := by
          refine PySem.W.kla_callFunE hr.depth of2 rfl L.co L.gen rfl ⟨c', oc, vs', tk', rfl, hoc, hdc, hvc⟩ ?_
          rw [hbind]
          refine wpAny_pure (wpAny_newFunctionEnv (fun y hy => (L.own y hy).1) (fun y hy => by
            have e : y = (px, u) := by simpa using hy
            subst e
            exact L.par) (fun h₁ hns hsb => ⟨I2.nolimit.fresh _ hsb, ?_⟩) L.kind)
          show codeAny _ _ (.expr body (LamX.lamEnv X scope s2.heap.objs.size f c')) _ _
          have kp : ∀ b o, s2.heap.get? b = some o → h₁.get? b = some o := fun b o e => hsb.extBut b o (Nat.ne_of_lt (Heap.lt_size e)) (Heap.get?_push_of_some _ e)
          have J : Inv (LamX.lamCx X (X.A.deeper (envOfC qg sg s.heap.objs.size g cdg)) (envOfC qg sg s.heap.objs.size g cdg :: X.stack) s2 H2 E0 scope f c') [] (σ.set ix (some v)) H2 { s2 with heap := h₁, toks := s2.toks + ([(px, u)] : List (Str × Value)).length } :=
            lam_start3 I L hNd hix rv I2.env0 hr.hd I2.base hns kp
          have on : On (LamX.lamCx X (X.A.deeper (envOfC qg sg s.heap.objs.size g cdg)) (envOfC qg sg s.heap.objs.size g cdg :: X.stack) s2 H2 E0 scope f c').nox W k E0 :=
            ⟨hK, hM, rfl, hNd, hr.deeper _, by rw [hcx]; exact pass0, fun _ _ z => z.elim, by rw [hcx]; exact fun _ _ _ _ _ z => z⟩
          have gl : Good W E0 ι2 H2 (db (envOf n cs ix caps p) st2) (kQ W Q) := by
            have g4 := g3
            unfold lamF at g4
            split at g4
            · exact g4
            · exact g4.elim
          have reL : RE W ι2 H2 (envOf n cs ix caps p) (σ.set ix (some v)) := ((RE.none_ n (I.len.trans hn)).setAll hvs rr2).set hv ix
          refine PySem.W.kla_codeExpr (wpAny_mono (((hbody _ _ s2 H2).run on).run [] _ _ H2 Q (J.wish _) ⟨ι2, _, st2, reL, rs2, gl⟩) (fun v' s' hq => ?_) fun e s' hq => (show False from hq).elim)
          obtain ⟨w', H', J', rv', q'⟩ := hq
          exact ⟨w', H', J'.os, J'.bare, J'.base, J'.hok, rv', q'⟩
        refine wpAny_call (codeAny_mono rc fun r s' hq => ?_)
        cases r with
        | error e => exact (show False from hq).elim
        | ok fl =>
          cases fl with
          | ret u => exact I2.after hq
          | next => exact False.elim hq
          | brk => exact False.elim hq
          | cont => exact False.elim hq
end
end PD
/-! PD: g(a, b, lambda x: ..). -/
namespace PD
open PySem PySem.Spec PyProof.Rows L2
section
variable {X : Cx} {pins : List (Addr × Obj)} {σ : L2.St} {H : Hp} {s : Shared}
/-- a lambda made, all that is known of it -/
theorem eval_lam2 {c P : Addr} {params : Arguments} {body : Expr} {scope : Scope} {lpos : Pos} {Q : Value → Shared → Prop} {E : Value → Shared → Prop} (I : Inv X pins σ H s) (TB : GxR.TabB X.base X.mg c P) (hcode : X.env.code = .ref c) (ht : LamX.TabS H P (X.env.qual ++ "<lambda>"))
    (hfree : ∀ y ∈ scope.names, y.2 = .free → ∃ c, X.env.cells.lookup y.1 = some c) (hdef : defaultsOf params X.env = ([], []))
    (h : ∀ (f cc : Addr) (pm ctv : Value) (H2 : Hp) (s2 : Shared), Inv X pins σ H2 s2 → LamNew P (X.env.qual ++ "<lambda>") H H2 → H2 cc = some (LamX.CodeO cc (X.env.qual ++ "<lambda>")) → H2 f = none → f ∉ frs X.stack →
      s2.heap.get? f = some (PySem.W.kla_obj "<lambda>" (X.env.qual ++ "<lambda>") params body scope (cloFrom X.env.cells scope.names []) pm cc ctv) → Q (.ref f) s2) :
    wpAny (model X.prog X.w) X.A (eval (.Lambda params body scope lpos) X.env) Q E s := by
  obtain ⟨ps, hP, hto, hco⟩ := ht
  have hPs : s.heap.get? P = some (PySem.W.tabObj ps) := I.hok P _ hP
  have cd : PySem.W.CodeHd s.heap c P := TB.code.keeps fun b u e => I.bk b u e
  obtain ⟨bm, ob, e1, e2, e3, e4, e5, e6, e7, e8⟩ := TB.bm
  have hb : s.heap.BuiltinsAt X.mg P := ⟨bm, ob, e1, e2, e3, e4, I.bk _ _ e5, e6, e7, e8⟩
  have hg : s.heap.Ns mainGlobals X.mg := I.mod.glob.keeps I.bk
  have nofr : ∀ f, s.heap.objs.size ≤ f → f ∉ frs X.stack := fun f hf z => by
    rcases List.mem_cons.mp (I.stkSub _ z) with e | e
    · have h1 := I.lt
      rw [← e] at h1
      exact absurd h1 (Nat.not_lt.mpr hf)
    · exact I.nofs hf e
  refine PySem.W.kla_eval hdef ?_
  cases hf : codeAmong lpos ps.toList with
  | none =>
    refine PySem.W.kla_makeFunction (closure_ok hfree) I.ok.glob hg hcode cd hPs hto hf TB.gP hb fun c' ctv h' tk hx hge hlt hrec htab => ?_
    obtain ⟨c2, oc, vs, t, ec, ho, hd, hv⟩ := hrec
    cases ec
    have I1 := LamX.inv_table (q := X.env.qual ++ "<lambda>") (t' := tk) I hP (fun b o hb e => hx b o hb e) htab hge ⟨oc, vs, t, ho, hd, hv⟩
    have I2 : Inv X pins σ _ { s with heap := h'.push (PySem.W.kla_obj "<lambda>" (X.env.qual ++ "<lambda>") params body scope (cloFrom X.env.cells scope.names []) ((X.mg "__name__").getD .none) c' ctv), toks := tk } := I1.kept (t' := tk) fun b o e => Heap.get?_push_of_some _ e
    have hc0 : H c' = none := I.hok.fresh hge
    have hcP : P ≠ c' := ne_of_none hP hc0
    have hsz : s.heap.objs.size ≤ h'.objs.size := Nat.le_trans hge (Nat.le_of_lt hlt)
    have elst : (ps ++ #[rawInt lpos.line, rawInt lpos.col, Value.ref c']).toList = ps.toList ++ [rawInt lpos.line, rawInt lpos.col, .ref c'] := by simp
    refine h h'.objs.size c' _ ctv _ _ I2 ⟨⟨_, by rw [upd_ne hcP]; exact upd_same, by rw [elst]; exact TriplesOk_snoc _ _ _ _ hto, fun pos cv hcv => ?_⟩, .inr ⟨ps, _, c', hP, hc0, rfl⟩⟩ upd_same ?_ (nofr _ hsz) (Heap.get?_push_size _ rfl)
    · rw [elst] at hcv
      rcases LamX.among_app _ hto hcv with z | z
      · obtain ⟨c3, q1, q2⟩ := hco pos cv z
        refine ⟨c3, q1, ?_⟩
        rw [upd_ne (fun y => by rw [y, hc0] at q2; cases q2), upd_ne (fun y => by rw [y, hP] at q2; cases q2)]
        exact q2
      · exact ⟨c', z, upd_same⟩
    · have n1 : h'.objs.size ≠ c' := Nat.ne_of_gt hlt
      have n2 : h'.objs.size ≠ P := Nat.ne_of_gt (Nat.lt_of_lt_of_le (Heap.lt_size hPs) hsz)
      rw [upd_ne n1, upd_ne n2]
      exact I.hok.fresh hsz
  | some cv =>
    obtain ⟨c', rfl, hcc⟩ := hco _ _ hf
    refine PySem.W.kla_makeFunctionHit (closure_ok hfree) I.ok.glob hg hcode cd hPs hto hf hb fun ctv h' tk hk hsz => ?_
    exact h h'.objs.size c' ((X.mg "__name__").getD .none) ctv H _ (I.kept (t' := tk) fun b o e => Heap.get?_push_of_some _ (hk b o e)) ⟨⟨ps, hP, hto, hco⟩, .inl rfl⟩ hcc (I.hok.fresh hsz) (nofr _ hsz) (Heap.get?_push_size _ rfl)
end
/-- the context of the def that gets the lambda -/
abbrev lcCx (X : Cx) (W : Wd) (Ng : List Str) (qg : Str) (sg : Scope) (g : Addr) (cdg : Value) (s : Shared) (H : Hp) (E : XK) : Cx := (cxOf W.cx X.prog X.w X.K X.mg X.base Ng qg sg g cdg X.A X.stack s H E).nox
section
variable {X : Cx} {W : Wd} {a1 a2 body : Expr} {d1 d2 db : Env → Mo PV} {params pg : Arguments} {scope sg : Scope} {p pos lpos : Pos} {g qg n1 n2 n3 px : Str} {fg cc P0 : Addr} {bg : List Stmt} {dg : Env → Mo Fl} {Ng : List Str} {cs : List Nat} {ix k n : Nat} {fd : FuncData} {Sg : List PV → Mo PV}
open Classical in
theorem de_lamcall (hl : W.lam = none) (hcx : W.cx = CX0) (TB : GxR.TabB X.base W.mg cc P0) (hP : (P0, X.env.qual ++ "<lambda>") ∈ W.tl) (hPu : ∀ p ∈ W.tl, p.1 = P0 → p.2 = X.env.qual ++ "<lambda>") (hcode : X.env.code = .ref cc)
    (Fd : FunD W.K g qg pg bg sg [] [] fg fd) (S : FnScope Ng [n1, n2, n3] sg) (hb : Binds W.K fd [n1, n2, n3] []) (hm : W.mg g = some (.ref fg))
    (h1 : DE X W (k + 3) E0 a1 d1) (h2 : DE X W (k + 3) E0 a2 d2) (L : Lam1 X.env.scope scope px) (hix : X.N[ix]? = some px)
    (hbind : ∀ (q : Str) (cl : List (Str × Addr)) (pm cv ctv u : Value), bindArgs (PySem.W.kla_fn "<lambda>" q params body scope cl pm cv ctv) ⟨[u], []⟩ = pure [(px, u)])
    (hlbody : ∀ (f c : Addr) (vs : List V) (A : Around) (outer : List PySem.Env) (s : Shared) (H : Hp), DE (LamX.lamCx X A outer s H E0 scope f c).nox (W.lamOf f c (X.env.qual ++ "<lambda>") vs) k E0 body db)
    (hgbody : ∀ (f c : Addr) (vs : List V) (cdg : Value) (s : Shared) (H : Hp) (E : XK),
      (∀ (e : Expr) (de : Env → Mo PV) (p1 p2 : Pos), DE (lcCx X (W.lamOf f c (X.env.qual ++ "<lambda>") vs) Ng qg sg fg cdg s H E) (W.lamOf f c (X.env.qual ++ "<lambda>") vs) (k + 1) E0 e de →
        starEach [e] (lcCx X (W.lamOf f c (X.env.qual ++ "<lambda>") vs) Ng qg sg fg cdg s H E).env = (false, eval e (lcCx X (W.lamOf f c (X.env.qual ++ "<lambda>") vs) Ng qg sg fg cdg s H E).env) :: starEach [] (lcCx X (W.lamOf f c (X.env.qual ++ "<lambda>") vs) Ng qg sg fg cdg s H E).env →
        DE (lcCx X (W.lamOf f c (X.env.qual ++ "<lambda>") vs) Ng qg sg fg cdg s H E) (W.lamOf f c (X.env.qual ++ "<lambda>") vs) (k + 1) E0 (.Call (.Name n3 p1) [e] [] p2) (dAct 2 (lamF n cs ix db) de)) →
      DSs (lcCx X (W.lamOf f c (X.env.qual ++ "<lambda>") vs) Ng qg sg fg cdg s H E) (W.lamOf f c (X.env.qual ++ "<lambda>") vs) (k + 1) E0 bg dg)
    (hva : Vis sg n3) (hSg : Sg = bodyF Ng.length dg := by rfl) (hn : X.N.length = n := by rfl) (hg : Gl X g := by rfl) (hdef : defaultsOf params X.env = ([], []) := by rfl)
    (hdb : (g == ("__debug__" : Str)) = false := by decide) (hd : (n3 == ("__debug__" : Str)) = false := by decide) (hcd : (n3 == ("__classdict__" : Str)) = false := by decide)
    (he : starEach [a1, a2, .Lambda params body scope lpos] X.env = (false, eval a1 X.env) :: starEach [a2, .Lambda params body scope lpos] X.env := by rfl) (hpl : (backTo pos (starEach [a2, .Lambda params body scope lpos] X.env)).any (·.1) = false := by rfl)
    (he3 : backTo pos (starEach [a1, a2, .Lambda params body scope lpos] X.env) = [(false, eval a1 X.env), (false, eval a2 X.env), (false, eval (.Lambda params body scope lpos) X.env)] := by rfl) :
    DE X W (k + 3) E0 (.Call (.Name g p) [a1, a2, .Lambda params body scope lpos] [] pos) (fun ρ => bnd (d1 ρ) fun q1 => bnd (d2 ρ) fun q2 => bnd (capsM cs ρ) fun caps => lamM (Sg [q1, q2, .clo caps])) := by
  subst hSg
  refine ⟨fun o => ⟨fun pins s σ H Q I t => ?_⟩⟩
  obtain ⟨ι, ρ, st, re, rs, gd⟩ := t
  have hKK := o.hK
  have hMM := o.hM
  refine wpAny_Call_Name_kw (ld_glob I hg (by rw [o.hM]; exact hm) ?_ hdb)
  refine PySem.W.callWith_K (h₀ := X.base) (first := []) I.ok.mod.kin (by rw [o.hK]; exact Fd.kp) ?_ he hpl
  rw [he3]
  have TBX : GxR.TabB X.base X.mg cc P0 := by rw [o.hM]; exact TB
  refine Calls.spliced_cons (thn ((h1.run o).run pins s σ H (fun x1 H1 => ∃ (q1 : PV) (ι1 : List Addr) (st1 : Sto), RE W ι1 H1 ρ σ ∧ RS W ι1 st1 H1 ∧ RV W ι1 H1 x1 q1 ∧ Good W E0 ι1 H1 (bnd (d2 ρ) (fun q2 => bnd (capsM cs ρ) fun caps => lamM (bodyF Ng.length dg [q1, q2, .clo caps])) st1) (kQ W Q)) I
    ⟨ι, ρ, st, re, rs, Good.imp (Good.bind gd) fun q1 st1 ι1 H1 m1 r1 g1 v hv => ⟨q1, ι1, st1, re.mono rs m1, r1, hv, g1⟩⟩) fun u1 s1 ⟨x1, H1, I1, rx1, q1, ι1, st1, re1, rs1, rv1, g1⟩ => ?_)
  refine Calls.spliced_cons (thn ((h2.run o).run pins s1 σ H1 (fun x2 H2 => ∃ (q2 : PV) (ι2 : List Addr) (st2 : Sto), RE W ι2 H2 ρ σ ∧ RS W ι2 st2 H2 ∧ RV W ι2 H2 x1 q1 ∧ RV W ι2 H2 x2 q2 ∧ Good W E0 ι2 H2 (bnd (capsM cs ρ) (fun caps => lamM (bodyF Ng.length dg [q1, q2, .clo caps])) st2) (kQ W Q)) I1
    ⟨ι1, ρ, st1, re1, rs1, Good.imp (Good.bind g1) fun q2 st2 ι2 H2 m2 r2 g2 v hv => ⟨q2, ι2, st2, re1.mono rs1 m2, r2, rv_mono rs1 m2 _ _ rv1, hv, g2⟩⟩) fun u2 s2 ⟨x2, H2, I2, rx2, q2, ι2, st2, re2, rs2, rv1', rv2, g2⟩ => ?_)
  have hfree := L.has I2.ok
  refine Calls.spliced_cons (eval_lam2 I2 TBX hcode (rs2.tl _ hP) hfree hdef fun f c' pm ctv H3 s3 I3 hnew hc' hfn hfr hfo => Calls.spliced_nil ⟨I3.kIn, ?_⟩)
  obtain ⟨m3, rs3⟩ := lam_rs rs2 hP hPu hnew
  have re3 := re2.mono rs2 m3
  have rv13 := rv_mono rs2 m3 _ _ rv1'
  have rv23 := rv_mono rs2 m3 _ _ rv2
  have g3 := Good.shift g2 m3
  obtain ⟨vs, caps, rvs, hcl, hvs, g4⟩ := caps_of re3 rs3 (Good.bind g3)
  obtain ⟨oc, od, dV, kV, doc, pm', an, cdv, ct, osl, rfl, lk, hcd', _, _⟩ := Fd.ex
  have rsW : RS (W.lamOf f c' (X.env.qual ++ "<lambda>") vs) ι2 st2 H3 := rs_in hl rs3
  have rvC : RV (W.lamOf f c' (X.env.qual ++ "<lambda>") vs) ι2 H3 (.ref f) (.clo caps) := .clo rfl hc' (rvs_in hl _ _ rvs)
  have rr : RVs (W.lamOf f c' (X.env.qual ++ "<lambda>") vs) ι2 H3 [x1, x2, .ref f] [q1, q2, .clo caps] := .cons (rv_in hl _ _ rv13) (.cons (rv_in hl _ _ rv23) (.cons rvC .nil))
  have gB : Good (W.lamOf f c' (X.env.qual ++ "<lambda>") vs) E0 ι2 H3 (bodyF Ng.length dg [q1, q2, .clo caps] st2) (kQ (W.lamOf f c' (X.env.qual ++ "<lambda>") vs) Q) := by
    unfold lamM at g4
    cases hF : bodyF Ng.length dg [q1, q2, .clo caps] st2 with
    | ok z st' =>
      rw [hF] at g4
      obtain ⟨⟨hz, hst⟩, g5⟩ := good_if g4
      intro ι' H' m' rs' v hv
      have hno : ∀ (i : Nat) (o : Ob), st'[i]? = some o → nocloO o = true := fun i o ho => by
        rcases hst i o ho with h | h
        · exact rs_noclo hl rs3 i o h
        · exact h
      exact g5 ι' H' m' (rs_out hno rs') v (rv_out _ _ hz hv)
    | exc c st' => rw [hF] at g4; exact g4.elim
    | stuck => rw [hF] at g4; exact g4.elim
  have rc : codeAny (model X.prog X.w) X.A (.call (.ref fg) ⟨[u1, u2, .ref f], []⟩) (CR CX0 X.stack X.prog X.w H3 s3 Q E0) s3 := by
    refine LamX.run_ofS (N := Ng) (ps := [n1, n2, n3]) (us := [u1, u2, .ref f]) (vs := [x1, x2, .ref f]) (k := k + 1) (by rw [o.hK]; exact lk) (by rw [o.hK]; exact hcd') S (o.room.mono (by omega)) I3.env0 (by
      have := hb s3 [u1, u2, .ref f] (by rw [← o.hK]; exact I3.kIn) rfl
      exact this) (.cons rx1 (.cons rx2 (.cons rfl .nil))) rfl fun hr' => ?_
    have body := hgbody f c' vs cdv s3 H3 E0 fun e de p1 p2 hde hs => de_act (W := W.lamOf f c' (X.env.qual ++ "<lambda>") vs) (i := 2) (n := n) (a := n3) I3 L o.nd hix hn hfo hfn hfr (fun u => hbind _ _ _ _ _ u) rfl hcx hvs hKK hMM (fun A outer s H => hlbody f c' vs A outer s H) (by
      have h3 := S.pre
      cases Ng with
      | nil => cases h3
      | cons a Ng => cases Ng with
        | nil => cases h3
        | cons b Ng => cases Ng with
          | nil => cases h3
          | cons c Ng =>
            have : [a, b, c] = [n1, n2, n3] := h3
            cases this
            rfl) hva hde hs hd hcd
    have := body_ok (W := W.lamOf f c' (X.env.qual ++ "<lambda>") vs) (P := X.prog) (w := X.w) (base := X.base) (N := Ng) (ps := [n1, n2, n3]) (qual := qg) (scope := sg) (f := fg) (cdv := cdv) (A := X.A) (outer := X.stack) (s := s3) (H := H3) (vs := [x1, x2, .ref f]) (Q := Q) (E := E0) (d := dg) hcx S (by
      have b := body
      unfold lcCx at b
      rw [hKK, hMM] at b
      exact b) hr' ⟨ι2, _, st2, rsW, rr, rfl, gB⟩
    rw [show (W.lamOf f c' (X.env.qual ++ "<lambda>") vs).cx = CX0 from hcx] at this
    rw [hKK, hMM]
    exact this
  refine wpAny_call (codeAny_mono rc fun r s' hq => ?_)
  cases r with
  | error e => exact (show False from hq).elim
  | ok fl =>
    cases fl with
    | ret u => exact I3.after hq
    | next => exact False.elim hq
    | brk => exact False.elim hq
    | cont => exact False.elim hq
end
end PD
/-! PD: range downwards; sorted(set(t)), sorted(t) of a tuple. -/
namespace PD
open PySem PySem.Spec PyProof.Rows L2
section
variable {X : Cx} {W : Wd} {k : Nat} {E : XK} {a b c e : Expr} {d : Env → Mo PV} {dl : Env → Mo (List PV)} {p p2 q2 pos : Pos}
/-- i, i - 1, .. (n of them) -/
def rgD (i : Int) (n : Nat) : List PV := (List.range n).map fun t : Nat => PV.int (i + (t : Int) * (-1))
def rg3M : List PV → Mo Src
  | [.int i, .int j, .int s] => fun st => if RgOk i ∧ RgOk j ∧ s = -1 then .ok (sV (rgD i (i - j).toNat)) st else .stuck
  | _ => fail
theorem jok_itc {W : Wd} {i : Int} {n : Nat} {ι0 : List Addr} {H0 : Hp} : JOk W (sV (rgD i n)) (Itc i (-1) n) ι0 H0 := by
  intro ι H st m rs hc t
  have hl : (rgD i n).length = n := by unfold rgD; simp
  refine ⟨fun q hq => ?_, fun h => ?_⟩
  · have ht : t < n := by rw [← hl]; exact (List.getElem?_eq_some_iff.mp hq).1
    have e : (rgD i n)[t]? = some (.int (i + (t : Int) * (-1))) := by
      unfold rgD
      rw [List.getElem?_map, List.getElem?_range ht]
      rfl
    have hq : (rgD i n)[t]? = some q := hq
    rw [e] at hq
    cases hq
    refine ⟨ht, fun x H' y => ?_⟩
    obtain ⟨rfl, rfl⟩ := y
    exact ⟨Mono.refl, rs, .int _⟩
  · have h : (rgD i n).length ≤ t := h
    rw [hl] at h
    exact h
theorem di_range3 {tg : Expr} (h : DA X W k E [a, b, c] dl) (hg : Gl X "range") (hm : W.mg "range" = none) (hs : starEach [a, b, c] X.env = (false, eval a X.env) :: starEach [b, c] X.env := by rfl) (hpl : (backTo pos (starEach [b, c] X.env)).any (·.1) = false := by rfl) :
    DI X W k E tg (.Call (.Name "range" p) [a, b, c] [] pos) (fun ρ => bnd (dl ρ) rg3M) := ⟨fun o => pi_imp (pi_range3 hg (by rw [o.hM]; exact hm) (h.run o) hs hpl) fun σ H R t => by
  obtain ⟨ι, ρ, st, re, rs, g⟩ := t
  refine ⟨ι, ρ, st, re, rs, Good.imp (Good.bind g) fun l st1 ι1 H1 m1 r1 g1 vs hv => ?_⟩
  cases hv with
  | nil => exact g1.elim
  | cons h1 t1 =>
    cases t1 with
    | nil => cases h1 <;> exact g1.elim
    | cons h2 t2 =>
      cases t2 with
      | nil => cases h1 <;> cases h2 <;> exact g1.elim
      | cons h3 t3 =>
        cases t3 with
        | cons _ _ => cases h1 <;> cases h2 <;> cases h3 <;> exact g1.elim
        | nil =>
          cases h1 <;> cases h2 <;> cases h3 <;> try exact g1.elim
          obtain ⟨⟨c1, c2, rfl⟩, g2⟩ := good_if g1
          exact ⟨_, _, _, _, rfl, RgC.neg (by have := c1.1; omega) (by have := c1.2; omega) (by have := c2.1; omega) (by have := c2.2; omega), g2.ok r1 _ H1 Mono.refl r1 jok_itc⟩⟩
/-- sorted(set(t)), t a tuple -/
def tupM' (q : PV) : Mo (List PV) := fun st => match q with
  | .tup l => .ok l st
  | _ => .stuck
theorem dl_sortSetT (h : DE X W k E a d) (hm : W.mg "sorted" = none) (hm2 : W.mg "set" = none) (hg : Gl X "sorted" := by rfl) (hg2 : Gl X "set" := by rfl)
    (na : starEach [a] X.env = (false, eval a X.env) :: starEach [] X.env := by rfl) : DL X W k E (.Call (.Name "sorted" p) [.Call (.Name "set" p2) [a] [] q2] [] pos) (fun ρ => bnd (d ρ) fun q => bnd (tupM' q) sortSetQ) :=
  ⟨fun o => pe_imp (pe_sortSet o.hc hg (by rw [o.hM]; exact hm) hg2 (by rw [o.hM]; exact hm2) (h.run o) na) fun σ H Q t => by
    obtain ⟨ι, ρ, st, re, rs, g⟩ := t
    refine ⟨ι, ρ, st, re, rs, Good.imp (Good.bind g) fun q st1 ι1 H1 m1 r1 g1 v hv => ?_⟩
    have g0 := Good.bind g1
    cases hv <;> try exact g0.elim
    rename_i ta vs l sq rr hz
    have g2 : Good W E ι1 H1 (match intsV l with | some ns => if ns.length ≤ 4000 then .ok ((srtI ns).map PV.int) st1 else .stuck | none => .stuck) (kL W H Q) := g0.ok r1
    cases hns : intsV l with
    | none => rw [hns] at g2; exact g2.elim
    | some ns =>
      rw [hns] at g2
      obtain ⟨hc, g3⟩ := good_if g2
      have e := intsV_some hns
      subst e
      have e2 := RVs.of_ints rr
      subst e2
      refine ⟨ta, ns, rfl, .inr (by rw [o.hK]; exact sq), hc, fun nl hnl => ?_⟩
      exact good_newlst g3 r1 (rvs_intsL _) (by rw [List.length_map]; have := srtI_length ns; omega) hnl (none_back rs m1 r1.some_ hnl)⟩
end
end PD
/-! PD: a list against an empty list. -/
namespace PD
open PySem PySem.Spec PyProof.Rows L2
section
variable {X : Cx} {W : Wd} {k : Nat} {E : XK} {a b : Expr} {da db : Env → Mo PV} {pos : Pos}
def emB (ne : Bool) {α : Type} {β : Type} (l : List α) (m : List β) : Bool := if ne then !(l.isEmpty && m.isEmpty) else (l.isEmpty && m.isEmpty)
def rEqL (K : PySem.W.Frag) (ne : Bool) : R2 := fun x y H Q => ∃ p q vs us, x = .ref p ∧ y = .ref q ∧ SqL K H p vs ∧ SqL K H q us ∧ (vs.isEmpty = true ∨ us.isEmpty = true) ∧ Q (.bl (emB ne vs us)) H
theorem em_cases {α β : Type} {vs : List α} {us : List β} (he : vs.isEmpty = true ∨ us.isEmpty = true) : (vs.length = us.length ∧ vs.length = 0 ∧ (vs.isEmpty && us.isEmpty) = true) ∨ (vs.length ≠ us.length ∧ (vs.isEmpty && us.isEmpty) = false) := by
  cases vs with
  | nil =>
    cases us with
    | nil => exact .inl ⟨rfl, rfl, rfl⟩
    | cons u us => exact .inr ⟨by simp, rfl⟩
  | cons v vs =>
    cases us with
    | nil => exact .inr ⟨by simp, rfl⟩
    | cons u us => rcases he with h | h <;> cases h
theorem op_eqL (hu : X.A.units + 64 < cLine) : OpR X (compareOp .Eq) (rEqL X.K false) := by
  rintro pins s σ H x y v u Q I rx ry ⟨p, q, vs, us, rfl, rfl, h1, h2, he, hq⟩
  cases rx
  cases ry
  obtain ⟨its, r, pl, hz⟩ := I.list h1
  obtain ⟨its2, r2, pl2, hz2⟩ := I.list h2
  have l1 := r.length
  have l2 := r2.length
  rcases em_cases he with ⟨e, e0, eb⟩ | ⟨e, eb⟩
  · have e1 : (emB false vs us) = (List.range its.toArray.size).all fun _ => false := by
      rw [List.size_toArray, ← l1, e0]
      exact eb
    refine SeqAt.eq_listAt (e := fun _ => false) pl.isList pl2.isList (by simp; omega) (by omega) (fun j h _ => absurd h (by simp; omega)) ?_
    rw [← e1]
    exact ⟨.bl _, H, I, rfl, hq⟩
  · refine SeqAt.eq_list_lengthsAt pl.isList pl2.isList (by simp; omega) (by omega) ?_
    exact ⟨.bl false, H, I, rfl, by rw [show false = emB false vs us from eb.symm]; exact hq⟩
theorem op_neL (hu : X.A.units + 64 < cLine) : OpR X (compareOp .NotEq) (rEqL X.K true) := by
  rintro pins s σ H x y v u Q I rx ry ⟨p, q, vs, us, rfl, rfl, h1, h2, he, hq⟩
  cases rx
  cases ry
  obtain ⟨its, r, pl, hz⟩ := I.list h1
  obtain ⟨its2, r2, pl2, hz2⟩ := I.list h2
  have l1 := r.length
  have l2 := r2.length
  rcases em_cases he with ⟨e, e0, eb⟩ | ⟨e, eb⟩
  · have e1 : (emB true vs us) = !((List.range its.toArray.size).all fun _ => false) := by
      rw [List.size_toArray, ← l1, e0]
      show (!_) = _
      rw [eb]
      rfl
    refine SeqAt.RcNeAt.lists (e := fun _ => false) pl.isList pl2.isList (by simp; omega) (by omega) (fun j h _ => absurd h (by simp; omega)) _ _ _ _ ?_
    rw [← e1]
    exact ⟨.bl _, H, I, rfl, hq⟩
  · refine SeqAt.RcNeAt.lists_lengths pl.isList pl2.isList (by simp; omega) (by omega) _ _ _ _ ?_
    exact ⟨.bl true, H, I, rfl, by rw [show true = emB true vs us by unfold emB; rw [eb]; rfl]; exact hq⟩
def oEqL (ne : Bool) (p q : PV) : Mo PV := bnd (lstM p) fun l => bnd (lstM q) fun m => fun st => if l.isEmpty = true ∨ m.isEmpty = true then .ok (.bl (emB ne l m)) st else .stuck
theorem rvs_empty {ι : List Addr} {H : Hp} {vs : List V} {l : List PV} (r : RVs W ι H vs l) : vs.isEmpty = l.isEmpty := by cases r <;> rfl
theorem fok_eqL {ne : Bool} : FOk W E (rEqL W.K ne) (oEqL ne) := by
  intro ι st H x y p q Q rs hx hy g0
  obtain ⟨a, vs, l, rfl, h1, h2, h3, g1⟩ := lst_of (α := Nat) rs hx (Good.bind g0)
  obtain ⟨b, us, m, rfl, k1, k2, k3, g2⟩ := lst_of (α := Nat) rs hy (Good.bind g1)
  obtain ⟨he, g3⟩ := good_if g2
  have e1 := rvs_empty h2
  have e2 := rvs_empty k2
  refine ⟨a, b, vs, us, rfl, rfl, h1, k1, by rw [e1, e2]; exact he, ?_⟩
  have e3 : emB ne vs us = emB ne l m := by unfold emB; rw [e1, e2]
  rw [e3]
  exact g3.ok rs _ (.bl _)
theorem de_eqL (ha : DE X W k E a da) (hb : DE X W k E b db) : DE X W k E (.Compare a [.Eq] [b] pos) (dBin (oEqL false) da db) :=
  de_cmp (fun o => by rw [← o.hK]; exact op_eqL (by have := o.room.un; omega)) fok_eqL ha hb (nomark _)
theorem de_neL (ha : DE X W k E a da) (hb : DE X W k E b db) : DE X W k E (.Compare a [.NotEq] [b] pos) (dBin (oEqL true) da db) :=
  de_cmp (fun o => by rw [← o.hK]; exact op_neL (by have := o.room.un; omega)) fok_eqL ha hb (nomark _)
theorem dt_eqL (ha : DE X W k E a da) (hb : DE X W k E b db) : DT X W k E (.Compare a [.Eq] [b] pos) (dB (dBin (oEqL false) da db)) :=
  dt_cmp (fun o => by rw [← o.hK]; exact op_eqL (by have := o.room.un; omega)) fok_eqL ha hb (nomark _)
theorem dt_neL (ha : DE X W k E a da) (hb : DE X W k E b db) : DT X W k E (.Compare a [.NotEq] [b] pos) (dB (dBin (oEqL true) da db)) :=
  dt_cmp (fun o => by rw [← o.hK]; exact op_neL (by have := o.room.un; omega)) fok_eqL ha hb (nomark _)
@[simp] theorem o_eqL {ne : Bool} {p q : PV} {st : Sto} : oEqL ne p q st = bnd (lstM p) (fun l => bnd (lstM q) fun m => fun st => if l.isEmpty = true ∨ m.isEmpty = true then .ok (.bl (emB ne l m)) st else .stuck) st := rfl
end
end PD
namespace K46
open PySem PySem.Spec PyProof.Rows L2 PD
def top (i : Nat) : Stmt := PySem.Challenge.pw_backtohand_k46_whole_base.main.body.getD i (.Pass ⟨0, 0, 0, 0⟩)
abbrev J_common_marks : Nat := 0
abbrev J_common_things : Nat := 1
abbrev J_closure : Nat := 2
abbrev J_next_set : Nat := 3
abbrev J_is_part : Nat := 4
abbrev J_holds : Nat := 5
abbrev J_keeps : Nat := 6
abbrev J_with_marks : Nat := 7
abbrev J_follow_paper : Nat := 8
abbrev J_closed_apart : Nat := 9
abbrev J_base : Nat := 10
abbrev J__law_box : Nat := 11
abbrev J__law_load : Nat := 12
abbrev J__law_draw : Nat := 13
abbrev J__law_same : Nat := 14
abbrev J__law_table : Nat := 15
abbrev J__law_rows : Nat := 16
abbrev J__law_number : Nat := 17
abbrev J__law_set : Nat := 18
abbrev J__law_closure : Nat := 19
abbrev J__law_pseudo : Nat := 20
abbrev J_law : Nat := 21
structure Ev (W : Wd) (base : Heap) : Prop where
  cx : W.cx = CX0
  b_all : W.mg "all" = none
  b_bool : W.mg "bool" = none
  b_enumerate : W.mg "enumerate" = none
  b_int : W.mg "int" = none
  b_isinstance : W.mg "isinstance" = none
  b_len : W.mg "len" = none
  b_list : W.mg "list" = none
  b_range : W.mg "range" = none
  b_set : W.mg "set" = none
  b_sorted : W.mg "sorted" = none
  b_str : W.mg "str" = none
  b_sum : W.mg "sum" = none
  b_tuple : W.mg "tuple" = none
  g_common_marks : W.mg "common_marks" = some (.ref (He.fAd W.K ("common_marks", none)))
  a_common_marks : W.fa J_common_marks = some (He.fAd W.K ("common_marks", none))
  D_common_marks : ∃ fd, FunD W.K "common_marks" "common_marks" (defArgs (top 1)) (defBody (top 1)) (defScope (top 1)) [] [] (He.fAd W.K ("common_marks", none)) fd
  g_common_things : W.mg "common_things" = some (.ref (He.fAd W.K ("common_things", none)))
  a_common_things : W.fa J_common_things = some (He.fAd W.K ("common_things", none))
  D_common_things : ∃ fd, FunD W.K "common_things" "common_things" (defArgs (top 2)) (defBody (top 2)) (defScope (top 2)) [] [] (He.fAd W.K ("common_things", none)) fd
  g_closure : W.mg "closure" = some (.ref (He.fAd W.K ("closure", none)))
  a_closure : W.fa J_closure = some (He.fAd W.K ("closure", none))
  D_closure : ∃ fd, FunD W.K "closure" "closure" (defArgs (top 3)) (defBody (top 3)) (defScope (top 3)) [] [] (He.fAd W.K ("closure", none)) fd
  g_is_part : W.mg "is_part" = some (.ref (He.fAd W.K ("is_part", none)))
  a_is_part : W.fa J_is_part = some (He.fAd W.K ("is_part", none))
  D_is_part : ∃ fd, FunD W.K "is_part" "is_part" (defArgs (top 7)) (defBody (top 7)) (defScope (top 7)) [] [] (He.fAd W.K ("is_part", none)) fd
  g_holds : W.mg "holds" = some (.ref (He.fAd W.K ("holds", none)))
  a_holds : W.fa J_holds = some (He.fAd W.K ("holds", none))
  D_holds : ∃ fd, FunD W.K "holds" "holds" (defArgs (top 8)) (defBody (top 8)) (defScope (top 8)) [] [] (He.fAd W.K ("holds", none)) fd
  g_keeps : W.mg "keeps" = some (.ref (He.fAd W.K ("keeps", none)))
  a_keeps : W.fa J_keeps = some (He.fAd W.K ("keeps", none))
  D_keeps : ∃ fd, FunD W.K "keeps" "keeps" (defArgs (top 9)) (defBody (top 9)) (defScope (top 9)) [] [] (He.fAd W.K ("keeps", none)) fd
  g_with_marks : W.mg "with_marks" = some (.ref (He.fAd W.K ("with_marks", none)))
  a_with_marks : W.fa J_with_marks = some (He.fAd W.K ("with_marks", none))
  D_with_marks : ∃ fd, FunD W.K "with_marks" "with_marks" (defArgs (top 10)) (defBody (top 10)) (defScope (top 10)) [] [] (He.fAd W.K ("with_marks", none)) fd
  g_follow_paper : W.mg "follow_paper" = some (.ref (He.fAd W.K ("follow_paper", none)))
  a_follow_paper : W.fa J_follow_paper = some (He.fAd W.K ("follow_paper", none))
  D_follow_paper : ∃ fd, FunD W.K "follow_paper" "follow_paper" (defArgs (top 11)) (defBody (top 11)) (defScope (top 11)) [] [] (He.fAd W.K ("follow_paper", none)) fd
  g_next_set : W.mg "next_set" = some (.ref (He.fAd W.K ("next_set", none)))
  a_next_set : W.fa J_next_set = some (He.fAd W.K ("next_set", none))
  D_next_set : ∃ fd, FunD W.K "next_set" "next_set" (defArgs (top 5)) (defBody (top 5)) (defScope (top 5)) [] [] (He.fAd W.K ("next_set", none)) fd
  g_closed_apart : W.mg "closed_apart" = some (.ref (He.fAd W.K ("closed_apart", none)))
  a_closed_apart : W.fa J_closed_apart = some (He.fAd W.K ("closed_apart", none))
  D_closed_apart : ∃ fd, FunD W.K "closed_apart" "closed_apart" (defArgs (top 12)) (defBody (top 12)) (defScope (top 12)) [] [] (He.fAd W.K ("closed_apart", none)) fd
  g_base : W.mg "base" = some (.ref (He.fAd W.K ("base", none)))
  a_base : W.fa J_base = some (He.fAd W.K ("base", none))
  D_base : ∃ fd, FunD W.K "base" "base" (defArgs (top 13)) (defBody (top 13)) (defScope (top 13)) [] [] (He.fAd W.K ("base", none)) fd
  g__law_box : W.mg "_law_box" = some (.ref (He.fAd W.K ("_law_box", none)))
  a__law_box : W.fa J__law_box = some (He.fAd W.K ("_law_box", none))
  D__law_box : ∃ fd, FunD W.K "_law_box" "_law_box" (defArgs (top 15)) (defBody (top 15)) (defScope (top 15)) [] [] (He.fAd W.K ("_law_box", none)) fd
  g__law_load : W.mg "_law_load" = some (.ref (He.fAd W.K ("_law_load", none)))
  a__law_load : W.fa J__law_load = some (He.fAd W.K ("_law_load", none))
  D__law_load : ∃ fd, FunD W.K "_law_load" "_law_load" (defArgs (top 16)) (defBody (top 16)) (defScope (top 16)) [] [] (He.fAd W.K ("_law_load", none)) fd
  g__law_draw : W.mg "_law_draw" = some (.ref (He.fAd W.K ("_law_draw", none)))
  a__law_draw : W.fa J__law_draw = some (He.fAd W.K ("_law_draw", none))
  D__law_draw : ∃ fd, FunD W.K "_law_draw" "_law_draw" (defArgs (top 17)) (defBody (top 17)) (defScope (top 17)) [] [] (He.fAd W.K ("_law_draw", none)) fd
  g__law_same : W.mg "_law_same" = some (.ref (He.fAd W.K ("_law_same", none)))
  a__law_same : W.fa J__law_same = some (He.fAd W.K ("_law_same", none))
  D__law_same : ∃ fd, FunD W.K "_law_same" "_law_same" (defArgs (top 18)) (defBody (top 18)) (defScope (top 18)) [] [] (He.fAd W.K ("_law_same", none)) fd
  g__law_table : W.mg "_law_table" = some (.ref (He.fAd W.K ("_law_table", none)))
  a__law_table : W.fa J__law_table = some (He.fAd W.K ("_law_table", none))
  D__law_table : ∃ fd, FunD W.K "_law_table" "_law_table" (defArgs (top 19)) (defBody (top 19)) (defScope (top 19)) [] [] (He.fAd W.K ("_law_table", none)) fd
  g__law_rows : W.mg "_law_rows" = some (.ref (He.fAd W.K ("_law_rows", none)))
  a__law_rows : W.fa J__law_rows = some (He.fAd W.K ("_law_rows", none))
  D__law_rows : ∃ fd, FunD W.K "_law_rows" "_law_rows" (defArgs (top 20)) (defBody (top 20)) (defScope (top 20)) [] [] (He.fAd W.K ("_law_rows", none)) fd
  g__law_number : W.mg "_law_number" = some (.ref (He.fAd W.K ("_law_number", none)))
  a__law_number : W.fa J__law_number = some (He.fAd W.K ("_law_number", none))
  D__law_number : ∃ fd, FunD W.K "_law_number" "_law_number" (defArgs (top 21)) (defBody (top 21)) (defScope (top 21)) [] [] (He.fAd W.K ("_law_number", none)) fd
  g__law_set : W.mg "_law_set" = some (.ref (He.fAd W.K ("_law_set", none)))
  a__law_set : W.fa J__law_set = some (He.fAd W.K ("_law_set", none))
  D__law_set : ∃ fd, FunD W.K "_law_set" "_law_set" (defArgs (top 22)) (defBody (top 22)) (defScope (top 22)) [] [] (He.fAd W.K ("_law_set", none)) fd
  g__law_closure : W.mg "_law_closure" = some (.ref (He.fAd W.K ("_law_closure", none)))
  a__law_closure : W.fa J__law_closure = some (He.fAd W.K ("_law_closure", none))
  D__law_closure : ∃ fd, FunD W.K "_law_closure" "_law_closure" (defArgs (top 23)) (defBody (top 23)) (defScope (top 23)) [] [] (He.fAd W.K ("_law_closure", none)) fd
  g__law_pseudo : W.mg "_law_pseudo" = some (.ref (He.fAd W.K ("_law_pseudo", none)))
  a__law_pseudo : W.fa J__law_pseudo = some (He.fAd W.K ("_law_pseudo", none))
  D__law_pseudo : ∃ fd, FunD W.K "_law_pseudo" "_law_pseudo" (defArgs (top 24)) (defBody (top 24)) (defScope (top 24)) [] [] (He.fAd W.K ("_law_pseudo", none)) fd
  g_law : W.mg "law" = some (.ref (He.fAd W.K ("law", none)))
  a_law : W.fa J_law = some (He.fAd W.K ("law", none))
  D_law : ∃ fd, FunD W.K "law" "law" (defArgs (top 25)) (defBody (top 25)) (defScope (top 25)) [] [] (He.fAd W.K ("law", none)) fd
  T_common_marks : GxR.TabB base W.mg (He.cT W.K ("common_marks", none)).1 (He.cT W.K ("common_marks", none)).2
  p_common_marks : (He.cT W.K ("common_marks", none)).2 ∈ W.tb
  q_common_marks : ∀ p ∈ W.tl, p.1 ≠ (He.cT W.K ("common_marks", none)).2
  T_common_things : GxR.TabB base W.mg (He.cT W.K ("common_things", none)).1 (He.cT W.K ("common_things", none)).2
  p_common_things : (He.cT W.K ("common_things", none)).2 ∈ W.tb
  q_common_things : ∀ p ∈ W.tl, p.1 ≠ (He.cT W.K ("common_things", none)).2
  T_is_part : GxR.TabB base W.mg (He.cT W.K ("is_part", none)).1 (He.cT W.K ("is_part", none)).2
  p_is_part : (He.cT W.K ("is_part", none)).2 ∈ W.tb
  q_is_part : ∀ p ∈ W.tl, p.1 ≠ (He.cT W.K ("is_part", none)).2
  T_base : GxR.TabB base W.mg (He.cT W.K ("base", none)).1 (He.cT W.K ("base", none)).2
  l_base : ((He.cT W.K ("base", none)).2, ("base" : Str) ++ ".<locals>." ++ "<lambda>") ∈ W.tl
  u_base : ∀ p ∈ W.tl, p.1 = (He.cT W.K ("base", none)).2 → p.2 = ("base" : Str) ++ ".<locals>." ++ "<lambda>"
theorem Ev.lamOf_ {W : Wd} {base : Heap} (V : Ev W base) (f c : Addr) (q : Str) (vs : List L2.V) : Ev (W.lamOf f c q vs) base := ⟨V.cx, V.b_all, V.b_bool, V.b_enumerate, V.b_int, V.b_isinstance, V.b_len, V.b_list, V.b_range, V.b_set, V.b_sorted, V.b_str, V.b_sum, V.b_tuple, V.g_common_marks, V.a_common_marks, V.D_common_marks, V.g_common_things, V.a_common_things, V.D_common_things, V.g_closure, V.a_closure, V.D_closure, V.g_is_part, V.a_is_part, V.D_is_part, V.g_holds, V.a_holds, V.D_holds, V.g_keeps, V.a_keeps, V.D_keeps, V.g_with_marks, V.a_with_marks, V.D_with_marks, V.g_follow_paper, V.a_follow_paper, V.D_follow_paper, V.g_next_set, V.a_next_set, V.D_next_set, V.g_closed_apart, V.a_closed_apart, V.D_closed_apart, V.g_base, V.a_base, V.D_base, V.g__law_box, V.a__law_box, V.D__law_box, V.g__law_load, V.a__law_load, V.D__law_load, V.g__law_draw, V.a__law_draw, V.D__law_draw, V.g__law_same, V.a__law_same, V.D__law_same, V.g__law_table, V.a__law_table, V.D__law_table, V.g__law_rows, V.a__law_rows, V.D__law_rows, V.g__law_number, V.a__law_number, V.D__law_number, V.g__law_set, V.a__law_set, V.D__law_set, V.g__law_closure, V.a__law_closure, V.D__law_closure, V.g__law_pseudo, V.a__law_pseudo, V.D__law_pseudo, V.g_law, V.a_law, V.D_law, V.T_common_marks, V.p_common_marks, V.q_common_marks, V.T_common_things, V.p_common_things, V.q_common_things, V.T_is_part, V.p_is_part, V.q_is_part, V.T_base, V.l_base, V.u_base⟩
abbrev N_common_marks : List Str := ["table", "things", "pairs", "j", "i"]
noncomputable def d_common_marks_1 : PD.Env → Mo Fl := (dSet 2 (fun ρ => bnd ((dBin oIx (dVar 0) (dC (.int 2))) ρ) setTM))
noncomputable def d_common_marks_2 : PD.Env → Mo Fl := (dRet (fun ρ => bnd ((dLc (fun ρ => bnd ((dCons (dBin oIx (dVar 0) (dC (.int 1))) (fun _ st => .ok [] st)) ρ) rg1M) (.nm 3) (fun ρ => bnd ((dGx false (fun ρ => bnd ((dVar 1) ρ) srcM) (.nm 4) dYes (dBin inTQ (fun ρ => bnd ((dCons (dVar 4) (dCons (dVar 3) (fun _ st => .ok [] st))) ρ) tupM) (dVar 2)) [4]) ρ) truM) (dVar 3) [3]) ρ) tupQ))
noncomputable def d_common_marks : PD.Env → Mo Fl := (dSeq d_common_marks_1
    d_common_marks_2)
theorem sc_common_marks : FnScope N_common_marks ["table", "things"] (defScope (top 1)) := C8.fnScope_by (by decide +kernel)
theorem body_common_marks {W : Wd} {base : Heap} (V : Ev W base)  : BodyT W.P W.w W base N_common_marks "common_marks" (defScope (top 1)) (He.fAd W.K ("common_marks", none)) (He.cT W.K ("common_marks", none)).1 4 (defBody (top 1)) d_common_marks := fun A outer s H E =>
  (dss_cons (ds_set (i := 2) (de_setT rfl rfl (de_ix (de_var (i := 0)) de_int) V.b_set))
    (dss_one (ds_ret (de_tuple (dq_l (dl_lc (own := [("j", 3)]) (di_range1 (da_cons (de_ix (de_var (i := 0)) de_int) da_nil) rfl V.b_range) (blkOk_by (N := N_common_marks) (sc := defScope (top 1)) (by decide +kernel)) (fun _ _ _ _ _ => (dp_name (i := 3))) (fun _ _ _ _ _ => (dts_one (dt_e (de_allG V.T_common_marks V.p_common_marks V.q_common_marks rfl V.b_all (own := [("i", 4)]) (di_e (de_var (i := 1))) (blkOk_by (by rfl)) (fun _ _ _ _ _ _ _ => (dp_name (i := 4))) (fun _ _ _ _ _ _ _ => dts_nil) (fun _ _ _ _ _ _ _ => (de_inT rfl rfl (de_tup (da_cons (de_var (i := 4)) (da_cons (de_var (i := 3)) da_nil))) (de_var (i := 2)))))))) (fun _ _ _ _ _ => (de_var (i := 3))))) rfl V.b_tuple))))
theorem raw_common_marks {W : Wd} {base : Heap} (V : Ev W base)  : DFn W.P W.w W base 5 (He.fAd W.K ("common_marks", none)) 2 (bodyF 5 d_common_marks) := by
  obtain ⟨fd, F⟩ := V.D_common_marks
  exact DFn.ofT V.cx F sc_common_marks (F.bindsN fun _ _ _ _ _ _ us hl => match us, hl with | [_, _], _ => rfl) (body_common_marks V )
noncomputable def S_common_marks : List PV → Mo PV := bodyF 5 d_common_marks
theorem ref_common_marks : Ref 2 (bodyF 5 d_common_marks) S_common_marks := ref_self
/-! sets of marks as numbers: mark 0 is the highest bit -/
def mb (n x j : Nat) : Bool := x.testBit (n - 1 - j)
def setN (n x : Nat) : List Nat := (List.range n).filter (mb n x)
def setV (n x : Nat) : PV := intsP (setN n x)
theorem mem_setN {n x j : Nat} : j ∈ setN n x ↔ j < n ∧ mb n x j = true := by
  unfold setN
  rw [List.mem_filter, List.mem_range]
theorem mb_ext {n x y : Nat} (hx : x < 2 ^ n) (hy : y < 2 ^ n) (h : ∀ j, j < n → mb n x j = mb n y j) : x = y := by
  refine Nat.eq_of_testBit_eq fun i => ?_
  by_cases hi : i < n
  · have := h (n - 1 - i) (by omega)
    unfold mb at this
    rw [show n - 1 - (n - 1 - i) = i by omega] at this
    exact this
  · have h2 : 2 ^ n ≤ 2 ^ i := Nat.pow_le_pow_right (by omega) (by omega)
    rw [Nat.testBit_lt_two_pow (Nat.lt_of_lt_of_le hx h2), Nat.testBit_lt_two_pow (Nat.lt_of_lt_of_le hy h2)]
theorem setN_inj {n x y : Nat} (hx : x < 2 ^ n) (hy : y < 2 ^ n) (h : setN n x = setN n y) : x = y := mb_ext hx hy fun j hj => by
  rw [Bool.eq_iff_iff]
  have h1 := mem_setN (n := n) (x := x) (j := j)
  have h2 := mem_setN (n := n) (x := y) (j := j)
  rw [h] at h1
  constructor
  · intro q; exact (h2.mp (h1.mpr ⟨hj, q⟩)).2
  · intro q; exact (h1.mp (h2.mpr ⟨hj, q⟩)).2
theorem mb_and {n x y j : Nat} : mb n (x &&& y) j = (mb n x j && mb n y j) := Nat.testBit_and ..
theorem mb_or {n x y j : Nat} : mb n (x ||| y) j = (mb n x j || mb n y j) := Nat.testBit_or ..
theorem mb_full {n j : Nat} (h : j < n) : mb n (2 ^ n - 1) j = true := by
  unfold mb
  rw [Nat.testBit_two_pow_sub_one]
  exact decide_eq_true (by omega)
/-- x is a part of y -/
def subN (x y : Nat) : Prop := x &&& y = x
instance {x y : Nat} : Decidable (subN x y) := inferInstanceAs (Decidable (_ = _))
theorem subN_iff {n x y : Nat} (hx : x < 2 ^ n) : subN x y ↔ ∀ j, j < n → mb n x j = true → mb n y j = true := by
  unfold subN
  constructor
  · intro h j hj q
    rw [← h, mb_and, Bool.and_eq_true] at q
    exact q.2
  · intro h
    refine mb_ext (Nat.lt_of_le_of_lt Nat.and_le_left hx) hx fun j hj => ?_
    rw [mb_and]
    cases q : mb n x j with
    | false => rfl
    | true => rw [h j hj q]; rfl
theorem subN_refl (x : Nat) : subN x x := Nat.and_self x
theorem subN_trans {x y z : Nat} (a : subN x y) (b : subN y z) : subN x z := by
  unfold subN at *
  rw [← a, Nat.and_assoc, b]
theorem subN_le {x y : Nat} (h : subN x y) : x ≤ y := by
  unfold subN at h
  rw [← h]
  exact Nat.and_le_right
theorem subN_anti {x y : Nat} (a : subN x y) (b : subN y x) : x = y := Nat.le_antisymm (subN_le a) (subN_le b)
theorem subN_full {n x : Nat} (hx : x < 2 ^ n) : subN x (2 ^ n - 1) := (subN_iff hx).mpr fun j hj _ => mb_full hj
theorem subN_and {x y z : Nat} : subN x (y &&& z) ↔ subN x y ∧ subN x z := by
  unfold subN
  constructor
  · intro h
    constructor
    · rw [← h]
      refine Nat.eq_of_testBit_eq fun i => ?_
      simp only [Nat.testBit_and]
      cases x.testBit i <;> cases y.testBit i <;> cases z.testBit i <;> rfl
    · rw [← h]
      refine Nat.eq_of_testBit_eq fun i => ?_
      simp only [Nat.testBit_and]
      cases x.testBit i <;> cases y.testBit i <;> cases z.testBit i <;> rfl
  · rintro ⟨h1, h2⟩
    rw [← Nat.and_assoc, h1, h2]
theorem subN_or {x y z : Nat} : subN (x ||| y) z ↔ subN x z ∧ subN y z := by
  unfold subN
  constructor
  · intro h
    have hb : ∀ i, ((x.testBit i || y.testBit i) && z.testBit i) = (x.testBit i || y.testBit i) := fun i => by
      have := congrArg (fun t => t.testBit i) h
      simpa only [Nat.testBit_and, Nat.testBit_or] using this
    constructor
    · refine Nat.eq_of_testBit_eq fun i => ?_
      have := hb i
      rw [Nat.testBit_and]
      revert this
      cases x.testBit i <;> cases y.testBit i <;> cases z.testBit i <;> decide
    · refine Nat.eq_of_testBit_eq fun i => ?_
      have := hb i
      rw [Nat.testBit_and]
      revert this
      cases x.testBit i <;> cases y.testBit i <;> cases z.testBit i <;> decide
  · rintro ⟨h1, h2⟩
    refine Nat.eq_of_testBit_eq fun i => ?_
    have a := congrArg (fun t => t.testBit i) h1
    have b := congrArg (fun t => t.testBit i) h2
    simp only [Nat.testBit_and] at a b
    simp only [Nat.testBit_and, Nat.testBit_or]
    revert a b
    cases x.testBit i <;> cases y.testBit i <;> cases z.testBit i <;> decide
theorem subN_orl {x y : Nat} : subN x (x ||| y) := by
  refine Nat.eq_of_testBit_eq fun i => ?_
  simp only [Nat.testBit_and, Nat.testBit_or]
  cases x.testBit i <;> cases y.testBit i <;> rfl
theorem subN_orr {x y : Nat} : subN y (x ||| y) := by
  refine Nat.eq_of_testBit_eq fun i => ?_
  simp only [Nat.testBit_and, Nat.testBit_or]
  cases x.testBit i <;> cases y.testBit i <;> rfl
theorem lt_bit {x y i : Nat} (h1 : x.testBit i = false) (h2 : y.testBit i = true) (h : ∀ k, i < k → x.testBit k = y.testBit k) : x < y := by
  have e : x / 2 ^ (i + 1) = y / 2 ^ (i + 1) := Nat.eq_of_testBit_eq fun k => by
    rw [Nat.testBit_div_two_pow, Nat.testBit_div_two_pow]
    exact h _ (by omega)
  rw [Nat.testBit_eq_decide_div_mod_eq, decide_eq_false_iff_not] at h1
  rw [Nat.testBit_eq_decide_div_mod_eq, decide_eq_true_eq] at h2
  have ex : x / 2 ^ i / 2 = x / 2 ^ (i + 1) := by rw [Nat.div_div_eq_div_mul, Nat.pow_succ]
  have ey : y / 2 ^ i / 2 = y / 2 ^ (i + 1) := by rw [Nat.div_div_eq_div_mul, Nat.pow_succ]
  rcases Nat.lt_or_ge x y with z | z
  · exact z
  · have := Nat.div_le_div_right (c := 2 ^ i) z
    omega
/-- the first mark in which two sets differ -/
theorem first_diff {n x y : Nat} (hx : x < 2 ^ n) (hy : y < 2 ^ n) (h : x < y) : ∃ j, j < n ∧ mb n x j = false ∧ mb n y j = true ∧ ∀ i, i < j → mb n x i = mb n y i := by
  have key : ∀ k, k ≤ n → (∀ i, i < k → mb n x i = mb n y i) ∨ ∃ j, j < k ∧ mb n x j ≠ mb n y j ∧ ∀ i, i < j → mb n x i = mb n y i := by
    intro k
    induction k with
    | zero => exact fun _ => .inl fun i hi => absurd hi (Nat.not_lt_zero _)
    | succ k ih =>
      intro hk
      rcases ih (by omega) with z | ⟨j, a, b, c⟩
      · by_cases q : mb n x k = mb n y k
        · refine .inl fun i hi => ?_
          by_cases e : i = k
          · rw [e]; exact q
          · exact z i (by omega)
        · exact .inr ⟨k, by omega, q, z⟩
      · exact .inr ⟨j, by omega, b, c⟩
  rcases key n (Nat.le_refl _) with z | ⟨j, a, b, c⟩
  · have := mb_ext hx hy z
    omega
  · refine ⟨j, a, ?_⟩
    cases p : mb n x j with
    | false =>
      cases q : mb n y j with
      | false => rw [p, q] at b; exact absurd rfl b
      | true => exact ⟨rfl, rfl, c⟩
    | true =>
      cases q : mb n y j with
      | true => rw [p, q] at b; exact absurd rfl b
      | false =>
        exfalso
        have : y < x := lt_bit (i := n - 1 - j) q p fun i hi => by
          by_cases hin : i < n
          · have := c (n - 1 - i) (by omega)
            unfold mb at this
            rw [show n - 1 - (n - 1 - i) = i by omega] at this
            exact this.symm
          · have h2 : 2 ^ n ≤ 2 ^ i := Nat.pow_le_pow_right (by omega) (by omega)
            rw [Nat.testBit_lt_two_pow (Nat.lt_of_lt_of_le hx h2), Nat.testBit_lt_two_pow (Nat.lt_of_lt_of_le hy h2)]
        omega
theorem lt_of_diff {n x y j : Nat} (hx : x < 2 ^ n) (hy : y < 2 ^ n) (hj : j < n) (h1 : mb n x j = false) (h2 : mb n y j = true) (h : ∀ i, i < j → mb n x i = mb n y i) : x < y :=
  lt_bit (i := n - 1 - j) h1 h2 fun i hi => by
    by_cases hin : i < n
    · have := h (n - 1 - i) (by omega)
      unfold mb at this
      rw [show n - 1 - (n - 1 - i) = i by omega] at this
      exact this
    · have h2 : 2 ^ n ≤ 2 ^ i := Nat.pow_le_pow_right (by omega) (by omega)
      rw [Nat.testBit_lt_two_pow (Nat.lt_of_lt_of_le hx h2), Nat.testBit_lt_two_pow (Nat.lt_of_lt_of_le hy h2)]
/-- x below the mark j, and j -/
def stepN (n x j : Nat) : Nat := x / 2 ^ (n - j) * 2 ^ (n - j) + 2 ^ (n - 1 - j)
theorem stepN_or {n x j : Nat} (hj : j < n) : stepN n x j = x / 2 ^ (n - j) * 2 ^ (n - j) ||| 2 ^ (n - 1 - j) := by
  unfold stepN
  have h1 : 2 ^ (n - 1 - j) < 2 ^ (n - j) := Nat.pow_lt_pow_right (by omega) (by omega)
  have := Nat.two_pow_add_eq_or_of_lt h1 (x / 2 ^ (n - j))
  rw [Nat.mul_comm]
  exact this
theorem mb_step {n x j i : Nat} (hj : j < n) (hi : i < n) : mb n (stepN n x j) i = (if i < j then mb n x i else decide (i = j)) := by
  rw [stepN_or hj, mb_or]
  unfold mb
  rw [Nat.testBit_mul_two_pow, Nat.testBit_div_two_pow, Nat.testBit_two_pow]
  by_cases h : i < j
  · rw [if_pos h, decide_eq_true (by omega : n - j ≤ n - 1 - i), decide_eq_false (by omega : ¬ n - 1 - j = n - 1 - i)]
    rw [show n - 1 - i - (n - j) + (n - j) = n - 1 - i by omega]
    simp
  · rw [if_neg h, decide_eq_false (by omega : ¬ n - j ≤ n - 1 - i)]
    simp
    omega
theorem step_lt {n x j : Nat} (hx : x < 2 ^ n) (hj : j < n) : stepN n x j < 2 ^ n := by
  rw [stepN_or hj]
  refine Nat.or_lt_two_pow ?_ (Nat.pow_lt_pow_right (by omega) (by omega))
  exact Nat.lt_of_le_of_lt (Nat.div_mul_le_self _ _) hx
/-! closures -/
/-- what all rows with x have -/
def clN (n : Nat) (rows : List Nat) (x : Nat) : Nat := rows.foldl (fun acc r => if subN x r then acc &&& r else acc) (2 ^ n - 1)
theorem mb_cl_aux {n x j : Nat} : ∀ (rows : List Nat) (acc : Nat), mb n (rows.foldl (fun acc r => if subN x r then acc &&& r else acc) acc) j = (mb n acc j && rows.all fun r => !decide (subN x r) || mb n r j)
  | [], acc => by simp
  | r :: rows, acc => by
    rw [List.foldl_cons, mb_cl_aux rows, List.all_cons]
    by_cases h : subN x r
    · rw [if_pos h, mb_and, decide_eq_true h, Bool.not_true, Bool.false_or, Bool.and_assoc]
    · rw [if_neg h, decide_eq_false h, Bool.not_false, Bool.true_or, Bool.true_and]
theorem mb_cl {n x j : Nat} {rows : List Nat} (hj : j < n) : mb n (clN n rows x) j = rows.all fun r => !decide (subN x r) || mb n r j := by
  unfold clN
  rw [mb_cl_aux, mb_full hj, Bool.true_and]
theorem cl_lt_aux {n x : Nat} : ∀ (rows : List Nat) (acc : Nat), acc < 2 ^ n → rows.foldl (fun acc r => if subN x r then acc &&& r else acc) acc < 2 ^ n
  | [], acc, h => h
  | r :: rows, acc, h => by
    rw [List.foldl_cons]
    refine cl_lt_aux rows _ ?_
    split
    · exact Nat.lt_of_le_of_lt Nat.and_le_left h
    · exact h
theorem cl_lt {n x : Nat} {rows : List Nat} : clN n rows x < 2 ^ n := cl_lt_aux rows _ (by have : 0 < 2 ^ n := Nat.two_pow_pos n; omega)
/-- a closure operator on the numbers below 2 ^ n -/
structure ClOp (n : Nat) (C : Nat → Nat) : Prop where
  lt : ∀ x, x < 2 ^ n → C x < 2 ^ n
  ext : ∀ x, x < 2 ^ n → subN x (C x)
  min : ∀ x y, x < 2 ^ n → y < 2 ^ n → C y = y → subN x y → subN (C x) y
  idem : ∀ x, x < 2 ^ n → C (C x) = C x
theorem cl_row {n x r : Nat} {rows : List Nat} (hr : r ∈ rows) (h : subN x r) : subN (clN n rows x) r := by
  rw [subN_iff cl_lt]
  intro j hj q
  rw [mb_cl hj, List.all_eq_true] at q
  have := q r hr
  rw [decide_eq_true h] at this
  simpa using this
theorem cl_ext {n x : Nat} {rows : List Nat} (hx : x < 2 ^ n) : subN x (clN n rows x) := by
  rw [subN_iff hx]
  intro j hj q
  rw [mb_cl hj, List.all_eq_true]
  intro r _
  by_cases h : subN x r
  · rw [decide_eq_true h, (subN_iff hx).mp h j hj q]
    rfl
  · rw [decide_eq_false h]
    rfl
theorem cl_mono {n x y : Nat} {rows : List Nat} (h : subN x y) : subN (clN n rows x) (clN n rows y) := by
  rw [subN_iff cl_lt]
  intro j hj q
  rw [mb_cl hj, List.all_eq_true] at q ⊢
  intro r hr
  have := q r hr
  by_cases z : subN y r
  · rw [decide_eq_true (subN_trans h z)] at this
    rw [decide_eq_true z]
    exact this
  · rw [decide_eq_false z]
    rfl
theorem cl_idem {n x : Nat} {rows : List Nat} : clN n rows (clN n rows x) = clN n rows x := by
  refine subN_anti ?_ (cl_ext cl_lt)
  rw [subN_iff cl_lt]
  intro j hj q
  rw [mb_cl hj, List.all_eq_true] at q ⊢
  intro r hr
  have := q r hr
  by_cases z : subN x r
  · rw [decide_eq_true (cl_row hr z)] at this
    rw [decide_eq_true z]
    exact this
  · rw [decide_eq_false z]
    rfl
theorem cl_op {n : Nat} {rows : List Nat} : ClOp n (clN n rows) where
  lt := fun _ _ => cl_lt
  ext := fun _ hx => cl_ext hx
  min := fun x y hx hy e h => by rw [← e]; exact cl_mono h
  idem := fun _ _ => cl_idem
/-! the next closed set -/
/-- the same below the mark j -/
def sameB (n x y j : Nat) : Prop := ∀ i, i < j → mb n x i = mb n y i
def passN (n : Nat) (C : Nat → Nat) (x j : Nat) : Prop := mb n x j = false ∧ sameB n (C (stepN n x j)) x j
/-- what next_set tells -/
def NextOk (n : Nat) (C : Nat → Nat) (x : Nat) (r : Option Nat) : Prop := match r with
  | some y => y < 2 ^ n ∧ x < y ∧ C y = y ∧ ∀ z, z < 2 ^ n → C z = z → x < z → y ≤ z
  | none => ∀ z, z < 2 ^ n → C z = z → ¬ x < z
theorem step_above {n x y j : Nat} {C : Nat → Nat} (o : ClOp n C) (hx : x < 2 ^ n) (hy : y < 2 ^ n) (hc : C y = y) (hj : j < n) (h1 : mb n x j = false) (h2 : mb n y j = true) (h : ∀ i, i < j → mb n x i = mb n y i) : subN (C (stepN n x j)) y ∧ sameB n (C (stepN n x j)) x j := by
  have hs : subN (stepN n x j) y := (subN_iff (step_lt hx hj)).mpr fun i hi q => by
    rw [mb_step hj hi] at q
    by_cases z : i < j
    · rw [if_pos z, h i z] at q
      exact q
    · rw [if_neg z, decide_eq_true_eq] at q
      rw [q]
      exact h2
  have hm := o.min _ _ (step_lt hx hj) hy hc hs
  refine ⟨hm, fun i hi => ?_⟩
  have hin : i < n := by omega
  rw [Bool.eq_iff_iff]
  constructor
  · intro q
    rw [h i hi]
    exact (subN_iff (o.lt _ (step_lt hx hj))).mp hm i hin q
  · intro q
    refine (subN_iff (step_lt hx hj)).mp (o.ext _ (step_lt hx hj)) i hin ?_
    rw [mb_step hj hin, if_pos hi]
    exact q
theorem pass_up {n x j : Nat} {C : Nat → Nat} (o : ClOp n C) (hx : x < 2 ^ n) (hj : j < n) (p : passN n C x j) : x < C (stepN n x j) := by
  refine lt_of_diff hx (o.lt _ (step_lt hx hj)) hj p.1 ?_ fun i hi => (p.2 i hi).symm
  refine (subN_iff (step_lt hx hj)).mp (o.ext _ (step_lt hx hj)) j hj ?_
  rw [mb_step hj hj, if_neg (Nat.lt_irrefl _)]
  simp
theorem next_some {n x j : Nat} {C : Nat → Nat} (o : ClOp n C) (hx : x < 2 ^ n) (hj : j < n) (p : passN n C x j) (h : ∀ i, j < i → i < n → ¬ passN n C x i) : NextOk n C x (some (C (stepN n x j))) := by
  refine ⟨o.lt _ (step_lt hx hj), pass_up o hx hj p, o.idem _ (step_lt hx hj), fun z hz hc hlt => ?_⟩
  obtain ⟨i, hi, a, b, c⟩ := first_diff hx hz hlt
  obtain ⟨s1, s2⟩ := step_above o hx hz hc hi a b c
  have hij : i ≤ j := Nat.not_lt.mp fun q => h i q hi ⟨a, s2⟩
  by_cases e : i = j
  · subst e
    exact subN_le s1
  · refine Nat.le_of_lt (lt_of_diff (j := i) (o.lt _ (step_lt hx hj)) hz hi ?_ b fun t ht => ?_)
    · rw [p.2 i (by omega)]
      exact a
    · rw [p.2 t (by omega)]
      exact c t ht
theorem next_none {n x : Nat} {C : Nat → Nat} (o : ClOp n C) (hx : x < 2 ^ n) (h : ∀ i, i < n → ¬ passN n C x i) : NextOk n C x none := fun z hz hc hlt => by
  obtain ⟨i, hi, a, b, c⟩ := first_diff hx hz hlt
  exact h i hi ⟨a, (step_above o hx hz hc hi a b c).2⟩
theorem ok_common_marks {W : Wd} {base : Heap} (V : Ev W base) : DFn W.P W.w W base 5 (He.fAd W.K ("common_marks", none)) 2 S_common_marks := raw_common_marks V 
abbrev N_common_things : List Str := ["table", "marks", "pairs", "i", "j"]
noncomputable def d_common_things_1 : PD.Env → Mo Fl := (dSet 2 (fun ρ => bnd ((dBin oIx (dVar 0) (dC (.int 2))) ρ) setTM))
noncomputable def d_common_things_2 : PD.Env → Mo Fl := (dRet (fun ρ => bnd ((dLc (fun ρ => bnd ((dCons (dBin oIx (dVar 0) (dC (.int 0))) (fun _ st => .ok [] st)) ρ) rg1M) (.nm 3) (fun ρ => bnd ((dGx false (fun ρ => bnd ((dVar 1) ρ) srcM) (.nm 4) dYes (dBin inTQ (fun ρ => bnd ((dCons (dVar 3) (dCons (dVar 4) (fun _ st => .ok [] st))) ρ) tupM) (dVar 2)) [4]) ρ) truM) (dVar 3) [3]) ρ) tupQ))
noncomputable def d_common_things : PD.Env → Mo Fl := (dSeq d_common_things_1
    d_common_things_2)
theorem sc_common_things : FnScope N_common_things ["table", "marks"] (defScope (top 2)) := C8.fnScope_by (by decide +kernel)
theorem body_common_things {W : Wd} {base : Heap} (V : Ev W base)  : BodyT W.P W.w W base N_common_things "common_things" (defScope (top 2)) (He.fAd W.K ("common_things", none)) (He.cT W.K ("common_things", none)).1 4 (defBody (top 2)) d_common_things := fun A outer s H E =>
  (dss_cons (ds_set (i := 2) (de_setT rfl rfl (de_ix (de_var (i := 0)) de_int) V.b_set))
    (dss_one (ds_ret (de_tuple (dq_l (dl_lc (own := [("i", 3)]) (di_range1 (da_cons (de_ix (de_var (i := 0)) de_int) da_nil) rfl V.b_range) (blkOk_by (N := N_common_things) (sc := defScope (top 2)) (by decide +kernel)) (fun _ _ _ _ _ => (dp_name (i := 3))) (fun _ _ _ _ _ => (dts_one (dt_e (de_allG V.T_common_things V.p_common_things V.q_common_things rfl V.b_all (own := [("j", 4)]) (di_e (de_var (i := 1))) (blkOk_by (by rfl)) (fun _ _ _ _ _ _ _ => (dp_name (i := 4))) (fun _ _ _ _ _ _ _ => dts_nil) (fun _ _ _ _ _ _ _ => (de_inT rfl rfl (de_tup (da_cons (de_var (i := 3)) (da_cons (de_var (i := 4)) da_nil))) (de_var (i := 2)))))))) (fun _ _ _ _ _ => (de_var (i := 3))))) rfl V.b_tuple))))
theorem raw_common_things {W : Wd} {base : Heap} (V : Ev W base)  : DFn W.P W.w W base 5 (He.fAd W.K ("common_things", none)) 2 (bodyF 5 d_common_things) := by
  obtain ⟨fd, F⟩ := V.D_common_things
  exact DFn.ofT V.cx F sc_common_things (F.bindsN fun _ _ _ _ _ _ us hl => match us, hl with | [_, _], _ => rfl) (body_common_things V )
noncomputable def S_common_things : List PV → Mo PV := bodyF 5 d_common_things
theorem ref_common_things : Ref 2 (bodyF 5 d_common_things) S_common_things := ref_self
theorem ok_common_things {W : Wd} {base : Heap} (V : Ev W base) : DFn W.P W.w W base 5 (He.fAd W.K ("common_things", none)) 2 S_common_things := raw_common_things V 
abbrev N_closure : List Str := ["table", "marks"]
noncomputable def d_closure_1 : PD.Env → Mo Fl := (dRet (fun ρ => bnd ((dCons (dVar 0) (dCons (fun ρ => bnd ((dCons (dVar 0) (dCons (dVar 1) (fun _ st => .ok [] st))) ρ) (callM 2 S_common_things)) (fun _ st => .ok [] st))) ρ) (callM 2 S_common_marks)))
noncomputable def d_closure : PD.Env → Mo Fl := d_closure_1
theorem sc_closure : FnScope N_closure ["table", "marks"] (defScope (top 3)) := C8.fnScope_by (by decide +kernel)
theorem body_closure {W : Wd} {base : Heap} (V : Ev W base) (h_common_marks : DFn W.P W.w W base 5 (He.fAd W.K ("common_marks", none)) 2 S_common_marks) (h_common_things : DFn W.P W.w W base 5 (He.fAd W.K ("common_things", none)) 2 S_common_things) : Body W.P W.w W base N_closure "closure" (defScope (top 3)) (He.fAd W.K ("closure", none)) 5 (defBody (top 3)) d_closure := fun cdv A outer s H E =>
  (dss_one (ds_ret (de_call (h_common_marks.mono (by decide)) V.g_common_marks (da_cons (de_var (i := 0)) (da_cons (de_call (h_common_things.mono (by decide)) V.g_common_things (da_cons (de_var (i := 0)) (da_cons (de_var (i := 1)) da_nil))) da_nil)))))
theorem raw_closure {W : Wd} {base : Heap} (V : Ev W base) (h_common_marks : DFn W.P W.w W base 5 (He.fAd W.K ("common_marks", none)) 2 S_common_marks) (h_common_things : DFn W.P W.w W base 5 (He.fAd W.K ("common_things", none)) 2 S_common_things) : DFn W.P W.w W base 6 (He.fAd W.K ("closure", none)) 2 (bodyF 2 d_closure) := by
  obtain ⟨fd, F⟩ := V.D_closure
  exact DFn.of V.cx F sc_closure (F.bindsN fun _ _ _ _ _ _ us hl => match us, hl with | [_, _], _ => rfl) (body_closure V h_common_marks h_common_things)
noncomputable def S_closure : List PV → Mo PV := bodyF 2 d_closure
theorem ref_closure : Ref 2 (bodyF 2 d_closure) S_closure := ref_self
/-! the table -/
def pairsL (n : Nat) (rows : List Nat) : List (List Int) := (List.range rows.length).flatMap fun (i : Nat) => (setN n (rows[i]?.getD 0)).map fun (j : Nat) => [(i : Int), (j : Int)]
def pairV (ns : List Int) : PV := .tup (ns.map PV.int)
def tabV (n : Nat) (rows : List Nat) : PV := .tup [.int (rows.length : Int), .int (n : Int), .tup ((pairsL n rows).map pairV)]
theorem mem_pairs {n : Nat} {rows : List Nat} {i j : Nat} (hi : i < rows.length) (hj : j < n) : [(i : Int), (j : Int)] ∈ pairsL n rows ↔ mb n (rows[i]?.getD 0) j = true := by
  unfold pairsL
  rw [List.mem_flatMap]
  constructor
  · rintro ⟨a, _, h⟩
    obtain ⟨b, hb, e⟩ := List.mem_map.mp h
    injection e with e1 e2
    injection e2 with e2 _
    have e1 : a = i := by omega
    have e2 : b = j := by omega
    subst e1 e2
    exact (mem_setN.mp hb).2
  · intro h
    exact ⟨i, List.mem_range.mpr hi, List.mem_map.mpr ⟨j, mem_setN.mpr ⟨hj, h⟩, rfl⟩⟩
theorem setN_len {n x : Nat} : (setN n x).length ≤ n := by
  unfold setN
  have := List.length_filter_le (mb n x) (List.range n)
  rw [List.length_range] at this
  exact this
theorem flat_len {α β : Type} {f : α → List β} {k : Nat} : ∀ {l : List α}, (∀ a ∈ l, (f a).length ≤ k) → (l.flatMap f).length ≤ l.length * k
  | [], _ => by simp
  | a :: l, h => by
    have h1 := flat_len (l := l) fun b hb => h b (List.mem_cons_of_mem _ hb)
    have h2 := h a (List.mem_cons_self ..)
    rw [List.flatMap_cons, List.length_append, List.length_cons, Nat.succ_mul]
    omega
theorem pairs_len {n : Nat} {rows : List Nat} : (pairsL n rows).length ≤ rows.length * n := by
  unfold pairsL
  have := flat_len (f := fun (i : Nat) => (setN n (rows[i]?.getD 0)).map fun (j : Nat) => [(i : Int), (j : Int)]) (k := n) (l := List.range rows.length) fun a _ => by
    rw [List.length_map]
    exact setN_len
  rw [List.length_range] at this
  exact this
/-- a table within bounds -/
structure TabOk' (n : Nat) (rows : List Nat) : Prop where
  few : rows.length * n < 64
  n60 : n ≤ 60
  m60 : rows.length ≤ 60
  lt : ∀ r ∈ rows, r < 2 ^ n
theorem pairV_eq : (pairV : List Int → PV) = fun ns => PV.tup (ns.map PV.int) := rfl
section
variable {n : Nat} {rows : List Nat} {st : Sto}
theorem setT_tab (h : TabOk' n rows) : setTM (.tup ((pairsL n rows).map pairV)) st = .ok (.pst (pairsL n rows)) st := by
  have := pairs_len (n := n) (rows := rows)
  have hf := h.few
  unfold setTM
  rw [pairV_eq]
  dsimp only
  rw [tupsV_map]
  dsimp only
  rw [if_pos (by omega)]
theorem inT_pair {i j : Nat} : inTQ (.tup [.int (i : Int), .int (j : Int)]) (.pst (pairsL n rows)) st = .ok (.bl (decide ([(i : Int), (j : Int)] ∈ pairsL n rows))) st := by
  have e : PV.tup [.int (i : Int), .int (j : Int)] = pairV [(i : Int), (j : Int)] := rfl
  unfold inTQ
  rw [e]
  unfold pairV
  dsimp only
  rw [intsV_map]
theorem mem_intsP {q : PV} {l : List Nat} (h : q ∈ l.map fun i : Nat => PV.int i) : ∃ i : Nat, i ∈ l ∧ q = .int (i : Int) := by
  obtain ⟨i, hi, rfl⟩ := List.mem_map.mp h
  exact ⟨i, hi, rfl⟩
theorem all_ints {l : List Nat} {f : Nat → Bool} : ((l.map fun i : Nat => PV.int i).all fun q => f (natOf q)) = l.all f := by
  rw [List.all_map]
  congr 1
theorem common_marks_ok (h : TabOk' n rows) {is : List Nat} (hi : ∀ i ∈ is, i < rows.length) (hil : is.length ≤ 1000) : S_common_marks [tabV n rows, intsP is] st = .ok (intsP ((List.range n).filter fun j => is.all fun i => mb n (rows[i]?.getD 0) j)) st := by
  have hn := h.n60
  unfold S_common_marks
  refine Ok.eq ?_
  have e2 : atI [PV.int (rows.length : Int), .int (n : Int), .tup ((pairsL n rows).map pairV)] 2 = some (.tup ((pairsL n rows).map pairV)) := rfl
  simp only [e_body, d_common_marks, ok_bnd, ok_seq]
  simp [d_common_marks_1, start0, tabV, e2, setT_tab h, -List.map_map]
  simp [d_common_marks_2, wipeE, -List.map_map]
  refine ⟨⟨by omega, by omega⟩, ?_⟩
  rw [lc_pure (fun q => is.all fun i => mb n (rows[i]?.getD 0) (natOf q)) (fun q => q) (by exact True.intro) (rgP 0 n) [] (fun q hq => by
    obtain ⟨j, hj, rfl⟩ := mem_rgP hq
    refine ⟨_, rfl, ?_, fun _ => ?_⟩
    · refine Ok.eq ?_
      simp [intsP, wipeE, -List.map_map]
      rw [gx_pure (fun q => mb n (rows[natOf q]?.getD 0) j) (by exact True.intro) (is.map fun i : Nat => PV.int i) fun q hq => by
        obtain ⟨i, hi2, rfl⟩ := mem_intsP hq
        refine ⟨_, rfl, rfl, ?_⟩
        refine Ok.eq ?_
        simp [inT_pair]
        rw [Bool.eq_iff_iff, decide_eq_true_eq]
        exact mem_pairs (hi i hi2) hj]
      have := all_ints (l := is) (f := fun i => mb n (rows[i]?.getD 0) j)
      simp [this]
    · refine Ok.eq ?_
      simp) (by unfold rgP; simp; omega), ok_ok, List.nil_append]
  have e := rgP_filter n fun j => is.all fun i => mb n (rows[i]?.getD 0) j
  rw [e]
  simp [intsP]
theorem common_things_ok (h : TabOk' n rows) {x : Nat} : S_common_things [tabV n rows, setV n x] st = .ok (intsP ((List.range rows.length).filter fun i => (setN n x).all fun j => mb n (rows[i]?.getD 0) j)) st := by
  have hn := h.m60
  have hx := setN_len (n := n) (x := x)
  unfold S_common_things
  refine Ok.eq ?_
  have e2 : atI [PV.int (rows.length : Int), .int (n : Int), .tup ((pairsL n rows).map pairV)] 2 = some (.tup ((pairsL n rows).map pairV)) := rfl
  simp only [e_body, d_common_things, ok_bnd, ok_seq]
  simp [d_common_things_1, start0, tabV, e2, setT_tab h, -List.map_map]
  simp [d_common_things_2, wipeE, -List.map_map]
  refine ⟨⟨by omega, by omega⟩, ?_⟩
  rw [lc_pure (fun q => (setN n x).all fun j => mb n (rows[natOf q]?.getD 0) j) (fun q => q) (by exact True.intro) (rgP 0 rows.length) [] (fun q hq => by
    obtain ⟨i, hi, rfl⟩ := mem_rgP hq
    refine ⟨_, rfl, ?_, fun _ => ?_⟩
    · refine Ok.eq ?_
      simp [setV, intsP, wipeE, -List.map_map]
      rw [gx_pure (fun q => mb n (rows[i]?.getD 0) (natOf q)) (by exact True.intro) ((setN n x).map fun i : Nat => PV.int i) fun q hq => by
        obtain ⟨j, hj, rfl⟩ := mem_intsP hq
        refine ⟨_, rfl, rfl, ?_⟩
        refine Ok.eq ?_
        simp [inT_pair]
        rw [Bool.eq_iff_iff, decide_eq_true_eq]
        exact mem_pairs hi (mem_setN.mp hj).1]
      have := all_ints (l := setN n x) (f := fun j => mb n (rows[i]?.getD 0) j)
      simp [this]
    · refine Ok.eq ?_
      simp) (by unfold rgP; simp; omega), ok_ok, List.nil_append]
  have e := rgP_filter rows.length fun i => (setN n x).all fun j => mb n (rows[i]?.getD 0) j
  rw [e]
  simp [intsP]
theorem row_lt (h : TabOk' n rows) {i : Nat} (hi : i < rows.length) : rows[i]?.getD 0 ∈ rows ∧ rows[i]?.getD 0 < 2 ^ n := by
  rw [List.getElem?_eq_getElem hi]
  exact ⟨List.getElem_mem hi, h.lt _ (List.getElem_mem hi)⟩
theorem all_sub {x r : Nat} (hx : x < 2 ^ n) : ((setN n x).all fun j => mb n r j) = decide (subN x r) := by
  rw [Bool.eq_iff_iff, List.all_eq_true, decide_eq_true_eq, subN_iff hx]
  constructor
  · intro h j hj q
    exact h j (mem_setN.mpr ⟨hj, q⟩)
  · intro h j hj
    have := mem_setN.mp hj
    exact h j this.1 this.2
theorem cl_marks (h : TabOk' n rows) {x : Nat} (hx : x < 2 ^ n) : ((List.range n).filter fun j => ((List.range rows.length).filter fun i => (setN n x).all fun j => mb n (rows[i]?.getD 0) j).all fun i => mb n (rows[i]?.getD 0) j) = setN n (clN n rows x) := by
  unfold setN
  refine List.filter_congr fun j hj => ?_
  have hj := List.mem_range.mp hj
  rw [mb_cl hj, Bool.eq_iff_iff, List.all_eq_true, List.all_eq_true]
  have key : ∀ i : Nat, ((List.filter (mb n x) (List.range n)).all fun j => mb n (rows[i]?.getD 0) j) = decide (subN x (rows[i]?.getD 0)) := fun i => all_sub hx
  constructor
  · intro z r hr
    obtain ⟨i, hi, rfl⟩ := List.getElem_of_mem hr
    by_cases hs : subN x rows[i]
    · have e : rows[i]?.getD 0 = rows[i] := by rw [List.getElem?_eq_getElem hi]; rfl
      have := z i (List.mem_filter.mpr ⟨List.mem_range.mpr hi, by rw [key, e]; exact decide_eq_true hs⟩)
      rw [e] at this
      rw [this]
      simp
    · rw [decide_eq_false hs]
      rfl
  · intro z i hi
    obtain ⟨h1, h2⟩ := List.mem_filter.mp hi
    have h1 := List.mem_range.mp h1
    obtain ⟨m1, m2⟩ := row_lt h h1
    have := z _ m1
    rw [key] at h2
    rw [h2] at this
    simpa using this
theorem closure_ok (h : TabOk' n rows) {x : Nat} (hx : x < 2 ^ n) : S_closure [tabV n rows, setV n x] st = .ok (setV n (clN n rows x)) st := by
  unfold S_closure
  refine Ok.eq ?_
  have e1 := common_things_ok (st := st) h (x := x)
  have e2 := common_marks_ok (st := st) h (is := (List.range rows.length).filter fun i => (setN n x).all fun j => mb n (rows[i]?.getD 0) j) (fun i hi => List.mem_range.mp (List.mem_filter.mp hi).1) (by
    have := List.length_filter_le (fun i => (setN n x).all fun j => mb n (rows[i]?.getD 0) j) (List.range rows.length)
    rw [List.length_range] at this
    have := h.m60
    omega)
  rw [cl_marks h hx] at e2
  simp only [e_body, d_closure, d_closure_1, ok_bnd]
  simp [start0, e1, e2]
  rfl
end
theorem ok_closure {W : Wd} {base : Heap} (V : Ev W base) : DFn W.P W.w W base 6 (He.fAd W.K ("closure", none)) 2 S_closure := raw_closure V (ok_common_marks V) (ok_common_things V)
abbrev N_is_part : List Str := ["one", "other", "mark"]
noncomputable def d_is_part_1 : PD.Env → Mo Fl := (dRet (dGx false (fun ρ => bnd ((dVar 0) ρ) srcM) (.nm 2) dYes (dBin (fun p q => bnd (sqM q) (inQ false p)) (dVar 2) (dVar 1)) [2]))
noncomputable def d_is_part : PD.Env → Mo Fl := d_is_part_1
theorem sc_is_part : FnScope N_is_part ["one", "other"] (defScope (top 7)) := C8.fnScope_by (by decide +kernel)
theorem body_is_part {W : Wd} {base : Heap} (V : Ev W base)  : BodyT W.P W.w W base N_is_part "is_part" (defScope (top 7)) (He.fAd W.K ("is_part", none)) (He.cT W.K ("is_part", none)).1 4 (defBody (top 7)) d_is_part := fun A outer s H E =>
  (dss_one (ds_ret (de_allG V.T_is_part V.p_is_part V.q_is_part rfl V.b_all (own := [("mark", 2)]) (di_e (de_var (i := 0))) (blkOk_by (N := N_is_part) (sc := defScope (top 7)) (by decide +kernel)) (fun _ _ _ _ _ _ _ => (dp_name (i := 2))) (fun _ _ _ _ _ _ _ => dts_nil) (fun _ _ _ _ _ _ _ => (de_in (de_var (i := 2)) (de_var (i := 1)))))))
theorem raw_is_part {W : Wd} {base : Heap} (V : Ev W base)  : DFn W.P W.w W base 5 (He.fAd W.K ("is_part", none)) 2 (bodyF 3 d_is_part) := by
  obtain ⟨fd, F⟩ := V.D_is_part
  exact DFn.ofT V.cx F sc_is_part (F.bindsN fun _ _ _ _ _ _ us hl => match us, hl with | [_, _], _ => rfl) (body_is_part V )
noncomputable def S_is_part : List PV → Mo PV := bodyF 3 d_is_part
theorem ref_is_part : Ref 2 (bodyF 3 d_is_part) S_is_part := ref_self
theorem ok_is_part {W : Wd} {base : Heap} (V : Ev W base) : DFn W.P W.w W base 5 (He.fAd W.K ("is_part", none)) 2 S_is_part := raw_is_part V 
abbrev N_holds : List Str := ["table", "implication"]
noncomputable def d_holds_1 : PD.Env → Mo Fl := (dRet (fun ρ => bnd ((dCons (dBin oIx (dVar 1) (dC (.int 1))) (dCons (fun ρ => bnd ((dCons (dVar 0) (dCons (dBin oIx (dVar 1) (dC (.int 0))) (fun _ st => .ok [] st))) ρ) (callM 2 S_closure)) (fun _ st => .ok [] st))) ρ) (callM 2 S_is_part)))
noncomputable def d_holds : PD.Env → Mo Fl := d_holds_1
theorem sc_holds : FnScope N_holds ["table", "implication"] (defScope (top 8)) := C8.fnScope_by (by decide +kernel)
theorem body_holds {W : Wd} {base : Heap} (V : Ev W base) (h_is_part : DFn W.P W.w W base 5 (He.fAd W.K ("is_part", none)) 2 S_is_part) (h_closure : DFn W.P W.w W base 6 (He.fAd W.K ("closure", none)) 2 S_closure) : Body W.P W.w W base N_holds "holds" (defScope (top 8)) (He.fAd W.K ("holds", none)) 6 (defBody (top 8)) d_holds := fun cdv A outer s H E =>
  (dss_one (ds_ret (de_call (h_is_part.mono (by decide)) V.g_is_part (da_cons (de_ix (de_var (i := 1)) de_int) (da_cons (de_call (h_closure.mono (by decide)) V.g_closure (da_cons (de_var (i := 0)) (da_cons (de_ix (de_var (i := 1)) de_int) da_nil))) da_nil)))))
theorem raw_holds {W : Wd} {base : Heap} (V : Ev W base) (h_is_part : DFn W.P W.w W base 5 (He.fAd W.K ("is_part", none)) 2 S_is_part) (h_closure : DFn W.P W.w W base 6 (He.fAd W.K ("closure", none)) 2 S_closure) : DFn W.P W.w W base 7 (He.fAd W.K ("holds", none)) 2 (bodyF 2 d_holds) := by
  obtain ⟨fd, F⟩ := V.D_holds
  exact DFn.of V.cx F sc_holds (F.bindsN fun _ _ _ _ _ _ us hl => match us, hl with | [_, _], _ => rfl) (body_holds V h_is_part h_closure)
noncomputable def S_holds : List PV → Mo PV := bodyF 2 d_holds
theorem ref_holds : Ref 2 (bodyF 2 d_holds) S_holds := ref_self
theorem ok_holds {W : Wd} {base : Heap} (V : Ev W base) : DFn W.P W.w W base 7 (He.fAd W.K ("holds", none)) 2 S_holds := raw_holds V (ok_is_part V) (ok_closure V)
abbrev N_keeps : List Str := ["marks", "implication"]
noncomputable def d_keeps_1 : PD.Env → Mo Fl := (dRet (dOrV (dNotV (fun ρ => bnd ((dCons (dBin oIx (dVar 1) (dC (.int 0))) (dCons (dVar 0) (fun _ st => .ok [] st))) ρ) (callM 2 S_is_part))) (fun ρ => bnd ((dCons (dBin oIx (dVar 1) (dC (.int 1))) (dCons (dVar 0) (fun _ st => .ok [] st))) ρ) (callM 2 S_is_part))))
noncomputable def d_keeps : PD.Env → Mo Fl := d_keeps_1
theorem sc_keeps : FnScope N_keeps ["marks", "implication"] (defScope (top 9)) := C8.fnScope_by (by decide +kernel)
theorem body_keeps {W : Wd} {base : Heap} (V : Ev W base) (h_is_part : DFn W.P W.w W base 5 (He.fAd W.K ("is_part", none)) 2 S_is_part) : Body W.P W.w W base N_keeps "keeps" (defScope (top 9)) (He.fAd W.K ("keeps", none)) 5 (defBody (top 9)) d_keeps := fun cdv A outer s H E =>
  (dss_one (ds_ret (de_or (de_not (de_call (h_is_part.mono (by decide)) V.g_is_part (da_cons (de_ix (de_var (i := 1)) de_int) (da_cons (de_var (i := 0)) da_nil)))) (de_one (de_call (h_is_part.mono (by decide)) V.g_is_part (da_cons (de_ix (de_var (i := 1)) de_int) (da_cons (de_var (i := 0)) da_nil)))))))
theorem raw_keeps {W : Wd} {base : Heap} (V : Ev W base) (h_is_part : DFn W.P W.w W base 5 (He.fAd W.K ("is_part", none)) 2 S_is_part) : DFn W.P W.w W base 6 (He.fAd W.K ("keeps", none)) 2 (bodyF 2 d_keeps) := by
  obtain ⟨fd, F⟩ := V.D_keeps
  exact DFn.of V.cx F sc_keeps (F.bindsN fun _ _ _ _ _ _ us hl => match us, hl with | [_, _], _ => rfl) (body_keeps V h_is_part)
noncomputable def S_keeps : List PV → Mo PV := bodyF 2 d_keeps
theorem ref_keeps : Ref 2 (bodyF 2 d_keeps) S_keeps := ref_self
theorem ok_keeps {W : Wd} {base : Heap} (V : Ev W base) : DFn W.P W.w W base 6 (He.fAd W.K ("keeps", none)) 2 S_keeps := raw_keeps V (ok_is_part V)
abbrev N_with_marks : List Str := ["one", "other"]
noncomputable def d_with_marks_1 : PD.Env → Mo Fl := (dRet (fun ρ => bnd ((fun ρ => bnd ((dBin oAdd (dVar 0) (dVar 1)) ρ) fun q => bnd (tupM' q) sortSetQ) ρ) tupQ))
noncomputable def d_with_marks : PD.Env → Mo Fl := d_with_marks_1
theorem sc_with_marks : FnScope N_with_marks ["one", "other"] (defScope (top 10)) := C8.fnScope_by (by decide +kernel)
theorem body_with_marks {W : Wd} {base : Heap} (V : Ev W base)  : Body W.P W.w W base N_with_marks "with_marks" (defScope (top 10)) (He.fAd W.K ("with_marks", none)) 2 (defBody (top 10)) d_with_marks := fun cdv A outer s H E =>
  (dss_one (ds_ret (de_tuple (dq_l (dl_sortSetT (de_add (de_var (i := 0)) (de_var (i := 1))) V.b_sorted V.b_set)) rfl V.b_tuple)))
theorem raw_with_marks {W : Wd} {base : Heap} (V : Ev W base)  : DFn W.P W.w W base 3 (He.fAd W.K ("with_marks", none)) 2 (bodyF 2 d_with_marks) := by
  obtain ⟨fd, F⟩ := V.D_with_marks
  exact DFn.of V.cx F sc_with_marks (F.bindsN fun _ _ _ _ _ _ us hl => match us, hl with | [_, _], _ => rfl) (body_with_marks V )
noncomputable def S_with_marks : List PV → Mo PV := bodyF 2 d_with_marks
theorem ref_with_marks : Ref 2 (bodyF 2 d_with_marks) S_with_marks := ref_self
theorem nats_ints (l : List Nat) : (l.map fun i : Nat => PV.int i) = (l.map fun i : Nat => (i : Int)).map PV.int := by rw [List.map_map]; rfl
theorem okds_nats {n : Nat} (l : List Nat) : okds n (l.map fun i : Nat => PV.int i) = true := by rw [nats_ints]; exact okds_ints _
theorem inQ_nats {ng : Bool} {j : Nat} {l : List Nat} {st : Sto} : inQ ng (.int (j : Int)) (l.map fun i : Nat => PV.int i) st = .ok (.bl (if ng then !decide (j ∈ l) else decide (j ∈ l))) st := by
  unfold inQ
  rw [if_pos ⟨okd_int _ _, okds_nats _⟩]
  have e : (l.map fun i : Nat => PV.int i).any (fun z => eqb z (.int (j : Int))) = decide (j ∈ l) := by
    rw [List.any_map, Bool.eq_iff_iff, List.any_eq_true, decide_eq_true_iff]
    constructor
    · rintro ⟨x, hx, h⟩
      have : ((x : Int) == (j : Int)) = true := h
      rw [beq_iff_eq] at this
      have : x = j := by omega
      rw [← this]; exact hx
    · intro h
      exact ⟨j, h, beq_self_eq_true (j : Int)⟩
  rw [e]
theorem eqbs_nats : ∀ {l m : List Nat}, eqbs (l.map fun i : Nat => PV.int i) (m.map fun i : Nat => PV.int i) = decide (l = m)
  | [], [] => rfl
  | [], _ :: _ => rfl
  | _ :: _, [] => rfl
  | a :: l, b :: m => by
    show ((a : Int) == (b : Int) && eqbs (l.map fun i : Nat => PV.int i) (m.map fun i : Nat => PV.int i)) = _
    rw [eqbs_nats, Bool.eq_iff_iff, Bool.and_eq_true, beq_iff_eq, decide_eq_true_iff, decide_eq_true_iff]
    constructor
    · rintro ⟨h1, rfl⟩
      have : a = b := by omega
      rw [this]
    · intro h
      injection h with h1 h2
      exact ⟨by rw [h1], h2⟩
theorem eqb_set {n x y : Nat} (hx : x < 2 ^ n) (hy : y < 2 ^ n) : eqb (setV n x) (setV n y) = decide (x = y) := by
  show eqbs _ _ = _
  rw [eqbs_nats]
  exact decide_eq_decide.mpr ⟨fun h => setN_inj hx hy h, fun h => by rw [h]⟩
theorem okd_set {n x : Nat} : okd 60 (setV n x) = true := okds_nats _
section
variable {n : Nat} {rows : List Nat} {st : Sto}
theorem is_part_ok {x y : Nat} (hx : x < 2 ^ n) : S_is_part [setV n x, setV n y] st = .ok (.bl (decide (subN x y))) st := by
  unfold S_is_part
  refine Ok.eq ?_
  simp only [e_body, d_is_part, d_is_part_1, ok_bnd]
  simp [start0, setV, intsP, wipeE, -List.map_map]
  rw [gx_pure (fun q => decide (natOf q ∈ setN n y)) (by exact True.intro) ((setN n x).map fun i : Nat => PV.int i) fun q hq => by
    obtain ⟨j, hj, rfl⟩ := mem_intsP hq
    refine ⟨_, rfl, rfl, ?_⟩
    refine Ok.eq ?_
    simp [inQ_nats, natOf, -List.map_map]
    exact decide_eq_decide.mpr Iff.rfl]
  have e := all_ints (l := setN n x) (f := fun i => decide (i ∈ setN n y))
  simp only [ok_ok]
  refine ⟨?_, True.intro⟩
  congr 1
  rw [if_neg (by simp), e, Bool.eq_iff_iff, List.all_eq_true, decide_eq_true_iff, subN_iff hx]
  constructor
  · intro h j hj q
    have := of_decide_eq_true (h j (mem_setN.mpr ⟨hj, q⟩))
    exact (mem_setN.mp this).2
  · intro h j hj
    obtain ⟨a, b⟩ := mem_setN.mp hj
    exact decide_eq_true (mem_setN.mpr ⟨a, h j a b⟩)
def ruleV (n : Nat) (r : Nat × Nat) : PV := .tup [setV n r.1, setV n r.2]
theorem holds_ok (h : TabOk' n rows) {a b : Nat} (ha : a < 2 ^ n) (hb : b < 2 ^ n) : S_holds [tabV n rows, ruleV n (a, b)] st = .ok (.bl (decide (subN b (clN n rows a)))) st := by
  unfold S_holds
  refine Ok.eq ?_
  simp only [e_body, d_holds, d_holds_1, ok_bnd]
  simp [start0, ruleV, closure_ok h ha, is_part_ok hb]
theorem keeps_ok {x a b : Nat} (ha : a < 2 ^ n) (hb : b < 2 ^ n) : S_keeps [setV n x, ruleV n (a, b)] st = .ok (.bl (!decide (subN a x) || decide (subN b x))) st := by
  unfold S_keeps
  refine Ok.eq ?_
  simp only [e_body, d_keeps, d_keeps_1, ok_bnd]
  simp [start0, ruleV, is_part_ok ha, is_part_ok hb]
  by_cases h : subN a x <;> simp [h]
theorem intsV_nats (l : List Nat) : intsV (l.map fun i : Nat => PV.int i) = some (l.map fun i : Nat => (i : Int)) := by rw [nats_ints]; exact intsV_map _
theorem set_lt {n x : Nat} : ((setN n x).map fun i : Nat => (i : Int)).Pairwise (· < ·) := by
  rw [List.pairwise_map]
  unfold setN
  refine List.Pairwise.imp (fun {a b} h => ?_) (List.Pairwise.filter _ List.pairwise_lt_range)
  exact Int.ofNat_lt.mpr h
theorem with_marks_ok (hn : n ≤ 60) {x y : Nat} : S_with_marks [setV n x, setV n y] st = .ok (setV n (x ||| y)) st := by
  have h1 := setN_len (n := n) (x := x)
  have h2 := setN_len (n := n) (x := y)
  unfold S_with_marks
  refine Ok.eq ?_
  have e : sortSetQ ((setN n x ++ setN n y).map fun i : Nat => PV.int i) st = .ok ((setN n (x ||| y)).map fun i : Nat => PV.int i) st := by
    unfold sortSetQ
    rw [intsV_nats]
    dsimp only
    rw [if_pos (by rw [List.length_map, List.length_append]; omega), nats_ints]
    congr 2
    refine lt_unique (srtI_lt _) set_lt fun k => ?_
    rw [mem_srtI, List.mem_map, List.mem_map]
    constructor
    · rintro ⟨j, hj, rfl⟩
      refine ⟨j, ?_, rfl⟩
      rcases List.mem_append.mp hj with hj | hj
      · obtain ⟨a, b⟩ := mem_setN.mp hj
        exact mem_setN.mpr ⟨a, by rw [mb_or, b, Bool.true_or]⟩
      · obtain ⟨a, b⟩ := mem_setN.mp hj
        exact mem_setN.mpr ⟨a, by rw [mb_or, b, Bool.or_true]⟩
    · rintro ⟨j, hj, rfl⟩
      refine ⟨j, ?_, rfl⟩
      obtain ⟨a, b⟩ := mem_setN.mp hj
      rw [mb_or, Bool.or_eq_true] at b
      rcases b with b | b
      · exact List.mem_append_left _ (mem_setN.mpr ⟨a, b⟩)
      · exact List.mem_append_right _ (mem_setN.mpr ⟨a, b⟩)
  rw [List.map_append] at e
  simp only [e_body, d_with_marks, d_with_marks_1, ok_bnd]
  simp [start0, setV, intsP, tupM', e, -List.map_map]
  omega
end
theorem ok_with_marks {W : Wd} {base : Heap} (V : Ev W base) : DFn W.P W.w W base 3 (He.fAd W.K ("with_marks", none)) 2 S_with_marks := raw_with_marks V 
abbrev N_follow_paper : List Str := ["n", "implications", "implication", "used", "found", "new", "k", "rule"]
noncomputable def d_follow_paper_1 : PD.Env → Mo Fl := (dSet 3 (fun ρ => bnd ((fun ρ => bnd ((fun _ st => .ok [] st) ρ) capM) ρ) layL))
noncomputable def d_follow_paper_2 : PD.Env → Mo Fl := (dSet 4 (dBin oIx (dVar 2) (dC (.int 0))))
noncomputable def d_follow_paper_3 : PD.Env → Mo Fl := (dSet 5 (fun ρ => bnd ((dLc (fun ρ => bnd ((dCons (dVar 1) (fun _ st => .ok [] st)) ρ) enuM) (.tp [(.nm 6), (.nm 7)]) (dAndT (dB (dBin (fun p q => bnd (sqM q) (inQ true p)) (dVar 6) (dVar 3))) (dNotT (fun ρ => bnd ((fun ρ => bnd ((dCons (dVar 4) (dCons (dVar 7) (fun _ st => .ok [] st))) ρ) (callM 2 S_keeps)) ρ) truM))) (dVar 6) [6, 7]) ρ) layL))
noncomputable def d_follow_paper_4 : PD.Env → Mo Fl := (dRet (fun ρ => bnd ((dCons (dC (.str "not")) (dCons (dVar 4) (fun _ st => .ok [] st))) ρ) tupM))
noncomputable def d_follow_paper_5 : PD.Env → Mo Fl := (dIfS (dNotT (fun ρ => bnd ((dVar 5) ρ) truM)) d_follow_paper_4 dNil)
noncomputable def d_follow_paper_6 : PD.Env → Mo Fl := (dDrop (fun ρ => bnd ((dVar 3) ρ) fun q => bnd (lstM q) fun _ => bnd (dCons (dBin oIx (dVar 5) (dC (.int 0))) (fun _ st => .ok [] st) ρ) fun l => appM q l))
noncomputable def d_follow_paper_7 : PD.Env → Mo Fl := (dSet 4 (fun ρ => bnd ((dCons (dVar 4) (dCons (dBin oIx (dBin oIx (dVar 1) (dBin oIx (dVar 5) (dC (.int 0)))) (dC (.int 1))) (fun _ st => .ok [] st))) ρ) (callM 2 S_with_marks)))
noncomputable def d_follow_paper_8 : PD.Env → Mo Fl := (dWh (dNotT (fun ρ => bnd ((fun ρ => bnd ((dCons (dBin oIx (dVar 2) (dC (.int 1))) (dCons (dVar 4) (fun _ st => .ok [] st))) ρ) (callM 2 S_is_part)) ρ) truM)) (dSeq d_follow_paper_3
    (dSeq d_follow_paper_5
    (dSeq d_follow_paper_6
    d_follow_paper_7))))
noncomputable def d_follow_paper_9 : PD.Env → Mo Fl := (dRet (fun ρ => bnd ((dCons (dC (.str "follows")) (dCons (fun ρ => bnd ((fun ρ => bnd ((dVar 3) ρ) sqM) ρ) tupQ) (fun _ st => .ok [] st))) ρ) tupM))
noncomputable def d_follow_paper : PD.Env → Mo Fl := (dSeq d_follow_paper_1
    (dSeq d_follow_paper_2
    (dSeq d_follow_paper_8
    d_follow_paper_9)))
theorem sc_follow_paper : FnScope N_follow_paper ["n", "implications", "implication"] (defScope (top 11)) := C8.fnScope_by (by decide +kernel)
theorem body_follow_paper {W : Wd} {base : Heap} (V : Ev W base) (h_is_part : DFn W.P W.w W base 5 (He.fAd W.K ("is_part", none)) 2 S_is_part) (h_keeps : DFn W.P W.w W base 6 (He.fAd W.K ("keeps", none)) 2 S_keeps) (h_with_marks : DFn W.P W.w W base 3 (He.fAd W.K ("with_marks", none)) 2 S_with_marks) : Body W.P W.w W base N_follow_paper "follow_paper" (defScope (top 11)) (He.fAd W.K ("follow_paper", none)) 6 (defBody (top 11)) d_follow_paper := fun cdv A outer s H E =>
  (dss_cons (ds_set (i := 3) (de_l (dl_lst da_nil)))
    (dss_cons (ds_set (i := 4) (de_ix (de_var (i := 2)) de_int))
    (dss_cons (ds_while (dt_not (dt_e (de_call (h_is_part.mono (by decide)) V.g_is_part (da_cons (de_ix (de_var (i := 2)) de_int) (da_cons (de_var (i := 4)) da_nil))))) (dss_cons (ds_setLc (i := 5) (own := [("k", 6), ("rule", 7)]) (di_enum (da_cons (de_var (i := 1)) da_nil) rfl V.b_enumerate) (blkOk_by (N := N_follow_paper) (sc := defScope (top 11)) (by decide +kernel)) (fun _ _ _ _ _ => (dp_tup (dps_cons (dp_name (i := 6)) (dps_cons (dp_name (i := 7)) dps_nil)))) (fun _ _ _ _ _ => (dts_one (dt_w (dw_and (dt_notin (de_var (i := 6)) (de_var (i := 3))) (dw_and1 (dt_not (dt_e (de_call (h_keeps.mono (by decide)) V.g_keeps (da_cons (de_var (i := 4)) (da_cons (de_var (i := 7)) da_nil)))))))))) (fun _ _ _ _ _ => (de_var (i := 6))))
    (dss_cons (ds_if (dt_not (dt_e (de_var (i := 5)))) (dss_one (ds_ret (de_tup (da_cons de_str (da_cons (de_var (i := 4)) da_nil))))) dss_nil)
    (dss_cons (ds_expr (de_append (de_var (i := 3)) (de_ix (de_var (i := 5)) de_int)))
    (dss_one (ds_set (i := 4) (de_call (h_with_marks.mono (by decide)) V.g_with_marks (da_cons (de_var (i := 4)) (da_cons (de_ix (de_ix (de_var (i := 1)) (de_ix (de_var (i := 5)) de_int)) de_int) da_nil)))))))))
    (dss_one (ds_ret (de_tup (da_cons de_str (da_cons (de_tuple (dq_e (de_var (i := 3))) rfl V.b_tuple) da_nil))))))))
theorem raw_follow_paper {W : Wd} {base : Heap} (V : Ev W base) (h_is_part : DFn W.P W.w W base 5 (He.fAd W.K ("is_part", none)) 2 S_is_part) (h_keeps : DFn W.P W.w W base 6 (He.fAd W.K ("keeps", none)) 2 S_keeps) (h_with_marks : DFn W.P W.w W base 3 (He.fAd W.K ("with_marks", none)) 2 S_with_marks) : DFn W.P W.w W base 7 (He.fAd W.K ("follow_paper", none)) 3 (bodyF 8 d_follow_paper) := by
  obtain ⟨fd, F⟩ := V.D_follow_paper
  exact DFn.of V.cx F sc_follow_paper (F.bindsN fun _ _ _ _ _ _ us hl => match us, hl with | [_, _, _], _ => rfl) (body_follow_paper V h_is_part h_keeps h_with_marks)
noncomputable def S_follow_paper : List PV → Mo PV := bodyF 8 d_follow_paper
theorem ref_follow_paper : Ref 3 (bodyF 8 d_follow_paper) S_follow_paper := ref_self
theorem ok_follow_paper {W : Wd} {base : Heap} (V : Ev W base) : DFn W.P W.w W base 7 (He.fAd W.K ("follow_paper", none)) 3 S_follow_paper := raw_follow_paper V (ok_is_part V) (ok_keeps V) (ok_with_marks V)
abbrev N_next_set : List Str := ["n", "marks", "close", "mark", "least", "found", "j"]
noncomputable def d_next_set_1 (F : List PV → PV → Mo PV) : PD.Env → Mo Fl := dCnt
noncomputable def d_next_set_2 (F : List PV → PV → Mo PV) : PD.Env → Mo Fl := (dIfS (dB (dBin (fun p q => bnd (sqM q) (inQ false p)) (dVar 3) (dVar 1))) (d_next_set_1 F) dNil)
noncomputable def d_next_set_3 (F : List PV → PV → Mo PV) : PD.Env → Mo Fl := (dSet 4 (fun ρ => bnd ((dLc (fun ρ => bnd ((dVar 1) ρ) srcM) (.nm 6) (dB (dBin oLt (dVar 6) (dVar 3))) (dVar 6) [6]) ρ) tupQ))
noncomputable def d_next_set_4 (F : List PV → PV → Mo PV) : PD.Env → Mo Fl := (dSet 5 (dAct 2 F (dBin oAdd (dVar 4) (fun ρ => bnd ((dCons (dVar 3) (fun _ st => .ok [] st)) ρ) tupM))))
noncomputable def d_next_set_5 (F : List PV → PV → Mo PV) : PD.Env → Mo Fl := (dRet (dVar 5))
noncomputable def d_next_set_6 (F : List PV → PV → Mo PV) : PD.Env → Mo Fl := (dIfS (dB (dBin (oEq false) (fun ρ => bnd ((dLc (fun ρ => bnd ((dVar 5) ρ) srcM) (.nm 6) (dB (dBin oLt (dVar 6) (dVar 3))) (dVar 6) [6]) ρ) tupQ) (dVar 4))) (d_next_set_5 F) dNil)
noncomputable def d_next_set_7 (F : List PV → PV → Mo PV) : PD.Env → Mo Fl := (dFor (fun ρ => bnd ((dCons (dBin oSub (dVar 0) (dC (.int 1))) (dCons (dUn oNeg (dC (.int 1))) (dCons (dUn oNeg (dC (.int 1))) (fun _ st => .ok [] st)))) ρ) rg3M) (gNm 3) (dSeq (d_next_set_2 F)
    (dSeq (d_next_set_3 F)
    (dSeq (d_next_set_4 F)
    (d_next_set_6 F)))))
noncomputable def d_next_set_8 (F : List PV → PV → Mo PV) : PD.Env → Mo Fl := (dRet (dC .non))
noncomputable def d_next_set (F : List PV → PV → Mo PV) : PD.Env → Mo Fl := (dSeq (d_next_set_7 F)
    (d_next_set_8 F))
theorem sc_next_set : FnScope N_next_set ["n", "marks", "close"] (defScope (top 5)) := C8.fnScope_by (by decide +kernel)
noncomputable def S_next_set (F : List PV → PV → Mo PV) : List PV → Mo PV := bodyF 7 (d_next_set F)
theorem body_next_set {W : Wd} {base : Heap} (V : Ev W base) {P : Program} {w : World} {F : List PV → PV → Mo PV} {k : Nat} {cdv : Value} {A : Around} {outer : List PySem.Env} {s : Shared} {H : Hp} {E : XK} (hact : ∀ (e : Expr) (de : PD.Env → Mo PV) (p1 p2 : Pos), DE (cxOf W.cx P w W.K W.mg base N_next_set "next_set" (defScope (top 5)) (He.fAd W.K ("next_set", none)) cdv A outer s H E).nox W k E0 e de → starEach [e] (cxOf W.cx P w W.K W.mg base N_next_set "next_set" (defScope (top 5)) (He.fAd W.K ("next_set", none)) cdv A outer s H E).nox.env = (false, eval e (cxOf W.cx P w W.K W.mg base N_next_set "next_set" (defScope (top 5)) (He.fAd W.K ("next_set", none)) cdv A outer s H E).nox.env) :: starEach [] (cxOf W.cx P w W.K W.mg base N_next_set "next_set" (defScope (top 5)) (He.fAd W.K ("next_set", none)) cdv A outer s H E).nox.env → DE (cxOf W.cx P w W.K W.mg base N_next_set "next_set" (defScope (top 5)) (He.fAd W.K ("next_set", none)) cdv A outer s H E).nox W k E0 (.Call (.Name "close" p1) [e] [] p2) (dAct 2 F de)) : DSs (cxOf W.cx P w W.K W.mg base N_next_set "next_set" (defScope (top 5)) (He.fAd W.K ("next_set", none)) cdv A outer s H E).nox W k E0 (defBody (top 5)) (d_next_set F) :=
  (dss_cons (ds_for (di_range3 (da_cons (de_sub (de_var (i := 0)) de_int) (da_cons (de_neg de_int) (da_cons (de_neg de_int) da_nil))) rfl V.b_range) (dg_name (i := 3)) (dss_cons (ds_if (dt_in (de_var (i := 3)) (de_var (i := 1))) (dss_one ds_continue) dss_nil)
    (dss_cons (ds_set (i := 4) (de_tuple (dq_l (dl_lc (own := [("j", 6)]) (di_e (de_var (i := 1))) (blkOk_by (N := N_next_set) (sc := defScope (top 5)) (by decide +kernel)) (fun _ _ _ _ _ => (dp_name (i := 6))) (fun _ _ _ _ _ => (dts_one (dt_lt (de_var (i := 6)) (de_var (i := 3))))) (fun _ _ _ _ _ => (de_var (i := 6))))) rfl V.b_tuple))
    (dss_cons (ds_set (i := 5) (hact _ _ _ _ (de_add (de_var (i := 4)) (de_tup (da_cons (de_var (i := 3)) da_nil))) rfl))
    (dss_one (ds_if (dt_eq (de_tuple (dq_l (dl_lc (own := [("j", 6)]) (di_e (de_var (i := 5))) (blkOk_by (N := N_next_set) (sc := defScope (top 5)) (by decide +kernel)) (fun _ _ _ _ _ => (dp_name (i := 6))) (fun _ _ _ _ _ => (dts_one (dt_lt (de_var (i := 6)) (de_var (i := 3))))) (fun _ _ _ _ _ => (de_var (i := 6))))) rfl V.b_tuple) (de_var (i := 4))) (dss_one (ds_ret (de_var (i := 5)))) dss_nil))))))
    (dss_one (ds_ret de_non)))
theorem ok_forD {Q : Fl → Sto → Prop} {g : PV → PD.Env → Mo PD.Env} {f : PD.Env → Mo Fl} {n : Nat} {chk : Sto → Prop} {ρ : PD.Env} {st : Sto} (P : Nat → PD.Env → Sto → Prop) (hc : ∀ s, chk s) (h0 : P 0 ρ st) (he : ∀ ρ st, P n ρ st → Q (.nx ρ) st)
    (step : ∀ t ρ st, t < n → P t ρ st → Ok (g (.int ((n - 1 - t : Nat) : Int)) ρ st) (fun ρ1 st1 => Ok (f ρ1 st1) (Aft (P (t + 1)) Q))) : Ok (foF g f chk (rgD ((n : Int) - 1) n) ρ st) Q := by
  have hl : (rgD ((n : Int) - 1) n).length = n := by unfold rgD; simp
  refine ok_for (chk := chk) (fun l ρ s => ∃ m, m ≤ n ∧ l = (rgD ((n : Int) - 1) n).drop m ∧ P m ρ s) (fun _ _ s _ => hc s) ?_ ?_ _ _ _ ⟨0, Nat.zero_le _, rfl, h0⟩
  · rintro ρ s ⟨m, hm, e, hP⟩
    have : n ≤ m := by
      have := congrArg List.length e
      rw [List.length_drop, hl] at this
      simp at this
      omega
    obtain rfl : m = n := by omega
    exact he ρ s hP
  · rintro q l ρ s ⟨m, hm, e, hP⟩
    have hlt : m < n := by
      have := congrArg List.length e
      rw [List.length_drop, hl] at this
      simp at this
      omega
    have hlen : m < (rgD ((n : Int) - 1) n).length := by omega
    rw [List.drop_eq_getElem_cons hlen] at e
    obtain ⟨rfl, rfl⟩ := List.cons.inj e
    have e2 : (rgD ((n : Int) - 1) n)[m] = .int ((n - 1 - m : Nat) : Int) := by
      have : (rgD ((n : Int) - 1) n)[m]? = some (.int ((n - 1 - m : Nat) : Int)) := by
        unfold rgD
        rw [List.getElem?_map, List.getElem?_range hlt, show ((n - 1 - m : Nat) : Int) = (n : Int) - 1 + (m : Int) * -1 by omega]
        rfl
      rw [List.getElem?_eq_getElem hlen] at this
      exact Option.some.inj this
    rw [e2]
    refine (step m ρ s hlt hP).imp fun ρ1 s1 h1 => h1.imp fun fl s2 h2 => ?_
    cases fl with
    | nx ρ' => exact ⟨m + 1, hlt, rfl, h2⟩
    | ct ρ' => exact ⟨m + 1, hlt, rfl, h2⟩
    | bk ρ' => exact h2
    | rt p => exact h2
theorem nat_uniq {l m : List Nat} (h1 : l.Pairwise (· < ·)) (h2 : m.Pairwise (· < ·)) (h : ∀ k, k ∈ l ↔ k ∈ m) : l = m := by
  have e : l.map (fun i : Nat => (i : Int)) = m.map (fun i : Nat => (i : Int)) := by
    refine lt_unique ?_ ?_ fun k => ?_
    · rw [List.pairwise_map]; exact h1.imp fun h => Int.ofNat_lt.mpr h
    · rw [List.pairwise_map]; exact h2.imp fun h => Int.ofNat_lt.mpr h
    · rw [List.mem_map, List.mem_map]
      constructor
      · rintro ⟨a, ha, rfl⟩; exact ⟨a, (h a).mp ha, rfl⟩
      · rintro ⟨a, ha, rfl⟩; exact ⟨a, (h a).mpr ha, rfl⟩
  exact (List.map_inj_right (f := fun i : Nat => (i : Int)) fun a b (h : (a : Int) = b) => by omega).mp e
theorem setN_lt {n x : Nat} : (setN n x).Pairwise (· < ·) := List.Pairwise.filter _ List.pairwise_lt_range
def lowN (n x j : Nat) : List Nat := (setN n x).filter fun i => decide (i < j)
theorem mem_low {n x j i : Nat} : i ∈ lowN n x j ↔ i < n ∧ mb n x i = true ∧ i < j := by
  unfold lowN
  rw [List.mem_filter, mem_setN, decide_eq_true_iff, and_assoc]
theorem low_step {n x j : Nat} (hj : j < n) : lowN n x j ++ [j] = setN n (stepN n x j) := by
  refine nat_uniq ?_ setN_lt fun k => ?_
  · rw [List.pairwise_append]
    refine ⟨List.Pairwise.filter _ setN_lt, List.pairwise_singleton _ _, fun a ha b hb => ?_⟩
    rw [List.mem_singleton.mp hb]
    exact (mem_low.mp ha).2.2
  · rw [List.mem_append, List.mem_singleton, mem_low, mem_setN]
    constructor
    · rintro (⟨a, b, c⟩ | rfl)
      · exact ⟨a, by rw [mb_step hj a, if_pos c]; exact b⟩
      · exact ⟨hj, by rw [mb_step hj hj, if_neg (Nat.lt_irrefl _)]; exact decide_eq_true rfl⟩
    · rintro ⟨a, b⟩
      rw [mb_step hj a] at b
      by_cases c : k < j
      · rw [if_pos c] at b
        exact .inl ⟨a, b, c⟩
      · rw [if_neg c] at b
        exact .inr (of_decide_eq_true b)
theorem low_same {n x y j : Nat} (hj : j < n) : lowN n y j = lowN n x j ↔ sameB n y x j := by
  constructor
  · intro h i hi
    have hin : i < n := by omega
    have a := mem_low (n := n) (x := x) (j := j) (i := i)
    have b := mem_low (n := n) (x := y) (j := j) (i := i)
    rw [h] at b
    rw [Bool.eq_iff_iff]
    constructor
    · intro q; exact (a.mp (b.mpr ⟨hin, q, hi⟩)).2.1
    · intro q; exact (b.mp (a.mpr ⟨hin, q, hi⟩)).2.1
  · intro h
    unfold lowN
    refine nat_uniq (List.Pairwise.filter _ setN_lt) (List.Pairwise.filter _ setN_lt) fun k => ?_
    have a := mem_low (n := n) (x := x) (j := j) (i := k)
    have b := mem_low (n := n) (x := y) (j := j) (i := k)
    unfold lowN at a b
    rw [a, b]
    constructor
    · rintro ⟨p, q, r⟩; exact ⟨p, by rw [← h k r]; exact q, r⟩
    · rintro ⟨p, q, r⟩; exact ⟨p, by rw [h k r]; exact q, r⟩
theorem low_lc {n x j : Nat} {st : Sto} {chk : Sto → Prop} {ρ : PD.Env} (hc : chk st) (i : Nat) (d1 : PD.Env → Mo Bool) (dv : PD.Env → Mo PV) (hn : n ≤ 60)
    (h : ∀ k : Nat, d1 (ρ.set i (some (.int (k : Int)))) st = .ok (decide (k < j)) st) (hv : ∀ k : Nat, dv (ρ.set i (some (.int (k : Int)))) st = .ok (.int (k : Int)) st) :
    lcF (.nm i) d1 dv chk ρ ((setN n x).map fun i : Nat => PV.int i) [] st = .ok ((lowN n x j).map fun i : Nat => PV.int i) st := by
  rw [lc_pure (fun q => decide (natOf q < j)) (fun q => q) hc _ [] (fun q hq => by
    obtain ⟨k, hk, rfl⟩ := mem_intsP hq
    exact ⟨_, rfl, by rw [h k]; rfl, fun _ => hv k⟩) (by rw [List.length_map]; have := setN_len (n := n) (x := x); simp; omega)]
  rw [List.nil_append, List.map_id', List.filter_map]
  rfl
def optV (n : Nat) (r : Option Nat) : PV := match r with
  | some y => setV n y
  | none => .non
section
variable {n : Nat} {rows : List Nat} {st : Sto}
def NsI (n x : Nat) (C : Nat → Nat) (caps : List PV) (st : Sto) (t : Nat) (ρ : PD.Env) (s : Sto) : Prop := ∃ x3 x4 x5, ρ = [some (.int (n : Int)), some (setV n x), some (.clo caps), x3, x4, x5, none] ∧ s = st ∧ ∀ i, n - t ≤ i → i < n → ¬ passN n C x i
theorem next_set_ok {F : List PV → PV → Mo PV} {caps : List PV} {C : Nat → Nat} (hn : n ≤ 60) {x : Nat} (hx : x < 2 ^ n) (o : ClOp n C) (hF : ∀ y, y < 2 ^ n → F caps (setV n y) st = .ok (setV n (C y)) st) :
    Ok (S_next_set F [.int (n : Int), setV n x, .clo caps] st) fun q s => s = st ∧ ∃ r, q = optV n r ∧ NextOk n C x r := by
  unfold S_next_set
  rw [e_body, ok_bnd]
  simp only [d_next_set]
  rw [ok_seq]
  simp only [d_next_set_7, e_for, ok_bnd]
  simp [start0, rg3M, -ok_seq]
  refine ⟨?_, ?_⟩
  · unfold PD.RgOk
    omega
  refine ok_forD (NsI n x C caps st) (fun _ => True.intro) ⟨_, _, _, rfl, rfl, fun i h1 h2 => by omega⟩ ?_ ?_
  · rintro ρ s ⟨x3, x4, x5, rfl, rfl, h⟩
    simp [d_next_set_8]
    exact ⟨none, rfl, next_none o hx fun i hi => h i (by omega) hi⟩
  · rintro t ρ s ht ⟨x3, x4, x5, rfl, rfl, h⟩
    have hj : n - 1 - t < n := by omega
    generalize hje : n - 1 - t = j at hj
    rw [e_gNm, ok_ok, ok_seq]
    simp [d_next_set_2, setV, intsP, inQ_nats, -ok_seq, -List.map_map]
    by_cases hm : j ∈ setN n x
    · simp [hm, d_next_set_1, -ok_seq, -List.map_map]
      refine ⟨_, _, _, rfl, rfl, fun i h1 h2 hp => ?_⟩
      by_cases e : i = j
      · have := (mem_setN.mp hm).2
        rw [e] at hp
        rw [hp.1] at this
        cases this
      · exact h i (by omega) h2 hp
    · simp [hm, -ok_seq, -List.map_map]
      have hmb : mb n x j = false := by
        rw [← Bool.not_eq_true]
        intro q
        exact hm (mem_setN.mpr ⟨hj, q⟩)
      rw [ok_seq]
      simp [d_next_set_3, wipeE, -ok_seq, -List.map_map]
      rw [low_lc (j := j) (by exact True.intro) 6 _ _ hn (fun k => by refine Ok.eq ?_; simp) (fun k => by refine Ok.eq ?_; simp), ok_ok]
      rw [ok_seq]
      have e := hF _ (step_lt hx hj)
      unfold setV intsP at e
      rw [← low_step hj, List.map_append] at e
      have hlen : (lowN n x j).length ≤ n := Nat.le_trans (List.length_filter_le _ _) setN_len
      have e : F caps (PV.tup (List.map (fun i : Nat => PV.int i) (lowN n x j) ++ [PV.int (j : Int)])) s = .ok (setV n (C (stepN n x j))) s := e
      simp [d_next_set_4, dAct, cloM, e, -ok_seq, -List.map_map]
      refine ⟨by omega, ?_⟩
      have c : eqbs ((lowN n (C (stepN n x j)) j).map fun i : Nat => PV.int i) ((lowN n x j).map fun i : Nat => PV.int i) = decide (lowN n (C (stepN n x j)) j = lowN n x j) := eqbs_nats
      simp [d_next_set_6, setV, intsP, wipeE, -ok_seq, -List.map_map]
      rw [low_lc (j := j) (by exact True.intro) 6 _ _ hn (fun k => by refine Ok.eq ?_; simp) (fun k => by refine Ok.eq ?_; simp), ok_ok]
      simp [okds_nats, c, okd, eqb, -ok_seq, -List.map_map]
      by_cases hs : lowN n (C (stepN n x j)) j = lowN n x j
      · simp [hs, d_next_set_5]
        exact ⟨_, rfl, next_some o hx hj ⟨hmb, (low_same hj).mp hs⟩ fun i h1 h2 => h i (by omega) h2⟩
      · simp [hs]
        refine ⟨_, _, _, rfl, rfl, fun i h1 h2 hp => ?_⟩
        by_cases e : i = j
        · rw [e] at hp
          exact hs ((low_same hj).mpr hp.2)
        · exact h i (by omega) h2 hp
end
abbrev N_closed_apart : List Str := ["rules", "marks", "found", "changed", "first", "second"]
noncomputable def d_closed_apart_1 : PD.Env → Mo Fl := (dSet 2 (dVar 1))
noncomputable def d_closed_apart_2 : PD.Env → Mo Fl := (dSet 3 (dC (.bl true)))
noncomputable def d_closed_apart_3 : PD.Env → Mo Fl := (dSet 3 (dC (.bl false)))
noncomputable def d_closed_apart_4 : PD.Env → Mo Fl := (dSet 2 (fun ρ => bnd ((dCons (dVar 2) (dCons (dVar 5) (fun _ st => .ok [] st))) ρ) (callM 2 S_with_marks)))
noncomputable def d_closed_apart_5 : PD.Env → Mo Fl := (dSet 3 (dC (.bl true)))
noncomputable def d_closed_apart_6 : PD.Env → Mo Fl := (dIfS (dAndT (dB (dBin (oEq true) (dVar 4) (dVar 2))) (dAndT (fun ρ => bnd ((fun ρ => bnd ((dCons (dVar 4) (dCons (dVar 2) (fun _ st => .ok [] st))) ρ) (callM 2 S_is_part)) ρ) truM) (dNotT (fun ρ => bnd ((fun ρ => bnd ((dCons (dVar 5) (dCons (dVar 2) (fun _ st => .ok [] st))) ρ) (callM 2 S_is_part)) ρ) truM)))) (dSeq d_closed_apart_4
    d_closed_apart_5) dNil)
noncomputable def d_closed_apart_7 : PD.Env → Mo Fl := (dFor (fun ρ => bnd ((dVar 0) ρ) srcM) (gTp 2 (gCs (gNm 4) (gCs (gNm 5) gNl))) d_closed_apart_6)
noncomputable def d_closed_apart_8 : PD.Env → Mo Fl := (dWh (fun ρ => bnd ((dVar 3) ρ) truM) (dSeq d_closed_apart_3
    d_closed_apart_7))
noncomputable def d_closed_apart_9 : PD.Env → Mo Fl := (dRet (dVar 2))
noncomputable def d_closed_apart : PD.Env → Mo Fl := (dSeq d_closed_apart_1
    (dSeq d_closed_apart_2
    (dSeq d_closed_apart_8
    d_closed_apart_9)))
theorem sc_closed_apart : FnScope N_closed_apart ["rules", "marks"] (defScope (top 12)) := C8.fnScope_by (by decide +kernel)
theorem body_closed_apart {W : Wd} {base : Heap} (V : Ev W base) (h_is_part : DFn W.P W.w W base 5 (He.fAd W.K ("is_part", none)) 2 S_is_part) (h_with_marks : DFn W.P W.w W base 3 (He.fAd W.K ("with_marks", none)) 2 S_with_marks) : Body W.P W.w W base N_closed_apart "closed_apart" (defScope (top 12)) (He.fAd W.K ("closed_apart", none)) 5 (defBody (top 12)) d_closed_apart := fun cdv A outer s H E =>
  (dss_cons (ds_set (i := 2) (de_var (i := 1)))
    (dss_cons (ds_set (i := 3) de_bl)
    (dss_cons (ds_while (dt_e (de_var (i := 3))) (dss_cons (ds_set (i := 3) de_bl)
    (dss_one (ds_for (di_e (de_var (i := 0))) (dg_tup (dgs_cons (dg_name (i := 4)) (dgs_cons (dg_name (i := 5)) dgs_nil))) (dss_one (ds_if (dt_w (dw_and (dt_ne (de_var (i := 4)) (de_var (i := 2))) (dw_and (dt_e (de_call (h_is_part.mono (by decide)) V.g_is_part (da_cons (de_var (i := 4)) (da_cons (de_var (i := 2)) da_nil)))) (dw_and1 (dt_not (dt_e (de_call (h_is_part.mono (by decide)) V.g_is_part (da_cons (de_var (i := 5)) (da_cons (de_var (i := 2)) da_nil))))))))) (dss_cons (ds_set (i := 2) (de_call (h_with_marks.mono (by decide)) V.g_with_marks (da_cons (de_var (i := 2)) (da_cons (de_var (i := 5)) da_nil))))
    (dss_one (ds_set (i := 3) de_bl))) dss_nil))))))
    (dss_one (ds_ret (de_var (i := 2)))))))
theorem raw_closed_apart {W : Wd} {base : Heap} (V : Ev W base) (h_is_part : DFn W.P W.w W base 5 (He.fAd W.K ("is_part", none)) 2 S_is_part) (h_with_marks : DFn W.P W.w W base 3 (He.fAd W.K ("with_marks", none)) 2 S_with_marks) : DFn W.P W.w W base 6 (He.fAd W.K ("closed_apart", none)) 2 (bodyF 6 d_closed_apart) := by
  obtain ⟨fd, F⟩ := V.D_closed_apart
  exact DFn.of V.cx F sc_closed_apart (F.bindsN fun _ _ _ _ _ _ us hl => match us, hl with | [_, _], _ => rfl) (body_closed_apart V h_is_part h_with_marks)
noncomputable def S_closed_apart : List PV → Mo PV := bodyF 6 d_closed_apart
theorem ref_closed_apart : Ref 2 (bodyF 6 d_closed_apart) S_closed_apart := ref_self
/-! pseudo-closed sets -/
/-- x keeps the rows of R below it -/
def keepR (C : Nat → Nat) (R : List Nat) (x : Nat) : Prop := ∀ p ∈ R, subN p x → p ≠ x → subN (C p) x
instance {C : Nat → Nat} {R : List Nat} {x : Nat} : Decidable (keepR C R x) := inferInstanceAs (Decidable (∀ p ∈ R, subN p x → p ≠ x → subN (C p) x))
/-- those below k -/
def psL (C : Nat → Nat) : Nat → List Nat
  | 0 => []
  | k + 1 => psL C k ++ (if C k ≠ k ∧ keepR C (psL C k) k then [k] else [])
theorem psL_lt {C : Nat → Nat} : ∀ {k p : Nat}, p ∈ psL C k → p < k
  | 0, _, h => by cases h
  | k + 1, p, h => by
    unfold psL at h
    rcases List.mem_append.mp h with h | h
    · have := psL_lt h; omega
    · split at h
      · rw [List.mem_singleton.mp h]; omega
      · cases h
theorem psL_asc {C : Nat → Nat} : ∀ k, (psL C k).Pairwise (· < ·)
  | 0 => .nil
  | k + 1 => by
    unfold psL
    rw [List.pairwise_append]
    refine ⟨psL_asc k, ?_, fun a ha b hb => ?_⟩
    · split
      · exact List.pairwise_singleton _ _
      · exact .nil
    · split at hb
      · rw [List.mem_singleton.mp hb]; exact psL_lt ha
      · cases hb
theorem psL_sub {C : Nat → Nat} {k p : Nat} : ∀ {m : Nat}, k ≤ m → p ∈ psL C k → p ∈ psL C m
  | 0, h, hp => by
    have : k = 0 := by omega
    subst this
    exact hp
  | m + 1, h, hp => by
    by_cases e : k = m + 1
    · rw [← e]; exact hp
    · unfold psL
      exact List.mem_append_left _ (psL_sub (by omega) hp)
theorem psL_low {C : Nat → Nat} {k p : Nat} : ∀ {m : Nat}, p ∈ psL C m → p < k → p ∈ psL C k
  | 0, hp, _ => by cases hp
  | m + 1, hp, hk => by
    by_cases e : k ≤ m
    · unfold psL at hp
      rcases List.mem_append.mp hp with hp | hp
      · exact psL_low hp hk
      · split at hp
        · have := List.mem_singleton.mp hp
          omega
        · cases hp
    · have hpm := psL_lt hp
      exact psL_sub (by omega) hp
theorem mem_ps {C : Nat → Nat} {p m : Nat} (h : p ∈ psL C m) : C p ≠ p ∧ keepR C (psL C p) p := by
  have h1 := psL_low (k := p + 1) h (by omega)
  unfold psL at h1
  rcases List.mem_append.mp h1 with z | z
  · have := psL_lt z; omega
  · split at z
    · rename_i q; exact q
    · cases z
theorem ps_mem {C : Nat → Nat} {p m : Nat} (hp : p < m) (h1 : C p ≠ p) (h2 : keepR C (psL C p) p) : p ∈ psL C m := psL_sub (k := p + 1) (by omega) (by
  unfold psL
  rw [if_pos ⟨h1, h2⟩]
  exact List.mem_append_right _ (List.mem_singleton.mpr rfl))
/-- no pseudo-closed one between -/
theorem psL_same {C : Nat → Nat} {a : Nat} : ∀ {b : Nat}, a ≤ b → (∀ z, a ≤ z → z < b → ¬ (C z ≠ z ∧ keepR C (psL C z) z)) → psL C b = psL C a
  | 0, h, _ => by
    have : a = 0 := by omega
    rw [this]
  | b + 1, h, k => by
    by_cases e : a = b + 1
    · rw [e]
    · have ih := psL_same (b := b) (by omega) fun z h1 h2 => k z h1 (by omega)
      show psL C b ++ (if C b ≠ b ∧ keepR C (psL C b) b then [b] else []) = psL C a
      rw [if_neg (k b (by omega) (by omega)), List.append_nil, ih]
/-- the rows that keep R -/
def famR (n : Nat) (C : Nat → Nat) (R : List Nat) : List Nat := (List.range (2 ^ n)).filter fun x => decide (keepR C R x)
theorem mem_fam {n : Nat} {C : Nat → Nat} {R : List Nat} {x : Nat} : x ∈ famR n C R ↔ x < 2 ^ n ∧ keepR C R x := by
  unfold famR
  rw [List.mem_filter, List.mem_range, decide_eq_true_eq]
theorem fam_cl {n : Nat} {C : Nat → Nat} {R : List Nat} (hC : ∀ p ∈ R, C p < 2 ^ n) {y : Nat} (hy : y < 2 ^ n) : clN n (famR n C R) y = y ↔ keepR C R y := by
  constructor
  · intro e p hp h1 h2
    rw [subN_iff (hC p hp)]
    intro j hj q
    rw [← e, mb_cl hj, List.all_eq_true]
    intro r hr
    by_cases hs : subN y r
    · rw [decide_eq_true hs]
      have hk := (mem_fam.mp hr).2 p hp (subN_trans h1 hs) fun z => h2 (subN_anti h1 (by rw [z]; exact hs))
      rw [(subN_iff (hC p hp)).mp hk j hj q]
      rfl
    · rw [decide_eq_false hs]
      rfl
  · intro h
    exact subN_anti (cl_row (mem_fam.mpr ⟨hy, h⟩) (subN_refl y)) (cl_ext hy)
/-- the least set with x that keeps R -/
theorem fam_least {n : Nat} {C : Nat → Nat} {R : List Nat} (hC : ∀ p ∈ R, C p < 2 ^ n) {x F : Nat} (hx : x < 2 ^ n) (hF : F < 2 ^ n) (h1 : subN x F) (h2 : keepR C R F) (h3 : ∀ y, y < 2 ^ n → keepR C R y → subN x y → subN F y) : F = clN n (famR n C R) x := by
  refine subN_anti (h3 _ cl_lt ((fam_cl hC cl_lt).mp cl_idem) (cl_ext hx)) ?_
  exact cl_op.min x F hx hF ((fam_cl hC hF).mpr h2) h1
section
variable {n : Nat} {rows : List Nat}
abbrev CR (n : Nat) (rows : List Nat) (x : Nat) : Nat := clN n rows x
/-- one turn of base: the next set -/
theorem base_next {x : Nat} {r : Option Nat} (hx : x < 2 ^ n) (h : NextOk n (clN n (famR n (clN n rows) (psL (clN n rows) (x + 1)))) x r) : match r with
    | some y => y < 2 ^ n ∧ x < y ∧ psL (clN n rows) y = psL (clN n rows) (x + 1) ∧ keepR (clN n rows) (psL (clN n rows) y) y
    | none => psL (clN n rows) (2 ^ n) = psL (clN n rows) (x + 1) := by
  have hC : ∀ p ∈ psL (clN n rows) (x + 1), clN n rows p < 2 ^ n := fun _ _ => cl_lt
  have below : ∀ z, x + 1 ≤ z → keepR (clN n rows) (psL (clN n rows) z) z → keepR (clN n rows) (psL (clN n rows) (x + 1)) z := fun z hz hk p hp => hk p (psL_sub hz hp)
  cases r with
  | some y =>
    obtain ⟨h1, h2, h3, h4⟩ := h
    have e : psL (clN n rows) y = psL (clN n rows) (x + 1) := psL_same (by omega) fun z hz hzy ⟨q1, q2⟩ => by
      have := h4 z (by omega) ((fam_cl hC (by omega)).mpr (below z hz q2)) (by omega)
      omega
    refine ⟨h1, h2, e, ?_⟩
    rw [e]
    exact (fam_cl hC h1).mp h3
  | none =>
    refine psL_same (by omega) fun z hz hzn ⟨q1, q2⟩ => ?_
    exact h z hzn ((fam_cl hC hzn).mpr (below z hz q2)) (by omega)
theorem base_turn {x : Nat} (hk : keepR (clN n rows) (psL (clN n rows) x) x) : psL (clN n rows) (x + 1) = psL (clN n rows) x ++ (if clN n rows x ≠ x then [x] else []) := by
  show psL (clN n rows) x ++ _ = _
  by_cases e : clN n rows x = x
  · rw [if_neg (fun z => z.1 e), if_neg (fun z => z e)]
  · rw [if_pos ⟨e, hk⟩, if_pos e]
/-- what keeps all the base's rows is closed -/
theorem base_closed {F : Nat} (hF : F < 2 ^ n) (h : ∀ p ∈ psL (clN n rows) (2 ^ n), subN p F → subN (clN n rows p) F) : clN n rows F = F := by
  by_cases e : clN n rows F = F
  · exact e
  · have hm : F ∈ psL (clN n rows) (2 ^ n) := ps_mem hF e fun p hp h1 _ => h p (psL_sub (Nat.le_of_lt hF) hp) h1
    exact subN_anti (h F hm (subN_refl F)) (cl_ext hF)
/-- without its own row a pseudo-closed set is kept -/
theorem base_alone {p : Nat} (hp : p ∈ psL (clN n rows) (2 ^ n)) : ∀ q ∈ psL (clN n rows) (2 ^ n), q ≠ p → subN q p → subN (clN n rows q) p := fun q hq hne hs => by
  have := subN_le hs
  exact (mem_ps hp).2 q (psL_low hq (by omega)) hs hne
end
def rulesV (n : Nat) (C : Nat → Nat) (R : List Nat) : List PV := R.map fun p => ruleV n (p, C p)
structure CaI (n : Nat) (C : Nat → Nat) (R : List Nat) (x F : Nat) : Prop where
  lt : F < 2 ^ n
  sub : subN x F
  least : ∀ y, y < 2 ^ n → keepR C R y → subN x y → subN F y
theorem CaI.step {n : Nat} {C : Nat → Nat} {R : List Nat} {x F p : Nat} (h : CaI n C R x F) (hp : p ∈ R) (hc : C p < 2 ^ n) (h1 : subN p F) (h2 : p ≠ F) : CaI n C R x (F ||| C p) where
  lt := Nat.or_lt_two_pow h.lt hc
  sub := subN_trans h.sub subN_orl
  least := fun y hy hk hs => by
    have := h.least y hy hk hs
    rw [subN_or]
    refine ⟨this, hk p hp (subN_trans h1 this) fun e => h2 ?_⟩
    rw [← e] at this
    exact subN_anti h1 this
theorem or_gt {x y : Nat} (h : ¬ subN y x) : x < x ||| y := by
  have h1 := subN_le (subN_orl (x := x) (y := y))
  rcases Nat.lt_or_ge x (x ||| y) with z | z
  · exact z
  · have e : x ||| y = x := by omega
    have h2 := subN_orr (x := x) (y := y)
    rw [e] at h2
    exact absurd h2 h
section
variable {n : Nat} {rows : List Nat} {st : Sto}
def CaO (n : Nat) (C : Nat → Nat) (R : List Nat) (x r : Nat) (st : Sto) (k : Nat) (ρ : PD.Env) (s : Sto) : Prop := ∃ (F : Nat) (b : Bool) (x4 x5 : Option PV), ρ = [some (.loc r), some (setV n x), some (setV n F), some (.bl b), x4, x5] ∧ s = st ∧ CaI n C R x F ∧ (b = false → keepR C R F) ∧ k = 2 * (2 ^ n - F) + (if b = true then 1 else 0)
def CaN (n : Nat) (C : Nat → Nat) (R : List Nat) (x r F : Nat) (st : Sto) (l : List Nat) (ρ : PD.Env) (s : Sto) : Prop := ∃ (F' : Nat) (b : Bool) (x4 x5 : Option PV) (dn : List Nat), ρ = [some (.loc r), some (setV n x), some (setV n F'), some (.bl b), x4, x5] ∧ s = st ∧ R = dn ++ l ∧ CaI n C R x F' ∧ (b = false → F' = F ∧ keepR C dn F) ∧ (b = true → F < F')
theorem closed_apart_ok (hn : n ≤ 60) {C : Nat → Nat} {R : List Nat} {r x : Nat} (hr : st[r]? = some (.lst false (rulesV n C R))) (hx : x < 2 ^ n) (hR : ∀ p ∈ R, p < 2 ^ n ∧ C p < 2 ^ n) :
    S_closed_apart [.loc r, setV n x] st = .ok (setV n (clN n (famR n C R) x)) st := by
  unfold S_closed_apart
  refine Ok.eq ?_
  rw [e_body, ok_bnd]
  simp only [d_closed_apart]
  rw [ok_seq]
  simp [d_closed_apart_1, start0, -ok_seq]
  rw [ok_seq]
  simp [d_closed_apart_2, -ok_seq]
  rw [ok_seq]
  refine ok_wh (CaO n C R x r st) ?_ _ _ _ ⟨x, true, _, _, rfl, rfl, ⟨hx, subN_refl x, fun y _ _ h => h⟩, (fun h => nomatch h), rfl⟩
  rintro k ρ s ⟨F, b, x4, x5, rfl, rfl, hI, hb, hk⟩
  simp [truM, -ok_seq]
  cases b with
  | false =>
    simp [d_closed_apart_9]
    rw [fam_least (fun p hp => (hR p hp).2) hx hI.lt hI.sub (hb rfl) hI.least]
  | true =>
    simp [-ok_seq]
    rw [ok_seq]
    simp [d_closed_apart_3, -ok_seq]
    simp only [d_closed_apart_7, e_for, ok_bnd]
    simp [hr, srcM, -ok_seq]
    refine ok_forL (F := fun p => ruleV n (p, C p)) R (CaN n C R x r F s) ?_ ⟨F, false, _, _, [], rfl, rfl, rfl, hI, (fun _ => ⟨rfl, fun _ h => nomatch h⟩), (fun h => nomatch h)⟩ ?_ ?_
    · rintro l ρ s2 ⟨F', b, x4, x5, dn, rfl, rfl, _⟩
      exact .inl hr
    · rintro ρ s2 ⟨F', b, x4, x5, dn, rfl, rfl, e, hI', h1, h2⟩
      rw [List.append_nil] at e
      subst e
      refine ⟨_, ?_, F', b, _, _, rfl, rfl, hI', fun h => ?_, rfl⟩
      · have := hI.lt
        have := hI'.lt
        cases b with
        | false =>
          have := (h1 rfl).1
          simp at hk ⊢
          omega
        | true =>
          have := h2 rfl
          simp at hk ⊢
          omega
      · obtain ⟨e1, e2⟩ := h1 h
        rw [e1]
        exact e2
    · rintro p l ρ s2 ⟨F', b, x4, x5, dn, rfl, rfl, e, hI', h1, h2⟩
      have hp : p ∈ R := by rw [e]; simp
      obtain ⟨hp1, hp2⟩ := hR p hp
      have hp3 : F' < 2 ^ n := hI'.lt
      have c1 : eqb (setV n p) (setV n F') = decide (p = F') := eqb_set hp1 hp3
      simp [ruleV, -ok_seq]
      simp [d_closed_apart_6, okd_set, c1, is_part_ok hp1, is_part_ok hp2, truM, -ok_seq]
      by_cases q1 : p = F'
      · simp [q1, -ok_seq]
        refine ⟨F', b, _, _, dn ++ [p], rfl, rfl, by rw [e]; simp, hI', fun h => ⟨(h1 h).1, fun p' hp' a b => ?_⟩, h2⟩
        rcases List.mem_append.mp hp' with hp' | hp'
        · exact (h1 h).2 p' hp' a b
        · rw [List.mem_singleton.mp hp', q1, (h1 h).1] at b
          exact absurd rfl b
      · by_cases q2 : subN p F'
        · by_cases q3 : subN (C p) F'
          · simp [q1, q2, q3, -ok_seq]
            refine ⟨F', b, _, _, dn ++ [p], rfl, rfl, by rw [e]; simp, hI', fun h => ⟨(h1 h).1, fun p' hp' a b => ?_⟩, h2⟩
            rcases List.mem_append.mp hp' with hp' | hp'
            · exact (h1 h).2 p' hp' a b
            · rw [List.mem_singleton.mp hp', ← (h1 h).1]
              exact q3
          · simp [q1, q2, q3, -ok_seq]
            rw [ok_seq]
            simp [d_closed_apart_4, with_marks_ok hn, -ok_seq]
            simp [d_closed_apart_5]
            have hg := or_gt q3
            refine ⟨F' ||| C p, true, _, _, dn ++ [p], rfl, rfl, by rw [e]; simp, hI'.step hp hp2 q2 q1, (fun h => nomatch h), fun _ => ?_⟩
            cases b with
            | false => rw [← (h1 rfl).1]; exact hg
            | true => exact Nat.lt_trans (h2 rfl) hg
        · simp [q1, q2, -ok_seq]
          refine ⟨F', b, _, _, dn ++ [p], rfl, rfl, by rw [e]; simp, hI', fun h => ⟨(h1 h).1, fun p' hp' a b => ?_⟩, h2⟩
          rcases List.mem_append.mp hp' with hp' | hp'
          · exact (h1 h).2 p' hp' a b
          · rw [List.mem_singleton.mp hp', ← (h1 h).1] at a
            exact absurd a q2
end
theorem ok_closed_apart {W : Wd} {base : Heap} (V : Ev W base) : DFn W.P W.w W base 6 (He.fAd W.K ("closed_apart", none)) 2 S_closed_apart := raw_closed_apart V (ok_is_part V) (ok_with_marks V)
abbrev N_base : List Str := ["table", "rules", "marks", "closed", "some"]
noncomputable def d_base_1 : PD.Env → Mo Fl := (dSet 1 (fun ρ => bnd ((fun ρ => bnd ((fun _ st => .ok [] st) ρ) capM) ρ) layL))
noncomputable def d_base_2 : PD.Env → Mo Fl := (dSet 2 (fun ρ => bnd ((fun _ st => .ok [] st) ρ) tupM))
noncomputable def d_base_3 : PD.Env → Mo Fl := (dSet 3 (fun ρ => bnd ((dCons (dVar 0) (dCons (dVar 2) (fun _ st => .ok [] st))) ρ) (callM 2 S_closure)))
noncomputable def d_base_4 : PD.Env → Mo Fl := (dDrop (fun ρ => bnd ((dVar 1) ρ) fun q => bnd (lstM q) fun _ => bnd (dCons (fun ρ => bnd ((dCons (dVar 2) (dCons (dVar 3) (fun _ st => .ok [] st))) ρ) tupM) (fun _ st => .ok [] st) ρ) fun l => appM q l))
noncomputable def d_base_5 : PD.Env → Mo Fl := (dIfS (dB (dBin (oEq true) (dVar 3) (dVar 2))) d_base_4 dNil)
noncomputable def d_base_6 : PD.Env → Mo Fl := (dSet 2 (fun ρ => bnd ((dBin oIx (dVar 0) (dC (.int 1))) ρ) fun q1 => bnd ((dVar 2) ρ) fun q2 => bnd (capsM [1] ρ) fun caps => lamM (S_next_set (lamF 5 [1] 4 (fun ρ => bnd ((dCons (dVar 1) (dCons (dVar 4) (fun _ st => .ok [] st))) ρ) (callM 2 S_closed_apart))) [q1, q2, .clo caps])))
noncomputable def d_base_7 : PD.Env → Mo Fl := (dWh (dB (dBin (fun p q => match q with | .non => oIsN true p q | _ => fail) (dVar 2) (dC .non))) (dSeq d_base_3
    (dSeq d_base_5
    d_base_6)))
noncomputable def d_base_8 : PD.Env → Mo Fl := (dRet (fun ρ => bnd ((fun ρ => bnd ((dVar 1) ρ) sqM) ρ) tupQ))
noncomputable def d_base : PD.Env → Mo Fl := (dSeq d_base_1
    (dSeq d_base_2
    (dSeq d_base_7
    d_base_8)))
theorem sc_base : FnScope N_base ["table"] (defScope (top 13)) := C8.fnScope_by (by decide +kernel)
theorem body_base {W : Wd} {base : Heap} (V : Ev W base) (hl : W.lam = none) (h_closure : DFn W.P W.w W base 6 (He.fAd W.K ("closure", none)) 2 S_closure) : BodyT W.P W.w W base N_base "base" (defScope (top 13)) (He.fAd W.K ("base", none)) (He.cT W.K ("base", none)).1 10 (defBody (top 13)) d_base := fun A outer s H E =>
  by
  obtain ⟨fdg_next_set, Fg_next_set⟩ := V.D_next_set
  exact (dss_cons (ds_set (i := 1) (de_l (dl_lst da_nil)))
    (dss_cons (ds_set (i := 2) (de_tup da_nil))
    (dss_cons (ds_while (dt_notN (de_var (i := 2))) (dss_cons (ds_set (i := 3) (de_call (h_closure.mono (by decide)) V.g_closure (da_cons (de_var (i := 0)) (da_cons (de_var (i := 2)) da_nil))))
    (dss_cons (ds_if (dt_ne (de_var (i := 3)) (de_var (i := 2))) (dss_one (ds_expr (de_append (de_var (i := 1)) (de_tup (da_cons (de_var (i := 2)) (da_cons (de_var (i := 3)) da_nil)))))) dss_nil)
    (dss_one (ds_set (i := 2) (de_lamcall (k := 7) (n := 5) (cs := [1]) (ix := 4) (Ng := N_next_set) (Sg := S_next_set (lamF 5 [1] 4 (fun ρ => bnd ((dCons (dVar 1) (dCons (dVar 4) (fun _ st => .ok [] st))) ρ) (callM 2 S_closed_apart)))) (dg := d_next_set (lamF 5 [1] 4 (fun ρ => bnd ((dCons (dVar 1) (dCons (dVar 4) (fun _ st => .ok [] st))) ρ) (callM 2 S_closed_apart)))) (db := (fun ρ => bnd ((dCons (dVar 1) (dCons (dVar 4) (fun _ st => .ok [] st))) ρ) (callM 2 S_closed_apart))) (d1 := (dBin oIx (dVar 0) (dC (.int 1)))) (d2 := (dVar 2)) hl V.cx V.T_base V.l_base V.u_base rfl Fg_next_set sc_next_set (Fg_next_set.bindsN fun _ _ _ _ _ _ us hl => match us, hl with | [_, _, _], _ => rfl) V.g_next_set (de_ix (de_var (i := 0)) de_int) (de_var (i := 2)) (lam1_by (sc := defScope (top 13)) (by decide +kernel)) rfl (fun _ _ _ _ _ _ => rfl) (fun f c vs A outer s H => (de_call ((ok_closed_apart (V.lamOf_ f c _ vs)).mono (by decide)) V.g_closed_apart (da_cons (de_var (i := 1)) (da_cons (de_var (i := 4)) da_nil)))) (fun f c vs cdg s H E hact => body_next_set (V.lamOf_ f c _ vs) hact) (by first | exact Or.inl rfl | exact Or.inr (Or.inl rfl))))))))
    (dss_one (ds_ret (de_tuple (dq_e (de_var (i := 1))) rfl V.b_tuple))))))
theorem raw_base {W : Wd} {base : Heap} (V : Ev W base) (hl : W.lam = none) (h_closure : DFn W.P W.w W base 6 (He.fAd W.K ("closure", none)) 2 S_closure) : DFn W.P W.w W base 11 (He.fAd W.K ("base", none)) 1 (bodyF 5 d_base) := by
  obtain ⟨fd, F⟩ := V.D_base
  exact DFn.ofT V.cx F sc_base (F.bindsN fun _ _ _ _ _ _ us hl => match us, hl with | [_], _ => rfl) (body_base V hl h_closure)
noncomputable def S_base : List PV → Mo PV := bodyF 5 d_base
theorem ref_base : Ref 1 (bodyF 5 d_base) S_base := ref_self
theorem lamM_ok {F : Mo PV} {st : Sto} {Q : PV → Sto → Prop} (h : Ok (F st) fun q s => s = st ∧ noclo q = true ∧ Q q s) : Ok (lamM F st) Q := by
  unfold lamM
  cases e : F st with
  | ok z st' =>
    rw [e] at h
    obtain ⟨rfl, h2, h3⟩ := ok_ok.mp h
    dsimp only
    rw [if_pos ⟨h2, fun i o q => .inl q⟩]
    exact ok_ok.mpr h3
  | exc c s => rw [e] at h; exact absurd h (by simp [Ok])
  | stuck => rw [e] at h; exact absurd h (by simp [Ok])
theorem noclos_nats : ∀ l : List Nat, noclos (l.map fun i : Nat => PV.int i) = true
  | [] => rfl
  | a :: l => by
    rw [List.map_cons, noclos, noclos_nats l]
    rfl
theorem noclo_opt {n : Nat} {r : Option Nat} : noclo (optV n r) = true := by
  cases r with
  | none => rfl
  | some y => exact noclos_nats _
theorem setV_zero {n : Nat} : setV n 0 = .tup [] := by
  unfold setV setN intsP mb
  simp
section
variable {n : Nat} {rows : List Nat} {st : Sto}
def BaI (n : Nat) (rows : List Nat) (st : Sto) (k : Nat) (ρ : PD.Env) (s : Sto) : Prop := ∃ (mo : Option Nat) (R : List Nat) (x3 : Option PV), ρ = [some (tabV n rows), some (.loc st.length), some (optV n mo), x3, none] ∧ s = st ++ [.lst false (rulesV n (clN n rows) R)] ∧ match mo with
  | some x => x < 2 ^ n ∧ R = psL (clN n rows) x ∧ keepR (clN n rows) (psL (clN n rows) x) x ∧ k = 2 ^ n - x
  | none => R = psL (clN n rows) (2 ^ n) ∧ k = 0
theorem psL_len {C : Nat → Nat} : ∀ k, (psL C k).length ≤ k
  | 0 => Nat.le_refl _
  | k + 1 => by
    show (psL C k ++ _).length ≤ _
    rw [List.length_append]
    have := psL_len (C := C) k
    split <;> simp <;> omega
theorem base_ok (h : TabOk' n rows) (hn : n ≤ 8) {Q : PV → Sto → Prop} (K : Q (.tup (rulesV n (clN n rows) (psL (clN n rows) (2 ^ n)))) (st ++ [.lst false (rulesV n (clN n rows) (psL (clN n rows) (2 ^ n)))])) : Ok (S_base [tabV n rows] st) Q := by
  have h256 : 2 ^ n ≤ 256 := Nat.pow_le_pow_right (by omega) hn
  unfold S_base
  rw [e_body, ok_bnd]
  simp only [d_base]
  rw [ok_seq]
  simp [d_base_1, start0, -ok_seq]
  rw [ok_seq]
  simp [d_base_2, -ok_seq]
  rw [ok_seq]
  refine ok_wh (BaI n rows st) ?_ _ _ _ ⟨some 0, [], _, by rw [← setV_zero (n := n)]; rfl, rfl, Nat.two_pow_pos n, rfl, (fun _ h => nomatch h), rfl⟩
  rintro k ρ s ⟨mo, R, x3, rfl, rfl, hm⟩
  cases mo with
  | none =>
    obtain ⟨rfl, hk⟩ := hm
    simp [optV, d_base_8, -ok_seq]
    exact K
  | some x =>
    obtain ⟨hx, rfl, hkp, hk⟩ := hm
    simp [optV, -ok_seq]
    rw [if_pos (by rfl), ok_seq]
    simp [d_base_3, closure_ok h hx, -ok_seq]
    rw [ok_seq]
    have c1 : eqb (setV n (clN n rows x)) (setV n x) = decide (clN n rows x = x) := eqb_set cl_lt hx
    have hlen := psL_len (C := clN n rows) x
    have after : ∀ x3, Ok (d_base_6 [some (tabV n rows), some (.loc st.length), some (setV n x), x3, none] (st ++ [.lst false (rulesV n (clN n rows) (psL (clN n rows) (x + 1)))])) (Aft (fun ρ' st' => ∃ m, m < k ∧ BaI n rows st m ρ' st') (seqK d_base_8 fun b st1 => Ok (retF b st1) Q)) := by
      intro x3
      have hC : ∀ p ∈ psL (clN n rows) (x + 1), p < 2 ^ n ∧ clN n rows p < 2 ^ n := fun p hp => ⟨by have := psL_lt hp; omega, cl_lt⟩
      simp [d_base_6, capsM, tabV, -ok_seq]
      refine lamM_ok ((next_set_ok h.n60 hx cl_op (C := clN n (famR n (clN n rows) (psL (clN n rows) (x + 1)))) fun y hy => ?_).imp fun q s1 hq => ?_)
      · refine Ok.eq ?_
        have := closed_apart_ok (st := st ++ [.lst false (rulesV n (clN n rows) (psL (clN n rows) (x + 1)))]) h.n60 (r := st.length) (x := y) (by simp) hy hC
        simp [lamF, PD.envOf, setAll, this, -ok_seq]
      · obtain ⟨rfl, r, rfl, hN⟩ := hq
        refine ⟨rfl, noclo_opt, ?_⟩
        have hb := base_next hx hN
        cases r with
        | none =>
          refine ⟨0, by omega, none, _, _, rfl, rfl, ?_, rfl⟩
          exact hb.symm
        | some y =>
          obtain ⟨h1, h2, h3, h4⟩ := hb
          exact ⟨2 ^ n - y, by omega, some y, _, _, rfl, rfl, h1, h3.symm, h4, rfl⟩
    have hturn := base_turn hkp
    by_cases hc : clN n rows x = x
    · rw [if_neg (fun z => z hc), List.append_nil] at hturn
      rw [hturn] at after
      simp [d_base_5, okd_set, c1, -ok_seq]
      rw [if_pos hc]
      exact after _
    · rw [if_pos hc] at hturn
      rw [hturn] at after
      simp [d_base_5, okd_set, c1, hc, -ok_seq]
      simp [d_base_4, -ok_seq]
      refine ⟨by unfold rulesV; rw [List.length_map]; omega, ?_⟩
      have e : rulesV n (clN n rows) (psL (clN n rows) x) ++ [PV.tup [setV n x, setV n (clN n rows x)]] = rulesV n (clN n rows) (psL (clN n rows) x ++ [x]) := by
        unfold rulesV
        rw [List.map_append]
        rfl
      rw [e]
      exact after _
end
structure FpI (n : Nat) (C : Nat → Nat) (R : List Nat) (a F : Nat) : Prop where
  lt : F < 2 ^ n
  sub : subN a F
  least : ∀ y, y < 2 ^ n → (∀ p ∈ R, subN p y → subN (C p) y) → subN a y → subN F y
theorem FpI.step {n : Nat} {C : Nat → Nat} {R : List Nat} {a F p : Nat} (h : FpI n C R a F) (hp : p ∈ R) (hc : C p < 2 ^ n) (h1 : subN p F) : FpI n C R a (F ||| C p) where
  lt := Nat.or_lt_two_pow h.lt hc
  sub := subN_trans h.sub subN_orl
  least := fun y hy hk hs => by
    have := h.least y hy hk hs
    rw [subN_or]
    exact ⟨this, hk p hp (subN_trans h1 this)⟩
def kOf : PV → Nat
  | .tup [.int k, _] => k.toNat
  | _ => 0
theorem enu_rules {n : Nat} {C : Nat → Nat} {R : List Nat} : enuP 0 (rulesV n C R) = (List.range R.length).map fun k : Nat => .tup [.int (k : Int), ruleV n (R[k]?.getD 0, C (R[k]?.getD 0))] := by
  refine List.ext_getElem? fun i => ?_
  rw [enuP_get, List.getElem?_map]
  unfold rulesV
  rw [List.getElem?_map]
  by_cases h : i < R.length
  · rw [List.getElem?_range h, List.getElem?_eq_getElem h]
    simp [List.getElem?_eq_getElem h]
  · rw [List.getElem?_eq_none (by omega), List.getElem?_eq_none (by rw [List.length_range]; omega)]
    rfl
section
variable {n : Nat} {rows : List Nat} {st : Sto}
def notKept (C : Nat → Nat) (R U : List Nat) (F k : Nat) : Bool := !decide (k ∈ U) && !(!decide (subN (R[k]?.getD 0) F) || decide (subN (C (R[k]?.getD 0)) F))
def FpO (n : Nat) (C : Nat → Nat) (R : List Nat) (a b : Nat) (st : Sto) (k : Nat) (ρ : PD.Env) (s : Sto) : Prop := ∃ (F : Nat) (U : List Nat) (x5 : Option PV), ρ = [some (.int (n : Int)), some (.tup (rulesV n C R)), some (ruleV n (a, b)), some (.loc st.length), some (setV n F), x5, none, none] ∧ Keep st s ∧ s[st.length]? = some (.lst false (U.map fun i : Nat => PV.int i)) ∧ FpI n C R a F ∧ (∀ k ∈ U, subN (C (R[k]?.getD 0)) F) ∧ U.length ≤ F ∧ k = 2 ^ n - F
theorem follow_paper_ok (hn : n ≤ 8) {C : Nat → Nat} {R : List Nat} {a b : Nat} {Q : PV → Sto → Prop} (ha : a < 2 ^ n) (hb : b < 2 ^ n) (hl : R.length ≤ 1000) (hR : ∀ p ∈ R, p < 2 ^ n ∧ C p < 2 ^ n)
    (K1 : ∀ z F s, Keep st s → FpI n C R a F → subN b F → Q (.tup [.str "follows", z]) s) (K2 : ∀ z F s, Keep st s → FpI n C R a F → ¬ subN b F → (∀ p ∈ R, subN p F → subN (C p) F) → Q (.tup [.str "not", z]) s) :
    Ok (S_follow_paper [.int (n : Int), .tup (rulesV n C R), ruleV n (a, b)] st) Q := by
  have h256 : 2 ^ n ≤ 256 := Nat.pow_le_pow_right (by omega) hn
  unfold S_follow_paper
  rw [e_body, ok_bnd]
  simp only [d_follow_paper]
  rw [ok_seq]
  simp [d_follow_paper_1, start0, -ok_seq]
  rw [ok_seq]
  simp [d_follow_paper_2, ruleV, -ok_seq]
  rw [ok_seq]
  refine ok_wh (FpO n C R a b st) ?_ _ _ _ ⟨a, [], _, rfl, ⟨by simp, fun i hi => List.getElem?_append_left hi⟩, by simp, ⟨ha, subN_refl a, fun y _ _ h => h⟩, (fun _ h => nomatch h), Nat.zero_le _, rfl⟩
  rintro k ρ s ⟨F, U, x5, rfl, hk, hu, hI, hU, hUl, hm⟩
  have hlt := hI.lt
  simp [ruleV, is_part_ok hb, -ok_seq]
  by_cases hbF : subN b F
  · simp [hbF, d_follow_paper_9, hu, -ok_seq]
    exact K1 _ F s hk hI hbF
  · simp [hbF, -ok_seq]
    rw [ok_seq]
    simp [d_follow_paper_3, enuM, wipeE, -ok_seq, -e_lc]
    rw [e_lc]
    simp [enuM, wipeE, enu_rules, -ok_seq, -List.map_map]
    rw [lc_pure (fun q => notKept C R U F (kOf q)) (fun q => .int (kOf q : Int)) (by exact True.intro) _ [] (fun q hq => by
      obtain ⟨i, hi, rfl⟩ := List.mem_map.mp hq
      have hi := List.mem_range.mp hi
      have hm : R[i]?.getD 0 ∈ R := by rw [List.getElem?_eq_getElem hi]; exact List.getElem_mem hi
      obtain ⟨hp1, hp2⟩ := hR _ hm
      refine ⟨_, rfl, ?_, fun _ => ?_⟩
      · refine Ok.eq ?_
        have hkp : S_keeps [setV n F, ruleV n (R[i]?.getD 0, C (R[i]?.getD 0))] s = _ := keeps_ok hp1 hp2
        simp [hu, inQ_nats, kOf, notKept, hkp, truM]
        by_cases hiU : i ∈ U <;> by_cases w1 : subN (R[i]?.getD 0) F <;> by_cases w2 : subN (C (R[i]?.getD 0)) F <;> simp [hiU, w1, w2]
      · refine Ok.eq ?_
        simp [kOf]) (by rw [List.length_map, List.length_range]; simp; omega), ok_ok, List.nil_append]
    have e : (((List.range R.length).map fun k : Nat => PV.tup [.int (k : Int), ruleV n (R[k]?.getD 0, C (R[k]?.getD 0))]).filter (fun q => notKept C R U F (kOf q))).map (fun q => PV.int (kOf q : Int)) = ((List.range R.length).filter (notKept C R U F)).map fun k : Nat => PV.int (k : Int) := by
      rw [List.filter_map, List.map_map]
      rfl
    rw [e]
    generalize hN : (List.range R.length).filter (notKept C R U F) = N
    cases N with
    | nil =>
      rw [ok_seq]
      simp [d_follow_paper_5, d_follow_paper_4, truM, -ok_seq]
      refine K2 _ F _ ⟨by have := hk.le; simp; omega, fun i hi => ?_⟩ hI hbF fun p hp h1 => ?_
      · rw [List.getElem?_append_left (by have := hk.le; omega)]
        exact hk.eq i hi
      · obtain ⟨i, hi, rfl⟩ := List.getElem_of_mem hp
        have e : R[i]?.getD 0 = R[i] := by rw [List.getElem?_eq_getElem hi]; rfl
        have := List.filter_eq_nil_iff.mp hN i (List.mem_range.mpr hi)
        unfold notKept at this
        rw [e] at this
        by_cases hiU : i ∈ U
        · have := hU i hiU
          rw [e] at this
          exact this
        · simpa [hiU, h1] using this
    | cons j N' =>
      have hj : j ∈ (List.range R.length).filter (notKept C R U F) := by rw [hN]; exact List.mem_cons_self ..
      obtain ⟨hj1, hj2⟩ := List.mem_filter.mp hj
      have hj1 := List.mem_range.mp hj1
      unfold notKept at hj2
      simp at hj2
      obtain ⟨g1, g2, g3⟩ := hj2
      have hm2 : R[j]?.getD 0 ∈ R := by rw [List.getElem?_eq_getElem hj1]; exact List.getElem_mem hj1
      obtain ⟨hp1, hp2⟩ := hR _ hm2
      have hul : st.length < s.length := by
        rcases Nat.lt_or_ge st.length s.length with z | z
        · exact z
        · rw [List.getElem?_eq_none z] at hu
          cases hu
      have hu2 : (s ++ [Ob.lst false ((j :: N').map fun k : Nat => PV.int (k : Int))])[st.length]? = some (.lst false (U.map fun i : Nat => PV.int i)) := by
        rw [List.getElem?_append_left hul]
        exact hu
      have hn2 : (s ++ [Ob.lst false ((j :: N').map fun k : Nat => PV.int (k : Int))])[s.length]? = some (Ob.lst false ((j :: N').map fun k : Nat => PV.int (k : Int))) := by simp
      have hk2 : Keep st (s ++ [Ob.lst false ((j :: N').map fun k : Nat => PV.int (k : Int))]) := ⟨by have := hk.le; simp; omega, fun i hi => by
        rw [List.getElem?_append_left (by omega)]
        exact hk.eq i hi⟩
      generalize hs2 : s ++ [Ob.lst false ((j :: N').map fun k : Nat => PV.int (k : Int))] = s2 at hu2 hn2 hk2
      rw [ok_seq]
      simp [d_follow_paper_5, truM, hn2, -ok_seq]
      rw [ok_seq]
      simp [d_follow_paper_6, hn2, hu2, -ok_seq]
      refine ⟨by omega, ?_⟩
      have hl2 : st.length < s2.length := by rw [← hs2, List.length_append]; omega
      have hn3 : (s2.set st.length (Ob.lst false (U.map (fun i : Nat => PV.int i) ++ [PV.int (j : Int)])))[s.length]? = some (Ob.lst false ((j :: N').map fun k : Nat => PV.int (k : Int))) := by
        rw [List.getElem?_set_ne (by omega)]
        exact hn2
      have hu3 : (s2.set st.length (Ob.lst false (U.map (fun i : Nat => PV.int i) ++ [PV.int (j : Int)])))[st.length]? = some (Ob.lst false ((U ++ [j]).map fun k : Nat => PV.int (k : Int))) := by
        rw [List.getElem?_set_self hl2, List.map_append]
        rfl
      have hk3 : Keep st (s2.set st.length (Ob.lst false (U.map (fun i : Nat => PV.int i) ++ [PV.int (j : Int)]))) := ⟨by rw [List.length_set]; exact hk2.le, fun i hi => by
        rw [List.getElem?_set_ne (by omega)]
        exact hk2.eq i hi⟩
      have hix : atI (rulesV n C R) (j : Int) = some (ruleV n (R[j]?.getD 0, C (R[j]?.getD 0))) := by
        refine PD.atI_nat ?_
        unfold rulesV
        rw [List.getElem?_map, List.getElem?_eq_getElem hj1]
        simp [List.getElem?_eq_getElem hj1]
      generalize s2.set st.length (Ob.lst false (U.map (fun i : Nat => PV.int i) ++ [PV.int (j : Int)])) = s3 at hn3 hu3 hk3
      have hw : ∀ x y, S_with_marks [setV n x, setV n y] s3 = .ok (setV n (x ||| y)) s3 := fun x y => with_marks_ok (by omega)
      simp [d_follow_paper_7, hn3, hix, ruleV, hw, -ok_seq]
      have hg := or_gt g3
      have hlt2 : F ||| C (R[j]?.getD 0) < 2 ^ n := Nat.or_lt_two_pow hI.lt hp2
      refine ⟨2 ^ n - (F ||| C (R[j]?.getD 0)), by omega, F ||| C (R[j]?.getD 0), U ++ [j], _, rfl, hk3, hu3, hI.step hm2 hp2 g2, fun k hk => ?_, by rw [List.length_append]; simp; omega, rfl⟩
      rcases List.mem_append.mp hk with hk | hk
      · exact subN_trans (hU k hk) subN_orl
      · rw [List.mem_singleton.mp hk]
        exact subN_orr
end
theorem ok_base {W : Wd} {base : Heap} (V : Ev W base) (hl : W.lam = none) : DFn W.P W.w W base 11 (He.fAd W.K ("base", none)) 1 S_base := raw_base V hl (ok_closure V)
abbrev N__law_box : List Str := ["script"]
noncomputable def d__law_box_1 : PD.Env → Mo Fl := (dRet (fun ρ => bnd ((fun ρ => bnd ((dCons (fun ρ => bnd ((fun ρ => bnd ((dSlL (dVar 0) (fun _ st => .ok none st) (fun ρ => bnd ((dC (.int 63)) ρ) intM)) ρ) fun l => fun st => .ok l st) ρ) layL) (dCons (dC (.int 0)) (dCons (dBin oAdd (dC (.int 4711)) (fun ρ => bnd ((dVar 0) ρ) lenM)) (fun _ st => .ok [] st)))) ρ) capM) ρ) layL))
noncomputable def d__law_box : PD.Env → Mo Fl := d__law_box_1
theorem sc__law_box : FnScope N__law_box ["script"] (defScope (top 15)) := C8.fnScope_by (by decide +kernel)
theorem body__law_box {W : Wd} {base : Heap} (V : Ev W base)  : Body W.P W.w W base N__law_box "_law_box" (defScope (top 15)) (He.fAd W.K ("_law_box", none)) 2 (defBody (top 15)) d__law_box := fun cdv A outer s H E =>
  (dss_one (ds_ret (de_l (dl_lst (da_cons (de_l (dl_list (dq_l (dl_sl (de_var (i := 0)) do_none (do_some de_int))) rfl V.b_list)) (da_cons de_int (da_cons (de_add de_int (de_lenV (de_var (i := 0)) rfl V.b_len)) da_nil)))))))
theorem raw__law_box {W : Wd} {base : Heap} (V : Ev W base)  : DFn W.P W.w W base 3 (He.fAd W.K ("_law_box", none)) 1 (bodyF 1 d__law_box) := by
  obtain ⟨fd, F⟩ := V.D__law_box
  exact DFn.of V.cx F sc__law_box (F.bindsN fun _ _ _ _ _ _ us hl => match us, hl with | [_], _ => rfl) (body__law_box V )
noncomputable def S__law_box : List PV → Mo PV := bodyF 1 d__law_box
theorem ref__law_box : Ref 1 (bodyF 1 d__law_box) S__law_box := ref_self
theorem ok__law_box {W : Wd} {base : Heap} (V : Ev W base) : DFn W.P W.w W base 3 (He.fAd W.K ("_law_box", none)) 1 S__law_box := raw__law_box V 
abbrev N__law_load : List Str := ["box", "cells", "first", "second", "cell", "size"]
noncomputable def d__law_load_1 : PD.Env → Mo Fl := (dSet 1 (dBin oIx (dVar 0) (dC (.int 0))))
noncomputable def d__law_load_2 : PD.Env → Mo Fl := (dSet 4 (fun ρ => bnd ((fun ρ => bnd ((dVar 1) ρ) fun q => bnd (lstM q) fun _ => bnd (dCons (dC (.int 0)) (fun _ st => .ok [] st) ρ) fun l => popAtM q l) ρ) intV))
noncomputable def d__law_load_3 : PD.Env → Mo Fl := (dSet 5 (dIf (dB (dBin oGe (dVar 4) (dC (.int 0)))) (dBin oMul (dC (.int 2)) (dVar 4)) (dBin oSub (dBin oMul (dUn oNeg (dC (.int 2))) (dVar 4)) (dC (.int 1)))))
noncomputable def d__law_load_4 : PD.Env → Mo Fl := (dRet (dVar 5))
noncomputable def d__law_load_5 : PD.Env → Mo Fl := (dIfS (dB (dBin oGe (dVar 5) (dC (.int 1000000000000000000)))) d__law_load_4 dNil)
noncomputable def d__law_load_6 : PD.Env → Mo Fl := (dAsg (dBin oMod (fun ρ => bnd ((dBin oAdd (dBin oAdd (dBin oMul (dBin oIx (dVar 0) (dC (.int 2))) (dC (.int 69621))) (dBin oMul (dVar 5) (dC (.int 48271)))) (dC (.int 11))) ρ) intV) (dC (.int 2147483647))) (gSb (dVar 0) (dC (.int 2))))
noncomputable def d__law_load_7 : PD.Env → Mo Fl := (dIfS (dB (dBin oGt (fun ρ => bnd ((dVar 1) ρ) lenM) (dC (.int 0)))) (dSeq d__law_load_2
    (dSeq d__law_load_3
    (dSeq d__law_load_5
    d__law_load_6))) dNil)
noncomputable def d__law_load_8 : PD.Env → Mo Fl := (dSet 2 (dBin oMod (fun ρ => bnd ((dBin oAdd (dBin oMul (dBin oIx (dVar 0) (dC (.int 2))) (dC (.int 48271))) (dC (.int 17))) ρ) intV) (dC (.int 2147483629))))
noncomputable def d__law_load_9 : PD.Env → Mo Fl := (dSet 3 (dBin oMod (fun ρ => bnd ((dBin oAdd (dBin oMul (dVar 2) (dC (.int 69621))) (dC (.int 5))) ρ) intV) (dC (.int 2147483587))))
noncomputable def d__law_load_10 : PD.Env → Mo Fl := (dAsg (dBin oMod (fun ρ => bnd ((dBin oAdd (dBin oMul (dVar 3) (dC (.int 40692))) (dC (.int 3))) ρ) intV) (dC (.int 2147483563))) (gSb (dVar 0) (dC (.int 2))))
noncomputable def d__law_load_11 : PD.Env → Mo Fl := (dRet (dBin oAdd (dBin oAdd (dBin oMul (dVar 2) (dC (.int 4611686014132420609))) (dBin oMul (dVar 3) (dC (.int 2147483647)))) (dBin oIx (dVar 0) (dC (.int 2)))))
noncomputable def d__law_load : PD.Env → Mo Fl := (dSeq d__law_load_1
    (dSeq d__law_load_7
    (dSeq d__law_load_8
    (dSeq d__law_load_9
    (dSeq d__law_load_10
    d__law_load_11)))))
theorem sc__law_load : FnScope N__law_load ["box"] (defScope (top 16)) := C8.fnScope_by (by decide +kernel)
theorem body__law_load {W : Wd} {base : Heap} (V : Ev W base)  : Body W.P W.w W base N__law_load "_law_load" (defScope (top 16)) (He.fAd W.K ("_law_load", none)) 2 (defBody (top 16)) d__law_load := fun cdv A outer s H E =>
  (dss_cons (ds_set (i := 1) (de_ix (de_var (i := 0)) de_int))
    (dss_cons (ds_if (dt_gt (de_lenV (de_var (i := 1)) rfl V.b_len) de_int) (dss_cons (ds_set (i := 4) (de_intc (de_popAt (de_var (i := 1)) de_int) rfl V.b_int))
    (dss_cons (ds_set (i := 5) (de_if (dt_ge (de_var (i := 4)) de_int) (de_mul de_int (de_var (i := 4))) (de_sub (de_mul (de_neg de_int) (de_var (i := 4))) de_int)))
    (dss_cons (ds_if (dt_ge (de_var (i := 5)) de_int) (dss_one (ds_ret (de_var (i := 5)))) dss_nil)
    (dss_one (ds_asg (de_mod (de_intc (de_add (de_add (de_mul (de_ix (de_var (i := 0)) de_int) de_int) (de_mul (de_var (i := 5)) de_int)) de_int) rfl V.b_int) de_int) (dg_sub (de_var (i := 0)) de_int)))))) dss_nil)
    (dss_cons (ds_set (i := 2) (de_mod (de_intc (de_add (de_mul (de_ix (de_var (i := 0)) de_int) de_int) de_int) rfl V.b_int) de_int))
    (dss_cons (ds_set (i := 3) (de_mod (de_intc (de_add (de_mul (de_var (i := 2)) de_int) de_int) rfl V.b_int) de_int))
    (dss_cons (ds_asg (de_mod (de_intc (de_add (de_mul (de_var (i := 3)) de_int) de_int) rfl V.b_int) de_int) (dg_sub (de_var (i := 0)) de_int))
    (dss_one (ds_ret (de_add (de_add (de_mul (de_var (i := 2)) de_int) (de_mul (de_var (i := 3)) de_int)) (de_ix (de_var (i := 0)) de_int)))))))))
theorem raw__law_load {W : Wd} {base : Heap} (V : Ev W base)  : DFn W.P W.w W base 3 (He.fAd W.K ("_law_load", none)) 1 (bodyF 6 d__law_load) := by
  obtain ⟨fd, F⟩ := V.D__law_load
  exact DFn.of V.cx F sc__law_load (F.bindsN fun _ _ _ _ _ _ us hl => match us, hl with | [_], _ => rfl) (body__law_load V )
noncomputable def S__law_load : List PV → Mo PV := bodyF 6 d__law_load
theorem ref__law_load : Ref 1 (bodyF 6 d__law_load) S__law_load := ref_self
/-- the last part: two more numbers -/
theorem law_load_tail {b c : Nat} {st : Sto} {x1 x4 x5 : Option PV} (h : BoxAt b c st) : Ok (dSeq d__law_load_8 (dSeq d__law_load_9 (dSeq d__law_load_10 d__law_load_11)) [some (.loc b), x1, none, none, x4, x5] st) (fun fl s => (∃ d : Int, fl = .rt (.int d)) ∧ Bx b c st s) := by
  obtain ⟨v, sd, e⟩ := h.bx
  have hb := h.lt.1
  have hself : ∀ o : Ob, (st.set b o)[b]? = some o := fun o => List.getElem?_set_self hb
  simp [d__law_load_8, d__law_load_9, d__law_load_10, d__law_load_11, e, atI3_2, ixN3_2, hself, CM]
  exact ⟨Ch.setB, h.setB⟩
theorem law_load_ok {b c : Nat} {st : Sto} (h : BoxAt b c st) : Ok (S__law_load [.loc b] st) (fun p s => (∃ d : Int, p = .int d) ∧ Bx b c st s) := by
  obtain ⟨v, sd, e⟩ := h.bx
  obtain ⟨l, ec, hl⟩ := h.cs
  have hb := h.lt.1
  have hc := h.lt.2
  unfold S__law_load
  simp only [e_body, d__law_load, ok_bnd, ok_seq]
  simp [start0, d__law_load_1, e, atI3_0, d__law_load_7, ec]
  have fin : ∀ (s0 : Sto) (x1 x4 x5 : Option PV), Bx b c st s0 → Ok (dSeq d__law_load_8 (dSeq d__law_load_9 (dSeq d__law_load_10 d__law_load_11)) [some (.loc b), x1, none, none, x4, x5] s0) (fun fl s1 => Ok (retF fl s1) fun p s => (∃ d : Int, p = .int d) ∧ Bx b c st s) := fun s0 x1 x4 x5 hs => by
    refine (law_load_tail hs.2).imp fun fl s hh => ?_
    obtain ⟨⟨d, rfl⟩, h2, h3⟩ := hh
    simp
    exact ⟨hs.1.trans h2, h3⟩
  cases l with
  | nil =>
    have z := fin st (some (.loc c)) none none ⟨Ch.refl, h⟩
    rw [ok_seq] at z
    simpa using z
  | cons x l =>
    have e' : (st.set c (.lst false (l.map PV.int)))[b]? = some (.lst false [.loc c, .int v, .int sd]) := by rw [List.getElem?_set_ne (Ne.symm h.ne)]; exact e
    have hl' : l.length ≤ 16777216 := by rw [List.length_cons] at hl; omega
    have h1 := h.setC hl'
    have b1 : Bx b c st (st.set c (.lst false (l.map PV.int))) := ⟨Ch.setC, h1⟩
    have z : ∀ (x4 x5 : Option PV) (v sd : Int), Ok (dSeq d__law_load_8 (dSeq d__law_load_9 (dSeq d__law_load_10 d__law_load_11)) [some (.loc b), some (.loc c), none, none, x4, x5] ((st.set c (.lst false (l.map PV.int))).set b (.lst false [.loc c, .int v, .int sd]))) (fun fl s1 => Ok (retF fl s1) fun p s => (∃ d : Int, p = .int d) ∧ Bx b c st s) := fun x4 x5 v sd => fin _ _ _ _ ⟨b1.1.trans Ch.setB, h1.setB⟩
    simp only [ok_seq] at z
    simp [d__law_load_2, d__law_load_3, d__law_load_4, d__law_load_5, d__law_load_6, ec, seqIndex_0, e', atI3_2, ixN3_2, CM, hl']
    split
    · split
      · exact b1
      · simpa using z _ _ _ _
    · split
      · exact b1
      · simpa using z _ _ _ _
theorem ok__law_load {W : Wd} {base : Heap} (V : Ev W base) : DFn W.P W.w W base 3 (He.fAd W.K ("_law_load", none)) 1 S__law_load := raw__law_load V 
abbrev N__law_draw : List Str := ["box", "many", "digit"]
noncomputable def d__law_draw_1 : PD.Env → Mo Fl := (dAsg (fun ρ => bnd ((dCons (dVar 0) (fun _ st => .ok [] st)) ρ) (callM 1 S__law_load)) (gSb (dVar 0) (dC (.int 1))))
noncomputable def d__law_draw_2 : PD.Env → Mo Fl := (dIfS (dB (dBin oLt (dBin oIx (dVar 0) (dC (.int 1))) (dVar 1))) d__law_draw_1 dNil)
noncomputable def d__law_draw_3 : PD.Env → Mo Fl := (dSet 2 (dBin oMod (fun ρ => bnd ((dBin oIx (dVar 0) (dC (.int 1))) ρ) intV) (dVar 1)))
noncomputable def d__law_draw_4 : PD.Env → Mo Fl := (dAsg (dBin oDiv (dBin oIx (dVar 0) (dC (.int 1))) (dVar 1)) (gSb (dVar 0) (dC (.int 1))))
noncomputable def d__law_draw_5 : PD.Env → Mo Fl := (dRet (dVar 2))
noncomputable def d__law_draw : PD.Env → Mo Fl := (dSeq d__law_draw_2
    (dSeq d__law_draw_3
    (dSeq d__law_draw_4
    d__law_draw_5)))
theorem sc__law_draw : FnScope N__law_draw ["box", "many"] (defScope (top 17)) := C8.fnScope_by (by decide +kernel)
theorem body__law_draw {W : Wd} {base : Heap} (V : Ev W base) (h__law_load : DFn W.P W.w W base 3 (He.fAd W.K ("_law_load", none)) 1 S__law_load) : Body W.P W.w W base N__law_draw "_law_draw" (defScope (top 17)) (He.fAd W.K ("_law_draw", none)) 3 (defBody (top 17)) d__law_draw := fun cdv A outer s H E =>
  (dss_cons (ds_if (dt_lt (de_ix (de_var (i := 0)) de_int) (de_var (i := 1))) (dss_one (ds_asg (de_call (h__law_load.mono (by decide)) V.g__law_load (da_cons (de_var (i := 0)) da_nil)) (dg_sub (de_var (i := 0)) de_int))) dss_nil)
    (dss_cons (ds_set (i := 2) (de_mod (de_intc (de_ix (de_var (i := 0)) de_int) rfl V.b_int) (de_var (i := 1))))
    (dss_cons (ds_asg (de_div (de_ix (de_var (i := 0)) de_int) (de_var (i := 1))) (dg_sub (de_var (i := 0)) de_int))
    (dss_one (ds_ret (de_var (i := 2)))))))
theorem raw__law_draw {W : Wd} {base : Heap} (V : Ev W base) (h__law_load : DFn W.P W.w W base 3 (He.fAd W.K ("_law_load", none)) 1 S__law_load) : DFn W.P W.w W base 4 (He.fAd W.K ("_law_draw", none)) 2 (bodyF 3 d__law_draw) := by
  obtain ⟨fd, F⟩ := V.D__law_draw
  exact DFn.of V.cx F sc__law_draw (F.bindsN fun _ _ _ _ _ _ us hl => match us, hl with | [_, _], _ => rfl) (body__law_draw V h__law_load)
noncomputable def S__law_draw : List PV → Mo PV := bodyF 3 d__law_draw
theorem ref__law_draw : Ref 2 (bodyF 3 d__law_draw) S__law_draw := ref_self
theorem law_draw_ok {b c : Nat} {st : Sto} {m : Int} (h : BoxAt b c st) (hm : 0 < m) (hm2 : m < 1073741824) : Ok (S__law_draw [.loc b, .int m] st) (fun p s => ∃ d : Int, p = .int d ∧ 0 ≤ d ∧ d < m ∧ Bx b c st s) := by
  have tail : ∀ s0 : Sto, Bx b c st s0 → Ok (dSeq d__law_draw_3 (dSeq d__law_draw_4 d__law_draw_5) [some (.loc b), some (.int m), none] s0) (fun fl s1 => Ok (retF fl s1) fun p s => ∃ d : Int, p = .int d ∧ 0 ≤ d ∧ d < m ∧ Bx b c st s) := fun s0 hs => by
    obtain ⟨v, sd, e⟩ := hs.2.bx
    have hb := hs.2.lt.1
    have hself : ∀ o : Ob, (s0.set b o)[b]? = some o := fun o => List.getElem?_set_self hb
    simp [d__law_draw_3, d__law_draw_4, d__law_draw_5, e, atI3_1, ixN3_1, hself, hm]
    have q1 := Int.emod_nonneg v (show m ≠ 0 by omega)
    have q2 := Int.emod_lt_of_pos v hm
    have q3 := hs.1.trans (Ch.setB (o := .lst false [.loc c, .int (v / m), .int sd]))
    have q4 := hs.2.setB (v := v / m) (sd := sd)
    exact ⟨⟨hm, hm2⟩, q1, q2, q3, q4⟩
  obtain ⟨v, sd, e⟩ := h.bx
  unfold S__law_draw
  simp only [e_body, d__law_draw, ok_bnd]
  rw [ok_seq]
  simp [start0, d__law_draw_2, e, atI3_1, d__law_draw_1, -ok_seq]
  split
  · refine (law_load_ok h).imp fun p s hh => ?_
    obtain ⟨⟨d, rfl⟩, h2, h3⟩ := hh
    obtain ⟨v', sd', e'⟩ := h3.bx
    simp [e', ixN3_1, -ok_seq]
    exact tail _ ⟨h2.trans Ch.setB, h3.setB⟩
  · simpa [-ok_seq] using tail st ⟨Ch.refl, h⟩
theorem law_box_ok {p : PV} {ns : List Int} {st : Sto} (h : ScrAt p ns st) (hn : ns.length ≤ 63) : Ok (S__law_box [p] st) (fun q s => ∃ b c, q = .loc b ∧ BoxAt b c s ∧ st.length ≤ b ∧ st.length ≤ c ∧ ∃ ex, s = st ++ ex) := by
  have e1 : ∀ s, lstM p (st ++ s) = .ok (ns.map PV.int) (st ++ s) := fun s => by
    rcases h with rfl | ⟨i, lk, rfl, e⟩
    · rfl
    · have e' : (st ++ s)[i]? = some (.lst lk (ns.map PV.int)) := by
        rw [List.getElem?_append_left (List.getElem?_eq_some_iff.mp e).1]; exact e
      rw [m_lstL, e']
  have e2 : ∀ s, lenM p (st ++ s) = .ok (.int (ns.length : Int)) (st ++ s) := fun s => by
    rcases h with rfl | ⟨i, lk, rfl, e⟩
    · exact m_lenK
    · have e' : (st ++ s)[i]? = some (.lst lk (ns.map PV.int)) := by
        rw [List.getElem?_append_left (List.getElem?_eq_some_iff.mp e).1]; exact e
      rw [m_lenL, e']
      simp
  have e10 := e1 []
  rw [List.append_nil] at e10
  have hc : cutP (ns.map PV.int) none (some 63) = ns.map PV.int := by
    unfold cutP
    rw [show (63 : Int) = ((63 : Nat) : Int) from rfl, HT.sIx_nat, HT.sIx_none, List.length_map, List.drop_zero, Nat.sub_zero, Nat.min_eq_right hn]
    exact List.take_of_length_le (by simp)
  unfold S__law_box
  simp [d__law_box, d__law_box_1, start0, e10, hc, e2]
  exact ⟨st.length, ⟨by omega, ⟨0, 4711 + (ns.length : Int), by rw [List.getElem?_append_right (by omega)]; simp⟩, ⟨ns, by simp, by omega⟩⟩, Nat.le_refl _⟩
theorem ok__law_draw {W : Wd} {base : Heap} (V : Ev W base) : DFn W.P W.w W base 4 (He.fAd W.K ("_law_draw", none)) 2 S__law_draw := raw__law_draw V (ok__law_load V)
abbrev N__law_same : List Str := ["a", "b", "k"]
noncomputable def d__law_same_1 (S__law_same : List PV → Mo PV) : PD.Env → Mo Fl := (dRet (dAndV (dBin (oEq false) (fun ρ => bnd ((dVar 0) ρ) lenM) (fun ρ => bnd ((dVar 1) ρ) lenM)) (fun ρ => bnd ((dLc (fun ρ => bnd ((dCons (fun ρ => bnd ((dVar 0) ρ) lenM) (fun _ st => .ok [] st)) ρ) rg1M) (.nm 2) dYes (fun ρ => bnd ((dCons (dBin oIx (dVar 0) (dVar 2)) (dCons (dBin oIx (dVar 1) (dVar 2)) (fun _ st => .ok [] st))) ρ) (callM 2 S__law_same)) [2]) ρ) allQ)))
noncomputable def d__law_same_2 (S__law_same : List PV → Mo PV) : PD.Env → Mo Fl := (dIfS (dOrT (dAndT (fun ρ => bnd ((dIsi .tup (dVar 0)) ρ) truM) (fun ρ => bnd ((dIsi .tup (dVar 1)) ρ) truM)) (dAndT (fun ρ => bnd ((dIsi .lst (dVar 0)) ρ) truM) (fun ρ => bnd ((dIsi .lst (dVar 1)) ρ) truM))) (d__law_same_1 S__law_same) dNil)
noncomputable def d__law_same_3 (S__law_same : List PV → Mo PV) : PD.Env → Mo Fl := (dRet (dAndV (dIsi .bl (dVar 0)) (dAndV (dIsi .bl (dVar 1)) (dBin (oEq false) (dVar 0) (dVar 1)))))
noncomputable def d__law_same_4 (S__law_same : List PV → Mo PV) : PD.Env → Mo Fl := (dIfS (dOrT (fun ρ => bnd ((dIsi .bl (dVar 0)) ρ) truM) (fun ρ => bnd ((dIsi .bl (dVar 1)) ρ) truM)) (d__law_same_3 S__law_same) dNil)
noncomputable def d__law_same_5 (S__law_same : List PV → Mo PV) : PD.Env → Mo Fl := (dRet (dBin (oEq false) (dVar 0) (dVar 1)))
noncomputable def d__law_same_6 (S__law_same : List PV → Mo PV) : PD.Env → Mo Fl := (dIfS (dOrT (dAndT (fun ρ => bnd ((dIsi .int (dVar 0)) ρ) truM) (fun ρ => bnd ((dIsi .int (dVar 1)) ρ) truM)) (dAndT (fun ρ => bnd ((dIsi .str (dVar 0)) ρ) truM) (fun ρ => bnd ((dIsi .str (dVar 1)) ρ) truM))) (d__law_same_5 S__law_same) dNil)
noncomputable def d__law_same_7 (S__law_same : List PV → Mo PV) : PD.Env → Mo Fl := (dRet (dAndV (dBin (fun p q => match q with | .non => oIsN false p q | _ => fail) (dVar 0) (dC .non)) (dBin (fun p q => match q with | .non => oIsN false p q | _ => fail) (dVar 1) (dC .non))))
noncomputable def d__law_same (S__law_same : List PV → Mo PV) : PD.Env → Mo Fl := (dSeq (d__law_same_2 S__law_same)
    (dSeq (d__law_same_4 S__law_same)
    (dSeq (d__law_same_6 S__law_same)
    (d__law_same_7 S__law_same))))
theorem sc__law_same : FnScope N__law_same ["a", "b"] (defScope (top 18)) := C8.fnScope_by (by decide +kernel)
theorem body__law_same {W : Wd} {base : Heap} (V : Ev W base) {S__law_same : List PV → Mo PV} {k : Nat} (hk : 2 ≤ k) (h__law_same : DFn W.P W.w W base k (He.fAd W.K ("_law_same", none)) 2 S__law_same) : Body W.P W.w W base N__law_same "_law_same" (defScope (top 18)) (He.fAd W.K ("_law_same", none)) k (defBody (top 18)) (d__law_same S__law_same) := fun cdv A outer s H E =>
  (dss_cons (ds_if (dt_w (dw_or (dt_w (dw_and (dt_e (de_isi .tup (de_var (i := 0)) rfl V.b_isinstance rfl V.b_tuple boot_tuple_)) (dw_and1 (dt_e (de_isi .tup (de_var (i := 1)) rfl V.b_isinstance rfl V.b_tuple boot_tuple_))))) (dw_or1 (dt_w (dw_and (dt_e (de_isi .lst (de_var (i := 0)) rfl V.b_isinstance rfl V.b_list boot_list_)) (dw_and1 (dt_e (de_isi .lst (de_var (i := 1)) rfl V.b_isinstance rfl V.b_list boot_list_)))))))) (dss_one (ds_ret (de_and (de_eq (de_lenV (de_var (i := 0)) rfl V.b_len) (de_lenV (de_var (i := 1)) rfl V.b_len)) (de_one (de_all (dl_lc (own := [("k", 2)]) (di_range1 (da_cons (de_lenV (de_var (i := 0)) rfl V.b_len) da_nil) rfl V.b_range) (blkOk_by (N := N__law_same) (sc := defScope (top 18)) (by decide +kernel)) (fun _ _ _ _ _ => (dp_name (i := 2))) (fun _ _ _ _ _ => dts_nil) (fun _ _ _ _ _ => (de_call (h__law_same.mono (by omega)) V.g__law_same (da_cons (de_ix (de_var (i := 0)) (de_var (i := 2))) (da_cons (de_ix (de_var (i := 1)) (de_var (i := 2))) da_nil))))) rfl V.b_all))))) dss_nil)
    (dss_cons (ds_if (dt_w (dw_or (dt_e (de_isi .bl (de_var (i := 0)) rfl V.b_isinstance rfl V.b_bool boot_bool_)) (dw_or1 (dt_e (de_isi .bl (de_var (i := 1)) rfl V.b_isinstance rfl V.b_bool boot_bool_))))) (dss_one (ds_ret (de_and (de_isi .bl (de_var (i := 0)) rfl V.b_isinstance rfl V.b_bool boot_bool_) (de_and (de_isi .bl (de_var (i := 1)) rfl V.b_isinstance rfl V.b_bool boot_bool_) (de_one (de_eq (de_var (i := 0)) (de_var (i := 1)))))))) dss_nil)
    (dss_cons (ds_if (dt_w (dw_or (dt_w (dw_and (dt_e (de_isi .int (de_var (i := 0)) rfl V.b_isinstance rfl V.b_int boot_int_)) (dw_and1 (dt_e (de_isi .int (de_var (i := 1)) rfl V.b_isinstance rfl V.b_int boot_int_))))) (dw_or1 (dt_w (dw_and (dt_e (de_isi .str (de_var (i := 0)) rfl V.b_isinstance rfl V.b_str boot_str_)) (dw_and1 (dt_e (de_isi .str (de_var (i := 1)) rfl V.b_isinstance rfl V.b_str boot_str_)))))))) (dss_one (ds_ret (de_eq (de_var (i := 0)) (de_var (i := 1))))) dss_nil)
    (dss_one (ds_ret (de_and (de_isN (de_var (i := 0))) (de_one (de_isN (de_var (i := 1))))))))))
theorem raw__law_same {W : Wd} {base : Heap} (V : Ev W base) {S__law_same : List PV → Mo PV} {k : Nat} (hk : 2 ≤ k) (h__law_same : DFn W.P W.w W base k (He.fAd W.K ("_law_same", none)) 2 S__law_same) : DFn W.P W.w W base (k + 1) (He.fAd W.K ("_law_same", none)) 2 (bodyF 3 (d__law_same S__law_same)) := by
  obtain ⟨fd, F⟩ := V.D__law_same
  exact DFn.of V.cx F sc__law_same (F.bindsN fun _ _ _ _ _ _ us hl => match us, hl with | [_, _], _ => rfl) (body__law_same V hk h__law_same)
noncomputable def smt : Nat → List PV → Mo PV
  | 0 => fun _ => fail
  | n + 1 => bodyF 3 (d__law_same (smt n))
noncomputable def S__law_same : List PV → Mo PV := smt 5

/-- data that nests less than k deep -/
def SmK : Nat → PV → Prop
  | k + 1, .tup l => l.length ≤ 1000000 ∧ ∀ z ∈ l, SmK k z
  | _ + 1, .int _ => True
  | _ + 1, .bl _ => True
  | _ + 1, .non => True
  | _, _ => False
theorem smt_bl {k : Nat} {a b : Bool} {st : Sto} : smt (k + 1) [.bl a, .bl b] st = .ok (.bl (a == b)) st := by
  refine Ok.eq ?_
  unfold smt
  simp only [e_body, d__law_same, ok_bnd]
  simp [d__law_same_2, d__law_same_4, d__law_same_3, start0, isK, okd_bl]
theorem smt_same : ∀ (k : Nat) (q : PV) (st : Sto), SmK k q → smt k [q, q] st = .ok (.bl true) st
  | 0, q, _, h => by cases q <;> exact h.elim
  | k + 1, .bl b, st, _ => by rw [smt_bl]; simp
  | k + 1, .int i, st, _ => by
    refine Ok.eq ?_
    unfold smt
    simp only [e_body, d__law_same, ok_bnd]
    simp [d__law_same_2, d__law_same_4, d__law_same_6, d__law_same_5, start0, isK, okd_int]
  | k + 1, .non, st, _ => by
    refine Ok.eq ?_
    unfold smt
    simp only [e_body, d__law_same, ok_bnd]
    simp [d__law_same_2, d__law_same_4, d__law_same_6, d__law_same_7, start0, isK]
  | k + 1, .tup l, st, h => by
    obtain ⟨hl, h⟩ := h
    refine Ok.eq ?_
    unfold smt
    simp only [e_body, d__law_same, ok_bnd]
    simp [d__law_same_2, d__law_same_1, start0, isK, okd_int, -e_lc]
    rw [e_lc]
    simp [wipeE, -e_lc]
    refine ⟨by unfold PD.RgOk; omega, ?_⟩
    rw [lc_map (fun _ => .bl true) (by exact True.intro) (rgP 0 l.length) (fun p hp => by
      obtain ⟨j, hj, rfl⟩ := mem_rgP hp
      have hat := atI_get hj
      refine ⟨_, rfl, rfl, ?_⟩
      refine Ok.eq ?_
      simp [hat, smt_same k l[j] st (h _ (List.getElem_mem hj))]) (by unfold rgP; simp; omega), ok_ok, allQ_map]
    simp
  | _ + 1, .str _, _, h => h.elim
  | _ + 1, .loc _, _, h => h.elim
  | _ + 1, .fn _, _, h => h.elim
  | _ + 1, .kl _, _, h => h.elim
  | _ + 1, .clo _, _, h => h.elim
  | _ + 1, .pst _, _, h => h.elim
theorem ok__law_same {W : Wd} {base : Heap} (V : Ev W base) : DFn W.P W.w W base 8 (He.fAd W.K ("_law_same", none)) 2 S__law_same := by
  obtain ⟨fd, F⟩ := V.D__law_same
  have d0 : DFn W.P W.w W base 3 (He.fAd W.K ("_law_same", none)) 2 (smt 0) := (DFn.none_ (k := 2) V.cx F sc__law_same (F.bindsN fun _ _ _ _ _ _ us hl => match us, hl with | [_, _], _ => rfl))
  have d1 : DFn W.P W.w W base 4 (He.fAd W.K ("_law_same", none)) 2 (smt 1) := raw__law_same V (by omega) d0
  have d2 : DFn W.P W.w W base 5 (He.fAd W.K ("_law_same", none)) 2 (smt 2) := raw__law_same V (by omega) d1
  have d3 : DFn W.P W.w W base 6 (He.fAd W.K ("_law_same", none)) 2 (smt 3) := raw__law_same V (by omega) d2
  have d4 : DFn W.P W.w W base 7 (He.fAd W.K ("_law_same", none)) 2 (smt 4) := raw__law_same V (by omega) d3
  exact (raw__law_same V (by omega) d4).mono (by decide)
abbrev N__law_table : List Str := ["box", "most_things", "most_marks", "kind", "rows", "i", "pairs", "m", "n", "j"]
noncomputable def d__law_table_1 : PD.Env → Mo Fl := (dPar 7 8 (dCons (fun ρ => bnd ((dCons (dVar 0) (dCons (dBin oAdd (dVar 1) (dC (.int 1))) (fun _ st => .ok [] st))) ρ) (callM 2 S__law_draw)) (dCons (fun ρ => bnd ((dCons (dVar 0) (dCons (dBin oAdd (dVar 2) (dC (.int 1))) (fun _ st => .ok [] st))) ρ) (callM 2 S__law_draw)) (fun _ st => .ok [] st))))
noncomputable def d__law_table_2 : PD.Env → Mo Fl := (dSet 3 (dBin oAdd (dC (.int 2)) (fun ρ => bnd ((dCons (dVar 0) (dCons (dC (.int 4)) (fun _ st => .ok [] st))) ρ) (callM 2 S__law_draw))))
noncomputable def d__law_table_3 : PD.Env → Mo Fl := (dSet 4 (fun ρ => bnd ((fun ρ => bnd ((fun _ st => .ok [] st) ρ) capM) ρ) layL))
noncomputable def d__law_table_4 : PD.Env → Mo Fl := (dDrop (fun ρ => bnd ((dVar 4) ρ) fun q => bnd (lstM q) fun _ => bnd (dCons (dBin oIx (dVar 4) (fun ρ => bnd ((dCons (dVar 0) (dCons (fun ρ => bnd ((dVar 4) ρ) lenM) (fun _ st => .ok [] st))) ρ) (callM 2 S__law_draw))) (fun _ st => .ok [] st) ρ) fun l => appM q l))
noncomputable def d__law_table_5 : PD.Env → Mo Fl := (dDrop (fun ρ => bnd ((dVar 4) ρ) fun q => bnd (lstM q) fun _ => bnd (dCons (fun ρ => bnd ((dLc (fun ρ => bnd ((dCons (dVar 8) (fun _ st => .ok [] st)) ρ) rg1M) (.nm 9) (dB (dBin oLt (fun ρ => bnd ((dCons (dVar 0) (dCons (dC (.int 6)) (fun _ st => .ok [] st))) ρ) (callM 2 S__law_draw)) (dVar 3))) (dVar 9) [9]) ρ) layL) (fun _ st => .ok [] st) ρ) fun l => appM q l))
noncomputable def d__law_table_6 : PD.Env → Mo Fl := (dIfS (dAndT (dB (dBin (oEqL true) (dVar 4) (fun ρ => bnd ((fun ρ => bnd ((fun _ st => .ok [] st) ρ) capM) ρ) layL))) (dB (dBin (oEq false) (fun ρ => bnd ((dCons (dVar 0) (dCons (dC (.int 6)) (fun _ st => .ok [] st))) ρ) (callM 2 S__law_draw)) (dC (.int 0))))) d__law_table_4 d__law_table_5)
noncomputable def d__law_table_7 : PD.Env → Mo Fl := (dFor (fun ρ => bnd ((dCons (dVar 7) (fun _ st => .ok [] st)) ρ) rg1M) (gNm 5) d__law_table_6)
noncomputable def d__law_table_8 : PD.Env → Mo Fl := (dSet 6 (fun ρ => bnd ((fun ρ => bnd ((fun _ st => .ok [] st) ρ) capM) ρ) layL))
noncomputable def d__law_table_9 : PD.Env → Mo Fl := (dDrop (fun ρ => bnd ((dVar 6) ρ) fun q => bnd (lstM q) fun _ => bnd (dCons (fun ρ => bnd ((dLc (fun ρ => bnd ((dBin oIx (dVar 4) (dVar 5)) ρ) srcM) (.nm 9) dYes (fun ρ => bnd ((dCons (dVar 5) (dCons (dVar 9) (fun _ st => .ok [] st))) ρ) tupM) [9]) ρ) layL) (fun _ st => .ok [] st) ρ) fun l => extM q l))
noncomputable def d__law_table_10 : PD.Env → Mo Fl := (dFor (fun ρ => bnd ((dCons (dVar 7) (fun _ st => .ok [] st)) ρ) rg1M) (gNm 5) d__law_table_9)
noncomputable def d__law_table_11 : PD.Env → Mo Fl := (dRet (fun ρ => bnd ((dCons (dVar 7) (dCons (dVar 8) (dCons (fun ρ => bnd ((fun ρ => bnd ((dVar 6) ρ) sqM) ρ) tupQ) (fun _ st => .ok [] st)))) ρ) tupM))
noncomputable def d__law_table : PD.Env → Mo Fl := (dSeq d__law_table_1
    (dSeq d__law_table_2
    (dSeq d__law_table_3
    (dSeq d__law_table_7
    (dSeq d__law_table_8
    (dSeq d__law_table_10
    d__law_table_11))))))
theorem sc__law_table : FnScope N__law_table ["box", "most_things", "most_marks"] (defScope (top 19)) := C8.fnScope_by (by decide +kernel)
theorem body__law_table {W : Wd} {base : Heap} (V : Ev W base) (h__law_draw : DFn W.P W.w W base 4 (He.fAd W.K ("_law_draw", none)) 2 S__law_draw) : Body W.P W.w W base N__law_table "_law_table" (defScope (top 19)) (He.fAd W.K ("_law_table", none)) 4 (defBody (top 19)) d__law_table := fun cdv A outer s H E =>
  (dss_cons (ds_par2 (i := 7) (j := 8) (by decide) (da_cons (de_call (h__law_draw.mono (by decide)) V.g__law_draw (da_cons (de_var (i := 0)) (da_cons (de_add (de_var (i := 1)) de_int) da_nil))) (da_cons (de_call (h__law_draw.mono (by decide)) V.g__law_draw (da_cons (de_var (i := 0)) (da_cons (de_add (de_var (i := 2)) de_int) da_nil))) da_nil)))
    (dss_cons (ds_set (i := 3) (de_add de_int (de_call (h__law_draw.mono (by decide)) V.g__law_draw (da_cons (de_var (i := 0)) (da_cons de_int da_nil)))))
    (dss_cons (ds_set (i := 4) (de_l (dl_lst da_nil)))
    (dss_cons (ds_for (di_range1 (da_cons (de_var (i := 7)) da_nil) rfl V.b_range) (dg_name (i := 5)) (dss_one (ds_if (dt_w (dw_and (dt_neL (de_var (i := 4)) (de_l (dl_lst da_nil))) (dw_and1 (dt_eq (de_call (h__law_draw.mono (by decide)) V.g__law_draw (da_cons (de_var (i := 0)) (da_cons de_int da_nil))) de_int)))) (dss_one (ds_expr (de_append (de_var (i := 4)) (de_ix (de_var (i := 4)) (de_call (h__law_draw.mono (by decide)) V.g__law_draw (da_cons (de_var (i := 0)) (da_cons (de_lenV (de_var (i := 4)) rfl V.b_len) da_nil))))))) (dss_one (ds_expr (de_append (de_var (i := 4)) (de_l (dl_lc (own := [("j", 9)]) (di_range1 (da_cons (de_var (i := 8)) da_nil) rfl V.b_range) (blkOk_by (N := N__law_table) (sc := defScope (top 19)) (by decide +kernel)) (fun _ _ _ _ _ => (dp_name (i := 9))) (fun _ _ _ _ _ => (dts_one (dt_lt (de_call (h__law_draw.mono (by decide)) V.g__law_draw (da_cons (de_var (i := 0)) (da_cons de_int da_nil))) (de_var (i := 3))))) (fun _ _ _ _ _ => (de_var (i := 9)))))))))))
    (dss_cons (ds_set (i := 6) (de_l (dl_lst da_nil)))
    (dss_cons (ds_for (di_range1 (da_cons (de_var (i := 7)) da_nil) rfl V.b_range) (dg_name (i := 5)) (dss_one (ds_expr (de_extend (de_var (i := 6)) (de_l (dl_lc (own := [("j", 9)]) (di_e (de_ix (de_var (i := 4)) (de_var (i := 5)))) (blkOk_by (N := N__law_table) (sc := defScope (top 19)) (by decide +kernel)) (fun _ _ _ _ _ => (dp_name (i := 9))) (fun _ _ _ _ _ => dts_nil) (fun _ _ _ _ _ => (de_tup (da_cons (de_var (i := 5)) (da_cons (de_var (i := 9)) da_nil))))))))))
    (dss_one (ds_ret (de_tup (da_cons (de_var (i := 7)) (da_cons (de_var (i := 8)) (da_cons (de_tuple (dq_e (de_var (i := 6))) rfl V.b_tuple) da_nil))))))))))))
theorem raw__law_table {W : Wd} {base : Heap} (V : Ev W base) (h__law_draw : DFn W.P W.w W base 4 (He.fAd W.K ("_law_draw", none)) 2 S__law_draw) : DFn W.P W.w W base 5 (He.fAd W.K ("_law_table", none)) 3 (bodyF 10 d__law_table) := by
  obtain ⟨fd, F⟩ := V.D__law_table
  exact DFn.of V.cx F sc__law_table (F.bindsN fun _ _ _ _ _ _ us hl => match us, hl with | [_, _, _], _ => rfl) (body__law_table V h__law_draw)
noncomputable def S__law_table : List PV → Mo PV := bodyF 10 d__law_table
theorem ref__law_table : Ref 3 (bodyF 10 d__law_table) S__law_table := ref_self
/-! numbers from bits -/
def valN : Nat → (Nat → Bool) → Nat
  | 0, _ => 0
  | n + 1, f => 2 * valN n f + (f n).toNat
theorem val_lt {f : Nat → Bool} : ∀ n, valN n f < 2 ^ n
  | 0 => Nat.one_pos
  | n + 1 => by
    have := val_lt (f := f) n
    unfold valN
    rw [Nat.pow_succ]
    cases f n <;> simp <;> omega
theorem mb_val {f : Nat → Bool} : ∀ {n j : Nat}, j < n → mb n (valN n f) j = f j
  | n + 1, j, h => by
    unfold mb valN
    by_cases e : j = n
    · subst e
      rw [show j + 1 - 1 - j = 0 by omega, Nat.testBit_zero]
      cases f j <;> simp <;> omega
    · have ih := mb_val (f := f) (n := n) (j := j) (by omega)
      unfold mb at ih
      rw [show n + 1 - 1 - j = (n - 1 - j) + 1 by omega, Nat.testBit_succ, show (2 * valN n f + (f n).toNat) / 2 = valN n f by cases f n <;> simp <;> omega]
      exact ih
theorem val_mb {n x : Nat} (hx : x < 2 ^ n) : valN n (mb n x) = x := mb_ext (val_lt n) hx fun _ hj => mb_val hj
theorem set_of {n : Nat} {A : List Nat} (h1 : A.Pairwise (· < ·)) (h2 : ∀ j ∈ A, j < n) : ∃ x, x < 2 ^ n ∧ setN n x = A := by
  refine ⟨valN n fun j => decide (j ∈ A), val_lt n, nat_uniq setN_lt h1 fun k => ?_⟩
  rw [mem_setN]
  constructor
  · rintro ⟨a, b⟩
    rw [mb_val a] at b
    exact of_decide_eq_true b
  · intro h
    exact ⟨h2 k h, by rw [mb_val (h2 k h)]; exact decide_eq_true h⟩
theorem sum_twice {n : Nat} : ∀ {A : List Nat}, (∀ j ∈ A, j < n) → (A.map fun j => 2 ^ (n + 1 - 1 - j)).sum = 2 * (A.map fun j => 2 ^ (n - 1 - j)).sum
  | [], _ => rfl
  | a :: A, h => by
    have ih := sum_twice (A := A) fun j hj => h j (List.mem_cons_of_mem _ hj)
    have ha := h a (List.mem_cons_self ..)
    rw [List.map_cons, List.sum_cons, List.map_cons, List.sum_cons, ih, show n + 1 - 1 - a = (n - 1 - a) + 1 by omega, Nat.pow_succ]
    omega
theorem sum_bits {f : Nat → Bool} : ∀ n, (((List.range n).filter f).map fun j => 2 ^ (n - 1 - j)).sum = valN n f
  | 0 => rfl
  | n + 1 => by
    rw [List.range_succ, List.filter_append, List.map_append, List.sum_append, sum_twice (fun j hj => List.mem_range.mp (List.mem_filter.mp hj).1), sum_bits n]
    have e : (((List.filter f [n])).map fun j => 2 ^ (n + 1 - 1 - j)).sum = (f n).toNat := by
      by_cases h : f n = true
      · simp [h]
      · simp [h]
    rw [e]
    rfl
theorem sum_set {n x : Nat} (hx : x < 2 ^ n) : ((setN n x).map fun j => 2 ^ (n - 1 - j)).sum = x := by
  unfold setN
  rw [sum_bits, val_mb hx]
/-! the pairs -/
def pairsK (n : Nat) (rows : List Nat) (k : Nat) : List (Nat × Nat) := (List.range k).flatMap fun i => (setN n (rows[i]?.getD 0)).map fun j => (i, j)
def pairP (p : Nat × Nat) : PV := .tup [.int (p.1 : Int), .int (p.2 : Int)]
theorem pairs_K {n : Nat} {rows : List Nat} : (pairsL n rows).map pairV = (pairsK n rows rows.length).map pairP := by
  unfold pairsL pairsK
  rw [List.map_flatMap, List.map_flatMap]
  congr 1
  funext i
  rw [List.map_map, List.map_map]
  rfl
theorem pairsK_succ {n k : Nat} {rows : List Nat} : pairsK n rows (k + 1) = pairsK n rows k ++ (setN n (rows[k]?.getD 0)).map fun j => (k, j) := by
  unfold pairsK
  rw [List.range_succ, List.flatMap_append]
  simp
theorem pairsK_len {n : Nat} {rows : List Nat} : ∀ k, (pairsK n rows k).length ≤ k * n
  | 0 => Nat.zero_le _
  | k + 1 => by
    have := pairsK_len (n := n) (rows := rows) k
    have h2 := setN_len (n := n) (x := rows[k]?.getD 0)
    rw [pairsK_succ, List.length_append, List.length_map, Nat.succ_mul]
    omega
theorem pairsK_at {n i : Nat} {rows : List Nat} : ∀ k, (pairsK n rows k).filter (fun p => decide (p.1 = i)) = if i < k then (setN n (rows[i]?.getD 0)).map fun j => (i, j) else []
  | 0 => by rfl
  | k + 1 => by
    rw [pairsK_succ, List.filter_append, pairsK_at k]
    by_cases h : i = k
    · subst h
      rw [if_neg (Nat.lt_irrefl _), if_pos (Nat.lt_succ_self _), List.nil_append, List.filter_map]
      congr 1
      refine List.filter_eq_self.mpr fun a _ => ?_
      simp
    · have e : ((setN n (rows[k]?.getD 0)).map fun j => (k, j)).filter (fun p => decide (p.1 = i)) = [] := by
        rw [List.filter_map]
        have : (setN n (rows[k]?.getD 0)).filter ((fun p : Nat × Nat => decide (p.1 = i)) ∘ fun j => (k, j)) = [] := List.filter_eq_nil_iff.mpr fun a _ => by
          show ¬ decide (k = i) = true
          rw [decide_eq_true_iff]
          exact fun z => h z.symm
        rw [this]
        rfl
      rw [e, List.append_nil]
      by_cases h2 : i < k
      · rw [if_pos h2, if_pos (by omega)]
      · rw [if_neg h2, if_neg (by omega)]
theorem pairsK_sum {n i : Nat} {rows : List Nat} (hi : i < rows.length) (h : rows[i]?.getD 0 < 2 ^ n) : (((pairsK n rows rows.length).filter fun p => decide (p.1 = i)).map fun p => 2 ^ (n - 1 - p.2)).sum = rows[i]?.getD 0 := by
  rw [pairsK_at, if_pos hi, List.map_map]
  exact sum_set h
def natsL (l : List Nat) : List PV := l.map fun i : Nat => PV.int i
structure TbI (b c n r : Nat) (st : Sto) (i : Nat) (s : Sto) (LR : List (Nat × Nat)) : Prop where
  len : LR.length = i
  bx : BoxAt b c s
  ch : Ch b c st s
  ge : st.length ≤ r
  at_ : s[r]? = some (.lst false (LR.map fun p => PV.loc p.1))
  row : ∀ p ∈ LR, st.length ≤ p.1 ∧ p.1 ≠ r ∧ s[p.1]? = some (.lst false (natsL (setN n p.2))) ∧ p.2 < 2 ^ n
section
variable {b c n r i : Nat} {st s s' : Sto} {LR : List (Nat × Nat)}
theorem TbI.of (h : TbI b c n r st i s LR) (hb0 : BoxAt b c st) (k : Bx b c s s') : TbI b c n r st i s' LR where
  len := h.len
  bx := k.2
  ch := h.ch.trans k.1
  ge := h.ge
  at_ := by
    have := hb0.lt
    have := h.ge
    rw [k.1.eq r (List.getElem?_eq_some_iff.mp h.at_).1 (by omega) (by omega)]
    exact h.at_
  row := fun p hp => by
    have := hb0.lt
    obtain ⟨h1, h2, h3, h4⟩ := h.row p hp
    exact ⟨h1, h2, by rw [k.1.eq p.1 (List.getElem?_eq_some_iff.mp h3).1 (by omega) (by omega)]; exact h3, h4⟩
theorem TbI.app (h : TbI b c n r st i s LR) (hb0 : BoxAt b c st) {ex : Sto} : TbI b c n r st i (s ++ ex) LR := h.of hb0 ⟨Ch.app, h.bx.app⟩
theorem TbI.push (h : TbI b c n r st i s LR) (hb0 : BoxAt b c st) {q : Nat × Nat} (hq : st.length ≤ q.1 ∧ q.1 ≠ r ∧ s[q.1]? = some (.lst false (natsL (setN n q.2))) ∧ q.2 < 2 ^ n) :
    TbI b c n r st (i + 1) (s.set r (.lst false ((LR.map fun p => PV.loc p.1) ++ [.loc q.1]))) (LR ++ [q]) := by
  have hl := hb0.lt
  have hg := h.ge
  have hr := (List.getElem?_eq_some_iff.mp h.at_).1
  refine ⟨by rw [List.length_append, h.len]; rfl, h.bx.setO (by omega) (by omega), ⟨by rw [List.length_set]; exact h.ch.le, fun i hi h1 h2 => ?_⟩, hg, ?_, fun p hp => ?_⟩
  · rw [List.getElem?_set_ne (by omega)]
    exact h.ch.eq i hi h1 h2
  · rw [List.getElem?_set_self hr, List.map_append]
    rfl
  · have : st.length ≤ p.1 ∧ p.1 ≠ r ∧ s[p.1]? = some (.lst false (natsL (setN n p.2))) ∧ p.2 < 2 ^ n := by
      rcases List.mem_append.mp hp with hp | hp
      · exact h.row p hp
      · rw [List.mem_singleton.mp hp]; exact hq
    obtain ⟨h1, h2, h3, h4⟩ := this
    exact ⟨h1, h2, by rw [List.getElem?_set_ne (fun z => h2 z.symm)]; exact h3, h4⟩
/-- a row drawn -/
theorem draws_row {ρ : PD.Env} {kind : Int} {QQ : List PV → Sto → Prop} (hb : BoxAt b c s) (hn : n ≤ 60) (h0 : ρ[0]? = some (some (.loc b))) (h3 : ρ[3]? = some (some (.int kind))) (hl : ρ.length = 10)
    (k : ∀ x s', x < 2 ^ n → Bx b c s s' → QQ (natsL (setN n x)) s') :
    Ok (lcF (.nm 9) (dB (dBin oLt (fun ρ => bnd ((dCons (dVar 0) (dCons (dC (.int 6)) (fun _ st => .ok [] st))) ρ) (callM 2 S__law_draw)) (dVar 3))) (dVar 9) (sV (rgP 0 n)).chk ρ (rgP 0 n) [] s) QQ := by
  refine ok_lc (fun l acc s' => Bx b c s s' ∧ ∃ (t : Nat) (A : List Nat), t ≤ n ∧ l = (rgP 0 n).drop t ∧ acc = natsL A ∧ A.Pairwise (· < ·) ∧ ∀ j ∈ A, j < t) (fun _ _ _ _ => True.intro) ?_ ?_ _ _ _ ⟨⟨Ch.refl, hb⟩, 0, [], Nat.zero_le _, rfl, rfl, .nil, fun _ h => nomatch h⟩
  · rintro acc s' ⟨hx, t, A, ht, e, rfl, h1, h2⟩
    obtain ⟨x, hx1, hx2⟩ := set_of h1 fun j hj => Nat.lt_of_lt_of_le (h2 j hj) ht
    rw [← hx2]
    exact k x s' hx1 hx
  · rintro q l acc s' ⟨hx, t, A, ht, e, rfl, h1, h2⟩
    have hlen : (rgP 0 n).length = n := by unfold rgP; simp
    have hlt : t < n := by
      have := congrArg List.length e
      rw [List.length_drop, hlen] at this
      simp at this
      omega
    have hlt2 : t < (rgP 0 n).length := by omega
    rw [List.drop_eq_getElem_cons hlt2] at e
    obtain ⟨rfl, rfl⟩ := List.cons.inj e
    have e2 : (rgP 0 n)[t] = .int (t : Int) := by
      have : (rgP 0 n)[t]? = some (.int (t : Int)) := by
        rw [rgP_eq, List.getElem?_map, List.getElem?_range hlt]
        rfl
      rw [List.getElem?_eq_getElem hlt2] at this
      exact Option.some.inj this
    rw [e2]
    refine ⟨_, rfl, ?_⟩
    have g0 : (ρ.set 9 (some (.int (t : Int))))[0]? = some (some (.loc b)) := by rw [List.getElem?_set_ne (by omega)]; exact h0
    have g3 : (ρ.set 9 (some (.int (t : Int))))[3]? = some (some (.int kind)) := by rw [List.getElem?_set_ne (by omega)]; exact h3
    have g9 : (ρ.set 9 (some (.int (t : Int))))[9]? = some (some (.int (t : Int))) := List.getElem?_set_self (by omega)
    have hAl : A.length ≤ n := by
      have : A.length ≤ (List.range t).length := by
        have : A.Nodup := h1.imp fun h => Nat.ne_of_lt h
        refine List.Nodup.length_le_of_subset this fun j hj => List.mem_range.mpr (h2 j hj)
      rw [List.length_range] at this
      omega
    generalize ρ.set 9 (some (.int (t : Int))) = ρ' at g0 g3 g9
    simp [g0, g3, g9]
    refine (law_draw_ok hx.2 (m := 6) (by omega) (by omega)).imp fun p s2 hh => ?_
    obtain ⟨d, rfl, d1, d2, c1, b1⟩ := hh
    simp
    have hx2 : Bx b c s s2 := ⟨hx.1.trans c1, b1⟩
    by_cases hd : d < kind
    · rw [if_pos hd]
      refine ⟨by unfold natsL; rw [List.length_map]; omega, hx2, t + 1, by omega, rfl, A ++ [t], ?_, ?_, ?_⟩
      · unfold natsL; rw [List.map_append]; rfl
      · rw [List.pairwise_append]
        exact ⟨h1, List.pairwise_singleton _ _, fun a ha b hb => by rw [List.mem_singleton.mp hb]; exact h2 a ha⟩
      · intro j hj
        rcases List.mem_append.mp hj with hj | hj
        · have := h2 j hj; omega
        · rw [List.mem_singleton.mp hj]; omega
    · rw [if_neg hd]
      exact ⟨hx2, t + 1, by omega, rfl, A, rfl, h1, fun j hj => by have := h2 j hj; omega⟩
end
section
variable {b c n r i : Nat} {st s s' : Sto} {LR : List (Nat × Nat)}
def TlA (b c m n : Nat) (mt mm kd : Int) (st : Sto) (i : Nat) (ρ : PD.Env) (s : Sto) : Prop := ∃ (r : Nat) (x5 : Option PV) (LR : List (Nat × Nat)), ρ = [some (.loc b), some (.int mt), some (.int mm), some (.int kd), some (.loc r), x5, none, some (.int (m : Int)), some (.int (n : Int)), none] ∧ TbI b c n r st i s LR
theorem table_row (hb0 : BoxAt b c st) {m : Nat} {mt mm kd : Int} {x5 : Option PV} (hn : n ≤ 60) (hm : m ≤ 60) (hi : i < m) (h : TbI b c n r st i s LR) {Q : Fl → Sto → Prop} (K : ∀ ρ s, TlA b c m n mt mm kd st (i + 1) ρ s → Q (.nx ρ) s) :
    Ok (d__law_table_6 [some (.loc b), some (.int mt), some (.int mm), some (.int kd), some (.loc r), x5, none, some (.int (m : Int)), some (.int (n : Int)), none] s) Q := by
  have hlen := h.len
  have new : ∀ s, TbI b c n r st i s LR → Ok (d__law_table_5 [some (.loc b), some (.int mt), some (.int mm), some (.int kd), some (.loc r), x5, none, some (.int (m : Int)), some (.int (n : Int)), none] s) Q := by
    intro s h
    simp [d__law_table_5, h.at_, -e_lc]
    rw [e_lc]
    simp [wipeE, -e_lc]
    refine ⟨⟨by omega, by omega⟩, ?_⟩
    refine draws_row h.bx hn rfl rfl rfl fun x s2 hx b2 => ?_
    have h2 := h.of hb0 b2
    have h3 := h2.app hb0 (ex := [.lst false (natsL (setN n x))])
    have hl : r < s2.length := (List.getElem?_eq_some_iff.mp h2.at_).1
    have hst : st.length ≤ s2.length := h2.ch.le
    simp [h3.at_]
    refine ⟨by omega, K _ _ ⟨r, _, LR ++ [(s2.length, x)], rfl, ?_⟩⟩
    exact h3.push hb0 (q := (s2.length, x)) ⟨hst, by omega, by simp, hx⟩
  simp [d__law_table_6, h.at_, -e_lc]
  have h1 := h.app hb0 (ex := [.lst false []])
  simp [h1.at_, emB, -e_lc]
  by_cases he : LR = []
  · simp [he, -e_lc]
    have := new _ h1
    exact this
  · simp [he, -e_lc]
    refine (law_draw_ok h1.bx (m := 6) (by omega) (by omega)).imp fun p s2 hh => ?_
    obtain ⟨d, rfl, d1, d2, c1, b1⟩ := hh
    have h2 := h1.of hb0 ⟨c1, b1⟩
    simp [okd_int, -e_lc]
    by_cases hd : d = 0
    · rw [if_pos hd]
      have hpos : 0 < LR.length := List.length_pos_iff.mpr he
      simp [d__law_table_4, h2.at_]
      refine (law_draw_ok h2.bx (m := (LR.length : Int)) (by omega) (by omega)).imp fun p s3 hh => ?_
      obtain ⟨d, rfl, d1, d2, c1, b1⟩ := hh
      have h3 := h2.of hb0 ⟨c1, b1⟩
      obtain ⟨t, rfl⟩ : ∃ t : Nat, d = (t : Int) := ⟨d.toNat, by omega⟩
      have ht : t < LR.length := by omega
      have hat : atI (LR.map fun p => PV.loc p.1) (t : Int) = some (.loc LR[t].1) := by
        refine PD.atI_nat ?_
        rw [List.getElem?_map, List.getElem?_eq_getElem ht]
        rfl
      simp [h3.at_, hat]
      refine ⟨by omega, K _ _ ⟨r, _, LR ++ [LR[t]], rfl, h3.push hb0 (h3.row _ (List.getElem_mem ht))⟩⟩
    · rw [if_neg hd]
      exact new _ h2
def TlB (b c m n r : Nat) (mt mm kd : Int) (st : Sto) (LR : List (Nat × Nat)) (i : Nat) (ρ : PD.Env) (s : Sto) : Prop := ∃ (g : Nat) (x5 : Option PV), ρ = [some (.loc b), some (.int mt), some (.int mm), some (.int kd), some (.loc r), x5, some (.loc g), some (.int (m : Int)), some (.int (n : Int)), none] ∧ TbI b c n r st m s LR ∧ r < g ∧ (∀ p ∈ LR, p.1 < g) ∧ s[g]? = some (.lst false ((pairsK n (LR.map (·.2)) i).map pairP))
theorem table_pairs (hb0 : BoxAt b c st) {m : Nat} {mt mm kd : Int} (hn : n ≤ 60) (hm : m ≤ 60) (hi : i < m) {ρ : PD.Env} (h : TlB b c m n r mt mm kd st LR i (ρ.set 5 none) s) (h5 : 1 = 1) {Q : Fl → Sto → Prop} (K : ∀ ρ s, TlB b c m n r mt mm kd st LR (i + 1) ρ s → Q (.nx ρ) s) :
    Ok (d__law_table_9 (ρ.set 5 (some (.int (i : Int)))) s) Q := by
  obtain ⟨g, x5, e, hT, hg1, hg2, hg3⟩ := h
  have e' : ρ.set 5 (some (.int (i : Int))) = [some (.loc b), some (.int mt), some (.int mm), some (.int kd), some (.loc r), some (.int (i : Int)), some (.loc g), some (.int (m : Int)), some (.int (n : Int)), none] := by
    have := congrArg (fun l => List.set l 5 (some (PV.int (i : Int)))) e
    simpa using this
  rw [e']
  have hlen := hT.len
  have ht : i < LR.length := by omega
  have hat : atI (LR.map fun p => PV.loc p.1) (i : Int) = some (.loc LR[i].1) := by
    refine PD.atI_nat ?_
    rw [List.getElem?_map, List.getElem?_eq_getElem ht]
    rfl
  obtain ⟨r1, r2, r3, r4⟩ := hT.row _ (List.getElem_mem ht)
  have hpl := pairsK_len (n := n) (rows := LR.map (·.2)) i
  have hsl := setN_len (n := n) (x := LR[i].2)
  have hrow : (LR.map (·.2))[i]?.getD 0 = LR[i].2 := by
    rw [List.getElem?_map, List.getElem?_eq_getElem ht]
    rfl
  have hbl : (pairsK n (LR.map (·.2)) i).length ≤ 3600 := Nat.le_trans hpl (Nat.le_trans (Nat.mul_le_mul (show i ≤ 60 by omega) hn) (by decide))
  simp [d__law_table_9, hg3, hT.at_, hat, -e_lc]
  rw [e_lc]
  simp [hT.at_, hat, r3, wipeE, -e_lc]
  rw [lc_map (fun q => pairP (i, natOf q)) (by exact .inl r3) (natsL (setN n LR[i].2)) (fun q hq => by
    obtain ⟨j, hj, rfl⟩ := mem_intsP hq
    refine ⟨_, rfl, rfl, ?_⟩
    refine Ok.eq ?_
    simp [pairP, natOf]) (by unfold natsL; rw [List.length_map]; omega), ok_ok]
  have e2 : (natsL (setN n LR[i].2)).map (fun q => pairP (i, natOf q)) = ((setN n LR[i].2).map fun j => (i, j)).map pairP := by
    unfold natsL
    rw [List.map_map, List.map_map]
    rfl
  rw [e2]
  have hgl := (List.getElem?_eq_some_iff.mp hg3).1
  have hT2 := hT.app hb0 (ex := [.lst false (((setN n LR[i].2).map fun j => (i, j)).map pairP)])
  have hg4 : (s ++ [Ob.lst false (((setN n LR[i].2).map fun j => (i, j)).map pairP)])[g]? = some (.lst false ((pairsK n (LR.map (·.2)) i).map pairP)) := by
    rw [List.getElem?_append_left hgl]
    exact hg3
  have hg5 : (s ++ [Ob.lst false (((setN n LR[i].2).map fun j => (i, j)).map pairP)])[s.length]? = some (Ob.lst false (((setN n LR[i].2).map fun j => (i, j)).map pairP)) := by simp
  have hgl2 : g < (s ++ [Ob.lst false (((setN n LR[i].2).map fun j => (i, j)).map pairP)]).length := by simp; omega
  generalize s ++ [Ob.lst false (((setN n LR[i].2).map fun j => (i, j)).map pairP)] = s2 at hT2 hg4 hg5 hgl2
  simp [hg4, hg5, -List.map_map]
  refine ⟨by omega, K _ _ ⟨g, _, rfl, ?_, hg1, hg2, ?_⟩⟩
  · have hbl := hb0.lt
    have hge := hT2.ge
    exact ⟨hT2.len, hT2.bx.setO (by omega) (by omega), ⟨by rw [List.length_set]; exact hT2.ch.le, fun i hi h1 h2 => by rw [List.getElem?_set_ne (by omega)]; exact hT2.ch.eq i hi h1 h2⟩, hge, by rw [List.getElem?_set_ne (by omega)]; exact hT2.at_, fun p hp => by
      obtain ⟨h1, h2, h3, h4⟩ := hT2.row p hp
      have := hg2 p hp
      exact ⟨h1, h2, by rw [List.getElem?_set_ne (by omega)]; exact h3, h4⟩⟩
  · rw [List.getElem?_set_self hgl2, pairsK_succ, List.map_append, hrow]
theorem law_table_ok (hb0 : BoxAt b c st) {mt mm : Nat} (hmt : mt ≤ 60) (hmm : mm ≤ 60) : Ok (S__law_table [.loc b, .int (mt : Int), .int (mm : Int)] st) fun q s => ∃ (n : Nat) (rows : List Nat), q = tabV n rows ∧ rows.length ≤ mt ∧ n ≤ mm ∧ (∀ r ∈ rows, r < 2 ^ n) ∧ Bx b c st s := by
  unfold S__law_table
  rw [e_body, ok_bnd]
  simp only [d__law_table]
  rw [ok_seq]
  simp [d__law_table_1, start0, -ok_seq]
  refine (law_draw_ok hb0 (m := (mt : Int) + 1) (by omega) (by omega)).imp fun p s1 hh => ?_
  obtain ⟨d, rfl, d1, d2, c1, b1⟩ := hh
  obtain ⟨m, rfl⟩ : ∃ m : Nat, d = (m : Int) := ⟨d.toNat, by omega⟩
  refine (law_draw_ok b1 (m := (mm : Int) + 1) (by omega) (by omega)).imp fun p s2 hh => ?_
  obtain ⟨d, rfl, d3, d4, c2, b2⟩ := hh
  obtain ⟨n, rfl⟩ : ∃ n : Nat, d = (n : Int) := ⟨d.toNat, by omega⟩
  rw [ok_seq]
  simp [d__law_table_2, -ok_seq]
  refine (law_draw_ok b2 (m := 4) (by omega) (by omega)).imp fun p s3 hh => ?_
  obtain ⟨kd, rfl, d5, d6, c3, b3⟩ := hh
  have c03 : Ch b c st s3 := c1.trans (c2.trans c3)
  simp [-ok_seq]
  rw [ok_seq]
  simp [d__law_table_3, -ok_seq]
  rw [ok_seq]
  simp only [d__law_table_7, e_for, ok_bnd]
  simp [-ok_seq]
  refine ⟨⟨by omega, by omega⟩, ?_⟩
  refine ok_forR (TlA b c m n mt mm (2 + kd) st) ⟨_, _, [], rfl, ⟨rfl, b3.app, c03.trans Ch.app, c03.le, by simp, fun _ h => nomatch h⟩⟩ ?_ ?_
  · rintro ρ s ⟨r, x5, LR, rfl, hT⟩
    simp [-ok_seq]
    rw [ok_seq]
    simp [d__law_table_8, -ok_seq]
    rw [ok_seq]
    simp only [d__law_table_10, e_for, ok_bnd]
    simp [-ok_seq]
    refine ⟨⟨by omega, by omega⟩, ?_⟩
    have hr := (List.getElem?_eq_some_iff.mp hT.at_).1
    refine ok_forR (TlB b c m n r mt mm (2 + kd) st LR) ⟨_, _, rfl, hT.app hb0, hr, fun p hp => (List.getElem?_eq_some_iff.mp (hT.row p hp).2.2.1).1, ?_⟩ ?_ ?_
    · simp [pairsK]
    · rintro ρ s4 ⟨g, x5, rfl, hT, hg1, hg2, hg3⟩
      have hpl := pairsK_len (n := n) (rows := LR.map (·.2)) m
      have hlen := hT.len
      simp [d__law_table_11, hg3, -ok_seq, -List.map_map]
      refine ⟨n, LR.map (·.2), ?_, by rw [List.length_map]; omega, by omega, fun r hr => ?_, hT.ch, hT.bx⟩
      · unfold tabV
        rw [pairs_K, List.length_map, hlen]
      · obtain ⟨p, hp, rfl⟩ := List.mem_map.mp hr
        exact (hT.row p hp).2.2.2
    · intro i ρ s4 hi h
      rw [e_gNm, ok_ok]
      refine table_pairs hb0 (by omega) (by omega) hi (ρ := ρ) ?_ rfl fun ρ s h => h
      obtain ⟨g, x5, rfl, h⟩ := h
      exact ⟨g, none, rfl, h⟩
  · rintro i ρ s hi ⟨r, x5, LR, rfl, hT⟩
    rw [e_gNm, ok_ok]
    exact table_row hb0 (by omega) (by omega) hi hT fun ρ s h => h
end
theorem ok__law_table {W : Wd} {base : Heap} (V : Ev W base) : DFn W.P W.w W base 5 (He.fAd W.K ("_law_table", none)) 3 S__law_table := raw__law_table V (ok__law_draw V)
abbrev N__law_rows : List Str := ["table", "found", "i", "j"]
noncomputable def d__law_rows_1 : PD.Env → Mo Fl := (dSet 1 (fun ρ => bnd ((fun ρ => bnd ((fun ρ => bnd ((dCons (dC (.int 0)) (fun _ st => .ok [] st)) ρ) capM) ρ) fun l => bnd ((dBin oIx (dVar 0) (dC (.int 0))) ρ) fun q => repM l q) ρ) layL))
noncomputable def d__law_rows_2 : PD.Env → Mo Fl := (dAsg (dBin oAdd (dBin oIx (dVar 1) (dVar 2)) (dBin oShl (dC (.int 1)) (dBin oSub (dBin oSub (dBin oIx (dVar 0) (dC (.int 1))) (dC (.int 1))) (dVar 3)))) (gSb (dVar 1) (dVar 2)))
noncomputable def d__law_rows_3 : PD.Env → Mo Fl := (dFor (fun ρ => bnd ((dBin oIx (dVar 0) (dC (.int 2))) ρ) srcM) (gTp 2 (gCs (gNm 2) (gCs (gNm 3) gNl))) d__law_rows_2)
noncomputable def d__law_rows_4 : PD.Env → Mo Fl := (dRet (dVar 1))
noncomputable def d__law_rows : PD.Env → Mo Fl := (dSeq d__law_rows_1
    (dSeq d__law_rows_3
    d__law_rows_4))
theorem sc__law_rows : FnScope N__law_rows ["table"] (defScope (top 20)) := C8.fnScope_by (by decide +kernel)
theorem body__law_rows {W : Wd} {base : Heap} (V : Ev W base)  : Body W.P W.w W base N__law_rows "_law_rows" (defScope (top 20)) (He.fAd W.K ("_law_rows", none)) 2 (defBody (top 20)) d__law_rows := fun cdv A outer s H E =>
  (dss_cons (ds_set (i := 1) (de_l (dl_rep (dl_lst (da_cons de_int da_nil)) (de_ix (de_var (i := 0)) de_int))))
    (dss_cons (ds_for (di_e (de_ix (de_var (i := 0)) de_int)) (dg_tup (dgs_cons (dg_name (i := 2)) (dgs_cons (dg_name (i := 3)) dgs_nil))) (dss_one (ds_asg (de_add (de_ix (de_var (i := 1)) (de_var (i := 2))) (de_shl de_int (de_sub (de_sub (de_ix (de_var (i := 0)) de_int) de_int) (de_var (i := 3))))) (dg_sub (de_var (i := 1)) (de_var (i := 2))))))
    (dss_one (ds_ret (de_var (i := 1))))))
theorem raw__law_rows {W : Wd} {base : Heap} (V : Ev W base)  : DFn W.P W.w W base 3 (He.fAd W.K ("_law_rows", none)) 1 (bodyF 4 d__law_rows) := by
  obtain ⟨fd, F⟩ := V.D__law_rows
  exact DFn.of V.cx F sc__law_rows (F.bindsN fun _ _ _ _ _ _ us hl => match us, hl with | [_], _ => rfl) (body__law_rows V )
noncomputable def S__law_rows : List PV → Mo PV := bodyF 4 d__law_rows
theorem ref__law_rows : Ref 1 (bodyF 4 d__law_rows) S__law_rows := ref_self
section
variable {n : Nat} {rows : List Nat} {st : Sto}
def accP (n : Nat) (dn : List (Nat × Nat)) (i : Nat) : Nat := ((dn.filter fun p => decide (p.1 = i)).map fun p => 2 ^ (n - 1 - p.2)).sum
theorem accP_snoc {dn : List (Nat × Nat)} {p : Nat × Nat} {i : Nat} : accP n (dn ++ [p]) i = accP n dn i + if p.1 = i then 2 ^ (n - 1 - p.2) else 0 := by
  unfold accP
  rw [List.filter_append, List.map_append, List.sum_append]
  by_cases h : p.1 = i <;> simp [h]
def LrI (n : Nat) (rows : List Nat) (st : Sto) (l : List (Nat × Nat)) (ρ : PD.Env) (s : Sto) : Prop := ∃ (dn : List (Nat × Nat)) (F : List Nat) (x2 x3 : Option PV), ρ = [some (tabV n rows), some (.loc st.length), x2, x3] ∧ pairsK n rows rows.length = dn ++ l ∧ F.length = rows.length ∧ (∀ i, i < rows.length → F[i]? = some (accP n dn i)) ∧ s = st ++ [.lst false (natsL F)]
theorem pairsK_mem {p : Nat × Nat} {k : Nat} (h : p ∈ pairsK n rows k) : p.1 < k ∧ p.2 < n := by
  unfold pairsK at h
  obtain ⟨i, hi, h⟩ := List.mem_flatMap.mp h
  obtain ⟨j, hj, rfl⟩ := List.mem_map.mp h
  exact ⟨List.mem_range.mp hi, (mem_setN.mp hj).1⟩
theorem law_rows_ok (h : TabOk' n rows) {Q : PV → Sto → Prop} (K : Q (.loc st.length) (st ++ [.lst false (natsL rows)])) : Ok (S__law_rows [tabV n rows] st) Q := by
  have hm := h.m60
  have hn := h.n60
  unfold S__law_rows
  rw [e_body, ok_bnd]
  simp only [d__law_rows]
  rw [ok_seq]
  simp [d__law_rows_1, tabV, start0, repM, -ok_seq]
  refine ⟨⟨by omega, by omega⟩, ?_⟩
  rw [ok_seq]
  simp only [d__law_rows_3, e_for, ok_bnd]
  have e2 : ∀ z : PV, atI [PV.int (rows.length : Int), .int (n : Int), z] 2 = some z := fun z => rfl
  simp [e2, srcM, -ok_seq, -List.map_map]
  rw [pairs_K]
  refine ok_forL (F := pairP) (pairsK n rows rows.length) (LrI n rows st) (fun l ρ s h => True.intro) ⟨[], List.replicate rows.length 0, _, _, by unfold tabV; rw [pairs_K], rfl, by simp, fun i hi => by rw [List.getElem?_replicate, if_pos hi]; rfl, by unfold natsL; simp⟩ ?_ ?_
  · rintro ρ s ⟨dn, F, x2, x3, rfl, e, hl, hF, rfl⟩
    simp [d__law_rows_4]
    rw [List.append_nil] at e
    have : F = rows := List.ext_getElem? fun i => by
      by_cases hi : i < rows.length
      · rw [hF i hi, ← e]
        have := pairsK_sum hi (row_lt h hi).2
        unfold accP
        rw [this, List.getElem?_eq_getElem hi]
        rfl
      · rw [List.getElem?_eq_none (by omega), List.getElem?_eq_none (by omega)]
    rw [this]
    exact K
  · rintro p l ρ s ⟨dn, F, x2, x3, rfl, e, hl, hF, rfl⟩
    obtain ⟨hp1, hp2⟩ := pairsK_mem (n := n) (rows := rows) (p := p) (k := rows.length) (by rw [e]; simp)
    have hat : atI (natsL F) (p.1 : Int) = some (.int ((accP n dn p.1 : Nat) : Int)) := by
      refine PD.atI_nat ?_
      unfold natsL
      rw [List.getElem?_map, hF p.1 hp1]
      rfl
    have hix : ixN (natsL F).length (p.1 : Int) = some p.1 := ixN_nat (by unfold natsL; rw [List.length_map]; omega)
    simp [pairP]
    simp [d__law_rows_2, tabV, hat, hix]
    refine ⟨⟨by omega, by omega, by decide⟩, dn ++ [p], F.set p.1 (accP n dn p.1 + 2 ^ (n - 1 - p.2)), _, _, rfl, by rw [e]; simp, by rw [List.length_set]; exact hl, fun i hi => ?_, ?_⟩
    · rw [accP_snoc]
      by_cases hpi : p.1 = i
      · rw [if_pos hpi, ← hpi, List.getElem?_set_self (by omega)]
      · rw [if_neg hpi, List.getElem?_set_ne hpi]
        exact hF i hi
    · congr 3
      unfold natsL
      rw [List.map_set]
      congr 2
end
theorem ok__law_rows {W : Wd} {base : Heap} (V : Ev W base) : DFn W.P W.w W base 3 (He.fAd W.K ("_law_rows", none)) 1 S__law_rows := raw__law_rows V 
abbrev N__law_number : List Str := ["n", "marks", "j"]
noncomputable def d__law_number_1 : PD.Env → Mo Fl := (dRet (fun ρ => bnd ((dLc (fun ρ => bnd ((dVar 1) ρ) srcM) (.nm 2) dYes (dBin oShl (dC (.int 1)) (dBin oSub (dBin oSub (dVar 0) (dC (.int 1))) (dVar 2))) [2]) ρ) sumQ))
noncomputable def d__law_number : PD.Env → Mo Fl := d__law_number_1
theorem sc__law_number : FnScope N__law_number ["n", "marks"] (defScope (top 21)) := C8.fnScope_by (by decide +kernel)
theorem body__law_number {W : Wd} {base : Heap} (V : Ev W base)  : Body W.P W.w W base N__law_number "_law_number" (defScope (top 21)) (He.fAd W.K ("_law_number", none)) 2 (defBody (top 21)) d__law_number := fun cdv A outer s H E =>
  (dss_one (ds_ret (de_sum (dl_lc (own := [("j", 2)]) (di_e (de_var (i := 1))) (blkOk_by (N := N__law_number) (sc := defScope (top 21)) (by decide +kernel)) (fun _ _ _ _ _ => (dp_name (i := 2))) (fun _ _ _ _ _ => dts_nil) (fun _ _ _ _ _ => (de_shl de_int (de_sub (de_sub (de_var (i := 0)) de_int) (de_var (i := 2)))))) rfl V.b_sum)))
theorem raw__law_number {W : Wd} {base : Heap} (V : Ev W base)  : DFn W.P W.w W base 3 (He.fAd W.K ("_law_number", none)) 2 (bodyF 3 d__law_number) := by
  obtain ⟨fd, F⟩ := V.D__law_number
  exact DFn.of V.cx F sc__law_number (F.bindsN fun _ _ _ _ _ _ us hl => match us, hl with | [_, _], _ => rfl) (body__law_number V )
noncomputable def S__law_number : List PV → Mo PV := bodyF 3 d__law_number
theorem ref__law_number : Ref 2 (bodyF 3 d__law_number) S__law_number := ref_self
theorem ok__law_number {W : Wd} {base : Heap} (V : Ev W base) : DFn W.P W.w W base 3 (He.fAd W.K ("_law_number", none)) 2 S__law_number := raw__law_number V 
abbrev N__law_set : List Str := ["n", "number", "j"]
noncomputable def d__law_set_1 : PD.Env → Mo Fl := (dRet (fun ρ => bnd ((dLc (fun ρ => bnd ((dCons (dVar 0) (fun _ st => .ok [] st)) ρ) rg1M) (.nm 2) (fun ρ => bnd ((dBin oAnd (dBin oShr (dVar 1) (dBin oSub (dBin oSub (dVar 0) (dC (.int 1))) (dVar 2))) (dC (.int 1))) ρ) truM) (dVar 2) [2]) ρ) tupQ))
noncomputable def d__law_set : PD.Env → Mo Fl := d__law_set_1
theorem sc__law_set : FnScope N__law_set ["n", "number"] (defScope (top 22)) := C8.fnScope_by (by decide +kernel)
theorem body__law_set {W : Wd} {base : Heap} (V : Ev W base)  : Body W.P W.w W base N__law_set "_law_set" (defScope (top 22)) (He.fAd W.K ("_law_set", none)) 2 (defBody (top 22)) d__law_set := fun cdv A outer s H E =>
  (dss_one (ds_ret (de_tuple (dq_l (dl_lc (own := [("j", 2)]) (di_range1 (da_cons (de_var (i := 0)) da_nil) rfl V.b_range) (blkOk_by (N := N__law_set) (sc := defScope (top 22)) (by decide +kernel)) (fun _ _ _ _ _ => (dp_name (i := 2))) (fun _ _ _ _ _ => (dts_one (dt_e (de_band (de_shr (de_var (i := 1)) (de_sub (de_sub (de_var (i := 0)) de_int) (de_var (i := 2)))) de_int)))) (fun _ _ _ _ _ => (de_var (i := 2))))) rfl V.b_tuple)))
theorem raw__law_set {W : Wd} {base : Heap} (V : Ev W base)  : DFn W.P W.w W base 3 (He.fAd W.K ("_law_set", none)) 2 (bodyF 3 d__law_set) := by
  obtain ⟨fd, F⟩ := V.D__law_set
  exact DFn.of V.cx F sc__law_set (F.bindsN fun _ _ _ _ _ _ us hl => match us, hl with | [_, _], _ => rfl) (body__law_set V )
noncomputable def S__law_set : List PV → Mo PV := bodyF 3 d__law_set
theorem ref__law_set : Ref 2 (bodyF 3 d__law_set) S__law_set := ref_self
theorem ok__law_set {W : Wd} {base : Heap} (V : Ev W base) : DFn W.P W.w W base 3 (He.fAd W.K ("_law_set", none)) 2 S__law_set := raw__law_set V 
abbrev N__law_closure : List Str := ["n", "rows", "number", "found", "row"]
noncomputable def d__law_closure_1 : PD.Env → Mo Fl := (dSet 3 (dBin oSub (dBin oShl (dC (.int 1)) (dVar 0)) (dC (.int 1))))
noncomputable def d__law_closure_2 : PD.Env → Mo Fl := (dSet 3 (dBin oAnd (dVar 3) (dVar 4)))
noncomputable def d__law_closure_3 : PD.Env → Mo Fl := (dIfS (dB (dBin (oEq false) (dBin oAnd (dVar 4) (dVar 2)) (dVar 2))) d__law_closure_2 dNil)
noncomputable def d__law_closure_4 : PD.Env → Mo Fl := (dFor (fun ρ => bnd ((dVar 1) ρ) srcM) (gNm 4) d__law_closure_3)
noncomputable def d__law_closure_5 : PD.Env → Mo Fl := (dRet (dVar 3))
noncomputable def d__law_closure : PD.Env → Mo Fl := (dSeq d__law_closure_1
    (dSeq d__law_closure_4
    d__law_closure_5))
theorem sc__law_closure : FnScope N__law_closure ["n", "rows", "number"] (defScope (top 23)) := C8.fnScope_by (by decide +kernel)
theorem body__law_closure {W : Wd} {base : Heap} (V : Ev W base)  : Body W.P W.w W base N__law_closure "_law_closure" (defScope (top 23)) (He.fAd W.K ("_law_closure", none)) 2 (defBody (top 23)) d__law_closure := fun cdv A outer s H E =>
  (dss_cons (ds_set (i := 3) (de_sub (de_shl de_int (de_var (i := 0))) de_int))
    (dss_cons (ds_for (di_e (de_var (i := 1))) (dg_name (i := 4)) (dss_one (ds_if (dt_eq (de_band (de_var (i := 4)) (de_var (i := 2))) (de_var (i := 2))) (dss_one (ds_set (i := 3) (de_band (de_var (i := 3)) (de_var (i := 4))))) dss_nil)))
    (dss_one (ds_ret (de_var (i := 3))))))
theorem raw__law_closure {W : Wd} {base : Heap} (V : Ev W base)  : DFn W.P W.w W base 3 (He.fAd W.K ("_law_closure", none)) 3 (bodyF 5 d__law_closure) := by
  obtain ⟨fd, F⟩ := V.D__law_closure
  exact DFn.of V.cx F sc__law_closure (F.bindsN fun _ _ _ _ _ _ us hl => match us, hl with | [_, _, _], _ => rfl) (body__law_closure V )
noncomputable def S__law_closure : List PV → Mo PV := bodyF 5 d__law_closure
theorem ref__law_closure : Ref 3 (bodyF 5 d__law_closure) S__law_closure := ref_self
theorem band_nat (x y : Nat) : Builtin.bitAnd (x : Int) (y : Int) = ((x &&& y : Nat) : Int) := by
  unfold Builtin.bitAnd
  rw [decide_eq_true (by omega : (0 : Int) ≤ (x : Int)), decide_eq_true (by omega : (0 : Int) ≤ (y : Int))]
  simp
theorem shl_nat (k : Nat) : (1 : Int) * 2 ^ ((k : Int)).toNat = ((2 ^ k : Nat) : Int) := by simp
theorem toDs_nats : ∀ (A : List Nat) (i : Nat), i < A.length → (toDs (natsL A)).getD i .none = .int ((A[i]?.getD 0 : Nat) : Int)
  | [], i, h => absurd h (Nat.not_lt_zero _)
  | a :: A, 0, _ => rfl
  | a :: A, i + 1, h => by
    have := toDs_nats A i (by simpa using h)
    simpa [natsL, toDs] using this
theorem sort_nats {A B : List Nat} (hA : A.Nodup) (hB : B.Pairwise (· < ·)) (h : ∀ k, k ∈ A ↔ k ∈ B) : sortP (natsL A) = natsL B := by
  have hlen : (natsL A).length = A.length := List.length_map ..
  have hp : (sortIx (natsL A)).Perm (List.range A.length) := by
    unfold sortIx
    rw [hlen]
    exact List.mergeSort_perm _ _
  have hs : (sortIx (natsL A)).Pairwise fun i j => A[i]?.getD 0 ≤ A[j]?.getD 0 := by
    have h := PySem.W.sort_pairwise (PySem.W.sortLe_total (PyProof.Rows.listOrd PyProof.Rows.itemOrd) false fun i : Nat => PySem.W.keyToks ((toDs (natsL A)).getD i .none)) (List.range (natsL A).length)
    refine List.Pairwise.imp_of_mem ?_ h
    intro i j hi hj e
    have hi' : i < A.length := List.mem_range.mp (hp.mem_iff.mp hi)
    have hj' : j < A.length := List.mem_range.mp (hp.mem_iff.mp hj)
    have e1 : (!PySem.W.dataLt ((toDs (natsL A)).getD j .none) ((toDs (natsL A)).getD i .none)) = true := e
    rw [toDs_nats A i hi', toDs_nats A j hj'] at e1
    have e2 := congrFun (congrFun (PySem.W.dataLe_int fun b : Bool => if b then ((A[i]?.getD 0 : Nat) : Int) else ((A[j]?.getD 0 : Nat) : Int)) true) false
    have e3 : PySem.W.dataLe false (fun b : Bool => PyData.int (if b then ((A[i]?.getD 0 : Nat) : Int) else ((A[j]?.getD 0 : Nat) : Int))) true false = true := e1
    rw [e3] at e2
    have := of_decide_eq_true e2.symm
    simp at this
    omega
  have e : sortP (natsL A) = natsL ((sortIx (natsL A)).map fun i => A[i]?.getD 0) := by
    unfold sortP
    rw [show natsL ((sortIx (natsL A)).map fun i => A[i]?.getD 0) = (sortIx (natsL A)).map (fun i => PV.int ((A[i]?.getD 0 : Nat) : Int)) by unfold natsL; rw [List.map_map]; rfl]
    refine List.map_congr_left fun i hi => ?_
    have hi' : i < A.length := List.mem_range.mp (hp.mem_iff.mp hi)
    rw [List.getD_eq_getElem?_getD]
    unfold natsL
    rw [List.getElem?_map, List.getElem?_eq_getElem hi']
    rfl
  rw [e]
  congr 1
  have hq : ((sortIx (natsL A)).map fun i => A[i]?.getD 0).Perm A := by
    have h2 := hp.map fun i => A[i]?.getD 0
    have h3 : (List.range A.length).map (fun i => A[i]?.getD 0) = A := by
      have := map_getD 0 A
      simpa [List.getD_eq_getElem?_getD] using this
    rw [h3] at h2
    exact h2
  refine nat_uniq ?_ hB fun k => by rw [hq.mem_iff]; exact h k
  have h1 : ((sortIx (natsL A)).map fun i => A[i]?.getD 0).Nodup := hq.nodup_iff.mpr hA
  have h2 : ((sortIx (natsL A)).map fun i => A[i]?.getD 0).Pairwise (· ≤ ·) := List.pairwise_map.mpr hs
  refine (List.Pairwise.and h2 h1).imp fun h => ?_
  omega
theorem sortLQ_nats {A B : List Nat} {st : Sto} (hA : A.Nodup) (hB : B.Pairwise (· < ·)) (h : ∀ k, k ∈ A ↔ k ∈ B) : sortLQ (natsL A) st = .ok (natsL B) st := by
  unfold sortLQ
  have h2 : alkB (natsL A) = true := by
    unfold alkB
    rw [List.all_eq_true]
    intro d hd
    rw [List.all_eq_true]
    intro d' hd'
    have e3 : ∀ (A : List Nat), ∀ d ∈ toDs (natsL A), ∃ a : Int, d = .int a := by
      intro A
      induction A with
      | nil => intro d hd; cases hd
      | cons a L ih =>
        intro d hd
        rw [show natsL (a :: L) = PV.int (a : Int) :: natsL L from rfl, toDs, List.mem_cons] at hd
        rcases hd with rfl | hd
        · exact ⟨a, rfl⟩
        · exact ih d hd
    obtain ⟨a, rfl⟩ := e3 A d hd
    obtain ⟨b, rfl⟩ := e3 A d' hd'
    rfl
  have h3 : intB (natsL A) = true := by
    have : ∀ A : List Nat, intB (natsL A) = true := by
      intro A
      induction A with
      | nil => rfl
      | cons a A ih => exact ih
    exact this A
  rw [if_pos ⟨okds_nats A, h2, by rw [h3, Bool.or_true]⟩, sort_nats hA hB h]
section
variable {n : Nat} {st : Sto}
theorem sumQ_nats {l : List Nat} : sumQ (natsL l) st = .ok (.int ((l.sum : Nat) : Int)) st := by
  have e : natsL l = (l.map fun i : Nat => (i : Int)).map PV.int := nats_ints l
  rw [e]
  unfold sumQ bnd
  rw [intsM_ints]
  dsimp only
  congr 2
  clear e
  induction l with
  | nil => rfl
  | cons a l ih =>
    rw [List.map_cons, List.sum_cons, List.sum_cons, ih]
    omega
theorem law_number_ok {x : Nat} (hn : n ≤ 60) (hx : x < 2 ^ n) : S__law_number [.int (n : Int), setV n x] st = .ok (.int (x : Int)) st := by
  have hl := setN_len (n := n) (x := x)
  unfold S__law_number
  refine Ok.eq ?_
  simp only [e_body, d__law_number, d__law_number_1, ok_bnd]
  simp [start0, setV, intsP, wipeE, -List.map_map, -e_lc]
  rw [e_lc]
  simp [start0, setV, intsP, wipeE, -List.map_map, -e_lc]
  rw [lc_map (fun q => .int ((2 ^ (n - 1 - natOf q) : Nat) : Int)) (by exact True.intro) ((setN n x).map fun i : Nat => PV.int i) (fun q hq => by
    obtain ⟨j, hj, rfl⟩ := mem_intsP hq
    have hj := (mem_setN.mp hj).1
    refine ⟨_, rfl, rfl, ?_⟩
    refine Ok.eq ?_
    simp [natOf]
    exact ⟨by omega, by omega, by decide⟩) (by rw [List.length_map]; omega), ok_ok]
  have e : ((setN n x).map fun i : Nat => PV.int i).map (fun q => PV.int ((2 ^ (n - 1 - natOf q) : Nat) : Int)) = natsL ((setN n x).map fun j => 2 ^ (n - 1 - j)) := by
    unfold natsL
    rw [List.map_map, List.map_map]
    rfl
  rw [e, sumQ_nats, sum_set hx]
  simp
theorem law_set_ok {x : Nat} (hn : n ≤ 60) : S__law_set [.int (n : Int), .int (x : Int)] st = .ok (setV n x) st := by
  unfold S__law_set
  refine Ok.eq ?_
  simp only [e_body, d__law_set, d__law_set_1, ok_bnd]
  simp [start0, wipeE, -List.map_map, -e_lc]
  rw [e_lc]
  simp [wipeE, -e_lc]
  refine ⟨⟨by omega, by omega⟩, ?_⟩
  rw [lc_pure (fun q => mb n x (natOf q)) (fun q => q) (by exact True.intro) (rgP 0 n) [] (fun q hq => by
    obtain ⟨j, hj, rfl⟩ := mem_rgP hq
    refine ⟨_, rfl, ?_, fun _ => ?_⟩
    · refine Ok.eq ?_
      simp [natOf]
      refine ⟨by omega, ?_⟩
      rw [PyProof.Rows.bitAnd_m1]
      simp [truM]
      unfold mb
      rw [Nat.testBit_eq_decide_div_mod_eq, Bool.eq_iff_iff]
      have e : (x : Int) / 2 ^ (n - 1 - j) % 2 = ((x / 2 ^ (n - 1 - j) % 2 : Nat) : Int) := by simp
      simp
      rw [e]
      omega
    · refine Ok.eq ?_
      simp) (by unfold rgP; simp; omega), ok_ok, List.nil_append]
  have e := rgP_filter n (mb n x)
  rw [e]
  simp [setV, setN, intsP]
end
section
variable {n : Nat} {rows : List Nat} {st : Sto}
def LcI (n x q : Nat) (rows : List Nat) (st : Sto) (l : List Nat) (ρ : PD.Env) (s : Sto) : Prop := ∃ (F : Nat) (x4 : Option PV), ρ = [some (.int (n : Int)), some (.loc q), some (.int (x : Int)), some (.int (F : Int)), x4] ∧ s = st ∧ l.foldl (fun acc r => if subN x r then acc &&& r else acc) F = clN n rows x
theorem law_closure_ok {x q : Nat} (hn : n ≤ 60) (hq : st[q]? = some (.lst false (natsL rows))) : S__law_closure [.int (n : Int), .loc q, .int (x : Int)] st = .ok (.int ((clN n rows x : Nat) : Int)) st := by
  unfold S__law_closure
  refine Ok.eq ?_
  rw [e_body, ok_bnd]
  simp only [d__law_closure]
  rw [ok_seq]
  simp [d__law_closure_1, start0, -ok_seq]
  refine ⟨⟨by omega, by omega, by decide⟩, ?_⟩
  rw [ok_seq]
  simp only [d__law_closure_4, e_for, ok_bnd]
  simp [srcM, hq, -ok_seq]
  have e0 : (2 : Int) ^ n - 1 = ((2 ^ n - 1 : Nat) : Int) := by
    have := Nat.two_pow_pos n
    have e : ((2 ^ n : Nat) : Int) = 2 ^ n := by simp
    omega
  rw [e0]
  refine ok_forL (F := fun i : Nat => PV.int i) rows (LcI n x q rows st) (fun l ρ s h => ?_) ⟨_, _, rfl, rfl, rfl⟩ ?_ ?_
  · obtain ⟨F, x4, rfl, rfl, h⟩ := h
    exact .inl hq
  · rintro ρ s ⟨F, x4, rfl, rfl, h⟩
    simp [d__law_closure_5]
    exact congrArg _ h
  · rintro r l ρ s ⟨F, x4, rfl, rfl, h⟩
    rw [e_gNm, ok_ok]
    simp [d__law_closure_3, band_nat, okd_int]
    have c : ((r &&& x : Nat) : Int) = (x : Int) ↔ subN x r := by
      unfold subN
      rw [Nat.and_comm]
      omega
    rw [List.foldl_cons] at h
    by_cases hs : subN x r
    · rw [if_pos hs] at h
      rw [if_pos (c.mpr hs)]
      simp [d__law_closure_2, band_nat]
      exact ⟨_, _, rfl, rfl, h⟩
    · rw [if_neg hs] at h
      rw [if_neg (fun z => hs (c.mp z))]
      exact ⟨_, _, rfl, rfl, h⟩
end
theorem ok__law_closure {W : Wd} {base : Heap} (V : Ev W base) : DFn W.P W.w W base 3 (He.fAd W.K ("_law_closure", none)) 3 S__law_closure := raw__law_closure V 
abbrev N__law_pseudo : List Str := ["n", "rows", "closures", "found", "size", "number", "one"]
noncomputable def d__law_pseudo_1 : PD.Env → Mo Fl := (dSet 2 (fun ρ => bnd ((dLc (fun ρ => bnd ((dCons (dBin oShl (dC (.int 1)) (dVar 0)) (fun _ st => .ok [] st)) ρ) rg1M) (.nm 5) dYes (fun ρ => bnd ((dCons (dVar 0) (dCons (dVar 1) (dCons (dVar 5) (fun _ st => .ok [] st)))) ρ) (callM 3 S__law_closure)) [5]) ρ) layL))
noncomputable def d__law_pseudo_2 : PD.Env → Mo Fl := (dSet 3 (fun ρ => bnd ((fun ρ => bnd ((fun _ st => .ok [] st) ρ) capM) ρ) layL))
noncomputable def d__law_pseudo_3 : PD.Env → Mo Fl := (dDrop (fun ρ => bnd ((dVar 3) ρ) fun q => bnd (lstM q) fun _ => bnd (dCons (dVar 5) (fun _ st => .ok [] st) ρ) fun l => appM q l))
noncomputable def d__law_pseudo_4 : PD.Env → Mo Fl := (dIfS (dAndT (dB (dBin (oEq true) (dBin oIx (dVar 2) (dVar 5)) (dVar 5))) (fun ρ => bnd ((fun ρ => bnd ((dLc (fun ρ => bnd ((dVar 3) ρ) srcM) (.nm 6) (dAndT (dB (dBin (oEq true) (dVar 6) (dVar 5))) (dB (dBin (oEq false) (dBin oAnd (dVar 6) (dVar 5)) (dVar 6)))) (dBin (oEq false) (dBin oAnd (dBin oIx (dVar 2) (dVar 6)) (dVar 5)) (dBin oIx (dVar 2) (dVar 6))) [6]) ρ) allQ) ρ) truM)) d__law_pseudo_3 dNil)
noncomputable def d__law_pseudo_5 : PD.Env → Mo Fl := (dFor (fun ρ => bnd ((dLc (fun ρ => bnd ((dCons (dBin oShl (dC (.int 1)) (dVar 0)) (fun _ st => .ok [] st)) ρ) rg1M) (.nm 6) (dB (dBin (oEq false) (fun ρ => bnd ((fun ρ => bnd ((dCons (dVar 0) (dCons (dVar 6) (fun _ st => .ok [] st))) ρ) (callM 2 S__law_set)) ρ) lenM) (dVar 4))) (dVar 6) [6]) ρ) svM) (gNm 5) d__law_pseudo_4)
noncomputable def d__law_pseudo_6 : PD.Env → Mo Fl := (dFor (fun ρ => bnd ((dCons (dBin oAdd (dVar 0) (dC (.int 1))) (fun _ st => .ok [] st)) ρ) rg1M) (gNm 4) d__law_pseudo_5)
noncomputable def d__law_pseudo_7 : PD.Env → Mo Fl := (dRet (fun ρ => bnd ((fun ρ => bnd ((dVar 3) ρ) fun q => bnd (lstM q) sortLQ) ρ) layL))
noncomputable def d__law_pseudo : PD.Env → Mo Fl := (dSeq d__law_pseudo_1
    (dSeq d__law_pseudo_2
    (dSeq d__law_pseudo_6
    d__law_pseudo_7)))
theorem sc__law_pseudo : FnScope N__law_pseudo ["n", "rows"] (defScope (top 24)) := C8.fnScope_by (by decide +kernel)
theorem body__law_pseudo {W : Wd} {base : Heap} (V : Ev W base) (h__law_closure : DFn W.P W.w W base 3 (He.fAd W.K ("_law_closure", none)) 3 S__law_closure) (h__law_set : DFn W.P W.w W base 3 (He.fAd W.K ("_law_set", none)) 2 S__law_set) : Body W.P W.w W base N__law_pseudo "_law_pseudo" (defScope (top 24)) (He.fAd W.K ("_law_pseudo", none)) 3 (defBody (top 24)) d__law_pseudo := fun cdv A outer s H E =>
  (dss_cons (ds_set (i := 2) (de_l (dl_lc (own := [("number", 5)]) (di_range1 (da_cons (de_shl de_int (de_var (i := 0))) da_nil) rfl V.b_range) (blkOk_by (N := N__law_pseudo) (sc := defScope (top 24)) (by decide +kernel)) (fun _ _ _ _ _ => (dp_name (i := 5))) (fun _ _ _ _ _ => dts_nil) (fun _ _ _ _ _ => (de_call (h__law_closure.mono (by decide)) V.g__law_closure (da_cons (de_var (i := 0)) (da_cons (de_var (i := 1)) (da_cons (de_var (i := 5)) da_nil))))))))
    (dss_cons (ds_set (i := 3) (de_l (dl_lst da_nil)))
    (dss_cons (ds_for (di_range1 (da_cons (de_add (de_var (i := 0)) de_int) da_nil) rfl V.b_range) (dg_name (i := 4)) (dss_one (ds_for (di_l (dl_lc (own := [("one", 6)]) (di_range1 (da_cons (de_shl de_int (de_var (i := 0))) da_nil) rfl V.b_range) (blkOk_by (N := N__law_pseudo) (sc := defScope (top 24)) (by decide +kernel)) (fun _ _ _ _ _ => (dp_name (i := 6))) (fun _ _ _ _ _ => (dts_one (dt_eq (de_lenV (de_call (h__law_set.mono (by decide)) V.g__law_set (da_cons (de_var (i := 0)) (da_cons (de_var (i := 6)) da_nil))) rfl V.b_len) (de_var (i := 4))))) (fun _ _ _ _ _ => (de_var (i := 6))))) (dg_name (i := 5)) (dss_one (ds_if (dt_w (dw_and (dt_ne (de_ix (de_var (i := 2)) (de_var (i := 5))) (de_var (i := 5))) (dw_and1 (dt_e (de_all (dl_lc (own := [("one", 6)]) (di_e (de_var (i := 3))) (blkOk_by (N := N__law_pseudo) (sc := defScope (top 24)) (by decide +kernel)) (fun _ _ _ _ _ => (dp_name (i := 6))) (fun _ _ _ _ _ => (dts_one (dt_w (dw_and (dt_ne (de_var (i := 6)) (de_var (i := 5))) (dw_and1 (dt_eq (de_band (de_var (i := 6)) (de_var (i := 5))) (de_var (i := 6)))))))) (fun _ _ _ _ _ => (de_eq (de_band (de_ix (de_var (i := 2)) (de_var (i := 6))) (de_var (i := 5))) (de_ix (de_var (i := 2)) (de_var (i := 6)))))) rfl V.b_all))))) (dss_one (ds_expr (de_append (de_var (i := 3)) (de_var (i := 5))))) dss_nil)))))
    (dss_one (ds_ret (de_l (dl_sortV (de_var (i := 3)) V.b_sorted)))))))
theorem raw__law_pseudo {W : Wd} {base : Heap} (V : Ev W base) (h__law_closure : DFn W.P W.w W base 3 (He.fAd W.K ("_law_closure", none)) 3 S__law_closure) (h__law_set : DFn W.P W.w W base 3 (He.fAd W.K ("_law_set", none)) 2 S__law_set) : DFn W.P W.w W base 4 (He.fAd W.K ("_law_pseudo", none)) 2 (bodyF 7 d__law_pseudo) := by
  obtain ⟨fd, F⟩ := V.D__law_pseudo
  exact DFn.of V.cx F sc__law_pseudo (F.bindsN fun _ _ _ _ _ _ us hl => match us, hl with | [_, _], _ => rfl) (body__law_pseudo V h__law_closure h__law_set)
noncomputable def S__law_pseudo : List PV → Mo PV := bodyF 7 d__law_pseudo
theorem ref__law_pseudo : Ref 2 (bodyF 7 d__law_pseudo) S__law_pseudo := ref_self
theorem ps_iff {n : Nat} {C : Nat → Nat} {x : Nat} (hx : x < 2 ^ n) : x ∈ psL C (2 ^ n) ↔ C x ≠ x ∧ ∀ p ∈ psL C (2 ^ n), p ≠ x → subN p x → subN (C p) x := by
  constructor
  · intro h
    obtain ⟨h1, h2⟩ := mem_ps h
    refine ⟨h1, fun p hp hne hs => h2 p (psL_low hp ?_) hs hne⟩
    have := subN_le hs
    omega
  · rintro ⟨h1, h2⟩
    exact ps_mem hx h1 fun p hp hs hne => h2 p (psL_sub (Nat.le_of_lt hx) hp) hne hs
theorem bandE {a x : Nat} : (((a &&& x : Nat) : Int) == (a : Int)) = decide (subN a x) := by
  rw [Bool.eq_iff_iff, beq_iff_eq]
  exact ⟨fun h => decide_eq_true (show a &&& x = a by omega), fun h => by
    have := of_decide_eq_true h
    unfold subN at this
    omega⟩
def szN (n x : Nat) : Nat := (setN n x).length
theorem sz_lt {n x y : Nat} (hx : x < 2 ^ n) (hy : y < 2 ^ n) (h : subN x y) (hne : x ≠ y) : szN n x < szN n y := by
  have hlt : x < y := by have := subN_le h; omega
  obtain ⟨j, hj, a, b, _⟩ := first_diff hx hy hlt
  have hjy : j ∈ setN n y := mem_setN.mpr ⟨hj, b⟩
  have h1 : (setN n x).length ≤ ((setN n y).erase j).length := by
    refine List.Nodup.length_le_of_subset (setN_lt.imp fun h => Nat.ne_of_lt h) fun i hi => ?_
    obtain ⟨p, q⟩ := mem_setN.mp hi
    refine (List.mem_erase_of_ne ?_).mpr (mem_setN.mpr ⟨p, (subN_iff hx).mp h i p q⟩)
    rintro rfl
    rw [a] at q
    cases q
  rw [List.length_erase_of_mem hjy] at h1
  have := List.length_pos_of_mem hjy
  unfold szN
  omega
section
variable {n : Nat} {rows : List Nat} {st : Sto}
def bySz (n k : Nat) : List Nat := (List.range (2 ^ n)).filter fun x => decide (szN n x = k)
def clsL (n : Nat) (rows : List Nat) : List Nat := (List.range (2 ^ n)).map (clN n rows)
def LpI (n : Nat) (rows : List Nat) (k : Nat) (dn A : List Nat) : Prop := A.Nodup ∧ ∀ p, p ∈ A ↔ p ∈ psL (clN n rows) (2 ^ n) ∧ (szN n p < k ∨ p ∈ dn)
def LpO (n : Nat) (rows : List Nat) (q : Nat) (st : Sto) (k : Nat) (ρ : PD.Env) (s : Sto) : Prop := ∃ (A : List Nat) (x4 x5 : Option PV), ρ = [some (.int (n : Int)), some (.loc q), some (.loc st.length), some (.loc (st.length + 1)), x4, x5, none] ∧ s = st ++ [.lst false (natsL (clsL n rows)), .lst false (natsL A)] ∧ LpI n rows k [] A
def LpN (n : Nat) (rows : List Nat) (q k : Nat) (st : Sto) (l : List Nat) (ρ : PD.Env) (s : Sto) : Prop := ∃ (A dn : List Nat) (x5 : Option PV), ρ = [some (.int (n : Int)), some (.loc q), some (.loc st.length), some (.loc (st.length + 1)), some (.int (k : Int)), x5, none] ∧ s = st ++ [.lst false (natsL (clsL n rows)), .lst false (natsL A)] ∧ bySz n k = dn ++ l ∧ LpI n rows k dn A
theorem cls_at {x : Nat} (hx : x < 2 ^ n) : atI (natsL (clsL n rows)) (x : Int) = some (.int ((clN n rows x : Nat) : Int)) := by
  refine PD.atI_nat ?_
  unfold natsL clsL
  rw [List.getElem?_map, List.getElem?_map, List.getElem?_range hx]
  rfl
theorem ps_len {A : List Nat} (h1 : A.Nodup) (h2 : ∀ p ∈ A, p < 2 ^ n) : A.length ≤ 2 ^ n := by
  have := List.Nodup.length_le_of_subset h1 fun j hj => List.mem_range.mpr (h2 j hj)
  rw [List.length_range] at this
  exact this
theorem LpI.step {k x : Nat} {dn l A : List Nat} (h : LpI n rows k dn A) (e : bySz n k = dn ++ x :: l) : (x ∈ psL (clN n rows) (2 ^ n) → LpI n rows k (dn ++ [x]) (A ++ [x])) ∧ (x ∉ psL (clN n rows) (2 ^ n) → LpI n rows k (dn ++ [x]) A) := by
  have hnd : (bySz n k).Nodup := List.Pairwise.filter _ List.nodup_range
  have hx : x ∈ bySz n k := by rw [e]; simp
  have hsz : szN n x = k := of_decide_eq_true (List.mem_filter.mp hx).2
  have hxd : x ∉ dn := fun hd => by
    rw [e] at hnd
    exact (List.nodup_append.mp hnd).2.2 x hd x (List.mem_cons_self ..) rfl
  constructor
  · intro hp
    refine ⟨?_, fun p => ?_⟩
    · rw [List.nodup_append]
      refine ⟨h.1, by simp, fun a ha b hb => ?_⟩
      rw [List.mem_singleton.mp hb]
      rintro rfl
      rcases ((h.2 _).mp ha).2 with z | z
      · omega
      · exact hxd z
    · rw [List.mem_append, List.mem_singleton, h.2, List.mem_append, List.mem_singleton]
      constructor
      · rintro (⟨a, b⟩ | rfl)
        · exact ⟨a, b.imp id .inl⟩
        · exact ⟨hp, .inr (.inr rfl)⟩
      · rintro ⟨a, b | b | rfl⟩
        · exact .inl ⟨a, .inl b⟩
        · exact .inl ⟨a, .inr b⟩
        · exact .inr rfl
  · intro hp
    refine ⟨h.1, fun p => ?_⟩
    rw [h.2, List.mem_append, List.mem_singleton]
    constructor
    · rintro ⟨a, b⟩
      exact ⟨a, b.imp id .inl⟩
    · rintro ⟨a, b | b | rfl⟩
      · exact ⟨a, .inl b⟩
      · exact ⟨a, .inr b⟩
      · exact absurd a hp
theorem LpI.test {k x : Nat} {dn l A : List Nat} (h : LpI n rows k dn A) (e : bySz n k = dn ++ x :: l) : (clN n rows x ≠ x ∧ ∀ p ∈ A, p ≠ x → subN p x → subN (clN n rows p) x) ↔ x ∈ psL (clN n rows) (2 ^ n) := by
  have hx : x ∈ bySz n k := by rw [e]; simp
  have hsz : szN n x = k := of_decide_eq_true (List.mem_filter.mp hx).2
  have hx2 : x < 2 ^ n := List.mem_range.mp (List.mem_filter.mp hx).1
  rw [ps_iff hx2]
  constructor
  · rintro ⟨a, b⟩
    refine ⟨a, fun p hp hne hs => b p ((h.2 p).mpr ⟨hp, .inl ?_⟩) hne hs⟩
    have := sz_lt (psL_lt hp) hx2 hs hne
    omega
  · rintro ⟨a, b⟩
    exact ⟨a, fun p hp => b p ((h.2 p).mp hp).1⟩
theorem law_pseudo_ok {q : Nat} (hn : n ≤ 8) (hq : st[q]? = some (.lst false (natsL rows))) {Q : PV → Sto → Prop} (K : ∀ g s, Keep st s → s[g]? = some (.lst false (natsL (psL (clN n rows) (2 ^ n)))) → st.length ≤ g → Q (.loc g) s) :
    Ok (S__law_pseudo [.int (n : Int), .loc q] st) Q := by
  have h256 : 2 ^ n ≤ 256 := Nat.pow_le_pow_right (by omega) hn
  have e0 : (2 : Int) ^ n = ((2 ^ n : Nat) : Int) := by simp
  have et : ((2 : Int) ^ n).toNat = 2 ^ n := by rw [e0]; rfl
  unfold S__law_pseudo
  rw [e_body, ok_bnd]
  simp only [d__law_pseudo]
  rw [ok_seq]
  simp [d__law_pseudo_1, start0, -ok_seq, -e_lc]
  rw [e_lc]
  simp [wipeE, et, -ok_seq, -e_lc]
  refine ⟨⟨by omega, by omega, by decide⟩, ?_⟩
  refine ⟨by unfold PD.RgOk; omega, ?_⟩
  rw [lc_map (fun q => .int ((clN n rows (natOf q) : Nat) : Int)) (by exact True.intro) (rgP 0 (2 ^ n)) (fun p hp => by
    obtain ⟨j, hj, rfl⟩ := mem_rgP hp
    refine ⟨_, rfl, rfl, ?_⟩
    refine Ok.eq ?_
    simp [natOf, law_closure_ok (by omega : n ≤ 60) hq]) (by unfold rgP; simp; omega), ok_ok]
  have e1 : (rgP 0 (2 ^ n)).map (fun q => PV.int ((clN n rows (natOf q) : Nat) : Int)) = natsL (clsL n rows) := by
    rw [rgP_eq, List.map_map]
    unfold natsL clsL
    rw [List.map_map]
    rfl
  rw [e1]
  rw [ok_seq]
  simp [d__law_pseudo_2, -ok_seq]
  rw [ok_seq]
  simp only [d__law_pseudo_6, e_for, ok_bnd]
  simp [-ok_seq]
  refine ⟨by unfold PD.RgOk; omega, ?_⟩
  refine ok_forR (LpO n rows q st) ⟨[], _, _, rfl, rfl, .nil, fun p => ⟨fun h => (nomatch h), fun ⟨_, h⟩ => h.elim (fun h => absurd h (Nat.not_lt_zero _)) (fun h => nomatch h)⟩⟩ ?_ ?_
  · rintro ρ s ⟨A, x4, x5, rfl, rfl, hA⟩
    have hAl := ps_len (n := n) hA.1 fun p hp => psL_lt ((hA.2 p).mp hp).1
    have hs : sortLQ (natsL A) (st ++ [.lst false (natsL (clsL n rows)), .lst false (natsL A)]) = .ok (natsL (psL (clN n rows) (2 ^ n))) _ := sortLQ_nats hA.1 (psL_asc _) fun p => by
      rw [hA.2]
      constructor
      · exact fun h => h.1
      · refine fun h => ⟨h, .inl ?_⟩
        have := setN_len (n := n) (x := p)
        unfold szN
        omega
    simp [d__law_pseudo_7, hs]
    refine K _ _ ⟨by simp, fun i hi => by rw [List.getElem?_append_left hi]⟩ ?_ (by omega)
    have : st.length + 2 = (st ++ [Ob.lst false (natsL (clsL n rows)), Ob.lst false (natsL A)]).length := by simp
    rw [show st ++ [Ob.lst false (natsL (clsL n rows)), Ob.lst false (natsL A), Ob.lst false (natsL (psL (clN n rows) (2 ^ n)))] = (st ++ [Ob.lst false (natsL (clsL n rows)), Ob.lst false (natsL A)]) ++ [Ob.lst false (natsL (psL (clN n rows) (2 ^ n)))] by simp, this, List.getElem?_append_right (Nat.le_refl _)]
    simp
  · rintro k ρ s hk ⟨A, x4, x5, rfl, rfl, hA⟩
    rw [e_gNm, ok_ok]
    simp only [d__law_pseudo_5, e_for, ok_bnd]
    simp [et, wipeE, -e_lc]
    rw [e_lc]
    simp [et, wipeE, -e_lc]
    refine ⟨⟨by omega, by omega, by decide⟩, by unfold PD.RgOk; omega, ?_⟩
    rw [lc_pure (fun q => decide (szN n (natOf q) = k)) (fun q => q) (by exact True.intro) (rgP 0 (2 ^ n)) [] (fun p hp => by
      obtain ⟨j, hj, rfl⟩ := mem_rgP hp
      refine ⟨_, rfl, ?_, fun _ => ?_⟩
      · refine Ok.eq ?_
        simp [law_set_ok (by omega : n ≤ 60), setV, intsP, natOf, szN, okd_int]
        rw [Bool.eq_iff_iff, beq_iff_eq]
        exact ⟨fun h => decide_eq_true (by omega), fun h => by
          have := of_decide_eq_true h
          omega⟩
      · refine Ok.eq ?_
        simp) (by unfold rgP; simp; omega), ok_ok, List.nil_append]
    have e := rgP_filter (2 ^ n) fun x => decide (szN n x = k)
    rw [e]
    refine ok_forL (F := fun i : Nat => PV.int i) (bySz n k) (LpN n rows q k st) (fun _ _ _ _ => True.intro) ⟨A, [], _, rfl, rfl, rfl, hA⟩ ?_ ?_
    · rintro ρ s ⟨A, dn, x5, rfl, rfl, e, hA⟩
      rw [List.append_nil] at e
      refine ⟨A, _, _, rfl, rfl, hA.1, fun p => ?_⟩
      rw [hA.2, ← e]
      constructor
      · rintro ⟨a, b⟩
        refine ⟨a, .inl ?_⟩
        rcases b with b | b
        · omega
        · have := of_decide_eq_true (List.mem_filter.mp b).2
          omega
      · rintro ⟨a, b⟩
        refine ⟨a, ?_⟩
        rcases b with b | b
        · by_cases z : szN n p = k
          · exact .inr (List.mem_filter.mpr ⟨List.mem_range.mpr (psL_lt a), decide_eq_true z⟩)
          · exact .inl (by omega)
        · cases b
    · rintro x l ρ s ⟨A, dn, x5, rfl, rfl, e, hA⟩
      have hx : x < 2 ^ n := by
        have : x ∈ bySz n k := by rw [e]; simp
        exact List.mem_range.mp (List.mem_filter.mp this).1
      have hA2 : ∀ p ∈ A, p < 2 ^ n := fun p hp => psL_lt ((hA.2 p).mp hp).1
      have hAl := ps_len (n := n) hA.1 hA2
      obtain ⟨st1, st2⟩ := hA.step e
      have htest := hA.test e
      rw [e_gNm, ok_ok]
      have hcl : (st ++ [Ob.lst false (natsL (clsL n rows)), Ob.lst false (natsL A)])[st.length]? = some (.lst false (natsL (clsL n rows))) := by simp
      have hfo : (st ++ [Ob.lst false (natsL (clsL n rows)), Ob.lst false (natsL A)])[st.length + 1]? = some (.lst false (natsL A)) := by simp
      have hset : (st ++ [Ob.lst false (natsL (clsL n rows)), Ob.lst false (natsL A)]).set (st.length + 1) (.lst false (natsL A ++ [PV.int (x : Int)])) = st ++ [.lst false (natsL (clsL n rows)), .lst false (natsL (A ++ [x]))] := by
        rw [List.set_append_right _ _ (by omega)]
        simp [natsL]
      generalize hs : st ++ [Ob.lst false (natsL (clsL n rows)), Ob.lst false (natsL A)] = s at hcl hfo hset
      simp [d__law_pseudo_4, hcl, cls_at hx, okd_int, -e_lc]
      by_cases hc : clN n rows x = x
      · have hno : x ∉ psL (clN n rows) (2 ^ n) := fun z => (mem_ps z).1 hc
        rw [if_pos (by rw [hc])]
        exact ⟨A, dn ++ [x], _, rfl, hs.symm, by rw [e]; simp, st2 hno⟩
      · rw [if_neg (by omega), e_lc]
        simp [hfo, wipeE, -e_lc]
        rw [lc_pure (fun q => decide (natOf q ≠ x ∧ subN (natOf q) x)) (fun q => .bl (decide (subN (clN n rows (natOf q)) x))) (by exact .inl hfo) (natsL A) [] (fun q hq => by
          obtain ⟨j, hj, rfl⟩ := mem_intsP hq
          have hj2 := hA2 j hj
          refine ⟨_, rfl, ?_, fun _ => ?_⟩
          · refine Ok.eq ?_
            simp [okd_int, band_nat, natOf]
            by_cases z : j = x
            · rw [if_pos (by rw [z])]
              exact decide_eq_false fun w => w.1 z
            · rw [if_neg (by omega), bandE]
              exact decide_eq_decide.mpr ⟨fun w => ⟨z, w⟩, fun w => w.2⟩
          · refine Ok.eq ?_
            simp [okd_int, band_nat, natOf, hcl, cls_at hj2]
            exact bandE) (by unfold natsL; rw [List.length_map]; simp; omega), ok_ok, List.nil_append, allQ_map, ok_ok]
        simp
        have hiff : (∀ x_1 ∈ natsL A, (natOf x_1 = x ∨ ¬subN (natOf x_1) x) ∨ subN (clN n rows (natOf x_1)) x) ↔ x ∈ psL (clN n rows) (2 ^ n) := by
          rw [← htest]
          constructor
          · intro h
            refine ⟨hc, fun p hp hne hs => ?_⟩
            rcases h (.int (p : Int)) (List.mem_map_of_mem hp) with (z | z) | z
            · exact absurd z hne
            · exact absurd hs z
            · exact z
          · rintro ⟨_, h⟩ q hq
            obtain ⟨j, hj, rfl⟩ := mem_intsP hq
            show (j = x ∨ ¬ subN j x) ∨ subN (clN n rows j) x
            by_cases z : j = x
            · exact .inl (.inl z)
            · by_cases w : subN j x
              · exact .inr (h j hj z w)
              · exact .inl (.inr w)
        by_cases hp : x ∈ psL (clN n rows) (2 ^ n)
        · rw [if_pos (hiff.mpr hp)]
          simp [d__law_pseudo_3, hfo, hset]
          exact ⟨by unfold natsL; rw [List.length_map]; omega, A ++ [x], dn ++ [x], _, rfl, rfl, by rw [e]; simp, st1 hp⟩
        · rw [if_neg (fun z => hp (hiff.mp z))]
          exact ⟨A, dn ++ [x], _, rfl, hs.symm, by rw [e]; simp, st2 hp⟩
end
theorem ok__law_pseudo {W : Wd} {base : Heap} (V : Ev W base) : DFn W.P W.w W base 4 (He.fAd W.K ("_law_pseudo", none)) 2 S__law_pseudo := raw__law_pseudo V (ok__law_closure V) (ok__law_set V)
abbrev N_law : List Str := ["script", "box", "table", "n", "rows", "pseudo", "due", "told", "turn", "k", "some", "right", "number", "row", "j"]
noncomputable def d_law_1 : PD.Env → Mo Fl := (dSet 1 (fun ρ => bnd ((dCons (dVar 0) (fun _ st => .ok [] st)) ρ) (callM 1 S__law_box)))
noncomputable def d_law_2 : PD.Env → Mo Fl := (dSet 2 (fun ρ => bnd ((dCons (dVar 1) (dCons (dC (.int 8)) (dCons (dC (.int 7)) (fun _ st => .ok [] st)))) ρ) (callM 3 S__law_table)))
noncomputable def d_law_3 : PD.Env → Mo Fl := (dSet 3 (dBin oIx (dVar 2) (dC (.int 1))))
noncomputable def d_law_4 : PD.Env → Mo Fl := (dSet 4 (fun ρ => bnd ((dCons (dVar 2) (fun _ st => .ok [] st)) ρ) (callM 1 S__law_rows)))
noncomputable def d_law_5 : PD.Env → Mo Fl := (dSet 5 (fun ρ => bnd ((dCons (dVar 3) (dCons (dVar 4) (fun _ st => .ok [] st))) ρ) (callM 2 S__law_pseudo)))
noncomputable def d_law_6 : PD.Env → Mo Fl := (dSet 6 (fun ρ => bnd ((dLc (fun ρ => bnd ((dVar 5) ρ) srcM) (.nm 12) dYes (fun ρ => bnd ((dCons (fun ρ => bnd ((dCons (dVar 3) (dCons (dVar 12) (fun _ st => .ok [] st))) ρ) (callM 2 S__law_set)) (dCons (fun ρ => bnd ((dCons (dVar 3) (dCons (fun ρ => bnd ((dCons (dVar 3) (dCons (dVar 4) (dCons (dVar 12) (fun _ st => .ok [] st)))) ρ) (callM 3 S__law_closure)) (fun _ st => .ok [] st))) ρ) (callM 2 S__law_set)) (fun _ st => .ok [] st))) ρ) tupM) [12]) ρ) tupQ))
noncomputable def d_law_7 : PD.Env → Mo Fl := (dSet 7 (fun ρ => bnd ((dCons (dVar 2) (fun _ st => .ok [] st)) ρ) (callM 1 S_base)))
noncomputable def d_law_8 : PD.Env → Mo Fl := (dRet (dC (.bl false)))
noncomputable def d_law_9 : PD.Env → Mo Fl := (dIfS (dNotT (fun ρ => bnd ((fun ρ => bnd ((dCons (dVar 7) (dCons (dVar 6) (fun _ st => .ok [] st))) ρ) (callM 2 S__law_same)) ρ) truM)) d_law_8 dNil)
noncomputable def d_law_10 : PD.Env → Mo Fl := (dSet 10 (fun ρ => bnd ((dCons (fun ρ => bnd ((dLc (fun ρ => bnd ((dCons (dVar 3) (fun _ st => .ok [] st)) ρ) rg1M) (.nm 14) (dB (dBin (oEq false) (fun ρ => bnd ((dCons (dVar 1) (dCons (dC (.int 3)) (fun _ st => .ok [] st))) ρ) (callM 2 S__law_draw)) (dC (.int 0)))) (dVar 14) [14]) ρ) tupQ) (dCons (fun ρ => bnd ((dLc (fun ρ => bnd ((dCons (dVar 3) (fun _ st => .ok [] st)) ρ) rg1M) (.nm 14) (dB (dBin (oEq false) (fun ρ => bnd ((dCons (dVar 1) (dCons (dC (.int 3)) (fun _ st => .ok [] st))) ρ) (callM 2 S__law_draw)) (dC (.int 0)))) (dVar 14) [14]) ρ) tupQ) (fun _ st => .ok [] st))) ρ) tupM))
noncomputable def d_law_11 : PD.Env → Mo Fl := (dSet 11 (fun ρ => bnd ((dLc (fun ρ => bnd ((dVar 4) ρ) srcM) (.nm 13) dYes (dOrV (dBin (oEq true) (dBin oAnd (fun ρ => bnd ((dCons (dVar 3) (dCons (dBin oIx (dVar 10) (dC (.int 0))) (fun _ st => .ok [] st))) ρ) (callM 2 S__law_number)) (dVar 13)) (fun ρ => bnd ((dCons (dVar 3) (dCons (dBin oIx (dVar 10) (dC (.int 0))) (fun _ st => .ok [] st))) ρ) (callM 2 S__law_number))) (dBin (oEq false) (dBin oAnd (fun ρ => bnd ((dCons (dVar 3) (dCons (dBin oIx (dVar 10) (dC (.int 1))) (fun _ st => .ok [] st))) ρ) (callM 2 S__law_number)) (dVar 13)) (fun ρ => bnd ((dCons (dVar 3) (dCons (dBin oIx (dVar 10) (dC (.int 1))) (fun _ st => .ok [] st))) ρ) (callM 2 S__law_number)))) [13]) ρ) allQ))
noncomputable def d_law_12 : PD.Env → Mo Fl := (dRet (dC (.bl false)))
noncomputable def d_law_13 : PD.Env → Mo Fl := (dIfS (dOrT (dNotT (fun ρ => bnd ((fun ρ => bnd ((dCons (fun ρ => bnd ((dCons (dVar 2) (dCons (dVar 10) (fun _ st => .ok [] st))) ρ) (callM 2 S_holds)) (dCons (dVar 11) (fun _ st => .ok [] st))) ρ) (callM 2 S__law_same)) ρ) truM)) (dB (dBin (oEq true) (dBin oIx (fun ρ => bnd ((dCons (dVar 3) (dCons (dVar 7) (dCons (dVar 10) (fun _ st => .ok [] st)))) ρ) (callM 3 S_follow_paper)) (dC (.int 0))) (dIf (fun ρ => bnd ((dVar 11) ρ) truM) (dC (.str "follows")) (dC (.str "not")))))) d_law_12 dNil)
noncomputable def d_law_14 : PD.Env → Mo Fl := (dFor (fun ρ => bnd ((dCons (dC (.int 8)) (fun _ st => .ok [] st)) ρ) rg1M) (gNm 8) (dSeq d_law_10
    (dSeq d_law_11
    d_law_13)))
noncomputable def d_law_15 : PD.Env → Mo Fl := (dRet (dC (.bl false)))
noncomputable def d_law_16 : PD.Env → Mo Fl := (dIfS (dOrT (dB (dBin (oIsB true) (fun ρ => bnd ((dCons (dVar 2) (dCons (dBin oIx (dVar 7) (dVar 9)) (fun _ st => .ok [] st))) ρ) (callM 2 S_holds)) (dC (.bl true)))) (dB (dBin (oEq true) (dBin oIx (fun ρ => bnd ((dCons (dVar 3) (dCons (dBin oAdd (dSl (dVar 7) (fun _ st => .ok none st) (fun ρ => bnd ((dVar 9) ρ) intM) slT) (dSl (dVar 7) (fun ρ => bnd ((dBin oAdd (dVar 9) (dC (.int 1))) ρ) intM) (fun _ st => .ok none st) slT)) (dCons (dBin oIx (dVar 7) (dVar 9)) (fun _ st => .ok [] st)))) ρ) (callM 3 S_follow_paper)) (dC (.int 0))) (dC (.str "not"))))) d_law_15 dNil)
noncomputable def d_law_17 : PD.Env → Mo Fl := (dFor (fun ρ => bnd ((dCons (fun ρ => bnd ((dVar 7) ρ) lenM) (fun _ st => .ok [] st)) ρ) rg1M) (gNm 9) d_law_16)
noncomputable def d_law_18 : PD.Env → Mo Fl := (dRet (dC (.bl true)))
noncomputable def d_law : PD.Env → Mo Fl := (dSeq d_law_1
    (dSeq d_law_2
    (dSeq d_law_3
    (dSeq d_law_4
    (dSeq d_law_5
    (dSeq d_law_6
    (dSeq d_law_7
    (dSeq d_law_9
    (dSeq d_law_14
    (dSeq d_law_17
    d_law_18))))))))))
theorem sc_law : FnScope N_law ["script"] (defScope (top 25)) := C8.fnScope_by (by decide +kernel)
theorem body_law {W : Wd} {base : Heap} (V : Ev W base) (hl : W.lam = none) (h__law_box : DFn W.P W.w W base 3 (He.fAd W.K ("_law_box", none)) 1 S__law_box) (h__law_table : DFn W.P W.w W base 5 (He.fAd W.K ("_law_table", none)) 3 S__law_table) (h__law_rows : DFn W.P W.w W base 3 (He.fAd W.K ("_law_rows", none)) 1 S__law_rows) (h__law_pseudo : DFn W.P W.w W base 4 (He.fAd W.K ("_law_pseudo", none)) 2 S__law_pseudo) (h__law_set : DFn W.P W.w W base 3 (He.fAd W.K ("_law_set", none)) 2 S__law_set) (h__law_closure : DFn W.P W.w W base 3 (He.fAd W.K ("_law_closure", none)) 3 S__law_closure) (h_base : DFn W.P W.w W base 11 (He.fAd W.K ("base", none)) 1 S_base) (h__law_same : DFn W.P W.w W base 8 (He.fAd W.K ("_law_same", none)) 2 S__law_same) (h__law_draw : DFn W.P W.w W base 4 (He.fAd W.K ("_law_draw", none)) 2 S__law_draw) (h__law_number : DFn W.P W.w W base 3 (He.fAd W.K ("_law_number", none)) 2 S__law_number) (h_holds : DFn W.P W.w W base 7 (He.fAd W.K ("holds", none)) 2 S_holds) (h_follow_paper : DFn W.P W.w W base 7 (He.fAd W.K ("follow_paper", none)) 3 S_follow_paper) : Body W.P W.w W base N_law "law" (defScope (top 25)) (He.fAd W.K ("law", none)) 11 (defBody (top 25)) d_law := fun cdv A outer s H E =>
  (dss_cons (ds_set (i := 1) (de_call (h__law_box.mono (by decide)) V.g__law_box (da_cons (de_var (i := 0)) da_nil)))
    (dss_cons (ds_set (i := 2) (de_call (h__law_table.mono (by decide)) V.g__law_table (da_cons (de_var (i := 1)) (da_cons de_int (da_cons de_int da_nil)))))
    (dss_cons (ds_set (i := 3) (de_ix (de_var (i := 2)) de_int))
    (dss_cons (ds_set (i := 4) (de_call (h__law_rows.mono (by decide)) V.g__law_rows (da_cons (de_var (i := 2)) da_nil)))
    (dss_cons (ds_set (i := 5) (de_call (h__law_pseudo.mono (by decide)) V.g__law_pseudo (da_cons (de_var (i := 3)) (da_cons (de_var (i := 4)) da_nil))))
    (dss_cons (ds_set (i := 6) (de_tuple (dq_l (dl_lc (own := [("number", 12)]) (di_e (de_var (i := 5))) (blkOk_by (N := N_law) (sc := defScope (top 25)) (by decide +kernel)) (fun _ _ _ _ _ => (dp_name (i := 12))) (fun _ _ _ _ _ => dts_nil) (fun _ _ _ _ _ => (de_tup (da_cons (de_call (h__law_set.mono (by decide)) V.g__law_set (da_cons (de_var (i := 3)) (da_cons (de_var (i := 12)) da_nil))) (da_cons (de_call (h__law_set.mono (by decide)) V.g__law_set (da_cons (de_var (i := 3)) (da_cons (de_call (h__law_closure.mono (by decide)) V.g__law_closure (da_cons (de_var (i := 3)) (da_cons (de_var (i := 4)) (da_cons (de_var (i := 12)) da_nil)))) da_nil))) da_nil)))))) rfl V.b_tuple))
    (dss_cons (ds_set (i := 7) (de_call (h_base.mono (by decide)) V.g_base (da_cons (de_var (i := 2)) da_nil)))
    (dss_cons (ds_if (dt_not (dt_e (de_call (h__law_same.mono (by decide)) V.g__law_same (da_cons (de_var (i := 7)) (da_cons (de_var (i := 6)) da_nil))))) (dss_one (ds_ret de_bl)) dss_nil)
    (dss_cons (ds_for (di_range1 (da_cons de_int da_nil) rfl V.b_range) (dg_name (i := 8)) (dss_cons (ds_set (i := 10) (de_tup (da_cons (de_tuple (dq_l (dl_lc (own := [("j", 14)]) (di_range1 (da_cons (de_var (i := 3)) da_nil) rfl V.b_range) (blkOk_by (N := N_law) (sc := defScope (top 25)) (by decide +kernel)) (fun _ _ _ _ _ => (dp_name (i := 14))) (fun _ _ _ _ _ => (dts_one (dt_eq (de_call (h__law_draw.mono (by decide)) V.g__law_draw (da_cons (de_var (i := 1)) (da_cons de_int da_nil))) de_int))) (fun _ _ _ _ _ => (de_var (i := 14))))) rfl V.b_tuple) (da_cons (de_tuple (dq_l (dl_lc (own := [("j", 14)]) (di_range1 (da_cons (de_var (i := 3)) da_nil) rfl V.b_range) (blkOk_by (N := N_law) (sc := defScope (top 25)) (by decide +kernel)) (fun _ _ _ _ _ => (dp_name (i := 14))) (fun _ _ _ _ _ => (dts_one (dt_eq (de_call (h__law_draw.mono (by decide)) V.g__law_draw (da_cons (de_var (i := 1)) (da_cons de_int da_nil))) de_int))) (fun _ _ _ _ _ => (de_var (i := 14))))) rfl V.b_tuple) da_nil))))
    (dss_cons (ds_set (i := 11) (de_all (dl_lc (own := [("row", 13)]) (di_e (de_var (i := 4))) (blkOk_by (N := N_law) (sc := defScope (top 25)) (by decide +kernel)) (fun _ _ _ _ _ => (dp_name (i := 13))) (fun _ _ _ _ _ => dts_nil) (fun _ _ _ _ _ => (de_or (de_ne (de_band (de_call (h__law_number.mono (by decide)) V.g__law_number (da_cons (de_var (i := 3)) (da_cons (de_ix (de_var (i := 10)) de_int) da_nil))) (de_var (i := 13))) (de_call (h__law_number.mono (by decide)) V.g__law_number (da_cons (de_var (i := 3)) (da_cons (de_ix (de_var (i := 10)) de_int) da_nil)))) (de_one (de_eq (de_band (de_call (h__law_number.mono (by decide)) V.g__law_number (da_cons (de_var (i := 3)) (da_cons (de_ix (de_var (i := 10)) de_int) da_nil))) (de_var (i := 13))) (de_call (h__law_number.mono (by decide)) V.g__law_number (da_cons (de_var (i := 3)) (da_cons (de_ix (de_var (i := 10)) de_int) da_nil)))))))) rfl V.b_all))
    (dss_one (ds_if (dt_w (dw_or (dt_not (dt_e (de_call (h__law_same.mono (by decide)) V.g__law_same (da_cons (de_call (h_holds.mono (by decide)) V.g_holds (da_cons (de_var (i := 2)) (da_cons (de_var (i := 10)) da_nil))) (da_cons (de_var (i := 11)) da_nil))))) (dw_or1 (dt_ne (de_ix (de_call (h_follow_paper.mono (by decide)) V.g_follow_paper (da_cons (de_var (i := 3)) (da_cons (de_var (i := 7)) (da_cons (de_var (i := 10)) da_nil)))) de_int) (de_if (dt_e (de_var (i := 11))) de_str de_str))))) (dss_one (ds_ret de_bl)) dss_nil)))))
    (dss_cons (ds_for (di_range1 (da_cons (de_lenV (de_var (i := 7)) rfl V.b_len) da_nil) rfl V.b_range) (dg_name (i := 9)) (dss_one (ds_if (dt_w (dw_or (dt_notB (de_call (h_holds.mono (by decide)) V.g_holds (da_cons (de_var (i := 2)) (da_cons (de_ix (de_var (i := 7)) (de_var (i := 9))) da_nil))) de_bl) (dw_or1 (dt_ne (de_ix (de_call (h_follow_paper.mono (by decide)) V.g_follow_paper (da_cons (de_var (i := 3)) (da_cons (de_add (de_slT (de_var (i := 7)) do_none (do_some (de_var (i := 9)))) (de_slT (de_var (i := 7)) (do_some (de_add (de_var (i := 9)) de_int)) do_none)) (da_cons (de_ix (de_var (i := 7)) (de_var (i := 9))) da_nil)))) de_int) de_str)))) (dss_one (ds_ret de_bl)) dss_nil)))
    (dss_one (ds_ret de_bl))))))))))))
theorem raw_law {W : Wd} {base : Heap} (V : Ev W base) (hl : W.lam = none) (h__law_box : DFn W.P W.w W base 3 (He.fAd W.K ("_law_box", none)) 1 S__law_box) (h__law_table : DFn W.P W.w W base 5 (He.fAd W.K ("_law_table", none)) 3 S__law_table) (h__law_rows : DFn W.P W.w W base 3 (He.fAd W.K ("_law_rows", none)) 1 S__law_rows) (h__law_pseudo : DFn W.P W.w W base 4 (He.fAd W.K ("_law_pseudo", none)) 2 S__law_pseudo) (h__law_set : DFn W.P W.w W base 3 (He.fAd W.K ("_law_set", none)) 2 S__law_set) (h__law_closure : DFn W.P W.w W base 3 (He.fAd W.K ("_law_closure", none)) 3 S__law_closure) (h_base : DFn W.P W.w W base 11 (He.fAd W.K ("base", none)) 1 S_base) (h__law_same : DFn W.P W.w W base 8 (He.fAd W.K ("_law_same", none)) 2 S__law_same) (h__law_draw : DFn W.P W.w W base 4 (He.fAd W.K ("_law_draw", none)) 2 S__law_draw) (h__law_number : DFn W.P W.w W base 3 (He.fAd W.K ("_law_number", none)) 2 S__law_number) (h_holds : DFn W.P W.w W base 7 (He.fAd W.K ("holds", none)) 2 S_holds) (h_follow_paper : DFn W.P W.w W base 7 (He.fAd W.K ("follow_paper", none)) 3 S_follow_paper) : DFn W.P W.w W base 12 (He.fAd W.K ("law", none)) 1 (bodyF 15 d_law) := by
  obtain ⟨fd, F⟩ := V.D_law
  exact DFn.of V.cx F sc_law (F.bindsN fun _ _ _ _ _ _ us hl => match us, hl with | [_], _ => rfl) (body_law V hl h__law_box h__law_table h__law_rows h__law_pseudo h__law_set h__law_closure h_base h__law_same h__law_draw h__law_number h_holds h_follow_paper)
noncomputable def S_law : List PV → Mo PV := bodyF 15 d_law
theorem ref_law : Ref 1 (bodyF 15 d_law) S_law := ref_self
theorem keep_bx {b c : Nat} {s s' : Sto} (k : Keep s s') (h : BoxAt b c s) : Bx b c s s' := by
  have hl := h.lt
  refine ⟨⟨k.le, fun i hi _ _ => k.eq i hi⟩, h.ne, ?_, ?_⟩
  · obtain ⟨v, sd, e⟩ := h.bx
    exact ⟨v, sd, by rw [k.eq b hl.1]; exact e⟩
  · obtain ⟨l, e, z⟩ := h.cs
    exact ⟨l, by rw [k.eq c hl.2]; exact e, z⟩
structure LwI (b c r : Nat) (rows : List Nat) (s : Sto) : Prop where
  bx : BoxAt b c s
  at_ : s[r]? = some (.lst false (natsL rows))
  ne : r ≠ b ∧ r ≠ c
section
variable {b c r n : Nat} {rows : List Nat} {s s' : Sto}
theorem LwI.of (h : LwI b c r rows s) (k : Bx b c s s') : LwI b c r rows s' := ⟨k.2, by
  rw [k.1.eq r (List.getElem?_eq_some_iff.mp h.at_).1 h.ne.1 h.ne.2]
  exact h.at_, h.ne⟩
theorem LwI.keep (h : LwI b c r rows s) (k : Keep s s') : LwI b c r rows s' := h.of (keep_bx k h.bx)
theorem rule_right {a b : Nat} (ha : a < 2 ^ n) (hb : b < 2 ^ n) : (rows.all fun r => !decide (subN a r) || decide (subN b r)) = decide (subN b (clN n rows a)) := by
  rw [Bool.eq_iff_iff, decide_eq_true_iff, List.all_eq_true, subN_iff hb]
  constructor
  · intro h j hj q
    rw [mb_cl hj, List.all_eq_true]
    intro r hr
    have := h r hr
    by_cases z : subN a r
    · rw [decide_eq_true z] at this ⊢
      have : subN b r := by simpa using this
      rw [(subN_iff hb).mp this j hj q]
      rfl
    · rw [decide_eq_false z]
      rfl
  · intro h r hr
    by_cases z : subN a r
    · rw [decide_eq_true z, Bool.not_true, Bool.false_or, decide_eq_true_iff, subN_iff hb]
      intro j hj q
      have := h j hj q
      rw [mb_cl hj, List.all_eq_true] at this
      have := this r hr
      rw [decide_eq_true z] at this
      simpa using this
    · rw [decide_eq_false z]
      rfl
/-- marks drawn -/
theorem draws_set {ρ : PD.Env} {QQ : List PV → Sto → Prop} (hb : BoxAt b c s) (hn : n ≤ 60) (h1 : ρ[1]? = some (some (.loc b))) (hl : ρ.length = 15)
    (k : ∀ x s', x < 2 ^ n → Bx b c s s' → QQ (natsL (setN n x)) s') :
    Ok (lcF (.nm 14) (dB (dBin (oEq false) (fun ρ => bnd ((dCons (dVar 1) (dCons (dC (.int 3)) (fun _ st => .ok [] st))) ρ) (callM 2 S__law_draw)) (dC (.int 0)))) (dVar 14) (sV (rgP 0 n)).chk ρ (rgP 0 n) [] s) QQ := by
  refine ok_lc (fun l acc s' => Bx b c s s' ∧ ∃ (t : Nat) (A : List Nat), t ≤ n ∧ l = (rgP 0 n).drop t ∧ acc = natsL A ∧ A.Pairwise (· < ·) ∧ ∀ j ∈ A, j < t) (fun _ _ _ _ => True.intro) ?_ ?_ _ _ _ ⟨⟨Ch.refl, hb⟩, 0, [], Nat.zero_le _, rfl, rfl, .nil, fun _ h => nomatch h⟩
  · rintro acc s' ⟨hx, t, A, ht, e, rfl, h1, h2⟩
    obtain ⟨x, hx1, hx2⟩ := set_of h1 fun j hj => Nat.lt_of_lt_of_le (h2 j hj) ht
    rw [← hx2]
    exact k x s' hx1 hx
  · rintro q l acc s' ⟨hx, t, A, ht, e, rfl, h2, h3⟩
    have hlen : (rgP 0 n).length = n := by unfold rgP; simp
    have hlt : t < n := by
      have := congrArg List.length e
      rw [List.length_drop, hlen] at this
      simp at this
      omega
    have hlt2 : t < (rgP 0 n).length := by omega
    rw [List.drop_eq_getElem_cons hlt2] at e
    obtain ⟨rfl, rfl⟩ := List.cons.inj e
    have e2 : (rgP 0 n)[t] = .int (t : Int) := by
      have : (rgP 0 n)[t]? = some (.int (t : Int)) := by
        rw [rgP_eq, List.getElem?_map, List.getElem?_range hlt]
        rfl
      rw [List.getElem?_eq_getElem hlt2] at this
      exact Option.some.inj this
    rw [e2]
    refine ⟨_, rfl, ?_⟩
    have g1 : (ρ.set 14 (some (.int (t : Int))))[1]? = some (some (.loc b)) := by rw [List.getElem?_set_ne (by omega)]; exact h1
    have g9 : (ρ.set 14 (some (.int (t : Int))))[14]? = some (some (.int (t : Int))) := List.getElem?_set_self (by omega)
    have hAl : A.length ≤ n := by
      have : A.length ≤ (List.range t).length := by
        have : A.Nodup := h2.imp fun h => Nat.ne_of_lt h
        refine List.Nodup.length_le_of_subset this fun j hj => List.mem_range.mpr (h3 j hj)
      rw [List.length_range] at this
      omega
    generalize ρ.set 14 (some (.int (t : Int))) = ρ' at g1 g9
    simp [g1, g9]
    refine (law_draw_ok hx.2 (m := 3) (by omega) (by omega)).imp fun p s2 hh => ?_
    obtain ⟨d, rfl, d1, d2, c1, b1⟩ := hh
    simp [okd_int]
    have hx2 : Bx b c s s2 := ⟨hx.1.trans c1, b1⟩
    by_cases hd : d = 0
    · rw [if_pos hd]
      refine ⟨by unfold natsL; rw [List.length_map]; omega, hx2, t + 1, by omega, rfl, A ++ [t], ?_, ?_, ?_⟩
      · unfold natsL; rw [List.map_append]; rfl
      · rw [List.pairwise_append]
        exact ⟨h2, List.pairwise_singleton _ _, fun a ha b hb => by rw [List.mem_singleton.mp hb]; exact h3 a ha⟩
      · intro j hj
        rcases List.mem_append.mp hj with hj | hj
        · have := h3 j hj; omega
        · rw [List.mem_singleton.mp hj]; omega
    · rw [if_neg hd]
      exact ⟨hx2, t + 1, by omega, rfl, A, rfl, h2, fun j hj => by have := h3 j hj; omega⟩
/-- the base -/
abbrev baseL (n : Nat) (rows : List Nat) : List Nat := psL (clN n rows) (2 ^ n)
theorem base_lt {p : Nat} (h : p ∈ baseL n rows) : p < 2 ^ n ∧ clN n rows p < 2 ^ n := ⟨psL_lt h, cl_lt⟩
theorem fp_sub {R : List Nat} {a F : Nat} (ha : a < 2 ^ n) (hR : ∀ p ∈ R, p < 2 ^ n) (h : FpI n (clN n rows) R a F) : subN F (clN n rows a) := h.least _ cl_lt (fun p hp hs => by
  have := cl_mono (rows := rows) (n := n) hs
  rw [cl_idem] at this
  exact this) (cl_ext ha)
end
theorem cut_to {l : List PV} {k : Nat} (h : k ≤ l.length) : cutP l none (some (k : Int)) = l.take k := by
  unfold cutP
  rw [HT.sIx_none, HT.sIx_nat, Nat.min_eq_left h, List.drop_zero, Nat.sub_zero]
theorem cut_from {l : List PV} {k : Nat} (h : k ≤ l.length) : cutP l (some (k : Int)) none = l.drop k := by
  unfold cutP
  rw [HT.sIx_none, HT.sIx_nat, Nat.min_eq_left h]
  exact List.take_of_length_le (by rw [List.length_drop]; omega)
section
variable {b c r g n : Nat} {rows : List Nat} {s s' : Sto} {Q : Fl → Sto → Prop} {p : PV} {x8 x9 x10 x11 : Option PV}
def LtI (p : PV) (b c r g n : Nat) (rows : List Nat) (ρ : PD.Env) (s : Sto) : Prop := ∃ x8 x9 x10 x11, ρ = [some (p), some (.loc b), some (tabV n rows), some (.int (n : Int)), some (.loc r), some (.loc g), some (.tup (rulesV n (clN n rows) (baseL n rows))), some (.tup (rulesV n (clN n rows) (baseL n rows))), x8, x9, x10, x11, none, none, none] ∧ LwI b c r rows s
theorem law_turn (h : TabOk' n rows) (hn : n ≤ 8) (hI : LwI b c r rows s) (K : ∀ ρ s, LtI p b c r g n rows ρ s → Q (.nx ρ) s) : Ok (dSeq d_law_10 (dSeq d_law_11 d_law_13) [some (p), some (.loc b), some (tabV n rows), some (.int (n : Int)), some (.loc r), some (.loc g), some (.tup (rulesV n (clN n rows) (baseL n rows))), some (.tup (rulesV n (clN n rows) (baseL n rows))), x8, x9, x10, x11, none, none, none] s) Q := by
  have hpl : (baseL n rows).length ≤ 1000 := by
    have h256 : 2 ^ n ≤ 256 := Nat.pow_le_pow_right (by omega) hn
    have := psL_len (C := clN n rows) (2 ^ n)
    unfold baseL
    omega
  have hrl := h.m60
  rw [ok_seq]
  simp [d_law_10, -ok_seq, -e_lc]
  rw [e_lc]
  simp [wipeE, -ok_seq, -e_lc]
  refine ⟨by unfold PD.RgOk; omega, ?_⟩
  refine draws_set hI.bx (by omega) rfl rfl fun a s1 ha b1 => ?_
  refine ⟨by unfold PD.RgOk; omega, ?_⟩
  refine draws_set b1.2 (by omega) rfl rfl fun d s2 hd b2 => ?_
  have hI2 := (hI.of b1).of b2
  have ea : PV.tup (natsL (setN n a)) = setV n a := rfl
  have ed : PV.tup (natsL (setN n d)) = setV n d := rfl
  rw [ea, ed, ok_seq]
  simp [d_law_11, srcM, hI2.at_, -ok_seq, -e_lc]
  rw [e_lc]
  simp [srcM, hI2.at_, wipeE, -ok_seq, -e_lc]
  rw [lc_map (fun q => .bl (!decide (subN a (natOf q)) || decide (subN d (natOf q)))) (by exact .inl hI2.at_) (natsL rows) (fun q hq => by
    obtain ⟨j, hj, rfl⟩ := mem_intsP hq
    refine ⟨_, rfl, rfl, ?_⟩
    refine Ok.eq ?_
    simp [law_number_ok (by omega : n ≤ 60) ha, law_number_ok (by omega : n ≤ 60) hd, okd_int, band_nat, natOf]
    by_cases z : subN a j
    · rw [if_pos (show ((a &&& j : Nat) : Int) = (a : Int) by unfold subN at z; rw [z]), bandE]
      show decide (subN d j) = (!decide (subN a j) || decide (subN d j))
      rw [decide_eq_true z]
      rfl
    · rw [if_neg (fun w : ((a &&& j : Nat) : Int) = (a : Int) => z (show a &&& j = a by omega))]
      exact .inl (decide_eq_false z)) (by unfold natsL; rw [List.length_map]; omega), ok_ok, allQ_map, ok_ok]
  have er : ((natsL rows).all fun q => !decide (subN a (natOf q)) || decide (subN d (natOf q))) = decide (subN d (clN n rows a)) := by
    rw [← rule_right ha hd]
    unfold natsL
    rw [List.all_map]
    rfl
  rw [er]
  have hh : S_holds [tabV n rows, .tup [setV n a, setV n d]] s2 = .ok (.bl (decide (subN d (clN n rows a)))) s2 := holds_ok h ha hd
  have hs : S__law_same [.bl (decide (subN d (clN n rows a))), .bl (decide (subN d (clN n rows a)))] s2 = .ok (.bl true) s2 := smt_same 5 _ _ True.intro
  simp [d_law_13, hh, hs, -ok_seq]
  have hlt : ∀ q ∈ baseL n rows, q < 2 ^ n ∧ clN n rows q < 2 ^ n := fun q hq => base_lt hq
  refine follow_paper_ok hn ha hd hpl hlt (fun z F s3 k3 hF hdF => ?_) (fun z F s3 k3 hF hdF hcl => ?_)
  · have hr : subN d (clN n rows a) := subN_trans hdF (fp_sub ha (fun q hq => (hlt q hq).1) hF)
    simp [hr, eqb, okd_str]
    exact K _ _ ⟨_, _, _, _, rfl, hI2.keep k3⟩
  · have hr : ¬ subN d (clN n rows a) := fun w => by
      have hc := base_closed (rows := rows) hF.lt hcl
      have := cl_mono (n := n) (rows := rows) hF.sub
      rw [hc] at this
      exact hdF (subN_trans w this)
    simp [hr, eqb, okd_str]
    exact K _ _ ⟨_, _, _, _, rfl, hI2.keep k3⟩
theorem rules_take {C : Nat → Nat} {R : List Nat} {k : Nat} : (rulesV n C R).take k ++ (rulesV n C R).drop (k + 1) = rulesV n C (R.take k ++ R.drop (k + 1)) := by
  unfold rulesV
  rw [List.map_append, List.map_take, List.map_drop]
theorem law_alone {k : Nat} (h : TabOk' n rows) (hn : n ≤ 8) (hk : k < (baseL n rows).length) (hI : LwI b c r rows s) (K : ∀ ρ s, LtI p b c r g n rows ρ s → Q (.nx ρ) s) (e9 : x9 = some (.int (k : Int))) : Ok (d_law_16 [some (p), some (.loc b), some (tabV n rows), some (.int (n : Int)), some (.loc r), some (.loc g), some (.tup (rulesV n (clN n rows) (baseL n rows))), some (.tup (rulesV n (clN n rows) (baseL n rows))), x8, x9, x10, x11, none, none, none] s) Q := by
  have h256 : 2 ^ n ≤ 256 := Nat.pow_le_pow_right (by omega) hn
  have hpl : (baseL n rows).length ≤ 1000 := by
    have := psL_len (C := clN n rows) (2 ^ n)
    unfold baseL
    omega
  have hlen : (rulesV n (clN n rows) (baseL n rows)).length = (baseL n rows).length := List.length_map ..
  have hlt : ∀ q ∈ baseL n rows, q < 2 ^ n ∧ clN n rows q < 2 ^ n := fun q hq => base_lt hq
  have hm := List.getElem_mem hk
  obtain ⟨hp1, hp2⟩ := hlt _ hm
  have hat : atI (rulesV n (clN n rows) (baseL n rows)) (k : Int) = some (.tup [setV n (baseL n rows)[k], setV n (clN n rows (baseL n rows)[k])]) := by
    refine PD.atI_nat ?_
    unfold rulesV
    rw [List.getElem?_map, List.getElem?_eq_getElem hk]
    rfl
  have hh : S_holds [tabV n rows, .tup [setV n (baseL n rows)[k], setV n (clN n rows (baseL n rows)[k])]] s = .ok (.bl (decide (subN (clN n rows (baseL n rows)[k]) (clN n rows (baseL n rows)[k])))) s := holds_ok h hp1 hp2
  rw [decide_eq_true (subN_refl _)] at hh
  subst e9
  have c1 : cutP (rulesV n (clN n rows) (baseL n rows)) none (some (k : Int)) = _ := cut_to (by omega)
  have c2 : cutP (rulesV n (clN n rows) (baseL n rows)) (some ((k : Int) + 1)) none = _ := cut_from (k := k + 1) (by omega)
  simp [d_law_16, hat, hh, intM, c1, c2, -ok_seq]
  rw [rules_take]
  refine ⟨by omega, ?_⟩
  have hR : ∀ q ∈ (baseL n rows).take k ++ (baseL n rows).drop (k + 1), q ∈ baseL n rows ∧ q ≠ (baseL n rows)[k] := by
    intro q hq
    have hasc := psL_asc (C := clN n rows) (2 ^ n)
    have hs : baseL n rows = (baseL n rows).take k ++ (baseL n rows)[k] :: (baseL n rows).drop (k + 1) := by
      rw [← List.drop_eq_getElem_cons hk, List.take_append_drop]
    have hnd : ((baseL n rows).take k ++ (baseL n rows)[k] :: (baseL n rows).drop (k + 1)).Nodup := by
      rw [← hs]
      exact hasc.imp fun h => Nat.ne_of_lt h
    rw [List.nodup_append] at hnd
    obtain ⟨_, n2, n3⟩ := hnd
    have n2 := List.nodup_cons.mp n2
    rcases List.mem_append.mp hq with hq | hq
    · exact ⟨List.mem_of_mem_take hq, n3 q hq _ (List.mem_cons_self ..)⟩
    · exact ⟨List.mem_of_mem_drop hq, fun z => n2.1 (by rw [← z]; exact hq)⟩
  refine follow_paper_ok (C := clN n rows) hn hp1 hp2 (by rw [List.length_append, List.length_take, List.length_drop]; omega) (fun q hq => hlt q (hR q hq).1) (fun z F s3 k3 hF hdF => ?_) (fun z F s3 k3 hF hdF hcl => ?_)
  · exfalso
    have h1 : subN F (baseL n rows)[k] := hF.least _ hp1 (fun q hq hs => base_alone hm q (hR q hq).1 (hR q hq).2 hs) (subN_refl _)
    have h2 := subN_trans hdF h1
    exact (mem_ps hm).1 (subN_anti h2 (cl_ext hp1))
  · simp [eqb, okd_str]
    exact K _ _ ⟨_, _, _, _, rfl, hI.keep k3⟩
end
theorem law_ok {p : PV} {ns : List Int} {st : Sto} (h : ScrAt p ns st) (hn : ns.length ≤ 63) : Ok (S_law [p] st) (fun q _ => q = .bl true) := by
  unfold S_law
  rw [e_body, ok_bnd]
  simp only [d_law]
  rw [ok_seq]
  simp [d_law_1, start0, -ok_seq]
  refine (law_box_ok h hn).imp fun q s1 hh => ?_
  obtain ⟨b, c, rfl, hb, _, _, _, _⟩ := hh
  rw [ok_seq]
  simp [d_law_2, -ok_seq]
  refine (law_table_ok hb (mt := 8) (mm := 7) (by omega) (by omega)).imp fun q s2 hh => ?_
  obtain ⟨n, rows, rfl, hrl, hnl, hrw, b2⟩ := hh
  have hT : TabOk' n rows := ⟨by
    have := Nat.mul_le_mul hrl hnl
    omega, by omega, by omega, hrw⟩
  have h256 : 2 ^ n ≤ 256 := Nat.pow_le_pow_right (by omega) (by omega : n ≤ 8)
  have hpl : (baseL n rows).length ≤ 1000 := by
    have := psL_len (C := clN n rows) (2 ^ n)
    unfold baseL
    omega
  rw [ok_seq]
  have e1 : atI [PV.int (rows.length : Int), .int (n : Int), .tup ((pairsL n rows).map pairV)] 1 = some (.int (n : Int)) := rfl
  have e1' : oIx (tabV n rows) (.int 1) s2 = .ok (.int (n : Int)) s2 := rfl
  simp [d_law_3, e1', -ok_seq]
  rw [ok_seq]
  simp [d_law_4, -ok_seq]
  refine law_rows_ok hT ?_
  have hI : LwI b c s2.length rows (s2 ++ [.lst false (natsL rows)]) := ⟨b2.2.app, by simp, by have := b2.2.lt; omega, by have := b2.2.lt; omega⟩
  generalize s2 ++ [Ob.lst false (natsL rows)] = s3 at hI
  rw [ok_seq]
  simp [d_law_5, -ok_seq]
  refine law_pseudo_ok (by omega) hI.at_ fun g s4 k4 hg _ => ?_
  have hI4 := hI.keep k4
  rw [ok_seq]
  simp [d_law_6, hg, srcM, -ok_seq, -e_lc]
  rw [e_lc]
  simp [hg, srcM, wipeE, -ok_seq, -e_lc]
  rw [lc_map (fun q => ruleV n (natOf q, clN n rows (natOf q))) (by exact .inl hg) (natsL (baseL n rows)) (fun q hq => by
    obtain ⟨j, hj, rfl⟩ := mem_intsP hq
    refine ⟨_, rfl, rfl, ?_⟩
    refine Ok.eq ?_
    simp [law_set_ok (by omega : n ≤ 60), law_closure_ok (by omega : n ≤ 60) hI4.at_, natOf, ruleV]) (by unfold natsL; rw [List.length_map]; omega), ok_ok]
  have e6 : (natsL (baseL n rows)).map (fun q => ruleV n (natOf q, clN n rows (natOf q))) = rulesV n (clN n rows) (baseL n rows) := by
    unfold natsL rulesV
    rw [List.map_map]
    rfl
  rw [e6]
  rw [ok_seq]
  simp [d_law_7, -ok_seq]
  refine base_ok hT (by omega) ?_
  have hI5 := hI4.keep (s' := s4 ++ [.lst false (rulesV n (clN n rows) (psL (clN n rows) (2 ^ n)))]) ⟨by simp, fun i hi => List.getElem?_append_left hi⟩
  generalize s4 ++ [Ob.lst false (rulesV n (clN n rows) (psL (clN n rows) (2 ^ n)))] = s5 at hI5
  have hsl : ∀ x, (setN n x).length ≤ n := fun x => setN_len
  have hset : ∀ x, SmK 3 (setV n x) := fun x => ⟨by rw [List.length_map]; have := hsl x; omega, fun z hz => by
    obtain ⟨j, hj, rfl⟩ := mem_intsP hz
    exact True.intro⟩
  have hrule : ∀ r, SmK 4 (ruleV n r) := fun r => ⟨by simp, fun z hz => by
    rcases List.mem_cons.mp hz with rfl | hz
    · exact hset _
    · rw [List.mem_singleton.mp hz]; exact hset _⟩
  have hsame : S__law_same [.tup (rulesV n (clN n rows) (baseL n rows)), .tup (rulesV n (clN n rows) (baseL n rows))] s5 = .ok (.bl true) s5 := smt_same 5 _ _ ⟨by unfold rulesV; rw [List.length_map]; omega, fun z hz => by
    obtain ⟨q, hq, rfl⟩ := List.mem_map.mp hz
    exact hrule _⟩
  rw [ok_seq]
  simp [d_law_9, hsame, -ok_seq]
  rw [ok_seq]
  simp only [d_law_14, e_for, ok_bnd]
  simp [-ok_seq]
  refine ⟨by unfold PD.RgOk; omega, ?_⟩
  refine ok_forR (n := 8) (fun _ => LtI p b c s2.length g n rows) ⟨_, _, _, _, rfl, hI5⟩ ?_ ?_
  · rintro ρ s ⟨x8, x9, x10, x11, rfl, hI⟩
    rw [seqK_nx, ok_seq]
    simp only [d_law_17, e_for, ok_bnd]
    have hlen : (rulesV n (clN n rows) (baseL n rows)).length = (baseL n rows).length := List.length_map ..
    simp [hlen, -ok_seq]
    refine ⟨by unfold PD.RgOk; omega, ?_⟩
    refine ok_forR (fun _ => LtI p b c s2.length g n rows) ⟨_, _, _, _, rfl, hI⟩ ?_ ?_
    · rintro ρ s ⟨x8, x9, x10, x11, rfl, hI⟩
      simp [d_law_18]
    · rintro i ρ s hi ⟨x8, x9, x10, x11, rfl, hI⟩
      rw [e_gNm, ok_ok]
      exact law_alone hT (by omega) hi hI (fun ρ s h => h) rfl
  · rintro i ρ s hi ⟨x8, x9, x10, x11, rfl, hI⟩
    rw [e_gNm, ok_ok]
    exact law_turn hT (by omega) hI fun ρ s h => h
theorem ok_law {W : Wd} {base : Heap} (V : Ev W base) (hl : W.lam = none) : DFn W.P W.w W base 12 (He.fAd W.K ("law", none)) 1 S_law := raw_law V hl (ok__law_box V) (ok__law_table V) (ok__law_rows V) (ok__law_pseudo V) (ok__law_set V) (ok__law_closure V) (ok_base V hl) (ok__law_same V) (ok__law_draw V) (ok__law_number V) (ok_holds V) (ok_follow_paper V)
def D_common_marks : He.DefD := ⟨("common_marks", none), "common_marks", "common_marks", defArgs (top 1), defBody (top 1), defScope (top 1), [], []⟩
def D_common_things : He.DefD := ⟨("common_things", none), "common_things", "common_things", defArgs (top 2), defBody (top 2), defScope (top 2), [], []⟩
def D_closure : He.DefD := ⟨("closure", none), "closure", "closure", defArgs (top 3), defBody (top 3), defScope (top 3), [], []⟩
def D_next_set : He.DefD := ⟨("next_set", none), "next_set", "next_set", defArgs (top 5), defBody (top 5), defScope (top 5), [], []⟩
def D_is_part : He.DefD := ⟨("is_part", none), "is_part", "is_part", defArgs (top 7), defBody (top 7), defScope (top 7), [], []⟩
def D_holds : He.DefD := ⟨("holds", none), "holds", "holds", defArgs (top 8), defBody (top 8), defScope (top 8), [], []⟩
def D_keeps : He.DefD := ⟨("keeps", none), "keeps", "keeps", defArgs (top 9), defBody (top 9), defScope (top 9), [], []⟩
def D_with_marks : He.DefD := ⟨("with_marks", none), "with_marks", "with_marks", defArgs (top 10), defBody (top 10), defScope (top 10), [], []⟩
def D_follow_paper : He.DefD := ⟨("follow_paper", none), "follow_paper", "follow_paper", defArgs (top 11), defBody (top 11), defScope (top 11), [], []⟩
def D_closed_apart : He.DefD := ⟨("closed_apart", none), "closed_apart", "closed_apart", defArgs (top 12), defBody (top 12), defScope (top 12), [], []⟩
def D_base : He.DefD := ⟨("base", none), "base", "base", defArgs (top 13), defBody (top 13), defScope (top 13), [], []⟩
def D__law_box : He.DefD := ⟨("_law_box", none), "_law_box", "_law_box", defArgs (top 15), defBody (top 15), defScope (top 15), [], []⟩
def D__law_load : He.DefD := ⟨("_law_load", none), "_law_load", "_law_load", defArgs (top 16), defBody (top 16), defScope (top 16), [], []⟩
def D__law_draw : He.DefD := ⟨("_law_draw", none), "_law_draw", "_law_draw", defArgs (top 17), defBody (top 17), defScope (top 17), [], []⟩
def D__law_same : He.DefD := ⟨("_law_same", none), "_law_same", "_law_same", defArgs (top 18), defBody (top 18), defScope (top 18), [], []⟩
def D__law_table : He.DefD := ⟨("_law_table", none), "_law_table", "_law_table", defArgs (top 19), defBody (top 19), defScope (top 19), [], []⟩
def D__law_rows : He.DefD := ⟨("_law_rows", none), "_law_rows", "_law_rows", defArgs (top 20), defBody (top 20), defScope (top 20), [], []⟩
def D__law_number : He.DefD := ⟨("_law_number", none), "_law_number", "_law_number", defArgs (top 21), defBody (top 21), defScope (top 21), [], []⟩
def D__law_set : He.DefD := ⟨("_law_set", none), "_law_set", "_law_set", defArgs (top 22), defBody (top 22), defScope (top 22), [], []⟩
def D__law_closure : He.DefD := ⟨("_law_closure", none), "_law_closure", "_law_closure", defArgs (top 23), defBody (top 23), defScope (top 23), [], []⟩
def D__law_pseudo : He.DefD := ⟨("_law_pseudo", none), "_law_pseudo", "_law_pseudo", defArgs (top 24), defBody (top 24), defScope (top 24), [], []⟩
def D_law : He.DefD := ⟨("law", none), "law", "law", defArgs (top 25), defBody (top 25), defScope (top 25), [], []⟩
def fn : List He.DefD := [D_common_marks, D_common_things, D_closure, D_next_set, D_is_part, D_holds, D_keeps, D_with_marks, D_follow_paper, D_closed_apart, D_base, D__law_box, D__law_load, D__law_draw, D__law_same, D__law_table, D__law_rows, D__law_number, D__law_set, D__law_closure, D__law_pseudo, D_law]
def fa : List He.Fa := [.glo "common_marks", .glo "common_things", .glo "closure", .glo "next_set", .glo "is_part", .glo "holds", .glo "keeps", .glo "with_marks", .glo "follow_paper", .glo "closed_apart", .glo "base", .glo "_law_box", .glo "_law_load", .glo "_law_draw", .glo "_law_same", .glo "_law_table", .glo "_law_rows", .glo "_law_number", .glo "_law_set", .glo "_law_closure", .glo "_law_pseudo", .glo "law", .free "all", .free "bool", .free "enumerate", .free "int", .free "isinstance", .free "len", .free "list", .free "range", .free "set", .free "sorted", .free "str", .free "sum", .free "tuple"]
def tf : List (Str × Option Str) := [("common_marks", none), ("common_things", none), ("is_part", none), ("base", none)]
def exB (K : PySem.W.Frag) : Bool := decide (tf.map fun p => (He.cT K p).2).Nodup
abbrev R : PySem.W.OpenRow := PySem.W.OpenLaw.row PySem.Challenge.rw_backtohand_k46_whole_base
abbrev hk : PySem.W.Hook := He.hookX 4 fa fn [] tf exB
def ob (s : PySem.W.SharedT) : He.AlX := He.obsX 4 fa fn [] tf exB (HandSHeadRun.getT s)
theorem ob_eq (s : PySem.W.SharedT) : ob s = hk.obs s.abs := He.obsX_eq (HandSHeadRun.getT_eq s)
def names : List Str := (["common_marks", "common_things", "closure", "next_set", "is_part", "holds", "keeps", "with_marks", "follow_paper", "closed_apart", "base", "_law_box", "_law_load", "_law_draw", "_law_same", "_law_table", "_law_rows", "_law_number", "_law_set", "_law_closure", "_law_pseudo"] : List Str)
theorem run (w : World) : HandSHeadRun.RunEq R (PySem.W.view R.prog [25]) hk ob 4000 names w := by
  intro os
  kernel_rfl
def dnames : List Str := ["common_marks", "common_things", "closure", "next_set", "is_part", "holds", "keeps", "with_marks", "follow_paper", "closed_apart", "base", "_law_box", "_law_load", "_law_draw", "_law_same", "_law_table", "_law_rows", "_law_number", "_law_set", "_law_closure", "_law_pseudo", "law"]
def WW (w : World) (K : PySem.W.Frag) (mg : Str → Option Value) : Wd where
  P := (PySem.W.OpenLaw.row PySem.Challenge.rw_backtohand_k46_whole_base).prog
  w := w
  lam := none
  K := K
  mg := mg
  cx := CX0
  fa := fun j => (dnames[j]?).map fun x => He.fAd K (x, none)
  xc := fun _ => .none
  tb := [(He.cT K ("common_marks", none)).2, (He.cT K ("common_things", none)).2, (He.cT K ("is_part", none)).2]
  tl := [((He.cT K ("base", none)).2, ("base" : Str) ++ ".<locals>." ++ "<lambda>")]
theorem nd_ne {l : List Addr} (h : l.Nodup) {i j : Nat} {a b : Addr} (ha : l[i]? = some a) (hb : l[j]? = some b) (hij : i ≠ j) : a ≠ b := fun e => by
  subst e
  obtain ⟨h1, e1⟩ := List.getElem?_eq_some_iff.mp ha
  obtain ⟨h2, e2⟩ := List.getElem?_eq_some_iff.mp hb
  exact hij ((List.getElem_inj h).mp (e1.trans e2.symm))
theorem ev_cx {w : World} {h base : Heap} {K : PySem.W.Frag} {mg : Str → Option Value} (KX : K.In h) (G : h.Ns mainGlobals mg) (c : He.SaysX fa fn [] tf exB w h K) (nd : (tf.map fun p => (He.cT K p).2).Nodup) (TB : ∀ p ∈ tf.map (He.cT K), GxR.TabB base mg p.1 p.2) : (WW w K mg).cx = CX0 := rfl
theorem ev_b_all {w : World} {h base : Heap} {K : PySem.W.Frag} {mg : Str → Option Value} (KX : K.In h) (G : h.Ns mainGlobals mg) (c : He.SaysX fa fn [] tf exB w h K) (nd : (tf.map fun p => (He.cT K p).2).Nodup) (TB : ∀ p ∈ tf.map (He.cT K), GxR.TabB base mg p.1 p.2) : (WW w K mg).mg "all" = none := He.free_ok KX G (c.t.d.fact 22 (f := .free "all"))
theorem ev_b_bool {w : World} {h base : Heap} {K : PySem.W.Frag} {mg : Str → Option Value} (KX : K.In h) (G : h.Ns mainGlobals mg) (c : He.SaysX fa fn [] tf exB w h K) (nd : (tf.map fun p => (He.cT K p).2).Nodup) (TB : ∀ p ∈ tf.map (He.cT K), GxR.TabB base mg p.1 p.2) : (WW w K mg).mg "bool" = none := He.free_ok KX G (c.t.d.fact 23 (f := .free "bool"))
theorem ev_b_enumerate {w : World} {h base : Heap} {K : PySem.W.Frag} {mg : Str → Option Value} (KX : K.In h) (G : h.Ns mainGlobals mg) (c : He.SaysX fa fn [] tf exB w h K) (nd : (tf.map fun p => (He.cT K p).2).Nodup) (TB : ∀ p ∈ tf.map (He.cT K), GxR.TabB base mg p.1 p.2) : (WW w K mg).mg "enumerate" = none := He.free_ok KX G (c.t.d.fact 24 (f := .free "enumerate"))
theorem ev_b_int {w : World} {h base : Heap} {K : PySem.W.Frag} {mg : Str → Option Value} (KX : K.In h) (G : h.Ns mainGlobals mg) (c : He.SaysX fa fn [] tf exB w h K) (nd : (tf.map fun p => (He.cT K p).2).Nodup) (TB : ∀ p ∈ tf.map (He.cT K), GxR.TabB base mg p.1 p.2) : (WW w K mg).mg "int" = none := He.free_ok KX G (c.t.d.fact 25 (f := .free "int"))
theorem ev_b_isinstance {w : World} {h base : Heap} {K : PySem.W.Frag} {mg : Str → Option Value} (KX : K.In h) (G : h.Ns mainGlobals mg) (c : He.SaysX fa fn [] tf exB w h K) (nd : (tf.map fun p => (He.cT K p).2).Nodup) (TB : ∀ p ∈ tf.map (He.cT K), GxR.TabB base mg p.1 p.2) : (WW w K mg).mg "isinstance" = none := He.free_ok KX G (c.t.d.fact 26 (f := .free "isinstance"))
theorem ev_b_len {w : World} {h base : Heap} {K : PySem.W.Frag} {mg : Str → Option Value} (KX : K.In h) (G : h.Ns mainGlobals mg) (c : He.SaysX fa fn [] tf exB w h K) (nd : (tf.map fun p => (He.cT K p).2).Nodup) (TB : ∀ p ∈ tf.map (He.cT K), GxR.TabB base mg p.1 p.2) : (WW w K mg).mg "len" = none := He.free_ok KX G (c.t.d.fact 27 (f := .free "len"))
theorem ev_b_list {w : World} {h base : Heap} {K : PySem.W.Frag} {mg : Str → Option Value} (KX : K.In h) (G : h.Ns mainGlobals mg) (c : He.SaysX fa fn [] tf exB w h K) (nd : (tf.map fun p => (He.cT K p).2).Nodup) (TB : ∀ p ∈ tf.map (He.cT K), GxR.TabB base mg p.1 p.2) : (WW w K mg).mg "list" = none := He.free_ok KX G (c.t.d.fact 28 (f := .free "list"))
theorem ev_b_range {w : World} {h base : Heap} {K : PySem.W.Frag} {mg : Str → Option Value} (KX : K.In h) (G : h.Ns mainGlobals mg) (c : He.SaysX fa fn [] tf exB w h K) (nd : (tf.map fun p => (He.cT K p).2).Nodup) (TB : ∀ p ∈ tf.map (He.cT K), GxR.TabB base mg p.1 p.2) : (WW w K mg).mg "range" = none := He.free_ok KX G (c.t.d.fact 29 (f := .free "range"))
theorem ev_b_set {w : World} {h base : Heap} {K : PySem.W.Frag} {mg : Str → Option Value} (KX : K.In h) (G : h.Ns mainGlobals mg) (c : He.SaysX fa fn [] tf exB w h K) (nd : (tf.map fun p => (He.cT K p).2).Nodup) (TB : ∀ p ∈ tf.map (He.cT K), GxR.TabB base mg p.1 p.2) : (WW w K mg).mg "set" = none := He.free_ok KX G (c.t.d.fact 30 (f := .free "set"))
theorem ev_b_sorted {w : World} {h base : Heap} {K : PySem.W.Frag} {mg : Str → Option Value} (KX : K.In h) (G : h.Ns mainGlobals mg) (c : He.SaysX fa fn [] tf exB w h K) (nd : (tf.map fun p => (He.cT K p).2).Nodup) (TB : ∀ p ∈ tf.map (He.cT K), GxR.TabB base mg p.1 p.2) : (WW w K mg).mg "sorted" = none := He.free_ok KX G (c.t.d.fact 31 (f := .free "sorted"))
theorem ev_b_str {w : World} {h base : Heap} {K : PySem.W.Frag} {mg : Str → Option Value} (KX : K.In h) (G : h.Ns mainGlobals mg) (c : He.SaysX fa fn [] tf exB w h K) (nd : (tf.map fun p => (He.cT K p).2).Nodup) (TB : ∀ p ∈ tf.map (He.cT K), GxR.TabB base mg p.1 p.2) : (WW w K mg).mg "str" = none := He.free_ok KX G (c.t.d.fact 32 (f := .free "str"))
theorem ev_b_sum {w : World} {h base : Heap} {K : PySem.W.Frag} {mg : Str → Option Value} (KX : K.In h) (G : h.Ns mainGlobals mg) (c : He.SaysX fa fn [] tf exB w h K) (nd : (tf.map fun p => (He.cT K p).2).Nodup) (TB : ∀ p ∈ tf.map (He.cT K), GxR.TabB base mg p.1 p.2) : (WW w K mg).mg "sum" = none := He.free_ok KX G (c.t.d.fact 33 (f := .free "sum"))
theorem ev_b_tuple {w : World} {h base : Heap} {K : PySem.W.Frag} {mg : Str → Option Value} (KX : K.In h) (G : h.Ns mainGlobals mg) (c : He.SaysX fa fn [] tf exB w h K) (nd : (tf.map fun p => (He.cT K p).2).Nodup) (TB : ∀ p ∈ tf.map (He.cT K), GxR.TabB base mg p.1 p.2) : (WW w K mg).mg "tuple" = none := He.free_ok KX G (c.t.d.fact 34 (f := .free "tuple"))
theorem ev_g_common_marks {w : World} {h base : Heap} {K : PySem.W.Frag} {mg : Str → Option Value} (KX : K.In h) (G : h.Ns mainGlobals mg) (c : He.SaysX fa fn [] tf exB w h K) (nd : (tf.map fun p => (He.cT K p).2).Nodup) (TB : ∀ p ∈ tf.map (He.cT K), GxR.TabB base mg p.1 p.2) : (WW w K mg).mg "common_marks" = some (.ref (He.fAd (WW w K mg).K ("common_marks", none))) := He.glo_ok KX G (c.t.d.fact 0 (f := .glo "common_marks"))
theorem ev_a_common_marks {w : World} {h base : Heap} {K : PySem.W.Frag} {mg : Str → Option Value} (KX : K.In h) (G : h.Ns mainGlobals mg) (c : He.SaysX fa fn [] tf exB w h K) (nd : (tf.map fun p => (He.cT K p).2).Nodup) (TB : ∀ p ∈ tf.map (He.cT K), GxR.TabB base mg p.1 p.2) : (WW w K mg).fa J_common_marks = some (He.fAd (WW w K mg).K ("common_marks", none)) := rfl
theorem ev_D_common_marks {w : World} {h base : Heap} {K : PySem.W.Frag} {mg : Str → Option Value} (KX : K.In h) (G : h.Ns mainGlobals mg) (c : He.SaysX fa fn [] tf exB w h K) (nd : (tf.map fun p => (He.cT K p).2).Nodup) (TB : ∀ p ∈ tf.map (He.cT K), GxR.TabB base mg p.1 p.2) : ∃ fd, FunD (WW w K mg).K "common_marks" "common_marks" (defArgs (top 1)) (defBody (top 1)) (defScope (top 1)) [] [] (He.fAd (WW w K mg).K ("common_marks", none)) fd := c.t.d.def_ 0 (d := D_common_marks)
theorem ev_g_common_things {w : World} {h base : Heap} {K : PySem.W.Frag} {mg : Str → Option Value} (KX : K.In h) (G : h.Ns mainGlobals mg) (c : He.SaysX fa fn [] tf exB w h K) (nd : (tf.map fun p => (He.cT K p).2).Nodup) (TB : ∀ p ∈ tf.map (He.cT K), GxR.TabB base mg p.1 p.2) : (WW w K mg).mg "common_things" = some (.ref (He.fAd (WW w K mg).K ("common_things", none))) := He.glo_ok KX G (c.t.d.fact 1 (f := .glo "common_things"))
theorem ev_a_common_things {w : World} {h base : Heap} {K : PySem.W.Frag} {mg : Str → Option Value} (KX : K.In h) (G : h.Ns mainGlobals mg) (c : He.SaysX fa fn [] tf exB w h K) (nd : (tf.map fun p => (He.cT K p).2).Nodup) (TB : ∀ p ∈ tf.map (He.cT K), GxR.TabB base mg p.1 p.2) : (WW w K mg).fa J_common_things = some (He.fAd (WW w K mg).K ("common_things", none)) := rfl
theorem ev_D_common_things {w : World} {h base : Heap} {K : PySem.W.Frag} {mg : Str → Option Value} (KX : K.In h) (G : h.Ns mainGlobals mg) (c : He.SaysX fa fn [] tf exB w h K) (nd : (tf.map fun p => (He.cT K p).2).Nodup) (TB : ∀ p ∈ tf.map (He.cT K), GxR.TabB base mg p.1 p.2) : ∃ fd, FunD (WW w K mg).K "common_things" "common_things" (defArgs (top 2)) (defBody (top 2)) (defScope (top 2)) [] [] (He.fAd (WW w K mg).K ("common_things", none)) fd := c.t.d.def_ 1 (d := D_common_things)
theorem ev_g_closure {w : World} {h base : Heap} {K : PySem.W.Frag} {mg : Str → Option Value} (KX : K.In h) (G : h.Ns mainGlobals mg) (c : He.SaysX fa fn [] tf exB w h K) (nd : (tf.map fun p => (He.cT K p).2).Nodup) (TB : ∀ p ∈ tf.map (He.cT K), GxR.TabB base mg p.1 p.2) : (WW w K mg).mg "closure" = some (.ref (He.fAd (WW w K mg).K ("closure", none))) := He.glo_ok KX G (c.t.d.fact 2 (f := .glo "closure"))
theorem ev_a_closure {w : World} {h base : Heap} {K : PySem.W.Frag} {mg : Str → Option Value} (KX : K.In h) (G : h.Ns mainGlobals mg) (c : He.SaysX fa fn [] tf exB w h K) (nd : (tf.map fun p => (He.cT K p).2).Nodup) (TB : ∀ p ∈ tf.map (He.cT K), GxR.TabB base mg p.1 p.2) : (WW w K mg).fa J_closure = some (He.fAd (WW w K mg).K ("closure", none)) := rfl
theorem ev_D_closure {w : World} {h base : Heap} {K : PySem.W.Frag} {mg : Str → Option Value} (KX : K.In h) (G : h.Ns mainGlobals mg) (c : He.SaysX fa fn [] tf exB w h K) (nd : (tf.map fun p => (He.cT K p).2).Nodup) (TB : ∀ p ∈ tf.map (He.cT K), GxR.TabB base mg p.1 p.2) : ∃ fd, FunD (WW w K mg).K "closure" "closure" (defArgs (top 3)) (defBody (top 3)) (defScope (top 3)) [] [] (He.fAd (WW w K mg).K ("closure", none)) fd := c.t.d.def_ 2 (d := D_closure)
theorem ev_g_is_part {w : World} {h base : Heap} {K : PySem.W.Frag} {mg : Str → Option Value} (KX : K.In h) (G : h.Ns mainGlobals mg) (c : He.SaysX fa fn [] tf exB w h K) (nd : (tf.map fun p => (He.cT K p).2).Nodup) (TB : ∀ p ∈ tf.map (He.cT K), GxR.TabB base mg p.1 p.2) : (WW w K mg).mg "is_part" = some (.ref (He.fAd (WW w K mg).K ("is_part", none))) := He.glo_ok KX G (c.t.d.fact 4 (f := .glo "is_part"))
theorem ev_a_is_part {w : World} {h base : Heap} {K : PySem.W.Frag} {mg : Str → Option Value} (KX : K.In h) (G : h.Ns mainGlobals mg) (c : He.SaysX fa fn [] tf exB w h K) (nd : (tf.map fun p => (He.cT K p).2).Nodup) (TB : ∀ p ∈ tf.map (He.cT K), GxR.TabB base mg p.1 p.2) : (WW w K mg).fa J_is_part = some (He.fAd (WW w K mg).K ("is_part", none)) := rfl
theorem ev_D_is_part {w : World} {h base : Heap} {K : PySem.W.Frag} {mg : Str → Option Value} (KX : K.In h) (G : h.Ns mainGlobals mg) (c : He.SaysX fa fn [] tf exB w h K) (nd : (tf.map fun p => (He.cT K p).2).Nodup) (TB : ∀ p ∈ tf.map (He.cT K), GxR.TabB base mg p.1 p.2) : ∃ fd, FunD (WW w K mg).K "is_part" "is_part" (defArgs (top 7)) (defBody (top 7)) (defScope (top 7)) [] [] (He.fAd (WW w K mg).K ("is_part", none)) fd := c.t.d.def_ 4 (d := D_is_part)
theorem ev_g_holds {w : World} {h base : Heap} {K : PySem.W.Frag} {mg : Str → Option Value} (KX : K.In h) (G : h.Ns mainGlobals mg) (c : He.SaysX fa fn [] tf exB w h K) (nd : (tf.map fun p => (He.cT K p).2).Nodup) (TB : ∀ p ∈ tf.map (He.cT K), GxR.TabB base mg p.1 p.2) : (WW w K mg).mg "holds" = some (.ref (He.fAd (WW w K mg).K ("holds", none))) := He.glo_ok KX G (c.t.d.fact 5 (f := .glo "holds"))
theorem ev_a_holds {w : World} {h base : Heap} {K : PySem.W.Frag} {mg : Str → Option Value} (KX : K.In h) (G : h.Ns mainGlobals mg) (c : He.SaysX fa fn [] tf exB w h K) (nd : (tf.map fun p => (He.cT K p).2).Nodup) (TB : ∀ p ∈ tf.map (He.cT K), GxR.TabB base mg p.1 p.2) : (WW w K mg).fa J_holds = some (He.fAd (WW w K mg).K ("holds", none)) := rfl
theorem ev_D_holds {w : World} {h base : Heap} {K : PySem.W.Frag} {mg : Str → Option Value} (KX : K.In h) (G : h.Ns mainGlobals mg) (c : He.SaysX fa fn [] tf exB w h K) (nd : (tf.map fun p => (He.cT K p).2).Nodup) (TB : ∀ p ∈ tf.map (He.cT K), GxR.TabB base mg p.1 p.2) : ∃ fd, FunD (WW w K mg).K "holds" "holds" (defArgs (top 8)) (defBody (top 8)) (defScope (top 8)) [] [] (He.fAd (WW w K mg).K ("holds", none)) fd := c.t.d.def_ 5 (d := D_holds)
theorem ev_g_keeps {w : World} {h base : Heap} {K : PySem.W.Frag} {mg : Str → Option Value} (KX : K.In h) (G : h.Ns mainGlobals mg) (c : He.SaysX fa fn [] tf exB w h K) (nd : (tf.map fun p => (He.cT K p).2).Nodup) (TB : ∀ p ∈ tf.map (He.cT K), GxR.TabB base mg p.1 p.2) : (WW w K mg).mg "keeps" = some (.ref (He.fAd (WW w K mg).K ("keeps", none))) := He.glo_ok KX G (c.t.d.fact 6 (f := .glo "keeps"))
theorem ev_a_keeps {w : World} {h base : Heap} {K : PySem.W.Frag} {mg : Str → Option Value} (KX : K.In h) (G : h.Ns mainGlobals mg) (c : He.SaysX fa fn [] tf exB w h K) (nd : (tf.map fun p => (He.cT K p).2).Nodup) (TB : ∀ p ∈ tf.map (He.cT K), GxR.TabB base mg p.1 p.2) : (WW w K mg).fa J_keeps = some (He.fAd (WW w K mg).K ("keeps", none)) := rfl
theorem ev_D_keeps {w : World} {h base : Heap} {K : PySem.W.Frag} {mg : Str → Option Value} (KX : K.In h) (G : h.Ns mainGlobals mg) (c : He.SaysX fa fn [] tf exB w h K) (nd : (tf.map fun p => (He.cT K p).2).Nodup) (TB : ∀ p ∈ tf.map (He.cT K), GxR.TabB base mg p.1 p.2) : ∃ fd, FunD (WW w K mg).K "keeps" "keeps" (defArgs (top 9)) (defBody (top 9)) (defScope (top 9)) [] [] (He.fAd (WW w K mg).K ("keeps", none)) fd := c.t.d.def_ 6 (d := D_keeps)
theorem ev_g_with_marks {w : World} {h base : Heap} {K : PySem.W.Frag} {mg : Str → Option Value} (KX : K.In h) (G : h.Ns mainGlobals mg) (c : He.SaysX fa fn [] tf exB w h K) (nd : (tf.map fun p => (He.cT K p).2).Nodup) (TB : ∀ p ∈ tf.map (He.cT K), GxR.TabB base mg p.1 p.2) : (WW w K mg).mg "with_marks" = some (.ref (He.fAd (WW w K mg).K ("with_marks", none))) := He.glo_ok KX G (c.t.d.fact 7 (f := .glo "with_marks"))
theorem ev_a_with_marks {w : World} {h base : Heap} {K : PySem.W.Frag} {mg : Str → Option Value} (KX : K.In h) (G : h.Ns mainGlobals mg) (c : He.SaysX fa fn [] tf exB w h K) (nd : (tf.map fun p => (He.cT K p).2).Nodup) (TB : ∀ p ∈ tf.map (He.cT K), GxR.TabB base mg p.1 p.2) : (WW w K mg).fa J_with_marks = some (He.fAd (WW w K mg).K ("with_marks", none)) := rfl
theorem ev_D_with_marks {w : World} {h base : Heap} {K : PySem.W.Frag} {mg : Str → Option Value} (KX : K.In h) (G : h.Ns mainGlobals mg) (c : He.SaysX fa fn [] tf exB w h K) (nd : (tf.map fun p => (He.cT K p).2).Nodup) (TB : ∀ p ∈ tf.map (He.cT K), GxR.TabB base mg p.1 p.2) : ∃ fd, FunD (WW w K mg).K "with_marks" "with_marks" (defArgs (top 10)) (defBody (top 10)) (defScope (top 10)) [] [] (He.fAd (WW w K mg).K ("with_marks", none)) fd := c.t.d.def_ 7 (d := D_with_marks)
theorem ev_g_follow_paper {w : World} {h base : Heap} {K : PySem.W.Frag} {mg : Str → Option Value} (KX : K.In h) (G : h.Ns mainGlobals mg) (c : He.SaysX fa fn [] tf exB w h K) (nd : (tf.map fun p => (He.cT K p).2).Nodup) (TB : ∀ p ∈ tf.map (He.cT K), GxR.TabB base mg p.1 p.2) : (WW w K mg).mg "follow_paper" = some (.ref (He.fAd (WW w K mg).K ("follow_paper", none))) := He.glo_ok KX G (c.t.d.fact 8 (f := .glo "follow_paper"))
theorem ev_a_follow_paper {w : World} {h base : Heap} {K : PySem.W.Frag} {mg : Str → Option Value} (KX : K.In h) (G : h.Ns mainGlobals mg) (c : He.SaysX fa fn [] tf exB w h K) (nd : (tf.map fun p => (He.cT K p).2).Nodup) (TB : ∀ p ∈ tf.map (He.cT K), GxR.TabB base mg p.1 p.2) : (WW w K mg).fa J_follow_paper = some (He.fAd (WW w K mg).K ("follow_paper", none)) := rfl
theorem ev_D_follow_paper {w : World} {h base : Heap} {K : PySem.W.Frag} {mg : Str → Option Value} (KX : K.In h) (G : h.Ns mainGlobals mg) (c : He.SaysX fa fn [] tf exB w h K) (nd : (tf.map fun p => (He.cT K p).2).Nodup) (TB : ∀ p ∈ tf.map (He.cT K), GxR.TabB base mg p.1 p.2) : ∃ fd, FunD (WW w K mg).K "follow_paper" "follow_paper" (defArgs (top 11)) (defBody (top 11)) (defScope (top 11)) [] [] (He.fAd (WW w K mg).K ("follow_paper", none)) fd := c.t.d.def_ 8 (d := D_follow_paper)
theorem ev_g_next_set {w : World} {h base : Heap} {K : PySem.W.Frag} {mg : Str → Option Value} (KX : K.In h) (G : h.Ns mainGlobals mg) (c : He.SaysX fa fn [] tf exB w h K) (nd : (tf.map fun p => (He.cT K p).2).Nodup) (TB : ∀ p ∈ tf.map (He.cT K), GxR.TabB base mg p.1 p.2) : (WW w K mg).mg "next_set" = some (.ref (He.fAd (WW w K mg).K ("next_set", none))) := He.glo_ok KX G (c.t.d.fact 3 (f := .glo "next_set"))
theorem ev_a_next_set {w : World} {h base : Heap} {K : PySem.W.Frag} {mg : Str → Option Value} (KX : K.In h) (G : h.Ns mainGlobals mg) (c : He.SaysX fa fn [] tf exB w h K) (nd : (tf.map fun p => (He.cT K p).2).Nodup) (TB : ∀ p ∈ tf.map (He.cT K), GxR.TabB base mg p.1 p.2) : (WW w K mg).fa J_next_set = some (He.fAd (WW w K mg).K ("next_set", none)) := rfl
theorem ev_D_next_set {w : World} {h base : Heap} {K : PySem.W.Frag} {mg : Str → Option Value} (KX : K.In h) (G : h.Ns mainGlobals mg) (c : He.SaysX fa fn [] tf exB w h K) (nd : (tf.map fun p => (He.cT K p).2).Nodup) (TB : ∀ p ∈ tf.map (He.cT K), GxR.TabB base mg p.1 p.2) : ∃ fd, FunD (WW w K mg).K "next_set" "next_set" (defArgs (top 5)) (defBody (top 5)) (defScope (top 5)) [] [] (He.fAd (WW w K mg).K ("next_set", none)) fd := c.t.d.def_ 3 (d := D_next_set)
theorem ev_g_closed_apart {w : World} {h base : Heap} {K : PySem.W.Frag} {mg : Str → Option Value} (KX : K.In h) (G : h.Ns mainGlobals mg) (c : He.SaysX fa fn [] tf exB w h K) (nd : (tf.map fun p => (He.cT K p).2).Nodup) (TB : ∀ p ∈ tf.map (He.cT K), GxR.TabB base mg p.1 p.2) : (WW w K mg).mg "closed_apart" = some (.ref (He.fAd (WW w K mg).K ("closed_apart", none))) := He.glo_ok KX G (c.t.d.fact 9 (f := .glo "closed_apart"))
theorem ev_a_closed_apart {w : World} {h base : Heap} {K : PySem.W.Frag} {mg : Str → Option Value} (KX : K.In h) (G : h.Ns mainGlobals mg) (c : He.SaysX fa fn [] tf exB w h K) (nd : (tf.map fun p => (He.cT K p).2).Nodup) (TB : ∀ p ∈ tf.map (He.cT K), GxR.TabB base mg p.1 p.2) : (WW w K mg).fa J_closed_apart = some (He.fAd (WW w K mg).K ("closed_apart", none)) := rfl
theorem ev_D_closed_apart {w : World} {h base : Heap} {K : PySem.W.Frag} {mg : Str → Option Value} (KX : K.In h) (G : h.Ns mainGlobals mg) (c : He.SaysX fa fn [] tf exB w h K) (nd : (tf.map fun p => (He.cT K p).2).Nodup) (TB : ∀ p ∈ tf.map (He.cT K), GxR.TabB base mg p.1 p.2) : ∃ fd, FunD (WW w K mg).K "closed_apart" "closed_apart" (defArgs (top 12)) (defBody (top 12)) (defScope (top 12)) [] [] (He.fAd (WW w K mg).K ("closed_apart", none)) fd := c.t.d.def_ 9 (d := D_closed_apart)
theorem ev_g_base {w : World} {h base : Heap} {K : PySem.W.Frag} {mg : Str → Option Value} (KX : K.In h) (G : h.Ns mainGlobals mg) (c : He.SaysX fa fn [] tf exB w h K) (nd : (tf.map fun p => (He.cT K p).2).Nodup) (TB : ∀ p ∈ tf.map (He.cT K), GxR.TabB base mg p.1 p.2) : (WW w K mg).mg "base" = some (.ref (He.fAd (WW w K mg).K ("base", none))) := He.glo_ok KX G (c.t.d.fact 10 (f := .glo "base"))
theorem ev_a_base {w : World} {h base : Heap} {K : PySem.W.Frag} {mg : Str → Option Value} (KX : K.In h) (G : h.Ns mainGlobals mg) (c : He.SaysX fa fn [] tf exB w h K) (nd : (tf.map fun p => (He.cT K p).2).Nodup) (TB : ∀ p ∈ tf.map (He.cT K), GxR.TabB base mg p.1 p.2) : (WW w K mg).fa J_base = some (He.fAd (WW w K mg).K ("base", none)) := rfl
theorem ev_D_base {w : World} {h base : Heap} {K : PySem.W.Frag} {mg : Str → Option Value} (KX : K.In h) (G : h.Ns mainGlobals mg) (c : He.SaysX fa fn [] tf exB w h K) (nd : (tf.map fun p => (He.cT K p).2).Nodup) (TB : ∀ p ∈ tf.map (He.cT K), GxR.TabB base mg p.1 p.2) : ∃ fd, FunD (WW w K mg).K "base" "base" (defArgs (top 13)) (defBody (top 13)) (defScope (top 13)) [] [] (He.fAd (WW w K mg).K ("base", none)) fd := c.t.d.def_ 10 (d := D_base)
theorem ev_g__law_box {w : World} {h base : Heap} {K : PySem.W.Frag} {mg : Str → Option Value} (KX : K.In h) (G : h.Ns mainGlobals mg) (c : He.SaysX fa fn [] tf exB w h K) (nd : (tf.map fun p => (He.cT K p).2).Nodup) (TB : ∀ p ∈ tf.map (He.cT K), GxR.TabB base mg p.1 p.2) : (WW w K mg).mg "_law_box" = some (.ref (He.fAd (WW w K mg).K ("_law_box", none))) := He.glo_ok KX G (c.t.d.fact 11 (f := .glo "_law_box"))
theorem ev_a__law_box {w : World} {h base : Heap} {K : PySem.W.Frag} {mg : Str → Option Value} (KX : K.In h) (G : h.Ns mainGlobals mg) (c : He.SaysX fa fn [] tf exB w h K) (nd : (tf.map fun p => (He.cT K p).2).Nodup) (TB : ∀ p ∈ tf.map (He.cT K), GxR.TabB base mg p.1 p.2) : (WW w K mg).fa J__law_box = some (He.fAd (WW w K mg).K ("_law_box", none)) := rfl
theorem ev_D__law_box {w : World} {h base : Heap} {K : PySem.W.Frag} {mg : Str → Option Value} (KX : K.In h) (G : h.Ns mainGlobals mg) (c : He.SaysX fa fn [] tf exB w h K) (nd : (tf.map fun p => (He.cT K p).2).Nodup) (TB : ∀ p ∈ tf.map (He.cT K), GxR.TabB base mg p.1 p.2) : ∃ fd, FunD (WW w K mg).K "_law_box" "_law_box" (defArgs (top 15)) (defBody (top 15)) (defScope (top 15)) [] [] (He.fAd (WW w K mg).K ("_law_box", none)) fd := c.t.d.def_ 11 (d := D__law_box)
theorem ev_g__law_load {w : World} {h base : Heap} {K : PySem.W.Frag} {mg : Str → Option Value} (KX : K.In h) (G : h.Ns mainGlobals mg) (c : He.SaysX fa fn [] tf exB w h K) (nd : (tf.map fun p => (He.cT K p).2).Nodup) (TB : ∀ p ∈ tf.map (He.cT K), GxR.TabB base mg p.1 p.2) : (WW w K mg).mg "_law_load" = some (.ref (He.fAd (WW w K mg).K ("_law_load", none))) := He.glo_ok KX G (c.t.d.fact 12 (f := .glo "_law_load"))
theorem ev_a__law_load {w : World} {h base : Heap} {K : PySem.W.Frag} {mg : Str → Option Value} (KX : K.In h) (G : h.Ns mainGlobals mg) (c : He.SaysX fa fn [] tf exB w h K) (nd : (tf.map fun p => (He.cT K p).2).Nodup) (TB : ∀ p ∈ tf.map (He.cT K), GxR.TabB base mg p.1 p.2) : (WW w K mg).fa J__law_load = some (He.fAd (WW w K mg).K ("_law_load", none)) := rfl
theorem ev_D__law_load {w : World} {h base : Heap} {K : PySem.W.Frag} {mg : Str → Option Value} (KX : K.In h) (G : h.Ns mainGlobals mg) (c : He.SaysX fa fn [] tf exB w h K) (nd : (tf.map fun p => (He.cT K p).2).Nodup) (TB : ∀ p ∈ tf.map (He.cT K), GxR.TabB base mg p.1 p.2) : ∃ fd, FunD (WW w K mg).K "_law_load" "_law_load" (defArgs (top 16)) (defBody (top 16)) (defScope (top 16)) [] [] (He.fAd (WW w K mg).K ("_law_load", none)) fd := c.t.d.def_ 12 (d := D__law_load)
theorem ev_g__law_draw {w : World} {h base : Heap} {K : PySem.W.Frag} {mg : Str → Option Value} (KX : K.In h) (G : h.Ns mainGlobals mg) (c : He.SaysX fa fn [] tf exB w h K) (nd : (tf.map fun p => (He.cT K p).2).Nodup) (TB : ∀ p ∈ tf.map (He.cT K), GxR.TabB base mg p.1 p.2) : (WW w K mg).mg "_law_draw" = some (.ref (He.fAd (WW w K mg).K ("_law_draw", none))) := He.glo_ok KX G (c.t.d.fact 13 (f := .glo "_law_draw"))
theorem ev_a__law_draw {w : World} {h base : Heap} {K : PySem.W.Frag} {mg : Str → Option Value} (KX : K.In h) (G : h.Ns mainGlobals mg) (c : He.SaysX fa fn [] tf exB w h K) (nd : (tf.map fun p => (He.cT K p).2).Nodup) (TB : ∀ p ∈ tf.map (He.cT K), GxR.TabB base mg p.1 p.2) : (WW w K mg).fa J__law_draw = some (He.fAd (WW w K mg).K ("_law_draw", none)) := rfl
theorem ev_D__law_draw {w : World} {h base : Heap} {K : PySem.W.Frag} {mg : Str → Option Value} (KX : K.In h) (G : h.Ns mainGlobals mg) (c : He.SaysX fa fn [] tf exB w h K) (nd : (tf.map fun p => (He.cT K p).2).Nodup) (TB : ∀ p ∈ tf.map (He.cT K), GxR.TabB base mg p.1 p.2) : ∃ fd, FunD (WW w K mg).K "_law_draw" "_law_draw" (defArgs (top 17)) (defBody (top 17)) (defScope (top 17)) [] [] (He.fAd (WW w K mg).K ("_law_draw", none)) fd := c.t.d.def_ 13 (d := D__law_draw)
theorem ev_g__law_same {w : World} {h base : Heap} {K : PySem.W.Frag} {mg : Str → Option Value} (KX : K.In h) (G : h.Ns mainGlobals mg) (c : He.SaysX fa fn [] tf exB w h K) (nd : (tf.map fun p => (He.cT K p).2).Nodup) (TB : ∀ p ∈ tf.map (He.cT K), GxR.TabB base mg p.1 p.2) : (WW w K mg).mg "_law_same" = some (.ref (He.fAd (WW w K mg).K ("_law_same", none))) := He.glo_ok KX G (c.t.d.fact 14 (f := .glo "_law_same"))
theorem ev_a__law_same {w : World} {h base : Heap} {K : PySem.W.Frag} {mg : Str → Option Value} (KX : K.In h) (G : h.Ns mainGlobals mg) (c : He.SaysX fa fn [] tf exB w h K) (nd : (tf.map fun p => (He.cT K p).2).Nodup) (TB : ∀ p ∈ tf.map (He.cT K), GxR.TabB base mg p.1 p.2) : (WW w K mg).fa J__law_same = some (He.fAd (WW w K mg).K ("_law_same", none)) := rfl
theorem ev_D__law_same {w : World} {h base : Heap} {K : PySem.W.Frag} {mg : Str → Option Value} (KX : K.In h) (G : h.Ns mainGlobals mg) (c : He.SaysX fa fn [] tf exB w h K) (nd : (tf.map fun p => (He.cT K p).2).Nodup) (TB : ∀ p ∈ tf.map (He.cT K), GxR.TabB base mg p.1 p.2) : ∃ fd, FunD (WW w K mg).K "_law_same" "_law_same" (defArgs (top 18)) (defBody (top 18)) (defScope (top 18)) [] [] (He.fAd (WW w K mg).K ("_law_same", none)) fd := c.t.d.def_ 14 (d := D__law_same)
theorem ev_g__law_table {w : World} {h base : Heap} {K : PySem.W.Frag} {mg : Str → Option Value} (KX : K.In h) (G : h.Ns mainGlobals mg) (c : He.SaysX fa fn [] tf exB w h K) (nd : (tf.map fun p => (He.cT K p).2).Nodup) (TB : ∀ p ∈ tf.map (He.cT K), GxR.TabB base mg p.1 p.2) : (WW w K mg).mg "_law_table" = some (.ref (He.fAd (WW w K mg).K ("_law_table", none))) := He.glo_ok KX G (c.t.d.fact 15 (f := .glo "_law_table"))
theorem ev_a__law_table {w : World} {h base : Heap} {K : PySem.W.Frag} {mg : Str → Option Value} (KX : K.In h) (G : h.Ns mainGlobals mg) (c : He.SaysX fa fn [] tf exB w h K) (nd : (tf.map fun p => (He.cT K p).2).Nodup) (TB : ∀ p ∈ tf.map (He.cT K), GxR.TabB base mg p.1 p.2) : (WW w K mg).fa J__law_table = some (He.fAd (WW w K mg).K ("_law_table", none)) := rfl
theorem ev_D__law_table {w : World} {h base : Heap} {K : PySem.W.Frag} {mg : Str → Option Value} (KX : K.In h) (G : h.Ns mainGlobals mg) (c : He.SaysX fa fn [] tf exB w h K) (nd : (tf.map fun p => (He.cT K p).2).Nodup) (TB : ∀ p ∈ tf.map (He.cT K), GxR.TabB base mg p.1 p.2) : ∃ fd, FunD (WW w K mg).K "_law_table" "_law_table" (defArgs (top 19)) (defBody (top 19)) (defScope (top 19)) [] [] (He.fAd (WW w K mg).K ("_law_table", none)) fd := c.t.d.def_ 15 (d := D__law_table)
theorem ev_g__law_rows {w : World} {h base : Heap} {K : PySem.W.Frag} {mg : Str → Option Value} (KX : K.In h) (G : h.Ns mainGlobals mg) (c : He.SaysX fa fn [] tf exB w h K) (nd : (tf.map fun p => (He.cT K p).2).Nodup) (TB : ∀ p ∈ tf.map (He.cT K), GxR.TabB base mg p.1 p.2) : (WW w K mg).mg "_law_rows" = some (.ref (He.fAd (WW w K mg).K ("_law_rows", none))) := He.glo_ok KX G (c.t.d.fact 16 (f := .glo "_law_rows"))
theorem ev_a__law_rows {w : World} {h base : Heap} {K : PySem.W.Frag} {mg : Str → Option Value} (KX : K.In h) (G : h.Ns mainGlobals mg) (c : He.SaysX fa fn [] tf exB w h K) (nd : (tf.map fun p => (He.cT K p).2).Nodup) (TB : ∀ p ∈ tf.map (He.cT K), GxR.TabB base mg p.1 p.2) : (WW w K mg).fa J__law_rows = some (He.fAd (WW w K mg).K ("_law_rows", none)) := rfl
theorem ev_D__law_rows {w : World} {h base : Heap} {K : PySem.W.Frag} {mg : Str → Option Value} (KX : K.In h) (G : h.Ns mainGlobals mg) (c : He.SaysX fa fn [] tf exB w h K) (nd : (tf.map fun p => (He.cT K p).2).Nodup) (TB : ∀ p ∈ tf.map (He.cT K), GxR.TabB base mg p.1 p.2) : ∃ fd, FunD (WW w K mg).K "_law_rows" "_law_rows" (defArgs (top 20)) (defBody (top 20)) (defScope (top 20)) [] [] (He.fAd (WW w K mg).K ("_law_rows", none)) fd := c.t.d.def_ 16 (d := D__law_rows)
theorem ev_g__law_number {w : World} {h base : Heap} {K : PySem.W.Frag} {mg : Str → Option Value} (KX : K.In h) (G : h.Ns mainGlobals mg) (c : He.SaysX fa fn [] tf exB w h K) (nd : (tf.map fun p => (He.cT K p).2).Nodup) (TB : ∀ p ∈ tf.map (He.cT K), GxR.TabB base mg p.1 p.2) : (WW w K mg).mg "_law_number" = some (.ref (He.fAd (WW w K mg).K ("_law_number", none))) := He.glo_ok KX G (c.t.d.fact 17 (f := .glo "_law_number"))
theorem ev_a__law_number {w : World} {h base : Heap} {K : PySem.W.Frag} {mg : Str → Option Value} (KX : K.In h) (G : h.Ns mainGlobals mg) (c : He.SaysX fa fn [] tf exB w h K) (nd : (tf.map fun p => (He.cT K p).2).Nodup) (TB : ∀ p ∈ tf.map (He.cT K), GxR.TabB base mg p.1 p.2) : (WW w K mg).fa J__law_number = some (He.fAd (WW w K mg).K ("_law_number", none)) := rfl
theorem ev_D__law_number {w : World} {h base : Heap} {K : PySem.W.Frag} {mg : Str → Option Value} (KX : K.In h) (G : h.Ns mainGlobals mg) (c : He.SaysX fa fn [] tf exB w h K) (nd : (tf.map fun p => (He.cT K p).2).Nodup) (TB : ∀ p ∈ tf.map (He.cT K), GxR.TabB base mg p.1 p.2) : ∃ fd, FunD (WW w K mg).K "_law_number" "_law_number" (defArgs (top 21)) (defBody (top 21)) (defScope (top 21)) [] [] (He.fAd (WW w K mg).K ("_law_number", none)) fd := c.t.d.def_ 17 (d := D__law_number)
theorem ev_g__law_set {w : World} {h base : Heap} {K : PySem.W.Frag} {mg : Str → Option Value} (KX : K.In h) (G : h.Ns mainGlobals mg) (c : He.SaysX fa fn [] tf exB w h K) (nd : (tf.map fun p => (He.cT K p).2).Nodup) (TB : ∀ p ∈ tf.map (He.cT K), GxR.TabB base mg p.1 p.2) : (WW w K mg).mg "_law_set" = some (.ref (He.fAd (WW w K mg).K ("_law_set", none))) := He.glo_ok KX G (c.t.d.fact 18 (f := .glo "_law_set"))
theorem ev_a__law_set {w : World} {h base : Heap} {K : PySem.W.Frag} {mg : Str → Option Value} (KX : K.In h) (G : h.Ns mainGlobals mg) (c : He.SaysX fa fn [] tf exB w h K) (nd : (tf.map fun p => (He.cT K p).2).Nodup) (TB : ∀ p ∈ tf.map (He.cT K), GxR.TabB base mg p.1 p.2) : (WW w K mg).fa J__law_set = some (He.fAd (WW w K mg).K ("_law_set", none)) := rfl
theorem ev_D__law_set {w : World} {h base : Heap} {K : PySem.W.Frag} {mg : Str → Option Value} (KX : K.In h) (G : h.Ns mainGlobals mg) (c : He.SaysX fa fn [] tf exB w h K) (nd : (tf.map fun p => (He.cT K p).2).Nodup) (TB : ∀ p ∈ tf.map (He.cT K), GxR.TabB base mg p.1 p.2) : ∃ fd, FunD (WW w K mg).K "_law_set" "_law_set" (defArgs (top 22)) (defBody (top 22)) (defScope (top 22)) [] [] (He.fAd (WW w K mg).K ("_law_set", none)) fd := c.t.d.def_ 18 (d := D__law_set)
theorem ev_g__law_closure {w : World} {h base : Heap} {K : PySem.W.Frag} {mg : Str → Option Value} (KX : K.In h) (G : h.Ns mainGlobals mg) (c : He.SaysX fa fn [] tf exB w h K) (nd : (tf.map fun p => (He.cT K p).2).Nodup) (TB : ∀ p ∈ tf.map (He.cT K), GxR.TabB base mg p.1 p.2) : (WW w K mg).mg "_law_closure" = some (.ref (He.fAd (WW w K mg).K ("_law_closure", none))) := He.glo_ok KX G (c.t.d.fact 19 (f := .glo "_law_closure"))
theorem ev_a__law_closure {w : World} {h base : Heap} {K : PySem.W.Frag} {mg : Str → Option Value} (KX : K.In h) (G : h.Ns mainGlobals mg) (c : He.SaysX fa fn [] tf exB w h K) (nd : (tf.map fun p => (He.cT K p).2).Nodup) (TB : ∀ p ∈ tf.map (He.cT K), GxR.TabB base mg p.1 p.2) : (WW w K mg).fa J__law_closure = some (He.fAd (WW w K mg).K ("_law_closure", none)) := rfl
theorem ev_D__law_closure {w : World} {h base : Heap} {K : PySem.W.Frag} {mg : Str → Option Value} (KX : K.In h) (G : h.Ns mainGlobals mg) (c : He.SaysX fa fn [] tf exB w h K) (nd : (tf.map fun p => (He.cT K p).2).Nodup) (TB : ∀ p ∈ tf.map (He.cT K), GxR.TabB base mg p.1 p.2) : ∃ fd, FunD (WW w K mg).K "_law_closure" "_law_closure" (defArgs (top 23)) (defBody (top 23)) (defScope (top 23)) [] [] (He.fAd (WW w K mg).K ("_law_closure", none)) fd := c.t.d.def_ 19 (d := D__law_closure)
theorem ev_g__law_pseudo {w : World} {h base : Heap} {K : PySem.W.Frag} {mg : Str → Option Value} (KX : K.In h) (G : h.Ns mainGlobals mg) (c : He.SaysX fa fn [] tf exB w h K) (nd : (tf.map fun p => (He.cT K p).2).Nodup) (TB : ∀ p ∈ tf.map (He.cT K), GxR.TabB base mg p.1 p.2) : (WW w K mg).mg "_law_pseudo" = some (.ref (He.fAd (WW w K mg).K ("_law_pseudo", none))) := He.glo_ok KX G (c.t.d.fact 20 (f := .glo "_law_pseudo"))
theorem ev_a__law_pseudo {w : World} {h base : Heap} {K : PySem.W.Frag} {mg : Str → Option Value} (KX : K.In h) (G : h.Ns mainGlobals mg) (c : He.SaysX fa fn [] tf exB w h K) (nd : (tf.map fun p => (He.cT K p).2).Nodup) (TB : ∀ p ∈ tf.map (He.cT K), GxR.TabB base mg p.1 p.2) : (WW w K mg).fa J__law_pseudo = some (He.fAd (WW w K mg).K ("_law_pseudo", none)) := rfl
theorem ev_D__law_pseudo {w : World} {h base : Heap} {K : PySem.W.Frag} {mg : Str → Option Value} (KX : K.In h) (G : h.Ns mainGlobals mg) (c : He.SaysX fa fn [] tf exB w h K) (nd : (tf.map fun p => (He.cT K p).2).Nodup) (TB : ∀ p ∈ tf.map (He.cT K), GxR.TabB base mg p.1 p.2) : ∃ fd, FunD (WW w K mg).K "_law_pseudo" "_law_pseudo" (defArgs (top 24)) (defBody (top 24)) (defScope (top 24)) [] [] (He.fAd (WW w K mg).K ("_law_pseudo", none)) fd := c.t.d.def_ 20 (d := D__law_pseudo)
theorem ev_g_law {w : World} {h base : Heap} {K : PySem.W.Frag} {mg : Str → Option Value} (KX : K.In h) (G : h.Ns mainGlobals mg) (c : He.SaysX fa fn [] tf exB w h K) (nd : (tf.map fun p => (He.cT K p).2).Nodup) (TB : ∀ p ∈ tf.map (He.cT K), GxR.TabB base mg p.1 p.2) : (WW w K mg).mg "law" = some (.ref (He.fAd (WW w K mg).K ("law", none))) := He.glo_ok KX G (c.t.d.fact 21 (f := .glo "law"))
theorem ev_a_law {w : World} {h base : Heap} {K : PySem.W.Frag} {mg : Str → Option Value} (KX : K.In h) (G : h.Ns mainGlobals mg) (c : He.SaysX fa fn [] tf exB w h K) (nd : (tf.map fun p => (He.cT K p).2).Nodup) (TB : ∀ p ∈ tf.map (He.cT K), GxR.TabB base mg p.1 p.2) : (WW w K mg).fa J_law = some (He.fAd (WW w K mg).K ("law", none)) := rfl
theorem ev_D_law {w : World} {h base : Heap} {K : PySem.W.Frag} {mg : Str → Option Value} (KX : K.In h) (G : h.Ns mainGlobals mg) (c : He.SaysX fa fn [] tf exB w h K) (nd : (tf.map fun p => (He.cT K p).2).Nodup) (TB : ∀ p ∈ tf.map (He.cT K), GxR.TabB base mg p.1 p.2) : ∃ fd, FunD (WW w K mg).K "law" "law" (defArgs (top 25)) (defBody (top 25)) (defScope (top 25)) [] [] (He.fAd (WW w K mg).K ("law", none)) fd := c.t.d.def_ 21 (d := D_law)
theorem ev_T_common_marks {w : World} {h base : Heap} {K : PySem.W.Frag} {mg : Str → Option Value} (KX : K.In h) (G : h.Ns mainGlobals mg) (c : He.SaysX fa fn [] tf exB w h K) (nd : (tf.map fun p => (He.cT K p).2).Nodup) (TB : ∀ p ∈ tf.map (He.cT K), GxR.TabB base mg p.1 p.2) : GxR.TabB base (WW w K mg).mg (He.cT (WW w K mg).K ("common_marks", none)).1 (He.cT (WW w K mg).K ("common_marks", none)).2 := TB _ (List.mem_map.mpr ⟨("common_marks", none), (.head _), rfl⟩)
theorem ev_p_common_marks {w : World} {h base : Heap} {K : PySem.W.Frag} {mg : Str → Option Value} (KX : K.In h) (G : h.Ns mainGlobals mg) (c : He.SaysX fa fn [] tf exB w h K) (nd : (tf.map fun p => (He.cT K p).2).Nodup) (TB : ∀ p ∈ tf.map (He.cT K), GxR.TabB base mg p.1 p.2) : (He.cT (WW w K mg).K ("common_marks", none)).2 ∈ (WW w K mg).tb := (.head _)
theorem ev_q_common_marks {w : World} {h base : Heap} {K : PySem.W.Frag} {mg : Str → Option Value} (KX : K.In h) (G : h.Ns mainGlobals mg) (c : He.SaysX fa fn [] tf exB w h K) (nd : (tf.map fun p => (He.cT K p).2).Nodup) (TB : ∀ p ∈ tf.map (He.cT K), GxR.TabB base mg p.1 p.2) : ∀ p ∈ (WW w K mg).tl, p.1 ≠ (He.cT (WW w K mg).K ("common_marks", none)).2 := fun p h => (List.mem_cons.mp h).elim (fun e => e ▸ nd_ne nd (i := 3) (j := 0) rfl rfl (by decide)) fun h => nomatch h
theorem ev_T_common_things {w : World} {h base : Heap} {K : PySem.W.Frag} {mg : Str → Option Value} (KX : K.In h) (G : h.Ns mainGlobals mg) (c : He.SaysX fa fn [] tf exB w h K) (nd : (tf.map fun p => (He.cT K p).2).Nodup) (TB : ∀ p ∈ tf.map (He.cT K), GxR.TabB base mg p.1 p.2) : GxR.TabB base (WW w K mg).mg (He.cT (WW w K mg).K ("common_things", none)).1 (He.cT (WW w K mg).K ("common_things", none)).2 := TB _ (List.mem_map.mpr ⟨("common_things", none), (.tail _ (.head _)), rfl⟩)
theorem ev_p_common_things {w : World} {h base : Heap} {K : PySem.W.Frag} {mg : Str → Option Value} (KX : K.In h) (G : h.Ns mainGlobals mg) (c : He.SaysX fa fn [] tf exB w h K) (nd : (tf.map fun p => (He.cT K p).2).Nodup) (TB : ∀ p ∈ tf.map (He.cT K), GxR.TabB base mg p.1 p.2) : (He.cT (WW w K mg).K ("common_things", none)).2 ∈ (WW w K mg).tb := (.tail _ (.head _))
theorem ev_q_common_things {w : World} {h base : Heap} {K : PySem.W.Frag} {mg : Str → Option Value} (KX : K.In h) (G : h.Ns mainGlobals mg) (c : He.SaysX fa fn [] tf exB w h K) (nd : (tf.map fun p => (He.cT K p).2).Nodup) (TB : ∀ p ∈ tf.map (He.cT K), GxR.TabB base mg p.1 p.2) : ∀ p ∈ (WW w K mg).tl, p.1 ≠ (He.cT (WW w K mg).K ("common_things", none)).2 := fun p h => (List.mem_cons.mp h).elim (fun e => e ▸ nd_ne nd (i := 3) (j := 1) rfl rfl (by decide)) fun h => nomatch h
theorem ev_T_is_part {w : World} {h base : Heap} {K : PySem.W.Frag} {mg : Str → Option Value} (KX : K.In h) (G : h.Ns mainGlobals mg) (c : He.SaysX fa fn [] tf exB w h K) (nd : (tf.map fun p => (He.cT K p).2).Nodup) (TB : ∀ p ∈ tf.map (He.cT K), GxR.TabB base mg p.1 p.2) : GxR.TabB base (WW w K mg).mg (He.cT (WW w K mg).K ("is_part", none)).1 (He.cT (WW w K mg).K ("is_part", none)).2 := TB _ (List.mem_map.mpr ⟨("is_part", none), (.tail _ (.tail _ (.head _))), rfl⟩)
theorem ev_p_is_part {w : World} {h base : Heap} {K : PySem.W.Frag} {mg : Str → Option Value} (KX : K.In h) (G : h.Ns mainGlobals mg) (c : He.SaysX fa fn [] tf exB w h K) (nd : (tf.map fun p => (He.cT K p).2).Nodup) (TB : ∀ p ∈ tf.map (He.cT K), GxR.TabB base mg p.1 p.2) : (He.cT (WW w K mg).K ("is_part", none)).2 ∈ (WW w K mg).tb := (.tail _ (.tail _ (.head _)))
theorem ev_q_is_part {w : World} {h base : Heap} {K : PySem.W.Frag} {mg : Str → Option Value} (KX : K.In h) (G : h.Ns mainGlobals mg) (c : He.SaysX fa fn [] tf exB w h K) (nd : (tf.map fun p => (He.cT K p).2).Nodup) (TB : ∀ p ∈ tf.map (He.cT K), GxR.TabB base mg p.1 p.2) : ∀ p ∈ (WW w K mg).tl, p.1 ≠ (He.cT (WW w K mg).K ("is_part", none)).2 := fun p h => (List.mem_cons.mp h).elim (fun e => e ▸ nd_ne nd (i := 3) (j := 2) rfl rfl (by decide)) fun h => nomatch h
theorem ev_T_base {w : World} {h base : Heap} {K : PySem.W.Frag} {mg : Str → Option Value} (KX : K.In h) (G : h.Ns mainGlobals mg) (c : He.SaysX fa fn [] tf exB w h K) (nd : (tf.map fun p => (He.cT K p).2).Nodup) (TB : ∀ p ∈ tf.map (He.cT K), GxR.TabB base mg p.1 p.2) : GxR.TabB base (WW w K mg).mg (He.cT (WW w K mg).K ("base", none)).1 (He.cT (WW w K mg).K ("base", none)).2 := TB _ (List.mem_map.mpr ⟨("base", none), (.tail _ (.tail _ (.tail _ (.head _)))), rfl⟩)
theorem ev_l_base {w : World} {h base : Heap} {K : PySem.W.Frag} {mg : Str → Option Value} (KX : K.In h) (G : h.Ns mainGlobals mg) (c : He.SaysX fa fn [] tf exB w h K) (nd : (tf.map fun p => (He.cT K p).2).Nodup) (TB : ∀ p ∈ tf.map (He.cT K), GxR.TabB base mg p.1 p.2) : ((He.cT (WW w K mg).K ("base", none)).2, ("base" : Str) ++ ".<locals>." ++ "<lambda>") ∈ (WW w K mg).tl := (.head _)
theorem ev_u_base {w : World} {h base : Heap} {K : PySem.W.Frag} {mg : Str → Option Value} (KX : K.In h) (G : h.Ns mainGlobals mg) (c : He.SaysX fa fn [] tf exB w h K) (nd : (tf.map fun p => (He.cT K p).2).Nodup) (TB : ∀ p ∈ tf.map (He.cT K), GxR.TabB base mg p.1 p.2) : ∀ p ∈ (WW w K mg).tl, p.1 = (He.cT (WW w K mg).K ("base", none)).2 → p.2 = ("base" : Str) ++ ".<locals>." ++ "<lambda>" := fun p h => (List.mem_cons.mp h).elim (fun e => fun _ => e ▸ rfl) fun h => nomatch h
theorem ev_ok {w : World} {h base : Heap} {K : PySem.W.Frag} {mg : Str → Option Value} (KX : K.In h) (G : h.Ns mainGlobals mg) (c : He.SaysX fa fn [] tf exB w h K) (nd : (tf.map fun p => (He.cT K p).2).Nodup) (TB : ∀ p ∈ tf.map (He.cT K), GxR.TabB base mg p.1 p.2) : Ev (WW w K mg) base :=
  ⟨ev_cx KX G c nd TB, ev_b_all KX G c nd TB, ev_b_bool KX G c nd TB, ev_b_enumerate KX G c nd TB, ev_b_int KX G c nd TB, ev_b_isinstance KX G c nd TB, ev_b_len KX G c nd TB, ev_b_list KX G c nd TB, ev_b_range KX G c nd TB, ev_b_set KX G c nd TB, ev_b_sorted KX G c nd TB, ev_b_str KX G c nd TB, ev_b_sum KX G c nd TB, ev_b_tuple KX G c nd TB, ev_g_common_marks KX G c nd TB, ev_a_common_marks KX G c nd TB, ev_D_common_marks KX G c nd TB, ev_g_common_things KX G c nd TB, ev_a_common_things KX G c nd TB, ev_D_common_things KX G c nd TB, ev_g_closure KX G c nd TB, ev_a_closure KX G c nd TB, ev_D_closure KX G c nd TB, ev_g_is_part KX G c nd TB, ev_a_is_part KX G c nd TB, ev_D_is_part KX G c nd TB, ev_g_holds KX G c nd TB, ev_a_holds KX G c nd TB, ev_D_holds KX G c nd TB, ev_g_keeps KX G c nd TB, ev_a_keeps KX G c nd TB, ev_D_keeps KX G c nd TB, ev_g_with_marks KX G c nd TB, ev_a_with_marks KX G c nd TB, ev_D_with_marks KX G c nd TB, ev_g_follow_paper KX G c nd TB, ev_a_follow_paper KX G c nd TB, ev_D_follow_paper KX G c nd TB, ev_g_next_set KX G c nd TB, ev_a_next_set KX G c nd TB, ev_D_next_set KX G c nd TB, ev_g_closed_apart KX G c nd TB, ev_a_closed_apart KX G c nd TB, ev_D_closed_apart KX G c nd TB, ev_g_base KX G c nd TB, ev_a_base KX G c nd TB, ev_D_base KX G c nd TB, ev_g__law_box KX G c nd TB, ev_a__law_box KX G c nd TB, ev_D__law_box KX G c nd TB, ev_g__law_load KX G c nd TB, ev_a__law_load KX G c nd TB, ev_D__law_load KX G c nd TB, ev_g__law_draw KX G c nd TB, ev_a__law_draw KX G c nd TB, ev_D__law_draw KX G c nd TB, ev_g__law_same KX G c nd TB, ev_a__law_same KX G c nd TB, ev_D__law_same KX G c nd TB, ev_g__law_table KX G c nd TB, ev_a__law_table KX G c nd TB, ev_D__law_table KX G c nd TB, ev_g__law_rows KX G c nd TB, ev_a__law_rows KX G c nd TB, ev_D__law_rows KX G c nd TB, ev_g__law_number KX G c nd TB, ev_a__law_number KX G c nd TB, ev_D__law_number KX G c nd TB, ev_g__law_set KX G c nd TB, ev_a__law_set KX G c nd TB, ev_D__law_set KX G c nd TB, ev_g__law_closure KX G c nd TB, ev_a__law_closure KX G c nd TB, ev_D__law_closure KX G c nd TB, ev_g__law_pseudo KX G c nd TB, ev_a__law_pseudo KX G c nd TB, ev_D__law_pseudo KX G c nd TB, ev_g_law KX G c nd TB, ev_a_law KX G c nd TB, ev_D_law KX G c nd TB, ev_T_common_marks KX G c nd TB, ev_p_common_marks KX G c nd TB, ev_q_common_marks KX G c nd TB, ev_T_common_things KX G c nd TB, ev_p_common_things KX G c nd TB, ev_q_common_things KX G c nd TB, ev_T_is_part KX G c nd TB, ev_p_is_part KX G c nd TB, ev_q_is_part KX G c nd TB, ev_T_base KX G c nd TB, ev_l_base KX G c nd TB, ev_u_base KX G c nd TB⟩
theorem fn_law {W : Wd} {base : Heap} {fd : FuncData} (V : Ev W base) (hl : W.lam = none) (F : FunD W.K "law" "law" (defArgs (top 25)) (defBody (top 25)) (defScope (top 25)) [] [] (He.fAd W.K ("law", none)) fd) : FnOk W.P W.w W.K W.mg base W.cx 12 (He.fAd W.K ("law", none)) fd ["script"] (spF W 1 S_law) :=
  fnOk_of V.cx F sc_law (body_law V hl (ok__law_box V) (ok__law_table V) (ok__law_rows V) (ok__law_pseudo V) (ok__law_set V) (ok__law_closure V) (ok_base V hl) (ok__law_same V) (ok__law_draw V) (ok__law_number V) (ok_holds V) (ok_follow_paper V))
end K46
open PySem PySem.W PySem.Calls PyProof.Rows
theorem K46.walk : WalkO (view (OpenLaw.row PySem.Challenge.rw_backtohand_k46_whole_base).prog [25]) K46.names (XL (view (OpenLaw.row PySem.Challenge.rw_backtohand_k46_whole_base).prog [25]) []) K46.hk.says (OpenLaw.row PySem.Challenge.rw_backtohand_k46_whole_base).toRowW (HandSHeadRun.topDef (OpenLaw.row PySem.Challenge.rw_backtohand_k46_whole_base).prog 25) [] fun f vs => PySem.call f vs := by
    refine LamX.walk_ofTsE (l := PySem.Challenge.rw_backtohand_k46_whole_base) (n := 63) (k := 12) (x := "script") (CX := fun _ => L2.CX0) rfl (by decide) rfl ⟨rfl, by decide, by decide⟩ (fun w mg fa h Y G hm => ?_) fun w H s e s' z => z
    obtain ⟨K, KX, c⟩ := Y
    have nd : (K46.tf.map fun p => (He.cT K p).2).Nodup := of_decide_eq_true c.more
    have e1 : mg "law" = some (.ref (He.fAd K ("law", none))) := He.glo_ok KX G (c.t.d.fact 21 (f := .glo "law"))
    obtain rfl : fa = He.fAd K ("law", none) := by
      rw [show (HandSHeadRun.topDef (OpenLaw.row PySem.Challenge.rw_backtohand_k46_whole_base).prog 25).name = "law" from rfl, e1] at hm
      injection hm with z
      injection z with z
      exact z.symm
    obtain ⟨fd, F⟩ := c.t.d.def_ 21 (d := K46.D_law)
    refine ⟨K, KX, PD.lawAtS_of (W := K46.WW w K mg) (F := K46.S_law) (cs := K46.tf.map (He.cT K)) (fun p hp => ?_) (fun p hp => ?_) (fun p hp => ?_) F (fun _ _ _ _ _ _ us hl => match us, hl with | [_], _ => rfl) (fun P hP => ?_) (fun q hq => ?_) (by decide) (fun p ns st h1 h2 => K46.law_ok h1 h2) fun base _ hg TB => K46.fn_law (K46.ev_ok KX G c nd TB) rfl F⟩
    · obtain ⟨x, hx, rfl⟩ := List.mem_map.mp hp
      exact c.empty x hx
    · obtain ⟨x, hx, rfl⟩ := List.mem_map.mp hp
      exact c.out x hx
    · obtain ⟨x, hx, rfl⟩ := List.mem_map.mp hp
      exact codeHd_of_K KX (c.hd x hx)
    · exact (List.mem_cons.mp hP).elim (fun e => ⟨_, List.mem_map.mpr ⟨("common_marks", none), (.head _), rfl⟩, e.symm⟩) fun hP => (List.mem_cons.mp hP).elim (fun e => ⟨_, List.mem_map.mpr ⟨("common_things", none), (.tail _ (.head _)), rfl⟩, e.symm⟩) fun hP => (List.mem_cons.mp hP).elim (fun e => ⟨_, List.mem_map.mpr ⟨("is_part", none), (.tail _ (.tail _ (.head _))), rfl⟩, e.symm⟩) fun hP => nomatch hP
    · exact (List.mem_cons.mp hq).elim (fun e => ⟨_, List.mem_map.mpr ⟨("base", none), (.tail _ (.tail _ (.tail _ (.head _)))), rfl⟩, by rw [e]⟩) fun hq => nomatch hq
theorem PySem.Challenge.cw_backtohand_k46_whole_base_holds : PySem.Challenge.rw_backtohand_k46_whole_base.Holds := by
  w_on; o_law
  refine HandSHeadRun.head_any (r := OpenLaw.row PySem.Challenge.rw_backtohand_k46_whole_base) (q := view (OpenLaw.row PySem.Challenge.rw_backtohand_k46_whole_base).prog [25]) (H := K46.hk) (ob := K46.ob) (M := 4000) (loose := K46.names) (d := HandSHeadRun.topDef (OpenLaw.row PySem.Challenge.rw_backtohand_k46_whole_base).prog 25) (kwd := []) K46.ob_eq
    (by kernel_rfl) (fun s => by kernel_rfl) K46.run (by kernel_rfl) (by kernel_rfl) (by kernel_rfl) (by rfl) (by first | assumption | decide +kernel) (by decide +kernel) ⟨rfl, rfl, rfl, rfl, rfl, by decide +kernel⟩ ?hw ?hc
  case hw => w_witness2
  case hc => exact K46.walk
