import PyProof.Rows.All
import Wide.All
import OpenK.AllK
import Wide.FinOn
import HandS.ForMost
import HandS.SortInts
import HandS.IsInst
import HandS.TupAny
import HandS.Flow
import HandS.Deep
import HandS.EndBits
import PySem.Challenge.RW_allbranches_k02_odd_sets
set_option Elab.async false
set_option linter.all false
set_option maxRecDepth 100000
set_option autoImplicit false
set_option relaxedAutoImplicit false
namespace Ab
open PySem PySem.Spec PyProof.Rows L2
abbrev D := PyData
abbrev KF := PySem.W.Frag
abbrev Line : Nat := 16777216
theorem le_line {n : Nat} (h : n ≤ Line) : n ≤ sizeLine := by rw [sizeLine_eq]; exact h
theorem lt_line {n : Nat} (h : n < Line) : n < sizeLine := by rw [sizeLine_eq]; exact h
theorem of_line {n : Nat} (h : n ≤ sizeLine) : n ≤ Line := by rw [sizeLine_eq] at h; exact h
/-! ### values as data, in a part Hf of the heap that is never written -/
mutual
inductive Rp (K : KF) (H : Hp) : V → D → Prop
  | non : Rp K H .non .none
  | bl (b : Bool) : Rp K H (.bl b) (.bool b)
  | int (i : Int) : Rp K H (.int i) (.int i)
  | str (x : Str) (ok : PySem.PyData.strOk x = true) : Rp K H (.str x) (.str x)
  | lst {a : Addr} {xs : List V} {ds : List D} : Rd H a (.lst xs) → xs.length ≤ Line → RpAll K H xs ds → Rp K H (.ref a) (.list ds)
  | tup {a : Addr} {xs : List V} {ds : List D} : SqT K H a xs → xs.length ≤ Line → RpAll K H xs ds → Rp K H (.ref a) (.tuple ds)
inductive RpAll (K : KF) (H : Hp) : List V → List D → Prop
  | nil : RpAll K H [] []
  | cons {v : V} {vs : List V} {d : D} {ds : List D} : Rp K H v d → RpAll K H vs ds → RpAll K H (v :: vs) (d :: ds)
end
/-- what is tracked in Hf is so in H -/
def Sub (Hf H : Hp) : Prop := ∀ a o, Hf a = some o → H a = some o
theorem Sub.refl (H : Hp) : Sub H H := fun _ _ h => h
theorem Sub.trans {A B C : Hp} (h : Sub A B) (k : Sub B C) : Sub A C := fun a o e => k a o (h a o e)
theorem Sub.seq {K : KF} {H H' : Hp} {a : Addr} {xs : List V} (e : Sub H H') (h : SqL K H a xs) : SqL K H' a xs := by
  rcases h with (h | ⟨o, h⟩) | h
  · exact .inl (.inl (e _ _ h))
  · exact .inl (.inr ⟨o, e _ _ h⟩)
  · exact .inr h
theorem Sub.rd {H H' : Hp} {a : Addr} {u : HO} (e : Sub H H') (h : Rd H a u) : Rd H' a u := by
  rcases h with h | ⟨o, h⟩
  · exact .inl (e _ _ h)
  · exact .inr ⟨o, e _ _ h⟩
theorem Sub.tup {K : KF} {H H' : Hp} {a : Addr} {xs : List V} (e : Sub H H') (h : SqT K H a xs) : SqT K H' a xs := by
  rcases h with (h | ⟨o, h⟩) | h
  · exact .inl (.inl (e _ _ h))
  · exact .inl (.inr ⟨o, e _ _ h⟩)
  · exact .inr h
mutual
theorem Rp.mono {K : KF} {H H' : Hp} (e : Sub H H') : ∀ (d : D) (v : V), Rp K H v d → Rp K H' v d
  | .none, _, h => by cases h; exact .non
  | .bool b, _, h => by cases h; exact .bl b
  | .int i, _, h => by cases h; exact .int i
  | .str x, _, h => by cases h with | str _ ok => exact .str x ok
  | .list ds, _, h => by cases h with | lst s z r => exact .lst (e.rd s) z (RpAll.mono e ds _ r)
  | .tuple ds, _, h => by cases h with | tup s z r => exact .tup (e.tup s) z (RpAll.mono e ds _ r)
  | .dict _, _, h => by cases h
theorem RpAll.mono {K : KF} {H H' : Hp} (e : Sub H H') : ∀ (ds : List D) (vs : List V), RpAll K H vs ds → RpAll K H' vs ds
  | [], _, h => by cases h; exact .nil
  | d :: ds, _, h => by cases h with | cons r t => exact .cons (Rp.mono e d _ r) (RpAll.mono e ds _ t)
end
theorem Rp.up {K : KF} {H H' : Hp} {v : V} {d : D} (h : Rp K H v d) (e : Sub H H') : Rp K H' v d := Rp.mono e d v h
theorem RpAll.up {K : KF} {H H' : Hp} {v : List V} {d : List D} (h : RpAll K H v d) (e : Sub H H') : RpAll K H' v d := RpAll.mono e d v h
mutual
theorem Rp.dp {K : KF} {H : Hp} : ∀ (d : D) (v : V), Rp K H v d → Dp K H v d ∧ d.canLay0 = true
  | .none, _, h => by cases h; exact ⟨.non, rfl⟩
  | .bool b, _, h => by cases h; exact ⟨.bl b, rfl⟩
  | .int i, _, h => by cases h; exact ⟨.int i, rfl⟩
  | .str x, _, h => by cases h with | str _ ok => exact ⟨.str x, ok⟩
  | .list ds, _, h => by
    cases h with | lst s z r =>
    have q := RpAll.dp ds _ r
    exact ⟨.lst (.inl s) q.1, q.2⟩
  | .tuple ds, _, h => by
    cases h with | tup s z r =>
    have q := RpAll.dp ds _ r
    exact ⟨.tup s q.1, q.2⟩
  | .dict _, _, h => by cases h
theorem RpAll.dp {K : KF} {H : Hp} : ∀ (ds : List D) (vs : List V), RpAll K H vs ds → DpAll K H vs ds ∧ PyData.canLayAll0 ds = true
  | [], _, h => by cases h; exact ⟨.nil, rfl⟩
  | d :: ds, _, h => by
    cases h with | cons r t =>
    have q1 := Rp.dp d _ r
    have q2 := RpAll.dp ds _ t
    exact ⟨.cons q1.1 q2.1, by show (d.canLay0 && PyData.canLayAll0 ds) = true; rw [q1.2, q2.2]; rfl⟩
end
theorem RpAll.len {K : KF} {H : Hp} : ∀ {vs : List V} {ds : List D}, RpAll K H vs ds → vs.length = ds.length
  | _, [], h => by cases h; rfl
  | _, _ :: ds, h => by cases h with | cons _ t => exact congrArg (· + 1) (RpAll.len t)
theorem RpAll.get {K : KF} {H : Hp} : ∀ {vs : List V} {ds : List D} {i : Nat} {d : D}, RpAll K H vs ds → ds[i]? = some d → ∃ v, vs[i]? = some v ∧ Rp K H v d
  | _, [], _, _, _, e => by simp at e
  | _, _ :: ds, 0, d, h, e => by
    cases h with | cons r t =>
    simp at e
    subst e
    exact ⟨_, rfl, r⟩
  | _, _ :: ds, i + 1, d, h, e => by
    cases h with | cons r t =>
    obtain ⟨v, h1, h2⟩ := RpAll.get (i := i) (d := d) t (by simpa using e)
    exact ⟨v, by simpa using h1, h2⟩
theorem RpAll.getV {K : KF} {H : Hp} {vs : List V} {ds : List D} {i : Nat} {v : V} (h : RpAll K H vs ds) (e : vs[i]? = some v) : ∃ d, ds[i]? = some d ∧ Rp K H v d := by
  obtain ⟨hi, _⟩ := List.getElem?_eq_some_iff.mp e
  have hj : i < ds.length := by rw [← h.len]; exact hi
  obtain ⟨w, h1, h2⟩ := h.get (List.getElem?_eq_getElem hj)
  rw [e] at h1
  cases h1
  exact ⟨_, List.getElem?_eq_getElem hj, h2⟩
theorem RpAll.append {K : KF} {H : Hp} : ∀ {vs ws : List V} {ds es : List D}, RpAll K H vs ds → RpAll K H ws es → RpAll K H (vs ++ ws) (ds ++ es)
  | _, _, [], _, h, k => by cases h; exact k
  | _, _, _ :: ds, _, h, k => by cases h with | cons r t => exact .cons r (RpAll.append t k)
theorem RpAll.one {K : KF} {H : Hp} {v : V} {d : D} (h : Rp K H v d) : RpAll K H [v] [d] := .cons h .nil
theorem RpAll.take {K : KF} {H : Hp} : ∀ (n : Nat) {vs : List V} {ds : List D}, RpAll K H vs ds → RpAll K H (vs.take n) (ds.take n)
  | 0, _, _, _ => by simp; exact .nil
  | n + 1, _, [], h => by cases h; exact .nil
  | n + 1, _, _ :: _, h => by cases h with | cons r t => exact .cons r (RpAll.take n t)
theorem RpAll.drop {K : KF} {H : Hp} : ∀ (n : Nat) {vs : List V} {ds : List D}, RpAll K H vs ds → RpAll K H (vs.drop n) (ds.drop n)
  | 0, _, _, h => h
  | n + 1, _, [], h => by cases h; exact .nil
  | n + 1, _, _ :: _, h => by cases h with | cons r t => exact RpAll.drop n t
theorem RpAll.set {K : KF} {H : Hp} {v : V} {d : D} (r : Rp K H v d) : ∀ (i : Nat) {vs : List V} {ds : List D}, RpAll K H vs ds → RpAll K H (vs.set i v) (ds.set i d)
  | _, _, [], h => by cases h; exact .nil
  | 0, _, _ :: _, h => by cases h with | cons _ t => exact .cons r t
  | i + 1, _, _ :: _, h => by cases h with | cons q t => exact .cons q (RpAll.set r i t)
theorem RpAll.ints {K : KF} {H : Hp} : ∀ {ns : List Int} {vs : List V}, RpAll K H vs (ns.map PyData.int) → vs = ns.map V.int
  | [], _, h => by cases h; rfl
  | n :: ns, _, h => by
    cases h with | cons r t =>
    cases r
    rw [RpAll.ints t]
    rfl
theorem RpAll.ofInts {K : KF} {H : Hp} : ∀ (ns : List Int), RpAll K H (ns.map V.int) (ns.map PyData.int)
  | [] => .nil
  | n :: ns => .cons (.int n) (RpAll.ofInts ns)
/-! ### what a slot holds: data, or an object of one's own -/
inductive Tr where
  | imm (d : D)
  | lst (ds : List D)
  | rnd (cells : List Int) (seed : Int)
  | dct (kvs : List (Key × D))
  | dcT (kvs : List (List Key × D))
  | scr (ns : List Int)
def KvRp {κ : Type} (K : KF) (H : Hp) : List (κ × V) → List (κ × D) → Prop := Paired fun p q => p.1 = q.1 ∧ Rp K H p.2 q.2
/-- v is T; the addresses of one's own at as -/
def Holds (K : KF) (Hf H : Hp) (v : V) (T : Tr) (as : List Addr) : Prop :=
  match T with
  | .imm d => as = [] ∧ Rp K Hf v d
  | .lst ds => ∃ a xs, v = .ref a ∧ as = [a] ∧ H a = some (.lst xs) ∧ xs.length ≤ Line ∧ RpAll K Hf xs ds
  | .rnd cs n => ∃ a b, v = .ref a ∧ as = [a, b] ∧ a ≠ b ∧ H a = some (.lst [.ref b, .int n]) ∧ H b = some (.lst (cs.map V.int)) ∧ cs.length ≤ Line
  | .dct kvs => ∃ a ws, v = .ref a ∧ as = [a] ∧ H a = some (.dK ws) ∧ KvRp K Hf ws kvs
  | .dcT kvs => ∃ a ws, v = .ref a ∧ as = [a] ∧ H a = some (.dT ws) ∧ KvRp K Hf ws kvs
  | .scr ns => as = [] ∧ ∃ a, v = .ref a ∧ SqL K Hf a (ns.map V.int) ∧ ns.length ≤ Line
theorem KvRp.up {κ : Type} {K : KF} {H H' : Hp} {ws : List (κ × V)} {kvs : List (κ × D)} (h : KvRp K H ws kvs) (e : Sub H H') : KvRp K H' ws kvs :=
  Paired.mapP h fun _ _ q => ⟨q.1, q.2.up e⟩
/-- kept where Hf grows and the own objects stand -/
theorem Holds.up {K : KF} {Hf H Hf' H' : Hp} {v : V} {T : Tr} {as : List Addr} (h : Holds K Hf H v T as) (e : Sub Hf Hf') (k : ∀ a ∈ as, ∀ o, H a = some o → H' a = some o) : Holds K Hf' H' v T as := by
  cases T with
  | imm d => exact ⟨h.1, h.2.up e⟩
  | lst ds => obtain ⟨a, xs, rfl, rfl, h1, z, h2⟩ := h; exact ⟨a, xs, rfl, rfl, k a (by simp) _ h1, z, h2.up e⟩
  | rnd cs n => obtain ⟨a, b, rfl, rfl, ne, h1, h2, z⟩ := h; exact ⟨a, b, rfl, rfl, ne, k a (by simp) _ h1, k b (by simp) _ h2, z⟩
  | dct kvs => obtain ⟨a, xs, rfl, rfl, h1, h2⟩ := h; exact ⟨a, xs, rfl, rfl, k a (by simp) _ h1, h2.up e⟩
  | dcT kvs => obtain ⟨a, xs, rfl, rfl, h1, h2⟩ := h; exact ⟨a, xs, rfl, rfl, k a (by simp) _ h1, h2.up e⟩
  | scr ns => obtain ⟨rfl, a, rfl, h1, h2⟩ := h; exact ⟨rfl, a, rfl, e.seq h1, h2⟩
theorem Holds.there {K : KF} {Hf H : Hp} {v : V} {T : Tr} {as : List Addr} (h : Holds K Hf H v T as) {a : Addr} (ha : a ∈ as) : H a ≠ none := by
  cases T with
  | imm d => obtain ⟨rfl, _⟩ := h; simp at ha
  | lst ds => obtain ⟨b, xs, rfl, rfl, h1, h2⟩ := h; simp at ha; subst ha; rw [h1]; simp
  | rnd cs n =>
    obtain ⟨b, c, rfl, rfl, ne, h1, h2, z⟩ := h
    simp at ha
    rcases ha with rfl | rfl
    · rw [h1]; simp
    · rw [h2]; simp
  | dct kvs => obtain ⟨b, xs, rfl, rfl, h1, h2⟩ := h; simp at ha; subst ha; rw [h1]; simp
  | dcT kvs => obtain ⟨b, xs, rfl, rfl, h1, h2⟩ := h; simp at ha; subst ha; rw [h1]; simp
  | scr ns => obtain ⟨rfl, _⟩ := h; simp at ha
abbrev Dl := List (Nat × Option Tr)
def lk : Dl → Nat → Option Tr
  | [], _ => none
  | (j, T) :: r, i => match Nat.beq i j with | true => T | false => lk r i
theorem lk_self (j : Nat) (T : Option Tr) (r : Dl) : lk ((j, T) :: r) j = T := by
  show (match Nat.beq j j with | true => T | false => lk r j) = T
  rw [show Nat.beq j j = true from Nat.beq_refl j]
theorem lk_ne {i j : Nat} (h : i ≠ j) (T : Option Tr) (r : Dl) : lk ((j, T) :: r) i = lk r i := by
  show (match Nat.beq i j with | true => T | false => lk r i) = lk r i
  rw [show Nat.beq i j = false from by
    cases e : Nat.beq i j with
    | false => rfl
    | true => exact absurd (Nat.eq_of_beq_eq_true e) h]
/-- the frame's slots; A: the own addresses by slot -/
structure Sat (K : KF) (σ : L2.St) (H Hf : Hp) (Δ : Dl) (A : Nat → List Addr) : Prop where
  sub : Sub Hf H
  slot : ∀ i T, lk Δ i = some T → ∃ v, σ[i]? = some (some v) ∧ Holds K Hf H v T (A i)
  own : ∀ i a, a ∈ A i → Hf a = none ∧ H a ≠ none
  inj : ∀ i j a, a ∈ A i → a ∈ A j → i = j
/-- nothing that was tracked is written; Hf grows by new objects -/
structure Ext (H Hf H' Hf' : Hp) : Prop where
  keep : Sub H H'
  grow : Sub Hf Hf'
  news : ∀ a, Hf' a ≠ none → Hf a ≠ none ∨ H a = none
theorem Ext.refl (H Hf : Hp) : Ext H Hf H Hf := ⟨Sub.refl H, Sub.refl Hf, fun _ h => .inl h⟩
theorem Sub.non {Hf H : Hp} (h : Sub Hf H) {a : Addr} (n : H a = none) : Hf a = none := by
  cases e : Hf a with
  | none => rfl
  | some o => rw [h a o e] at n; cases n
theorem Ext.trans {H Hf H1 Hf1 H2 Hf2 : Hp} (a : Ext H Hf H1 Hf1) (b : Ext H1 Hf1 H2 Hf2) : Ext H Hf H2 Hf2 :=
  ⟨a.keep.trans b.keep, a.grow.trans b.grow, fun x h => by
    rcases b.news x h with q | q
    · exact a.news x q
    · exact .inr (a.keep.non q)⟩
/-- the same, but for the addresses at M -/
structure ExtB (M : List Addr) (H Hf H' Hf' : Hp) : Prop where
  keep : ∀ a o, a ∉ M → H a = some o → H' a = some o
  there : ∀ a, a ∈ M → H a ≠ none → H' a ≠ none
  grow : Sub Hf Hf'
  news : ∀ a, Hf' a ≠ none → Hf a ≠ none ∨ H a = none
theorem Ext.toB {M : List Addr} {H Hf H' Hf' : Hp} (e : Ext H Hf H' Hf') : ExtB M H Hf H' Hf' :=
  ⟨fun a o _ h => e.keep a o h, fun a _ h => by
    cases q : H a with
    | none => exact absurd q h
    | some o => rw [e.keep a o q]; simp, e.grow, e.news⟩
theorem ExtB.there' {M : List Addr} {H Hf H' Hf' : Hp} (e : ExtB M H Hf H' Hf') {a : Addr} (h : H a ≠ none) : H' a ≠ none := by
  by_cases m : a ∈ M
  · exact e.there a m h
  · cases q : H a with
    | none => exact absurd q h
    | some o => rw [e.keep a o m q]; simp
theorem ExtB.trans {M : List Addr} {H Hf H1 Hf1 H2 Hf2 : Hp} (a : ExtB M H Hf H1 Hf1) (b : ExtB M H1 Hf1 H2 Hf2) : ExtB M H Hf H2 Hf2 :=
  ⟨fun x o m h => b.keep x o m (a.keep x o m h), fun x m h => b.there x m (a.there x m h), a.grow.trans b.grow, fun x h => by
    rcases b.news x h with q | q
    · exact a.news x q
    · refine .inr ?_
      cases e : H x with
      | none => rfl
      | some o => exact absurd q (a.there' (by rw [e]; simp))⟩
theorem Sat.up {K : KF} {σ : L2.St} {H Hf H' Hf' : Hp} {Δ : Dl} {A : Nat → List Addr} (s : Sat K σ H Hf Δ A) (e : Ext H Hf H' Hf') (sub : Sub Hf' H') : Sat K σ H' Hf' Δ A where
  sub := sub
  slot := fun i T h => by
    obtain ⟨v, h1, h2⟩ := s.slot i T h
    exact ⟨v, h1, h2.up e.grow fun a _ o q => e.keep a o q⟩
  own := fun i a h => by
    obtain ⟨h1, h2⟩ := s.own i a h
    refine ⟨?_, ?_⟩
    · cases q : Hf' a with
      | none => rfl
      | some o =>
        rcases e.news a (by rw [q]; simp) with z | z
        · exact absurd h1 z
        · exact absurd z h2
    · cases q : H a with
      | none => exact absurd q h2
      | some o => rw [e.keep a o q]; simp
  inj := s.inj
/-- a new object at p, tracked in both -/
theorem Ext.new {H Hf : Hp} {p : Addr} {o : HO} (n : H p = none) (s : Sub Hf H) : Ext H Hf (upd H p o) (upd Hf p o) :=
  ⟨fun a u e => by rw [upd_ne (ne_of_none e n)]; exact e, fun a u e => by rw [upd_ne (ne_of_none e (s.non n))]; exact e, fun a h => by
    by_cases q : a = p
    · subst q; exact .inr n
    · rw [upd_ne q] at h; exact .inl h⟩
theorem Sub.new {H Hf : Hp} {p : Addr} {o : HO} (s : Sub Hf H) : Sub (upd Hf p o) (upd H p o) := fun a u e => by
  by_cases q : a = p
  · subst q; rw [upd_same] at e ⊢; exact e
  · rw [upd_ne q] at e ⊢; exact s a u e
/-- a new object at p, tracked in H alone -/
theorem Ext.newO {H Hf : Hp} {p : Addr} {o : HO} (n : H p = none) : Ext H Hf (upd H p o) Hf :=
  ⟨fun a u e => by rw [upd_ne (ne_of_none e n)]; exact e, Sub.refl _, fun a h => .inl h⟩
theorem Sub.newO {H Hf : Hp} {p : Addr} {o : HO} (n : H p = none) (s : Sub Hf H) : Sub Hf (upd H p o) := fun a u e => by
  rw [upd_ne (ne_of_none (s a u e) n)]; exact s a u e
/-! ### readings in their greatest form -/
def tE (X : Cx) (e : Expr) : TE := fun σ H Q => ∀ pins s, Inv X pins σ H s → wpAny (model X.prog X.w) X.A (eval e X.env) (EP X pins σ Q) X.xe s
theorem pE (X : Cx) (e : Expr) : PE X e (tE X e) := ⟨fun pins s _ _ _ I h => h pins s I⟩
theorem tE_of {X : Cx} {e : Expr} {t : TE} (p : PE X e t) {σ : L2.St} {H : Hp} {Q : VK} (h : t σ H Q) : tE X e σ H Q := fun pins s I => p.run pins s σ H Q I h
theorem tE_inv {X : Cx} {e : Expr} {σ : L2.St} {H : Hp} {Q : VK} (h : ∀ pins s, Inv X pins σ H s → tE X e σ H Q) : tE X e σ H Q := fun pins s I => h pins s I pins s I
def tT (X : Cx) (e : Expr) : TT := fun σ H Q => ∀ pins s, Inv X pins σ H s → wpAny (model X.prog X.w) X.A (isTrue e X.env (eval e X.env)) (TP X pins σ Q) X.xe s
theorem pT (X : Cx) (e : Expr) : PT X e (tT X e) := ⟨fun pins s _ _ _ I h => h pins s I⟩
theorem tT_of {X : Cx} {e : Expr} {t : TT} (p : PT X e t) {σ : L2.St} {H : Hp} {Q : Bool → Hp → Prop} (h : t σ H Q) : tT X e σ H Q := fun pins s I => p.run pins s σ H Q I h
def tA (X : Cx) (es : List Expr) : TA := fun σ H Q => ∀ (pos : Pos) pins s, Inv X pins σ H s → wpAny (model X.prog X.w) X.A (spliced (backTo pos (starEach es X.env))) (AP X pins σ Q) X.xe s
theorem pA (X : Cx) (es : List Expr) : PA X es (tA X es) := ⟨fun pos pins s _ _ _ I h => h pos pins s I⟩
theorem tA_of {X : Cx} {e : List Expr} {t : TA} (p : PA X e t) {σ : L2.St} {H : Hp} {Q : List V → Hp → Prop} (h : t σ H Q) : tA X e σ H Q := fun pos pins s I => p.run pos pins s σ H Q I h
def tS (X : Cx) (st : List Stmt) : TS := fun Dn σ H => ∀ pins s, Inv X pins σ H s → wpAny (model X.prog X.w) X.A (execs st X.env) (SP X pins Dn) X.xe s
theorem pS (X : Cx) (st : List Stmt) : PSs X st (tS X st) := ⟨fun pins s _ _ _ I h => h pins s I⟩
theorem tS_of {X : Cx} {st : List Stmt} {t : TS} (p : PSs X st t) {σ : L2.St} {H : Hp} {Dn : Ends} (h : t Dn σ H) : tS X st Dn σ H := fun pins s I => p.run pins s σ H Dn I h
theorem tS_inv {X : Cx} {st : List Stmt} {σ : L2.St} {H : Hp} {Dn : Ends} (h : ∀ pins s, Inv X pins σ H s → tS X st Dn σ H) : tS X st Dn σ H := fun pins s I => h pins s I pins s I
/-! ### the judgements -/
/-- e, in Δ, is E b where m = some b; nothing of one's own is touched -/
def EPu (X : Cx) (Δ : Dl) (e : Expr) {α : Type} (m : Option α) (E : α → D) : Prop :=
  ∀ b, m = some b → ∀ (σ : L2.St) (H Hf : Hp) (A : Nat → List Addr) (Q : VK), Sat X.K σ H Hf Δ A →
    (∀ v H' Hf', Sat X.K σ H' Hf' Δ A → Ext H Hf H' Hf' → Rp X.K Hf' v (E b) → Q v H') → tE X e σ H Q
/-- .. as a test -/
def TPu (X : Cx) (Δ : Dl) (e : Expr) (m : Option Bool) : Prop :=
  ∀ b, m = some b → ∀ (σ : L2.St) (H Hf : Hp) (A : Nat → List Addr) (Q : Bool → Hp → Prop), Sat X.K σ H Hf Δ A →
    (∀ H' Hf', Sat X.K σ H' Hf' Δ A → Ext H Hf H' Hf' → Q b H') → tT X e σ H Q
/-- arguments -/
def APu (X : Cx) (Δ : Dl) (es : List Expr) {α : Type} (m : Option α) (E : α → List D) : Prop :=
  ∀ b, m = some b → ∀ (σ : L2.St) (H Hf : Hp) (A : Nat → List Addr) (Q : List V → Hp → Prop), Sat X.K σ H Hf Δ A →
    (∀ vs H' Hf', Sat X.K σ H' Hf' Δ A → Ext H Hf H' Hf' → RpAll X.K Hf' vs (E b) → Q vs H') → tA X es σ H Q
end Ab
namespace Ab
open PySem PySem.Spec PyProof.Rows L2
/-! ### the state of a def: what it was handed to be changed, by slots -/
structure Io (S : Type) where
  ix : List Nat
  tr : S → Dl
  keys : ∀ s, (tr s).map (·.1) = ix
abbrev io0 : Io Unit := ⟨[], fun _ => [], fun _ => rfl⟩
/-- one of them, at slot i -/
abbrev io1 {S : Type} (rt : S → Tr) (i : Nat) : Io S := ⟨[i], fun s => [(i, some (rt s))], fun _ => rfl⟩
/-- nothing is written but one's own; Hf grows by new objects -/
structure ExtA (A : Nat → List Addr) (H Hf H' Hf' : Hp) : Prop where
  keep : ∀ a o, (∀ i, a ∉ A i) → H a = some o → H' a = some o
  there : ∀ a, H a ≠ none → H' a ≠ none
  grow : Sub Hf Hf'
  news : ∀ a, Hf' a ≠ none → Hf a ≠ none ∨ H a = none
theorem not_none {H : Hp} {a : Addr} (h : H a ≠ none) : ∃ o, H a = some o := by
  cases e : H a with
  | none => exact absurd e h
  | some o => exact ⟨o, rfl⟩
theorem Ext.toA {A : Nat → List Addr} {H Hf H' Hf' : Hp} (e : Ext H Hf H' Hf') : ExtA A H Hf H' Hf' :=
  ⟨fun a o _ h => e.keep a o h, fun a h => by obtain ⟨o, q⟩ := not_none h; rw [e.keep a o q]; simp, e.grow, e.news⟩
theorem ExtA.refl (A : Nat → List Addr) (H Hf : Hp) : ExtA A H Hf H Hf := (Ext.refl H Hf).toA
theorem ExtA.trans {A : Nat → List Addr} {H Hf H1 Hf1 H2 Hf2 : Hp} (a : ExtA A H Hf H1 Hf1) (b : ExtA A H1 Hf1 H2 Hf2) : ExtA A H Hf H2 Hf2 :=
  ⟨fun x o m h => b.keep x o m (a.keep x o m h), fun x h => b.there x (a.there x h), a.grow.trans b.grow, fun x h => by
    rcases b.news x h with q | q
    · exact a.news x q
    · refine .inr ?_
      cases e : H x with
      | none => rfl
      | some o => exact absurd q (a.there x (by rw [e]; simp))⟩
section
variable {X : Cx} {S : Type} {ι : Io S} {Δ : Dl} {s : S} {R : Type}
/-- e, in Δ and the state s: M tells what comes of it, E what the value is -/
def EX (X : Cx) {S : Type} (ι : Io S) (Δ : Dl) (s : S) (e : Expr) {α R : Type} (M : (α → S → Option R) → Option R) (E : α → D) : Prop :=
  ∀ k r, M k = some r → ∀ (σ : L2.St) (H Hf : Hp) (A : Nat → List Addr) (Q : VK), Sat X.K σ H Hf (ι.tr s ++ Δ) A →
    (∀ x s', k x s' = some r → ∀ v H' Hf', Sat X.K σ H' Hf' (ι.tr s' ++ Δ) A → ExtA A H Hf H' Hf' → Rp X.K Hf' v (E x) → Q v H') → tE X e σ H Q
/-- a test -/
def TX (X : Cx) {S : Type} (ι : Io S) (Δ : Dl) (s : S) (e : Expr) {R : Type} (M : (Bool → S → Option R) → Option R) : Prop :=
  ∀ k r, M k = some r → ∀ (σ : L2.St) (H Hf : Hp) (A : Nat → List Addr) (Q : Bool → Hp → Prop), Sat X.K σ H Hf (ι.tr s ++ Δ) A →
    (∀ x s', k x s' = some r → ∀ H' Hf', Sat X.K σ H' Hf' (ι.tr s' ++ Δ) A → ExtA A H Hf H' Hf' → Q x H') → tT X e σ H Q
/-- arguments -/
def AX (X : Cx) {S : Type} (ι : Io S) (Δ : Dl) (s : S) (es : List Expr) {α R : Type} (M : (α → S → Option R) → Option R) (E : α → List D) : Prop :=
  ∀ k r, M k = some r → ∀ (σ : L2.St) (H Hf : Hp) (A : Nat → List Addr) (Q : List V → Hp → Prop), Sat X.K σ H Hf (ι.tr s ++ Δ) A →
    (∀ x s', k x s' = some r → ∀ vs H' Hf', Sat X.K σ H' Hf' (ι.tr s' ++ Δ) A → ExtA A H Hf H' Hf' → RpAll X.K Hf' vs (E x) → Q vs H') → tA X es σ H Q
/-! ### the words of the mirrors -/
@[reducible] def guardM {R : Type} (c : Prop) [Decidable c] (m : Option R) : Option R := if c then m else none
theorem guardM_some {R : Type} {c : Prop} [Decidable c] {m : Option R} {r : R} (h : guardM c m = some r) : c ∧ m = some r := by
  unfold guardM at h
  split at h
  · exact ⟨by assumption, h⟩
  · cases h
theorem guardM_pos {R : Type} {c : Prop} [Decidable c] {m : Option R} (h : c) : guardM c m = m := if_pos h
/-! ### leaves -/
theorem ex_c {e : Expr} {v : V} {α : Type} {x : α} {E : α → D} (hp : PE X e (tC v)) (r : ∀ Hf, Rp X.K Hf v (E x)) : EX X ι Δ s e (R := R) (fun k => k x s) E := by
  intro k r' hk σ H Hf A Q st h
  exact tE_of hp (h x s hk v H Hf st (ExtA.refl _ _ _) (r Hf))
theorem ex_int {i j pos} : EX X ι Δ s (.Constant (.int i) j pos) (R := R) (fun k => k i s) PyData.int := ex_c pe_int fun _ => .int i
theorem ex_bool {i j pos} : EX X ι Δ s (.Constant (.bool i) j pos) (R := R) (fun k => k i s) PyData.bool := ex_c pe_bl fun _ => .bl i
theorem ex_str {x : Str} {j pos} (ok : PySem.PyData.strOk x = true := by rfl) : EX X ι Δ s (.Constant (.str x) j pos) (R := R) (fun k => k x s) PyData.str := ex_c pe_str fun _ => .str x ok
theorem ex_none {j pos} : EX X ι Δ s (.Constant .none j pos) (R := R) (fun k => k () s) (fun _ => PyData.none) := ex_c pe_non fun _ => .non
/-- the data that slot i holds -/
theorem ex_var (i : Nat) {x : Str} {pos : Pos} {α : Type} {a : α} {E : α → D} (hl : lk (ι.tr s ++ Δ) i = some (.imm (E a))) (hN : X.N[i]? = some x := by rfl)
    (hv : Vis X.env.scope x := by first | exact Or.inl rfl | exact Or.inr (Or.inl rfl) | exact Or.inr (Or.inr rfl)) (hd : (x == ("__debug__" : Str)) = false := by decide)
    (hcd : (x == ("__classdict__" : Str)) = false := by decide) : EX X ι Δ s (.Name x pos) (R := R) (fun k => k a s) E := by
  intro k r hk σ H Hf A Q st h
  obtain ⟨v, h1, h2⟩ := st.slot i _ hl
  exact tE_of (pe_var hN hv hd hcd) ⟨v, h1, h a s hk v H Hf st (ExtA.refl _ _ _) h2.2⟩
/-! ### operators -/
/-- r gives, of data, the data that g says, where C holds -/
def OpD (K : KF) (r : R2) {α β γ : Type} (Ea : α → D) (Eb : β → D) (Ec : γ → D) (C : α → β → Prop) (g : α → β → γ) : Prop :=
  ∀ (x : α) (y : β) (v w : V) (H Hf : Hp) (Q : VK), C x y → Sub Hf H → Rp K Hf v (Ea x) → Rp K Hf w (Eb y) → (∀ u H' Hf', Ext H Hf H' Hf' → Sub Hf' H' → Rp K Hf' u (Ec (g x y)) → Q u H') → r v w H Q
/-- .. where nothing new is made -/
theorem opD_of {K : KF} {r : R2} {α β γ : Type} {Ea : α → D} {Eb : β → D} {Ec : γ → D} {C : α → β → Prop} {g : α → β → γ}
    (h : ∀ (x : α) (y : β) (v w : V) (H Hf : Hp) (Q : VK), C x y → Sub Hf H → Rp K Hf v (Ea x) → Rp K Hf w (Eb y) → ∃ u, Rp K Hf u (Ec (g x y)) ∧ (Q u H → r v w H Q)) : OpD K r Ea Eb Ec C g :=
  fun x y v w H Hf Q c sb rv rw' q => by
    obtain ⟨u, h1, h2⟩ := h x y v w H Hf Q c sb rv rw'
    exact h2 (q u H Hf (Ext.refl _ _) sb h1)
variable {α β γ : Type} {Ea : α → D} {Eb : β → D} {Ec : γ → D} {a b : Expr} {pos : Pos}
variable {Ma : (α → S → Option R) → Option R} {Mb : S → (β → S → Option R) → Option R}
theorem ex_binG {t : R2} {e : Expr} {C : α → β → Prop} {g : α → β → γ} [∀ x y, Decidable (C x y)] (he : PE X e (tOp t (tE X a) (tE X b))) (hg : OpD X.K t Ea Eb Ec C g)
    (ha : EX X ι Δ s a Ma Ea) (hb : ∀ s1, EX X ι Δ s1 b (Mb s1) Eb) : EX X ι Δ s e (fun k => Ma fun x s1 => Mb s1 fun y s2 => guardM (C x y) (k (g x y) s2)) Ec := by
  intro k r hk σ H Hf A Q st h
  refine tE_of he (ha _ r hk σ H Hf A _ st fun x s1 hx v H1 Hf1 st1 e1 r1 => ?_)
  refine hb s1 _ r hx σ H1 Hf1 A _ st1 fun y s2 hy w H2 Hf2 st2 e2 r2 => ?_
  obtain ⟨c, hy⟩ := guardM_some hy
  refine hg x y v w H2 Hf2 Q c st2.sub (r1.up e2.grow) r2 fun u H3 Hf3 e3 sb r3 => ?_
  exact h _ s2 hy u H3 Hf3 (st2.up e3 sb) ((e1.trans e2).trans e3.toA) r3
theorem ex_binT {t : R2} {e : Expr} {g : α → β → γ} (he : PE X e (tOp t (tE X a) (tE X b))) (hg : OpD X.K t Ea Eb Ec (fun _ _ => True) g)
    (ha : EX X ι Δ s a Ma Ea) (hb : ∀ s1, EX X ι Δ s1 b (Mb s1) Eb) : EX X ι Δ s e (fun k => Ma fun x s1 => Mb s1 fun y s2 => k (g x y) s2) Ec := by
  intro k r hk σ H Hf A Q st h
  refine tE_of he (ha _ r hk σ H Hf A _ st fun x s1 hx v H1 Hf1 st1 e1 r1 => ?_)
  refine hb s1 _ r hx σ H1 Hf1 A _ st1 fun y s2 hy w H2 Hf2 st2 e2 r2 => ?_
  refine hg x y v w H2 Hf2 Q trivial st2.sub (r1.up e2.grow) r2 fun u H3 Hf3 e3 sb r3 => ?_
  exact h _ s2 hy u H3 Hf3 (st2.up e3 sb) ((e1.trans e2).trans e3.toA) r3
/-- ints -/
theorem opD_i0 {K : KF} {g : Int → Int → Int} : OpD K (rI0 fun i j => .int (g i j)) PyData.int PyData.int PyData.int (fun _ _ => True) g :=
  opD_of fun x y v w H Hf Q _ _ rv rw' => ⟨.int (g x y), .int _, fun q => by cases rv; cases rw'; exact ⟨x, y, rfl, rfl, q⟩⟩
theorem opD_i {K : KF} {g : Int → Int → Int} {C : Int → Int → Prop} : OpD K (rI C fun i j => .int (g i j)) PyData.int PyData.int PyData.int C g :=
  opD_of fun x y v w H Hf Q c _ rv rw' => ⟨.int (g x y), .int _, fun q => by cases rv; cases rw'; exact ⟨x, y, rfl, rfl, c, q⟩⟩
theorem opD_b0 {K : KF} {g : Int → Int → Bool} : OpD K (rI0 fun i j => .bl (g i j)) PyData.int PyData.int PyData.bool (fun _ _ => True) g :=
  opD_of fun x y v w H Hf Q _ _ rv rw' => ⟨.bl (g x y), .bl _, fun q => by cases rv; cases rw'; exact ⟨x, y, rfl, rfl, q⟩⟩
instance CMul.dec (i j : Int) : Decidable (CMul i j) := by unfold CMul; infer_instance
instance CDivN.dec (i j : Int) : Decidable (CDivN i j) := by unfold CDivN; infer_instance
instance CPow.dec (i j : Int) : Decidable (CPow i j) := by unfold CPow; infer_instance
section
variable {Na : (Int → S → Option R) → Option R} {Nb : S → (Int → S → Option R) → Option R}
theorem ex_add (ha : EX X ι Δ s a Na PyData.int) (hb : ∀ s1, EX X ι Δ s1 b (Nb s1) PyData.int) : EX X ι Δ s (.BinOp a .Add b pos) (fun k => Na fun x s1 => Nb s1 fun y s2 => k (x + y) s2) PyData.int :=
  ex_binT (pe_op op_add (pE X a) (pE X b)) opD_i0 ha hb
theorem ex_sub (ha : EX X ι Δ s a Na PyData.int) (hb : ∀ s1, EX X ι Δ s1 b (Nb s1) PyData.int) : EX X ι Δ s (.BinOp a .Sub b pos) (fun k => Na fun x s1 => Nb s1 fun y s2 => k (x - y) s2) PyData.int :=
  ex_binT (pe_op op_sub (pE X a) (pE X b)) opD_i0 ha hb
theorem ex_mul (ha : EX X ι Δ s a Na PyData.int) (hb : ∀ s1, EX X ι Δ s1 b (Nb s1) PyData.int) : EX X ι Δ s (.BinOp a .Mult b pos) (fun k => Na fun x s1 => Nb s1 fun y s2 => guardM (CMul x y) (k (x * y) s2)) PyData.int :=
  ex_binG (pe_op op_mul (pE X a) (pE X b)) opD_i ha hb
theorem ex_mod (ha : EX X ι Δ s a Na PyData.int) (hb : ∀ s1, EX X ι Δ s1 b (Nb s1) PyData.int) : EX X ι Δ s (.BinOp a .Mod b pos) (fun k => Na fun x s1 => Nb s1 fun y s2 => guardM (y ≠ 0) (k (x.fmod y) s2)) PyData.int :=
  ex_binG (C := fun _ y => y ≠ 0) (pe_op op_modN (pE X a) (pE X b)) opD_i ha hb
theorem ex_fdiv (ha : EX X ι Δ s a Na PyData.int) (hb : ∀ s1, EX X ι Δ s1 b (Nb s1) PyData.int) : EX X ι Δ s (.BinOp a .FloorDiv b pos) (fun k => Na fun x s1 => Nb s1 fun y s2 => guardM (CDivN x y) (k (x.fdiv y) s2)) PyData.int :=
  ex_binG (pe_op op_fdivN (pE X a) (pE X b)) opD_i ha hb
theorem ex_xor (ha : EX X ι Δ s a Na PyData.int) (hb : ∀ s1, EX X ι Δ s1 b (Nb s1) PyData.int) : EX X ι Δ s (.BinOp a .BitXor b pos) (fun k => Na fun x s1 => Nb s1 fun y s2 => k (Builtin.bitXor x y) s2) PyData.int :=
  ex_binT (pe_op op_xor (pE X a) (pE X b)) opD_i0 ha hb
theorem ex_and2 (ha : EX X ι Δ s a Na PyData.int) (hb : ∀ s1, EX X ι Δ s1 b (Nb s1) PyData.int) : EX X ι Δ s (.BinOp a .BitAnd b pos) (fun k => Na fun x s1 => Nb s1 fun y s2 => k (Builtin.bitAnd x y) s2) PyData.int :=
  ex_binT (pe_op op_and (pE X a) (pE X b)) opD_i0 ha hb
theorem ex_or2 (ha : EX X ι Δ s a Na PyData.int) (hb : ∀ s1, EX X ι Δ s1 b (Nb s1) PyData.int) : EX X ι Δ s (.BinOp a .BitOr b pos) (fun k => Na fun x s1 => Nb s1 fun y s2 => k (Builtin.bitOr x y) s2) PyData.int :=
  ex_binT (pe_op op_or (pE X a) (pE X b)) opD_i0 ha hb
theorem ex_shl (ha : EX X ι Δ s a Na PyData.int) (hb : ∀ s1, EX X ι Δ s1 b (Nb s1) PyData.int) : EX X ι Δ s (.BinOp a .LShift b pos) (fun k => Na fun x s1 => Nb s1 fun y s2 => guardM (CPow x y) (k (x * 2 ^ y.toNat) s2)) PyData.int :=
  ex_binG (pe_op op_shl (pE X a) (pE X b)) opD_i ha hb
theorem ex_shr (ha : EX X ι Δ s a Na PyData.int) (hb : ∀ s1, EX X ι Δ s1 b (Nb s1) PyData.int) : EX X ι Δ s (.BinOp a .RShift b pos) (fun k => Na fun x s1 => Nb s1 fun y s2 => guardM (0 ≤ y) (k (x / 2 ^ y.toNat) s2)) PyData.int :=
  ex_binG (C := fun _ y => 0 ≤ y) (pe_op op_shr (pE X a) (pE X b)) opD_i ha hb
theorem ex_neg (ha : EX X ι Δ s a Na PyData.int) : EX X ι Δ s (.UnaryOp .USub a pos) (fun k => Na fun x s1 => k (-x) s1) PyData.int := by
  intro k r hk σ H Hf A Q st h
  refine tE_of (pe_un un_neg (pE X a)) (ha _ r hk σ H Hf A _ st fun x s1 hx v H1 Hf1 st1 e1 r1 => ?_)
  cases r1
  exact ⟨x, rfl, h _ s1 hx _ H1 Hf1 st1 e1 (.int _)⟩
end
/-! ### comparisons: what they give of data, as a value and as a test -/
/-- a test from a value that is a bool -/
theorem tx_of {e : Expr} {M : (Bool → S → Option R) → Option R} (he : PT X e (tTest (tE X e))) (h : EX X ι Δ s e M PyData.bool) : TX X ι Δ s e M := by
  intro k r hk σ H Hf A Q st q
  refine tT_of he (h k r hk σ H Hf A _ st fun x s1 hx v H1 Hf1 st1 e1 r1 => ?_)
  cases r1
  exact ⟨x, rfl, q x s1 hx H1 Hf1 st1 e1⟩
theorem ex_cmpT {op : CmpOp} {t : R2} {g : α → β → Bool} (ho : OpR X (compareOp op) t) (hg : OpD X.K t Ea Eb PyData.bool (fun _ _ => True) g)
    (ha : EX X ι Δ s a Ma Ea) (hb : ∀ s1, EX X ι Δ s1 b (Mb s1) Eb) (hm : behindInMarks op b = false) : EX X ι Δ s (.Compare a [op] [b] pos) (fun k => Ma fun x s1 => Mb s1 fun y s2 => k (g x y) s2) PyData.bool :=
  ex_binT (pe_cmpR ho (pE X a) (pE X b) hm) hg ha hb
theorem tx_cmpT {op : CmpOp} {t : R2} {g : α → β → Bool} (ho : OpR X (compareOp op) t) (hg : OpD X.K t Ea Eb PyData.bool (fun _ _ => True) g)
    (ha : EX X ι Δ s a Ma Ea) (hb : ∀ s1, EX X ι Δ s1 b (Mb s1) Eb) (hm : behindInMarks op b = false) : TX X ι Δ s (.Compare a [op] [b] pos) (fun k => Ma fun x s1 => Mb s1 fun y s2 => k (g x y) s2) := by
  intro k r hk σ H Hf A Q st h
  refine tT_of (pt_cmpR ho (pE X a) (pE X b) hm) (ha _ r hk σ H Hf A _ st fun x s1 hx v H1 Hf1 st1 e1 r1 => ?_)
  refine hb s1 _ r hx σ H1 Hf1 A _ st1 fun y s2 hy w H2 Hf2 st2 e2 r2 => ?_
  refine hg x y v w H2 Hf2 _ trivial st2.sub (r1.up e2.grow) r2 fun u H3 Hf3 e3 sb r3 => ?_
  cases r3
  exact ⟨_, rfl, h _ s2 hy H3 Hf3 (st2.up e3 sb) ((e1.trans e2).trans e3.toA)⟩
/-! ### what comparisons mean of data -/
/-- == of this kind of data is equality -/
def EqD {α : Type} [DecidableEq α] (E : α → D) : Prop := ∀ x y : α, PyData.eqv (E x) (E y) = decide (x = y)
/-- never deeper than n -/
def Dep {α : Type} (E : α → D) (n : Nat) : Prop := ∀ x : α, (E x).depth ≤ n
theorem opD_eq [DecidableEq α] {n : Nat} (e : EqD Ea) (d : Dep Ea n) (hn : n ≤ 64 := by decide) : OpD X.K (rEqD X.K) Ea Ea PyData.bool (fun _ _ => True) (fun x y => decide (x = y)) :=
  opD_of fun x y v w H Hf Q _ sb rv rw' => ⟨.bl (decide (x = y)), .bl _, fun q => by
    have h1 := Rp.dp _ _ (rv.up sb)
    have h2 := Rp.dp _ _ (rw'.up sb)
    refine ⟨_, _, h1.1, h2.1, ?_, ?_, ?_⟩
    · unfold SeqAt.shaped; rw [h1.2, decide_eq_true (Nat.le_trans (d x) hn)]; rfl
    · unfold SeqAt.shaped; rw [h2.2, decide_eq_true (Nat.le_trans (d y) hn)]; rfl
    · rw [e x y]; exact q⟩
theorem opD_ne [DecidableEq α] {n : Nat} (e : EqD Ea) (d : Dep Ea n) (hn : n ≤ 64 := by decide) : OpD X.K (rNeD X.K) Ea Ea PyData.bool (fun _ _ => True) (fun x y => !decide (x = y)) :=
  opD_of fun x y v w H Hf Q _ sb rv rw' => ⟨.bl (!decide (x = y)), .bl _, fun q => by
    have h1 := Rp.dp _ _ (rv.up sb)
    have h2 := Rp.dp _ _ (rw'.up sb)
    refine ⟨_, _, h1.1, h2.1, ?_, ?_, ?_⟩
    · unfold SeqAt.shaped; rw [h1.2, decide_eq_true (Nat.le_trans (d x) hn)]; rfl
    · unfold SeqAt.shaped; rw [h2.2, decide_eq_true (Nat.le_trans (d y) hn)]; rfl
    · rw [e x y]; exact q⟩
end
end Ab
namespace Ab
open PySem PySem.Spec PyProof.Rows L2
theorem ne_mem {i j : Nat} {l : List Nat} (h : i ∈ l) (n : j ∉ l) : i ≠ j := fun z => n (z ▸ h)
/-! ### steps of statements -/
structure Stp (ix : List Nat) (σ : L2.St) (A : Nat → List Addr) (H Hf : Hp) (σ' : L2.St) (A' : Nat → List Addr) (H' Hf' : Hp) : Prop where
  root : ∀ i, i ∈ ix → σ'[i]? = σ[i]?
  keep : ∀ a o, (∀ i, a ∉ A i) → H a = some o → H' a = some o
  there : ∀ a, H a ≠ none → H' a ≠ none
  grow : Sub Hf Hf'
  news : ∀ a, Hf' a ≠ none → Hf a ≠ none ∨ H a = none ∨ ∃ i, i ∉ ix ∧ a ∈ A i
  ownd : ∀ i a, a ∈ A' i → (∃ j, a ∈ A j ∧ (j ∈ ix → i = j)) ∨ H a = none
  stay : ∀ i, i ∈ ix → A' i = A i
theorem ExtA.stp {A : Nat → List Addr} {H Hf H' Hf' : Hp} (e : ExtA A H Hf H' Hf') (ix : List Nat) (σ : L2.St) : Stp ix σ A H Hf σ A H' Hf' :=
  ⟨fun _ _ => rfl, e.keep, e.there, e.grow, fun a h => (e.news a h).elim .inl fun z => .inr (.inl z), fun i a h => .inl ⟨i, h, fun _ => rfl⟩, fun _ _ => rfl⟩
theorem Stp.refl (ix : List Nat) (σ : L2.St) (A : Nat → List Addr) (H Hf : Hp) : Stp ix σ A H Hf σ A H Hf := (ExtA.refl A H Hf).stp ix σ
theorem none_back {H H' : Hp} (t : ∀ a, H a ≠ none → H' a ≠ none) {a : Addr} (h : H' a = none) : H a = none := by
  cases e : H a with
  | none => rfl
  | some o => exact absurd h (t a (by rw [e]; simp))
theorem Stp.trans {ix : List Nat} {σ σ1 σ2 : L2.St} {A A1 A2 : Nat → List Addr} {H Hf H1 Hf1 H2 Hf2 : Hp} (a : Stp ix σ A H Hf σ1 A1 H1 Hf1) (b : Stp ix σ1 A1 H1 Hf1 σ2 A2 H2 Hf2) : Stp ix σ A H Hf σ2 A2 H2 Hf2 where
  root := fun i hi => (b.root i hi).trans (a.root i hi)
  keep := fun x o m h => b.keep x o (fun i hi => by
    rcases a.ownd i x hi with ⟨j, hj, _⟩ | n
    · exact m j hj
    · rw [n] at h; cases h) (a.keep x o m h)
  there := fun x h => b.there x (a.there x h)
  grow := a.grow.trans b.grow
  news := fun x h => by
    rcases b.news x h with q | q | ⟨i, hi, q⟩
    · exact a.news x q
    · exact .inr (.inl (none_back a.there q))
    · rcases a.ownd i x q with ⟨j, hj, k⟩ | n
      · exact .inr (.inr ⟨j, fun z => hi (k z ▸ z), hj⟩)
      · exact .inr (.inl n)
  ownd := fun i x h => by
    rcases b.ownd i x h with ⟨j, hj, k⟩ | n
    · rcases a.ownd j x hj with ⟨l, hl, k2⟩ | n
      · exact .inl ⟨l, hl, fun z => by have := k2 z; subst this; exact k z⟩
      · exact .inr n
    · exact .inr (none_back a.there n)
  stay := fun i hi => (b.stay i hi).trans (a.stay i hi)
/-! ### slots -/
theorem lk_append_out {i : Nat} : ∀ {P Δ : Dl}, i ∉ P.map (·.1) → lk (P ++ Δ) i = lk Δ i
  | [], _, _ => rfl
  | (j, T) :: P, Δ, h => by
    simp only [List.map_cons, List.mem_cons, not_or] at h
    show lk ((j, T) :: (P ++ Δ)) i = _
    rw [lk_ne h.1, lk_append_out h.2]
theorem lk_append_in {i : Nat} : ∀ {P Δ Δ' : Dl}, i ∈ P.map (·.1) → lk (P ++ Δ) i = lk (P ++ Δ') i
  | [], _, _, h => by simp at h
  | (j, T) :: P, Δ, Δ', h => by
    by_cases e : i = j
    · subst e
      show lk ((i, T) :: (P ++ Δ)) i = lk ((i, T) :: (P ++ Δ')) i
      rw [lk_self, lk_self]
    · have h' : i ∈ P.map (·.1) := by simpa [e] using h
      show lk ((j, T) :: (P ++ Δ)) i = lk ((j, T) :: (P ++ Δ')) i
      rw [lk_ne e, lk_ne e]
      exact lk_append_in h'
/-- the own addresses where slot i is forgotten -/
def cut (A : Nat → List Addr) (i : Nat) (as : List Addr) : Nat → List Addr := fun j => if j = i then as else A j
theorem cut_self (A : Nat → List Addr) (i : Nat) (as : List Addr) : cut A i as i = as := if_pos rfl
theorem cut_ne {A : Nat → List Addr} {i j : Nat} {as : List Addr} (h : j ≠ i) : cut A i as j = A j := if_neg h
section
variable {K : KF} {σ : L2.St} {H Hf : Hp} {Δ P : Dl} {A : Nat → List Addr}
/-- a slot is stored: T at as -/
theorem Sat.set (st : Sat K σ H Hf (P ++ Δ) A) {i : Nat} {v : V} {T : Tr} {as : List Addr} (hi : i < σ.length) (hP : i ∉ P.map (·.1)) (h : Holds K Hf H v T as) (own : ∀ a ∈ as, Hf a = none ∧ ∀ j, j ≠ i → a ∉ A j) :
    Sat K (σ.set i (some v)) H Hf (P ++ (i, some T) :: Δ) (cut A i as) where
  sub := st.sub
  slot := fun j U hj => by
    by_cases e : j = i
    · subst e
      rw [lk_append_out hP, lk_self] at hj
      cases hj
      exact ⟨v, by rw [List.getElem?_set_self hi], by rw [cut_self]; exact h⟩
    · have hj' : lk (P ++ Δ) j = some U := by
        by_cases m : j ∈ P.map (·.1)
        · rw [lk_append_in (Δ' := Δ) m] at hj; exact hj
        · rw [lk_append_out m, lk_ne e] at hj; rw [lk_append_out m]; exact hj
      obtain ⟨w, h1, h2⟩ := st.slot j U hj'
      exact ⟨w, by rw [List.getElem?_set_ne (Ne.symm e)]; exact h1, by rw [cut_ne e]; exact h2⟩
  own := fun j a ha => by
    by_cases e : j = i
    · subst e
      rw [cut_self] at ha
      exact ⟨(own a ha).1, h.there ha⟩
    · rw [cut_ne e] at ha
      exact st.own j a ha
  inj := fun j l a h1 h2 => by
    by_cases e : j = i
    · subst e
      rw [cut_self] at h1
      by_cases e2 : l = j
      · exact e2.symm
      · rw [cut_ne e2] at h2
        exact absurd h2 ((own a h1).2 l e2)
    · rw [cut_ne e] at h1
      by_cases e2 : l = i
      · subst e2
        rw [cut_self] at h2
        exact absurd h1 ((own a h2).2 j e)
      · rw [cut_ne e2] at h2
        exact st.inj j l a h1 h2
theorem Sat.imm (st : Sat K σ H Hf (P ++ Δ) A) {i : Nat} {v : V} {d : D} (hi : i < σ.length) (hP : i ∉ P.map (·.1)) (h : Rp K Hf v d) :
    Sat K (σ.set i (some v)) H Hf (P ++ (i, some (.imm d)) :: Δ) (cut A i []) := st.set hi hP ⟨rfl, h⟩ fun a ha => by simp at ha
theorem stp_cut {ix : List Nat} {σ : L2.St} {A : Nat → List Addr} {H Hf : Hp} {i : Nat} {v : Option V} (hi : i ∉ ix) : Stp ix σ A H Hf (σ.set i v) (cut A i []) H Hf where
  root := fun j hj => List.getElem?_set_ne (ne_mem hj hi).symm
  keep := fun _ _ _ h => h
  there := fun _ h => h
  grow := Sub.refl _
  news := fun _ h => .inl h
  ownd := fun j a h => by
    by_cases e : j = i
    · subst e; rw [cut_self] at h; simp at h
    · rw [cut_ne e] at h; exact .inl ⟨j, h, fun _ => rfl⟩
  stay := fun j hj => cut_ne fun e => hi (e ▸ hj)
/-- less is known -/
theorem Sat.weak {Δ' : Dl} (st : Sat K σ H Hf Δ A) (h : ∀ i T, lk Δ' i = some T → lk Δ i = some T) : Sat K σ H Hf Δ' A :=
  ⟨st.sub, fun i T e => st.slot i T (h i T e), st.own, st.inj⟩
end
/-- what Δ' knows, Δ knows -/
def Le (Δ' Δ : Dl) : Prop := ∀ i T, lk Δ' i = some T → lk Δ i = some T
theorem le_nil {Δ : Dl} : Le [] Δ := fun i T h => by cases h
theorem le_cons {i : Nat} {T : Tr} {r Δ : Dl} (h : lk Δ i = some T) (t : Le r Δ) : Le ((i, some T) :: r) Δ := fun j U e => by
  by_cases z : j = i
  · subst z; rw [lk_self] at e; cases e; exact h
  · rw [lk_ne z] at e; exact t j U e
theorem Le.app {P Δ' Δ : Dl} (h : Le Δ' Δ) : Le (P ++ Δ') (P ++ Δ) := fun i T e => by
  by_cases m : i ∈ P.map (·.1)
  · rw [lk_append_in (Δ' := Δ) m] at e; exact e
  · rw [lk_append_out m] at e ⊢; exact h i T e
/-! ### statements -/
inductive Out (S : Type) where
  | ret (d : D) (s : S)
  | next (Δ : Dl) (s : S)
  | brk (Δ : Dl) (s : S)
  | cont (Δ : Dl) (s : S)
/-- what a statement's end is to give -/
def Post (K : KF) {S : Type} (ι : Io S) (σ : L2.St) (A : Nat → List Addr) (H Hf : Hp) (Dn : Ends) : Out S → Prop
  | .ret d s => ∀ v σ' H' Hf' A', Sat K σ' H' Hf' (ι.tr s) A' → Stp ι.ix σ A H Hf σ' A' H' Hf' → Rp K Hf' v d → Dn.rt v H'
  | .next Δ s => ∀ σ' H' Hf' A', Sat K σ' H' Hf' (ι.tr s ++ Δ) A' → Stp ι.ix σ A H Hf σ' A' H' Hf' → Dn.nx σ' H'
  | .brk Δ s => ∀ σ' H' Hf' A', Sat K σ' H' Hf' (ι.tr s ++ Δ) A' → Stp ι.ix σ A H Hf σ' A' H' Hf' → Dn.bk σ' H'
  | .cont Δ s => ∀ σ' H' Hf' A', Sat K σ' H' Hf' (ι.tr s ++ Δ) A' → Stp ι.ix σ A H Hf σ' A' H' Hf' → Dn.ct σ' H'
theorem Post.step {K : KF} {S : Type} {ι : Io S} {σ σ1 : L2.St} {A A1 : Nat → List Addr} {H Hf H1 Hf1 : Hp} {Dn : Ends} {o : Out S} (p : Post K ι σ A H Hf Dn o) (st : Stp ι.ix σ A H Hf σ1 A1 H1 Hf1) : Post K ι σ1 A1 H1 Hf1 Dn o := by
  cases o with
  | ret d s => exact fun v σ' H' Hf' A' h1 h2 h3 => p v σ' H' Hf' A' h1 (st.trans h2) h3
  | next Δ s => exact fun σ' H' Hf' A' h1 h2 => p σ' H' Hf' A' h1 (st.trans h2)
  | brk Δ s => exact fun σ' H' Hf' A' h1 h2 => p σ' H' Hf' A' h1 (st.trans h2)
  | cont Δ s => exact fun σ' H' Hf' A' h1 h2 => p σ' H' Hf' A' h1 (st.trans h2)
def BX (X : Cx) {S : Type} (ι : Io S) (Δ : Dl) (s : S) (st : List Stmt) {R : Type} (m : Option R) (out : R → Out S) : Prop :=
  ∀ r, m = some r → ∀ (σ : L2.St) (H Hf : Hp) (A : Nat → List Addr) (Dn : Ends), Sat X.K σ H Hf (ι.tr s ++ Δ) A → Post X.K ι σ A H Hf Dn (out r) → tS X st Dn σ H
section
variable {X : Cx} {S : Type} {ι : Io S} {Δ : Dl} {s : S} {R : Type} {out : R → Out S} {rest : List Stmt} {pos : Pos}
theorem tS_cons {st : Stmt} {t : TS} {Dn : Ends} {σ : L2.St} {H : Hp} (h : PS X st t) (q : t { Dn with nx := fun σ' H' => tS X rest Dn σ' H' } σ H) : tS X (st :: rest) Dn σ H :=
  tS_of (pss_cons h (pS X rest)) q
theorem tS_end {st : Stmt} {t : TS} {Dn : Ends} {σ : L2.St} {H : Hp} (h : PS X st t) (q : t Dn σ H) : tS X [st] Dn σ H := tS_of (pss_one h) q
@[reducible] def letM {α R : Type} (a : α) (k : α → R) : R := k a
/-- nothing more: what stands must be what is promised -/
theorem bx_nil {Δ' : Dl} {r : R} (ho : out r = .next Δ' s) (hle : Le Δ' Δ) : BX X ι Δ s [] (some r) out := by
  intro r' hr σ H Hf A Dn st p
  cases hr
  rw [ho] at p
  exact tS_of pss_nil (p σ H Hf A (st.weak hle.app) (Stp.refl _ _ _ _ _))
theorem bx_ret {e : Expr} {α : Type} {M : (α → S → Option R) → Option R} {E : α → D} {k : α → S → R} (h : EX X ι Δ s e M E) (ho : ∀ x s', out (k x s') = .ret (E x) s') :
    BX X ι Δ s (.Return (some e) pos :: rest) (M fun x s' => some (k x s')) out := by
  intro r hr σ H Hf A Dn st p
  refine tS_of (pss_cons (ps_ret (pE X e)) (pS X rest)) (h _ r hr σ H Hf A _ st fun x s' hx v H' Hf' st' e' r' => ?_)
  cases hx
  rw [ho] at p
  exact p v σ H' Hf' A (st'.weak fun i T hi => by
    have m : i ∈ (ι.tr s').map (·.1) := by
      apply Classical.byContradiction
      intro m
      have q : lk (ι.tr s' ++ []) i = lk [] i := lk_append_out m
      rw [List.append_nil, hi] at q
      cases q
    have q := lk_append_in (Δ := []) (Δ' := Δ) m
    rw [List.append_nil] at q
    rw [← q]; exact hi) (e'.stp _ _) r'
/-- x = e -/
theorem bx_set (i : Nat) {x : Str} {e : Expr} {pos' : Pos} {α : Type} {M : (α → S → Option R) → Option R} {E : α → D} {k : α → S → Option R} (hN : X.N.Nodup) (h : EX X ι Δ s e M E)
    (q : ∀ a s', BX X ι ((i, some (.imm (E a))) :: Δ) s' rest (k a s') out) (hi : X.N[i]? = some x := by rfl) (hx : Loc X.env.scope x := by first | exact Or.inl rfl | exact Or.inr rfl)
    (hs : swapsWith e (some (.Name x pos')) pos.line X.env = pure false := by rfl) (hf : X.fn x = true ∨ X.env.scope.names.lookup x = some .local := by first | exact .inl rfl | exact .inr rfl) (hix : i ∉ ι.ix := by decide) :
    BX X ι Δ s (.Assign [.Name x pos'] e pos :: rest) (M k) out := by
  intro r hr σ H Hf A Dn st p
  refine tS_inv fun pins sh I => tS_cons (ps_set hN hi hx (pE X e) hs hf) (h _ r hr σ H Hf A _ st fun a s' ha v H' Hf' st' e' r' => ?_)
  have hlen : i < σ.length := by rw [I.len]; exact (List.getElem?_eq_some_iff.mp hi).1
  refine q a s' r ha _ H' Hf' _ _ (st'.imm (P := ι.tr s') hlen (by rw [ι.keys]; exact hix) r') (p.step ((e'.stp ι.ix σ).trans (stp_cut hix)))
/-! ### a def's promise -/
def argD : Nat → List D → Dl
  | _, [] => []
  | i, d :: ds => (i, some (.imm d)) :: argD (i + 1) ds
theorem lk_argD : ∀ (ds : List D) (j i : Nat) (T : Tr), lk (argD j ds) i = some T → j ≤ i ∧ ∃ d, ds[i - j]? = some d ∧ T = .imm d
  | [], j, i, T, h => by cases h
  | d :: ds, j, i, T, h => by
    by_cases e : i = j
    · subst e
      unfold argD at h
      rw [lk_self] at h
      cases h
      exact ⟨Nat.le_refl _, d, by simp, rfl⟩
    · unfold argD at h
      rw [lk_ne e] at h
      obtain ⟨h1, d', h2, h3⟩ := lk_argD ds (j + 1) i T h
      refine ⟨by omega, d', ?_, h3⟩
      rw [show i - j = (i - (j + 1)) + 1 by omega, List.getElem?_cons_succ]
      exact h2
/-- a def that changes nothing: f of its arguments -/
def spP (K : KF) {P C : Type} (argE : P → List D) (f : P → Option C) (E : C → D) : Sp := fun vs H Q _ =>
  ∃ (p : P) (c : C) (Hf : Hp), Sub Hf H ∧ RpAll K Hf vs (argE p) ∧ f p = some c ∧ ∀ v H' Hf', Sub Hf' H' → Ext H Hf H' Hf' → Rp K Hf' v (E c) → Q v H'
theorem start_sat {K : KF} {H Hf : Hp} {vs : List V} {ds : List D} {N : List Str} (sb : Sub Hf H) (r : RpAll K Hf vs ds) : Sat K (L2.start N vs) H Hf (argD 0 ds) (fun _ => []) where
  sub := sb
  slot := fun i T h => by
    obtain ⟨_, d, h1, rfl⟩ := lk_argD ds 0 i T h
    obtain ⟨v, h2, h3⟩ := r.get (i := i) h1
    refine ⟨v, ?_, rfl, h3⟩
    unfold L2.start
    have hi : i < vs.length := (List.getElem?_eq_some_iff.mp h2).1
    rw [List.getElem?_append_left (by simpa using hi), List.getElem?_map, h2]
    rfl
  own := fun i a h => by simp at h
  inj := fun i j a h => by simp at h
section
variable {Pg : Program} {w : World} {K : KF} {mg : Str → Option Value} {base : Heap}
/-- what a body's reading gives -/
theorem fn_pure {x qual : Str} {st : Stmt} {f : Addr} {fd : FuncData} {N ps : List Str} {k : Nat} {P C : Type} {argE : P → List D} {g : P → Option C} {E : C → D} (F : Fun K x qual st f fd) (S : FnScope N ps (defScope st))
    (len : ∀ p, (argE p).length = ps.length)
    (body : ∀ (p : P) (cdv : Value) (A : Around) (outer : List Env) (s : Shared) (H : Hp) (E' : XK), Room k (A.deeper (envOfC qual (defScope st) s.heap.objs.size f cdv)) →
      BX (cxOf CX0 Pg w K mg base N qual (defScope st) f cdv A outer s H E').nox io0 (argD 0 (argE p)) () (defBody st) (g p) (fun c => Out.ret (E c) ())) :
    FnOk Pg w K mg base CX0 (k + 1) f fd ps (spP K argE g E) := by
  refine F.ok S (fun vs H Q E' h => ?_) (fun cdv A outer s H vs Q E' hr h => ?_)
  · obtain ⟨p, c, Hf, _, r, _⟩ := h
    rw [r.len, len p]
  · obtain ⟨p, c, Hf, sb, r, hc, q⟩ := h
    refine ⟨_, pS _ _, ?_⟩
    refine body p cdv A outer s H E' hr c hc _ H Hf (fun _ => []) _ ?_ ?_
    · exact start_sat sb r
    · intro v σ' H' Hf' A' h1 h2 h3
      refine q v H' Hf' h1.sub ⟨fun a o e => h2.keep a o (fun i hi => by simp at hi) e, h2.grow, fun a ha => ?_⟩ h3
      rcases h2.news a ha with z | z | ⟨i, _, z⟩
      · exact .inl z
      · exact .inr z
      · simp at z
end
end
end Ab
namespace Ab
open PySem PySem.Spec PyProof.Rows L2
/-! ### what is walked -/
def tI (X : Cx) (tg iter : Expr) : TI := fun σ H Rr => ∀ pins s, Inv X pins σ H s → wpAny (model X.prog X.w) X.A (eval iter X.env) (fun v s1 => wpAny (model X.prog X.w) X.A (pyIter v) (PIE X pins σ tg Rr) X.xe s1) X.xe s
theorem pI (X : Cx) (tg iter : Expr) : PI X tg iter (tI X tg iter) := ⟨fun pins s _ _ _ I h => h pins s I⟩
theorem tI_of {X : Cx} {tg iter : Expr} {t : TI} (p : PI X tg iter t) {σ : L2.St} {H : Hp} {Q : It → Hp → Prop} (h : t σ H Q) : tI X tg iter σ H Q := fun pins s I => p.run pins s σ H Q I h
theorem tI_inv {X : Cx} {tg iter : Expr} {σ : L2.St} {H : Hp} {Q : It → Hp → Prop} (h : ∀ pins s, Inv X pins σ H s → tI X tg iter σ H Q) : tI X tg iter σ H Q := fun pins s I => h pins s I pins s I
/-- J walks xs, for as long as Hf stands -/
structure Walks (K : KF) (J : It) {α : Type} (xs : List α) (E : α → D) (Hf : Hp) : Prop where
  go : ∀ i H' Hf', Sub Hf Hf' → Sub Hf' H' → i < xs.length → J.go i H'
  stop : ∀ i H' Hf', Sub Hf Hf' → Sub Hf' H' → xs.length ≤ i → J.stop i H'
  yld : ∀ i x v H' H3 Hf', Sub Hf Hf' → Sub Hf' H' → xs[i]? = some x → J.yld i H' v H3 → ∃ Hf3, Ext H' Hf' H3 Hf3 ∧ Sub Hf3 H3 ∧ Rp K Hf3 v (E x)
  size : xs.length ≤ Line
def IX (X : Cx) {S : Type} (ι : Io S) (Δ : Dl) (s : S) (tg iter : Expr) {α R : Type} (M : (List α → S → Option R) → Option R) (E : α → D) : Prop :=
  ∀ k r, M k = some r → ∀ (σ : L2.St) (H Hf : Hp) (A : Nat → List Addr) (Rr : It → Hp → Prop), Sat X.K σ H Hf (ι.tr s ++ Δ) A →
    (∀ xs s', k xs s' = some r → ∀ J H' Hf', Sat X.K σ H' Hf' (ι.tr s' ++ Δ) A → ExtA A H Hf H' Hf' → Walks X.K J xs E Hf' → Rr J H') → tI X tg iter σ H Rr
/-- lo, lo + 1, .. -/
def rangeL (lo : Int) (n : Nat) : List Int := (List.range n).map fun (i : Nat) => lo + (i : Int)
theorem rangeL_len (lo : Int) (n : Nat) : (rangeL lo n).length = n := by simp [rangeL]
theorem rangeL_get {lo : Int} {n i : Nat} {x : Int} (h : (rangeL lo n)[i]? = some x) : x = lo + i := by
  unfold rangeL at h
  rw [List.getElem?_map] at h
  cases e : (List.range n)[i]? with
  | none => rw [e] at h; cases h
  | some j =>
    rw [e] at h
    have := List.getElem?_eq_some_iff.mp e
    obtain ⟨h1, h2⟩ := this
    rw [List.getElem_range] at h2
    subst h2
    exact (Option.some.inj h).symm
theorem walks_list {K : KF} {a : Addr} {α : Type} {xs : List α} {E : α → D} {vs : List V} {Hf : Hp} (h' : Rd Hf a (.lst vs)) (r : RpAll K Hf vs (xs.map E)) (hz : xs.length ≤ Line) : Walks K (Itl K a) xs E Hf where
  go := fun i H' Hf' e1 e2 hi => ⟨vs, vs[i]'(by rw [r.len]; simpa using hi), .inl ((e1.trans e2).rd h'), by rw [List.getElem?_eq_getElem]⟩
  stop := fun i H' Hf' e1 e2 hi => ⟨vs, .inl ((e1.trans e2).rd h'), by rw [r.len]; simpa using hi⟩
  yld := fun i x v H' H3 Hf' e1 e2 hx hy => by
    obtain ⟨rfl, f⟩ := hy
    have hv := f vs (.inl ((e1.trans e2).rd h'))
    obtain ⟨d, hd, rd⟩ := r.getV hv
    rw [List.getElem?_map, hx] at hd
    cases hd
    exact ⟨Hf', Ext.refl _ _, e2, rd.up e1⟩
  size := hz
theorem walks_tup {K : KF} {a : Addr} {α : Type} {xs : List α} {E : α → D} {vs : List V} {Hf : Hp} (h : SqT K Hf a vs) (r : RpAll K Hf vs (xs.map E)) (hz : xs.length ≤ Line) : Walks K (Itt K a) xs E Hf where
  go := fun i H' Hf' e1 e2 hi => ⟨vs, vs[i]'(by rw [r.len]; simpa using hi), (e1.trans e2).tup h, by rw [List.getElem?_eq_getElem]⟩
  stop := fun i H' Hf' e1 e2 hi => ⟨vs, (e1.trans e2).tup h, by rw [r.len]; simpa using hi⟩
  yld := fun i x v H' H3 Hf' e1 e2 hx hy => by
    obtain ⟨rfl, f⟩ := hy
    have hv := f vs ((e1.trans e2).tup h)
    obtain ⟨d, hd, rd⟩ := r.getV hv
    rw [List.getElem?_map, hx] at hd
    cases hd
    exact ⟨Hf', Ext.refl _ _, e2, rd.up e1⟩
  size := hz
theorem walks_range {K : KF} {lo : Int} {n : Nat} {Hf : Hp} (hz : n ≤ Line) : Walks K (Itr lo n) (rangeL lo n) PyData.int Hf where
  go := fun i _ _ _ _ hi => by rw [rangeL_len] at hi; exact hi
  stop := fun i _ _ _ _ hi => by rw [rangeL_len] at hi; exact hi
  yld := fun i x v H' H3 Hf' _ e2 hx hy => by
    obtain ⟨rfl, rfl⟩ := hy
    rw [rangeL_get hx]
    exact ⟨Hf', Ext.refl _ _, e2, .int _⟩
  size := by rw [rangeL_len]; exact hz
section
variable {X : Cx} {S : Type} {ι : Io S} {Δ : Dl} {s : S} {R : Type} {tg e : Expr} {pos : Pos}
variable {α : Type} {E : α → D}
/-- over a list -/
theorem it_list {M : (List α → S → Option R) → Option R} (h : EX X ι Δ s e M (fun l => .list (l.map E))) : IX X ι Δ s tg e M E := by
  intro k r hk σ H Hf A Rr st q
  refine tI_of (pi_list (pE X e)) (h k r hk σ H Hf A _ st fun xs s1 hx v H1 Hf1 st1 e1 r1 => ?_)
  cases r1 with
  | @lst a vs _ hs hz ra =>
    refine ⟨a, rfl, ⟨vs, .inl (st1.sub.rd hs)⟩, q xs s1 hx _ H1 Hf1 st1 e1 (walks_list hs ra ?_)⟩
    have := ra.len
    rw [List.length_map] at this
    rw [← this]; exact hz
/-- over a tuple -/
theorem it_tup {M : (List α → S → Option R) → Option R} (h : EX X ι Δ s e M (fun l => .tuple (l.map E))) : IX X ι Δ s tg e M E := by
  intro k r hk σ H Hf A Rr st q
  refine tI_of (pi_tup (pE X e)) (h k r hk σ H Hf A _ st fun xs s1 hx v H1 Hf1 st1 e1 r1 => ?_)
  cases r1 with
  | @tup a vs _ hs hz ra =>
    refine ⟨a, rfl, ⟨vs, st1.sub.tup hs⟩, q xs s1 hx _ H1 Hf1 st1 e1 (walks_tup hs ra ?_)⟩
    have := ra.len
    rw [List.length_map] at this
    rw [← this]; exact hz
theorem one_arg {K : KF} {Hf : Hp} {vs : List V} {d : D} (r : RpAll K Hf vs [d]) : ∃ v, vs = [v] ∧ Rp K Hf v d := by
  cases r with | cons r t => cases t; exact ⟨_, rfl, r⟩
theorem two_args {K : KF} {Hf : Hp} {vs : List V} {d d' : D} (r : RpAll K Hf vs [d, d']) : ∃ v w, vs = [v, w] ∧ Rp K Hf v d ∧ Rp K Hf w d' := by
  cases r with | cons r t => cases t with | cons r' t => cases t; exact ⟨_, _, rfl, r, r'⟩
/-! arguments -/
theorem ax_nil : AX X ι Δ s [] (R := R) (fun k => k () s) (fun _ => []) := by
  intro k r hk σ H Hf A Q st q
  exact tA_of pa_nil (q () s hk [] H Hf st (ExtA.refl _ _ _) .nil)
theorem ax_cons {es : List Expr} {β : Type} {Ma : (α → S → Option R) → Option R} {Mb : S → (β → S → Option R) → Option R} {F : β → List D} (ha : EX X ι Δ s e Ma E) (hb : ∀ s1, AX X ι Δ s1 es (Mb s1) F)
    (hs : starEach (e :: es) X.env = (false, eval e X.env) :: starEach es X.env := by rfl) :
    AX X ι Δ s (e :: es) (fun k => Ma fun x s1 => Mb s1 fun y s2 => k (x, y) s2) (fun p => E p.1 :: F p.2) := by
  intro k r hk σ H Hf A Q st q
  refine tA_of (pa_cons (pE X e) (pA X es) hs) (ha _ r hk σ H Hf A _ st fun x s1 hx v H1 Hf1 st1 e1 r1 => ?_)
  refine hb s1 _ r hx σ H1 Hf1 A _ st1 fun y s2 hy vs H2 Hf2 st2 e2 r2 => ?_
  exact q (x, y) s2 hy (v :: vs) H2 Hf2 st2 (e1.trans e2) (.cons (r1.up e2.grow) r2)
/-- range(a), range(a, b): of so many turns at most as a list can have -/
theorem it_range1 {a : Expr} {p : Pos} {M : (Int → S → Option R) → Option R} (hm : X.mg "range" = none) (h : EX X ι Δ s a M PyData.int) (hg : Gl X "range" := by rfl) (hs : starEach [a] X.env = [(false, eval a X.env)] := by rfl) :
    IX X ι Δ s tg (.Call (.Name "range" p) [a] [] pos) (fun k => M fun n s1 => guardM (n.natAbs ≤ Line) (k (rangeL 0 n.toNat) s1)) PyData.int := by
  intro k r hk σ H Hf A Rr st q
  refine tI_of (pi_range1 hg hm (pA X [a]) hs) ?_
  refine ax_cons h (fun s1 => ax_nil) hs (fun p s' => guardM (p.1.natAbs ≤ Line) (k (rangeL 0 p.1.toNat) s')) r hk σ H Hf A _ st fun x s1 hx vs H1 Hf1 st1 e1 r1 => ?_
  obtain ⟨v, rfl, rv⟩ := one_arg r1
  obtain ⟨c, hx⟩ := guardM_some hx
  cases rv
  have c2 : x.1.natAbs ≤ 16777216 := c
  refine ⟨x.1, rfl, by omega, by omega, q _ s1 hx _ H1 Hf1 st1 e1 (walks_range (by show x.1.toNat ≤ 16777216; omega))⟩
theorem it_range2 {a b : Expr} {p : Pos} {M : (Int → S → Option R) → Option R} {Mb : S → (Int → S → Option R) → Option R} (hm : X.mg "range" = none) (h : EX X ι Δ s a M PyData.int) (hb : ∀ s1, EX X ι Δ s1 b (Mb s1) PyData.int) (hg : Gl X "range" := by rfl)
    (hs : starEach [a, b] X.env = [(false, eval a X.env), (false, eval b X.env)] := by rfl) (hs2 : starEach [b] X.env = [(false, eval b X.env)] := by rfl) :
    IX X ι Δ s tg (.Call (.Name "range" p) [a, b] [] pos) (fun k => M fun n s1 => Mb s1 fun m s2 => guardM (n.natAbs ≤ Line ∧ m.natAbs ≤ Line ∧ m - n ≤ (Line : Int)) (k (rangeL n (m - n).toNat) s2)) PyData.int := by
  intro k r hk σ H Hf A Rr st q
  refine tI_of (pi_range2 hg hm (pA X [a, b]) hs hs2) ?_
  have hq : AX X ι Δ s [a, b] (R := R) (fun k => M fun n s1 => Mb s1 fun m s2 => k (n, m, ()) s2) (fun p => [.int p.1, .int p.2.1]) := ax_cons h (fun s1 => ax_cons (hb s1) (fun s2 => ax_nil) hs2) (by rw [hs, hs2])
  refine hq (fun p s2 => guardM (p.1.natAbs ≤ Line ∧ p.2.1.natAbs ≤ Line ∧ p.2.1 - p.1 ≤ (Line : Int)) (k (rangeL p.1 (p.2.1 - p.1).toNat) s2)) r hk σ H Hf A _ st fun x s1 hx vs H1 Hf1 st1 e1 r1 => ?_
  obtain ⟨v, w', rfl, rv, rw'⟩ := two_args r1
  obtain ⟨c, hx⟩ := guardM_some hx
  cases rv
  cases rw'
  have c1 : x.1.natAbs ≤ 16777216 := c.1
  have c2 : x.2.1.natAbs ≤ 16777216 := c.2.1
  have c3 : x.2.1 - x.1 ≤ (16777216 : Nat) := c.2.2
  refine ⟨x.1, x.2.1, rfl, ⟨by omega, by omega, by omega, by omega⟩, q _ s1 hx _ H1 Hf1 st1 e1 (walks_range (by show (x.2.1 - x.1).toNat ≤ 16777216; omega))⟩
/-! ### targets -/
def tG (X : Cx) (tg : Expr) : TG := fun v σ H Q => ∀ pins s u, Inv X pins σ H s → RelV v u → wpAny (model X.prog X.w) X.A (assign tg X.env u) (fun _ s' => ∃ σ' H', Inv X pins σ' H' s' ∧ Q σ' H') X.xe s
theorem pG (X : Cx) (tg : Expr) : PG X tg (tG X tg) := ⟨fun pins s _ _ _ u _ I r h => h pins s u I r⟩
theorem tG_of {X : Cx} {tg : Expr} {t : TG} (p : PG X tg t) {v : V} {σ : L2.St} {H : Hp} {Q : L2.St → Hp → Prop} (h : t v σ H Q) : tG X tg v σ H Q := fun pins s u I r => p.run pins s σ H v u Q I r h
theorem tG_inv {X : Cx} {tg : Expr} {v : V} {σ : L2.St} {H : Hp} {Q : L2.St → Hp → Prop} (h : ∀ pins s, Inv X pins σ H s → tG X tg v σ H Q) : tG X tg v σ H Q := fun pins s u I r => h pins s I pins s u I r
/-- only the slots of ixs are stored -/
structure Only (ixs : List Nat) (σ σ' : L2.St) : Prop where
  len : σ'.length = σ.length
  out : ∀ j, j ∉ ixs → σ'[j]? = σ[j]?
def cutL (A : Nat → List Addr) (ixs : List Nat) : Nat → List Addr := fun j => if j ∈ ixs then [] else A j
theorem cutL_in {A : Nat → List Addr} {ixs : List Nat} {j : Nat} {a : Addr} (h : a ∈ cutL A ixs j) : a ∈ A j ∧ j ∉ ixs := by
  unfold cutL at h
  split at h
  · simp at h
  · exact ⟨h, by assumption⟩
theorem stp_cutL {ix ixs : List Nat} {σ σ' : L2.St} {A : Nat → List Addr} {H Hf : Hp} (hi : ∀ i ∈ ixs, i ∉ ix) (o : Only ixs σ σ') : Stp ix σ A H Hf σ' (cutL A ixs) H Hf where
  root := fun j hj => o.out j fun z => hi j z hj
  keep := fun _ _ _ h => h
  there := fun _ h => h
  grow := Sub.refl _
  news := fun _ h => .inl h
  ownd := fun j a h => .inl ⟨j, (cutL_in h).1, fun _ => rfl⟩
  stay := fun j hj => by
    unfold cutL
    rw [if_neg fun m => hi j m hj]
/-- a target takes data x: it binds ixs, as bind says -/
def GX (X : Cx) {S : Type} (ι : Io S) (tg : Expr) {α : Type} (ixs : List Nat) (bind : α → Dl) (E : α → D) : Prop :=
  ∀ (x : α) (v : V) (σ : L2.St) (H Hf : Hp) (Δ : Dl) (A : Nat → List Addr) (s : S) (Q : L2.St → Hp → Prop), Sat X.K σ H Hf (ι.tr s ++ Δ) A → Rp X.K Hf v (E x) →
    (∀ σ', Sat X.K σ' H Hf (ι.tr s ++ (bind x ++ Δ)) (cutL A ixs) → Only ixs σ σ' → Q σ' H) → tG X tg v σ H Q
theorem cut_cutL (A : Nat → List Addr) (i : Nat) : cut A i [] = cutL A [i] := by
  funext j
  unfold cut cutL
  by_cases e : j = i
  · rw [if_pos e, if_pos (by simp [e])]
  · rw [if_neg e, if_neg (by simp [e])]
theorem cutL_cutL (A : Nat → List Addr) (a b : List Nat) : cutL (cutL A a) b = cutL A (a ++ b) := by
  funext j
  unfold cutL
  by_cases e : j ∈ a <;> by_cases e2 : j ∈ b <;> simp [e, e2]
theorem gx_name (i : Nat) {x : Str} {p : Pos} (hN : X.N.Nodup) (hi : X.N[i]? = some x := by rfl) (hx : Loc X.env.scope x := by first | exact Or.inl rfl | exact Or.inr rfl)
    (hf : X.fn x = true ∨ X.env.scope.names.lookup x = some .local := by first | exact .inl rfl | exact .inr rfl) (hix : i ∉ ι.ix := by decide) : GX X ι (.Name x p) [i] (fun a => [(i, some (.imm (E a)))]) E := by
  intro a v σ H Hf Δ A s Q st r q
  refine tG_inv fun pins sh I => tG_of (pg_name hN hi hx hf) ?_
  have hlen : i < σ.length := by rw [I.len]; exact (List.getElem?_eq_some_iff.mp hi).1
  refine q _ ?_ ⟨by rw [List.length_set], fun j hj => by rw [List.getElem?_set_ne (by simpa using Ne.symm (fun e => hj (by simp [e])))]⟩
  have z := st.imm (P := ι.tr s) hlen (by rw [ι.keys]; exact hix) r
  rw [cut_cutL] at z
  exact z
/-- several targets -/
def tGs (X : Cx) (ts : List Expr) : TGs := fun vs σ H Q => ∀ pins s us, Inv X pins σ H s → Vals vs us → wpAny (model X.prog X.w) X.A (assignInOrder ((assignEach ts X.env).map (·.2)) us) (fun _ s' => ∃ σ' H', Inv X pins σ' H' s' ∧ Q σ' H') X.xe s
theorem pGs (X : Cx) (ts : List Expr) : PGs X ts (tGs X ts) := ⟨fun pins s _ _ _ us _ I r h => h pins s us I r⟩
theorem tGs_of {X : Cx} {ts : List Expr} {t : TGs} (p : PGs X ts t) {vs : List V} {σ : L2.St} {H : Hp} {Q : L2.St → Hp → Prop} (h : t vs σ H Q) : tGs X ts vs σ H Q := fun pins s us I r => p.run pins s σ H vs us Q I r h
def GXs (X : Cx) {S : Type} (ι : Io S) (ts : List Expr) {α : Type} (ixs : List Nat) (bind : α → Dl) (E : α → List D) : Prop :=
  ∀ (x : α) (vs : List V) (σ : L2.St) (H Hf : Hp) (Δ : Dl) (A : Nat → List Addr) (s : S) (Q : L2.St → Hp → Prop), Sat X.K σ H Hf (ι.tr s ++ Δ) A → RpAll X.K Hf vs (E x) →
    (∀ σ', Sat X.K σ' H Hf (ι.tr s ++ (bind x ++ Δ)) (cutL A ixs) → Only ixs σ σ' → Q σ' H) → tGs X ts vs σ H Q
theorem gxs_nil : GXs X ι [] (α := α) [] (fun _ => []) (fun _ => []) := by
  intro x vs σ H Hf Δ A s Q st r q
  cases r
  refine tGs_of pgs_nil ⟨rfl, q σ ?_ ⟨rfl, fun _ _ => rfl⟩⟩
  have : cutL A [] = A := by funext j; simp [cutL]
  rw [this]
  exact st
theorem gxs_cons {t : Expr} {ts : List Expr} {i1 i2 : List Nat} {b1 b2 : α → Dl} {F : α → List D} (h1 : GX X ι t i1 b1 E) (h2 : GXs X ι ts i2 b2 F)
    (hs : (assignEach (t :: ts) X.env).map (·.2) = assign t X.env :: (assignEach ts X.env).map (·.2) := by rfl) : GXs X ι (t :: ts) (i1 ++ i2) (fun x => b2 x ++ b1 x) (fun x => E x :: F x) := by
  intro x vs σ H Hf Δ A s Q st r q
  cases r with
  | cons r rs =>
    refine tGs_of (pgs_cons (pG X t) (pGs X ts) hs) ⟨_, _, rfl, ?_⟩
    refine h1 x _ σ H Hf Δ A s _ st r fun σ1 st1 o1 => ?_
    refine h2 x _ σ1 H Hf _ _ s _ st1 rs fun σ2 st2 o2 => ?_
    rw [cutL_cutL] at st2
    exact q σ2 (by simpa only [List.append_assoc] using st2) ⟨o2.len.trans o1.len, fun j hj => (o2.out j fun z => hj (List.mem_append_right _ z)).trans (o1.out j fun z => hj (List.mem_append_left _ z))⟩
/-- (a, b, ..) = data that is a tuple of so many parts -/
theorem gx_tup {ts : List Expr} {k : Nat} {ixs : List Nat} {b : α → Dl} {F : α → List D} (h : GXs X ι ts ixs b F) (he : ∀ x, E x = .tuple (F x)) (hl : ∀ x, (F x).length = (assignEach ts X.env).length) (hc : X.calm = true := by rfl)
    (hst : (assignEach ts X.env).findIdx? (·.1) = none := by rfl) : GX X ι (.Tuple ts k pos) ixs b E := by
  intro x v σ H Hf Δ A s Q st r q
  rw [he] at r
  cases r with
  | @tup a vs _ hs hz ra =>
    exact tG_of (pg_tup hc (pGs X ts) rfl hst) ⟨a, vs, rfl, st.sub.tup hs, ra.len.trans (hl x), h x vs σ H Hf Δ A s Q st ra q⟩
/-- the target through another view of the data -/
theorem GX.map {β : Type} {ixs : List Nat} {b : β → Dl} {F : β → D} (h : GX X ι tg ixs b F) (f : α → β) (he : ∀ x, E x = F (f x)) : GX X ι tg ixs (fun x => b (f x)) E := by
  intro x v σ H Hf Δ A s Q st r q
  rw [he] at r
  exact h (f x) v σ H Hf Δ A s Q st r q
/-! ### for -/
inductive Fl (W R : Type) where
  | next (w : W)
  | cont (w : W)
  | brk (w : W)
  | ret (r : R)
/-- the ways out of a body that do not come to its end -/
inductive Xt (W R : Type) where
  | cont (w : W)
  | brk (w : W)
  | ret (r : R)
def Xt.fl {W R : Type} : Xt W R → Fl W R
  | .cont w => .cont w
  | .brk w => .brk w
  | .ret r => .ret r
/-- a loop that may be left -/
def forE {α W R : Type} (f : W → α → Option (Fl W R)) : List α → W → Option (Fl W R)
  | [], w => some (.next w)
  | x :: xs, w => (f w x).bind fun o => match o with
    | .next w' => forE f xs w'
    | .cont w' => forE f xs w'
    | .brk w' => some (.next w')
    | .ret r => some (.ret r)
theorem foldlM_drop {α W : Type} {f : W → α → Option W} {xs : List α} {i : Nat} {x : α} {w w' : W} (hx : xs[i]? = some x) (h : (xs.drop i).foldlM f w = some w') : ∃ w1, f w x = some w1 ∧ (xs.drop (i + 1)).foldlM f w1 = some w' := by
  obtain ⟨hi, e⟩ := List.getElem?_eq_some_iff.mp hx
  rw [List.drop_eq_getElem_cons hi, e, List.foldlM_cons] at h
  cases q : f w x with
  | none => rw [q] at h; cases h
  | some w1 => rw [q] at h; exact ⟨w1, rfl, h⟩
theorem bind_some {α β : Type} {m : Option α} {k : α → Option β} {r : β} (h : m.bind k = some r) : ∃ a, m = some a ∧ k a = some r := by
  cases m with
  | none => cases h
  | some a => exact ⟨a, rfl, h⟩
end
section
variable {X : Cx} {S : Type} {ι : Io S} {Δ : Dl} {s : S} {R : Type} {out : R → Out S} {rest : List Stmt} {pos : Pos} {tg iter : Expr} {body : List Stmt} {α : Type} {E : α → D}
/-- for tg in iter: body, never left -/
theorem bx_for {W : Type} (Δw : W → Dl) (sw : W → S) {w0 : S → W} {Mi : (List α → S → Option R) → Option R} {ixs : List Nat} {b : α → Dl} {f : W → α → Option W} {K : W → Option R}
    (hi : IX X ι Δ s tg iter Mi E) (hg : GX X ι tg ixs b E) (h0 : ∀ s1, sw (w0 s1) = s1) (h0' : ∀ s1, Le (Δw (w0 s1)) Δ)
    (hb : ∀ w x, BX X ι (b x ++ Δw w) (sw w) body (f w x) (fun w' => .next (Δw w') (sw w')))
    (hk : ∀ w, BX X ι (Δw w) (sw w) rest (K w) out) (hp : PassesOwn (model X.prog X.w) X.A X.env X.xe := by exact PassesOwn.never) (hc : X.calm = true := by rfl)
    (hs : ∀ x, foldedSetIterable iter X.env x = pure x := by intro _; rfl) (hx : ∀ i ∈ ixs, i ∉ ι.ix := by decide) :
    BX X ι Δ s (.For tg iter body [] pos :: rest) (Mi fun xs s1 => (xs.foldlM f (w0 s1)).bind K) out := by
  intro r hr σ H Hf A Dn st p
  refine tS_cons (ps_for hp hc (pI X tg iter) (pG X tg) (pS X body) hs) (hi _ r hr σ H Hf A _ st fun xs s1 hx1 J H1 Hf1 st1 e1 wk => ?_)
  obtain ⟨wf, hf, hK⟩ := bind_some hx1
  refine ⟨fun i m σ' H' => m = xs.length - i ∧ i ≤ xs.length ∧ ∃ w Hf' A', Sat X.K σ' H' Hf' (ι.tr (sw w) ++ Δw w) A' ∧ Stp ι.ix σ A H Hf σ' A' H' Hf' ∧ Sub Hf1 Hf' ∧ (xs.drop i).foldlM f w = some wf,
    ⟨xs.length, by simp, Nat.zero_le _, w0 s1, Hf1, A, by rw [h0]; exact st1.weak (h0' s1).app, e1.stp _ _, Sub.refl _, hf⟩, ?_⟩
  rintro i m σ' H' ⟨rfl, hi', w, Hf', A', st', sp, sb, hw⟩
  by_cases hlt : i < xs.length
  · obtain ⟨x, hxi⟩ : ∃ x, xs[i]? = some x := ⟨_, List.getElem?_eq_getElem hlt⟩
    obtain ⟨w1, hw1, hw2⟩ := foldlM_drop hxi hw
    refine .inr ⟨wk.go i H' Hf' sb st'.sub hlt, fun σ2 H2 => ∃ Hf2 A2, Sat X.K σ2 H2 Hf2 (ι.tr (sw w1) ++ Δw w1) A2 ∧ Stp ι.ix σ A H Hf σ2 A2 H2 Hf2 ∧ Sub Hf1 Hf2, fun σ2 H2 ⟨Hf2, A2, q1, q2, q3⟩ => ⟨xs.length - (i + 1), by omega, rfl, hlt, w1, Hf2, A2, q1, q2, q3, hw2⟩, fun v H2 hy => ?_⟩
    obtain ⟨Hf2, e2, sb2, rv⟩ := wk.yld i x v H' H2 Hf' sb st'.sub hxi hy
    have st2 := st'.up e2 sb2
    refine hg x v σ' H2 Hf2 _ A' (sw w) _ st2 rv fun σ3 st3 o3 => ?_
    refine hb w x w1 hw1 σ3 H2 Hf2 _ _ st3 ?_
    have sp3 : Stp ι.ix σ A H Hf σ3 (cutL A' ixs) H2 Hf2 := (sp.trans (e2.toA.stp _ _)).trans (stp_cutL hx o3)
    exact fun σ4 H4 Hf4 A4 q1 q2 => ⟨Hf4, A4, q1, sp3.trans q2, sb.trans (e2.grow.trans q2.grow)⟩
  · have ei : i = xs.length := by omega
    subst ei
    rw [List.drop_length] at hw
    have ew : w = wf := Option.some.inj hw
    subst ew
    refine .inl ⟨wk.stop _ H' Hf' sb st'.sub (Nat.le_refl _), ?_⟩
    exact hk w r hK σ' H' Hf' A' Dn st' (p.step sp)
end
end Ab
namespace Ab
open PySem PySem.Spec PyProof.Rows L2
theorem nin_ne {a p : Addr} {l : List Addr} (h : a ∈ l) (n : p ∉ l) : a ≠ p := fun z => n (z ▸ h)
/-! ### comprehensions -/
def compM {α β S : Type} (f : α → S → Option (Option β × S)) : List α → S → Option (List β × S)
  | [], s => some ([], s)
  | x :: xs, s => (f x s).bind fun p => (compM f xs p.2).bind fun q => some (match p.1 with | some y => y :: q.1 | none => q.1, q.2)
theorem compM_drop {α β S : Type} {f : α → S → Option (Option β × S)} {xs : List α} {i : Nat} {x : α} {s s' : S} {ys : List β} (hx : xs[i]? = some x) (h : compM f (xs.drop i) s = some (ys, s')) :
    ∃ o s1 zs, f x s = some (o, s1) ∧ compM f (xs.drop (i + 1)) s1 = some (zs, s') ∧ ys = (match o with | some y => y :: zs | none => zs) := by
  obtain ⟨hi, e⟩ := List.getElem?_eq_some_iff.mp hx
  rw [List.drop_eq_getElem_cons hi, e] at h
  obtain ⟨p, h1, h2⟩ := bind_some (show (f x s).bind _ = some (ys, s') from h)
  obtain ⟨q, h3, h4⟩ := bind_some h2
  have e2 := Option.some.inj h4
  injection e2 with e3 e4
  subst e4
  exact ⟨p.1, p.2, q.1, h1, h3, e3.symm⟩
/-- where no state is touched and nothing fails -/
theorem compM_total {α β S : Type} {f : α → S → Option (Option β × S)} {g : α → Option β} (h : ∀ x s, f x s = some (g x, s)) : ∀ (xs : List α) (s : S), compM f xs s = some (xs.filterMap g, s)
  | [], s => rfl
  | x :: xs, s => by
    show (f x s).bind _ = _
    rw [h x s]
    show (compM f xs s).bind _ = _
    rw [compM_total h xs s]
    show some _ = some _
    cases e : g x with
    | none => rw [List.filterMap_cons_none e]
    | some y => rw [List.filterMap_cons_some e]
section
variable {K : KF} {σ : L2.St} {H Hf : Hp} {Δ P : Dl} {A : Nat → List Addr}
theorem Sat.poke (st : Sat K σ H Hf Δ A) {p : Addr} {o : HO} (n : Hf p = none) (nA : ∀ i, p ∉ A i) : Sat K σ (upd H p o) Hf Δ A where
  sub := fun a u e => by rw [upd_ne (ne_of_none e n)]; exact st.sub a u e
  slot := fun i T h => by
    obtain ⟨v, h1, h2⟩ := st.slot i T h
    exact ⟨v, h1, h2.up (Sub.refl _) fun a ha u e => by rw [upd_ne (nin_ne ha (nA i))]; exact e⟩
  own := fun i a h => ⟨(st.own i a h).1, by rw [upd_ne (nin_ne h (nA i))]; exact (st.own i a h).2⟩
  inj := st.inj
theorem Sat.freeze (st : Sat K σ H Hf Δ A) {p : Addr} {o : HO} (e : H p = some o) (n : Hf p = none) (nA : ∀ i, p ∉ A i) : Sat K σ H (upd Hf p o) Δ A where
  sub := fun a u h => by
    by_cases q : a = p
    · subst q; rw [upd_same] at h; rw [e]; exact h
    · rw [upd_ne q] at h; exact st.sub a u h
  slot := fun i T h => by
    obtain ⟨v, h1, h2⟩ := st.slot i T h
    exact ⟨v, h1, h2.up (fun a u q => by rw [upd_ne (ne_of_none q n)]; exact q) fun a _ u q => q⟩
  own := fun i a h => ⟨by rw [upd_ne (nin_ne h (nA i))]; exact (st.own i a h).1, (st.own i a h).2⟩
  inj := st.inj
theorem mem_wipe_ne {vs : List Nat} {j : Nat} (h : j ∉ vs) : ∀ (σ : L2.St), (wipe σ vs)[j]? = σ[j]? := by
  intro σ
  induction vs with
  | nil => rfl
  | cons v vs ih =>
    simp only [List.mem_cons, not_or] at h
    show ((wipe σ vs).set v none)[j]? = _
    rw [List.getElem?_set_ne (Ne.symm h.1), ih h.2]
theorem wipe_eq {vs ixs : List Nat} {σ σ2 : L2.St} (o : Only ixs (wipe σ vs) σ2) (h : ∀ i ∈ ixs, i ∈ vs) : wipe σ2 vs = wipe σ vs := by
  apply List.ext_getElem?
  intro j
  by_cases m : j ∈ vs
  · have len : ∀ (τ : L2.St), (wipe τ vs)[j]? = if j < τ.length then some none else none := by
      intro τ
      clear h o
      induction vs with
      | nil => simp at m
      | cons v vs ih =>
        show ((wipe τ vs).set v none)[j]? = _
        by_cases e : v = j
        · subst e
          by_cases hl : v < (wipe τ vs).length
          · rw [List.getElem?_set_self hl, if_pos (by rw [wipe_length] at hl; exact hl)]
          · rw [List.getElem?_eq_none (by simpa using hl), if_neg (by rw [wipe_length] at hl; exact hl)]
        · rw [List.getElem?_set_ne e]
          exact ih (by simpa [Ne.symm e] using m)
    rw [len, len, o.len, wipe_length]
  · rw [mem_wipe_ne m, mem_wipe_ne m, o.out j (fun z => m (h j z)), mem_wipe_ne m]
def forget (vs : List Nat) : Dl := vs.map fun i => (i, none)
theorem forget_keys (vs : List Nat) : (forget vs).map (·.1) = vs := by simp [forget, Function.comp_def]
theorem lk_forget {vs : List Nat} {i : Nat} (h : i ∈ vs) (Δ : Dl) : lk (forget vs ++ Δ) i = none := by
  induction vs with
  | nil => simp at h
  | cons v vs ih =>
    show lk ((v, none) :: (forget vs ++ Δ)) i = none
    by_cases e : i = v
    · subst e; rw [lk_self]
    · rw [lk_ne e]; exact ih (by simpa [e] using h)
theorem Sat.wiped (st : Sat K σ H Hf (P ++ Δ) A) {vs : List Nat} (hP : ∀ i ∈ vs, i ∉ P.map (·.1)) : Sat K (wipe σ vs) H Hf (P ++ (forget vs ++ Δ)) (cutL A vs) where
  sub := st.sub
  slot := fun i T h => by
    by_cases m : i ∈ vs
    · rw [lk_append_out (hP i m), lk_forget m] at h; cases h
    · have h' : lk (P ++ Δ) i = some T := by
        by_cases k : i ∈ P.map (·.1)
        · rw [lk_append_in (Δ' := Δ) k] at h; exact h
        · rw [lk_append_out k, lk_append_out (by rw [forget_keys]; exact m)] at h; rw [lk_append_out k]; exact h
      obtain ⟨v, h1, h2⟩ := st.slot i T h'
      exact ⟨v, by rw [mem_wipe_ne m]; exact h1, by unfold cutL; rw [if_neg m]; exact h2⟩
  own := fun i a h => st.own i a (cutL_in h).1
  inj := fun i j a h1 h2 => st.inj i j a (cutL_in h1).1 (cutL_in h2).1
end
section
variable {X : Cx} {S : Type} {ι : Io S} {Δ : Dl} {s : S} {R : Type} {tg iter elt : Expr} {ifs : List Expr} {pos : Pos} {scope : Scope}
variable {α β : Type} {E : α → D} {F : β → D}
def tTs (X : Cx) (ifs : List Expr) : TT := fun σ H Q => ∀ pins s, Inv X pins σ H s →
    wpAny (model X.prog X.w) X.A (forIn ifs true fun c r => if r = true then do let ok ← isTrue c X.env (eval c X.env); pure (ForInStep.yield ok) else pure (ForInStep.yield r)) (TP X pins σ Q) X.xe s
theorem pTs (X : Cx) (ifs : List Expr) : PTs X ifs (tTs X ifs) := ⟨fun pins s _ _ _ I h => h pins s I⟩
theorem tTs_of {X : Cx} {ifs : List Expr} {t : TT} (p : PTs X ifs t) {σ : L2.St} {H : Hp} {Q : Bool → Hp → Prop} (h : t σ H Q) : tTs X ifs σ H Q := fun pins s I => p.run pins s σ H Q I h
/-- the tests of a comprehension -/
def CX (X : Cx) {S : Type} (ι : Io S) (Δ : Dl) (s : S) (ifs : List Expr) {R : Type} (M : (Bool → S → Option R) → Option R) : Prop :=
  ∀ k r, M k = some r → ∀ (σ : L2.St) (H Hf : Hp) (A : Nat → List Addr) (Q : Bool → Hp → Prop), Sat X.K σ H Hf (ι.tr s ++ Δ) A →
    (∀ x s', k x s' = some r → ∀ H' Hf', Sat X.K σ H' Hf' (ι.tr s' ++ Δ) A → ExtA A H Hf H' Hf' → Q x H') → tTs X ifs σ H Q
theorem cx_nil : CX X ι Δ s [] (R := R) (fun k => k true s) := by
  intro k r hk σ H Hf A Q st q
  exact tTs_of pts_nil (q true s hk H Hf st (ExtA.refl _ _ _))
theorem cx_one {c : Expr} {M : (Bool → S → Option R) → Option R} (h : TX X ι Δ s c M) : CX X ι Δ s [c] M := by
  intro k r hk σ H Hf A Q st q
  exact tTs_of (pts_one (pT X c)) (h k r hk σ H Hf A Q st q)
/-- a new list, still one's own -/
def EO (X : Cx) {S : Type} (ι : Io S) (Δ : Dl) (s : S) (e : Expr) {α R : Type} (M : (List α → S → Option R) → Option R) (E : α → D) : Prop :=
  ∀ k r, M k = some r → ∀ (σ : L2.St) (H Hf : Hp) (A : Nat → List Addr) (Q : VK), Sat X.K σ H Hf (ι.tr s ++ Δ) A →
    (∀ xs s', k xs s' = some r → ∀ a vs H' Hf', Sat X.K σ H' Hf' (ι.tr s' ++ Δ) A → ExtA A H Hf H' Hf' → H' a = some (.lst vs) → vs.length ≤ Line → RpAll X.K Hf' vs (xs.map E) → Hf' a = none → H a = none → Q (.ref a) H') → tE X e σ H Q
theorem EO.ex {e : Expr} {M : (List α → S → Option R) → Option R} (h : EO X ι Δ s e M E) : EX X ι Δ s e M (fun l => .list (l.map E)) := by
  intro k r hk σ H Hf A Q st q
  refine h k r hk σ H Hf A Q st fun xs s' hx a vs H' Hf' st' e' ha hz ra hn hf => ?_
  have nA : ∀ i, a ∉ A i := fun i m => (st.own i a m).2 hf
  refine q xs s' hx (.ref a) H' (upd Hf' a (.lst vs)) (st'.freeze ha hn nA) ⟨e'.keep, e'.there, fun b u h => ?_, fun b h => ?_⟩ (.lst (.inl upd_same) hz (ra.up fun b u h => ?_))
  · have := e'.grow b u h
    rw [upd_ne (ne_of_none this hn)]; exact this
  · by_cases z : b = a
    · subst z; exact .inr hf
    · rw [upd_ne z] at h; exact e'.news b h
  · rw [upd_ne (ne_of_none h hn)]; exact h
/-- one turn -/
@[reducible] def compF {α β S : Type} (Mc : α → S → (Bool → S → Option (Option β × S)) → Option (Option β × S)) (Me : α → S → (β → S → Option (Option β × S)) → Option (Option β × S)) : α → S → Option (Option β × S) :=
  fun x s1 => Mc x s1 fun c s2 => if c = true then Me x s2 fun y s3 => some (some y, s3) else some (none, s2)
def gB (X : Cx) (scope : Scope) (tg : Expr) : TG := fun v σ H Q => ∀ s0 H0 C cl fp, tG (X.blk s0 H0 scope (compEnvC scope cl C X.env) fp) tg v σ H Q
def ttB (X : Cx) (scope : Scope) (ifs : List Expr) : TT := fun σ H Q => ∀ s0 H0 C cl fp, tTs (X.blk s0 H0 scope (compEnvC scope cl C X.env) fp) ifs σ H Q
def teB (X : Cx) (scope : Scope) (elt : Expr) : TE := fun σ H Q => ∀ s0 H0 C cl fp, tE (X.blk s0 H0 scope (compEnvC scope cl C X.env) fp) elt σ H Q
/-- a comprehension, ahead of what is done with its list -/
structure LO (X : Cx) {S : Type} (ι : Io S) (Δ : Dl) (s : S) (elt tg iter : Expr) (ifs : List Expr) (scope : Scope) (own : List (Str × Nat)) {α R : Type} (M : (List α → S → Option R) → Option R) (E : α → D) : Prop where
  hN : X.N.Nodup
  ok : BlkOk X.N X.env.scope scope own
  hc : X.calm = true
  hs : ∀ x, foldedSetIterable iter X.env x = pure x
  read : ∀ k r, M k = some r → ∀ (σ : L2.St) (H Hf : Hp) (A : Nat → List Addr) (Q : VK), Sat X.K σ H Hf (ι.tr s ++ Δ) A →
    (∀ xs s', k xs s' = some r → ∀ a vs H' Hf', Sat X.K σ H' Hf' (ι.tr s' ++ Δ) A → ExtA A H Hf H' Hf' → H' a = some (.lst vs) → vs.length ≤ Line → RpAll X.K Hf' vs (xs.map E) → Hf' a = none → H a = none → Q (.ref a) H') →
    tLc (tI X tg iter) (gB X scope tg) (ttB X scope ifs) (teB X scope elt) (own.map (·.2)) σ H Q
theorem LO.eo {own : List (Str × Nat)} {M : (List α → S → Option R) → Option R} (h : LO X ι Δ s elt tg iter ifs scope own M E) : EO X ι Δ s (.ListComp elt [⟨tg, iter, ifs, 0⟩] scope pos) M E := fun k r hk σ H Hf A Q st q =>
  tE_of (pe_lc h.hc h.hN (pI X tg iter) h.ok (fun s0 H0 C cl fp => ⟨fun pins s _ _ _ u _ I r h => h s0 H0 C cl fp pins s u I r⟩)
    (fun s0 H0 C cl fp => ⟨fun pins s _ _ _ I h => h s0 H0 C cl fp pins s I⟩) (fun s0 H0 C cl fp => ⟨fun pins s _ _ _ I h => h s0 H0 C cl fp pins s I⟩) h.hs) (h.read k r hk σ H Hf A Q st q)
theorem LO.congr {own : List (Str × Nat)} {M N : (List α → S → Option R) → Option R} (h : LO X ι Δ s elt tg iter ifs scope own M E) (eq : ∀ k, N k = M k) : LO X ι Δ s elt tg iter ifs scope own N E :=
  ⟨h.hN, h.ok, h.hc, h.hs, fun k r hk => h.read k r ((eq k).symm.trans hk)⟩
theorem lo_comp {own : List (Str × Nat)} {ixs : List Nat} {b : α → Dl} {Mi : (List α → S → Option R) → Option R}
    {Mc : α → S → (Bool → S → Option (Option β × S)) → Option (Option β × S)} {Me : α → S → (β → S → Option (Option β × S)) → Option (Option β × S)} (hN : X.N.Nodup)
    (hi : IX X ι Δ s tg iter Mi E)
    (hg : ∀ s0 H0 C cl fp, GX (X.blk s0 H0 scope (compEnvC scope cl C X.env) fp) ι tg ixs b E)
    (ht : ∀ s0 H0 C cl fp x s1, CX (X.blk s0 H0 scope (compEnvC scope cl C X.env) fp) ι (b x ++ (forget (own.map (·.2)) ++ Δ)) s1 ifs (Mc x s1))
    (he : ∀ s0 H0 C cl fp x s1, EX (X.blk s0 H0 scope (compEnvC scope cl C X.env) fp) ι (b x ++ (forget (own.map (·.2)) ++ Δ)) s1 elt (Me x s1) F)
    (ok : blkC X.N X.env.scope scope own = true := by kernel_rfl) (kx : List Nat := ixs) (hk1 : ∀ x, (b x).map (·.1) = kx := by intro _; rfl) (hk2 : ∀ i ∈ kx, i ∈ own.map (·.2) := by decide) (hk3 : ∀ i ∈ ixs, i ∈ own.map (·.2) := by decide)
    (hx : ∀ i ∈ own.map (·.2), i ∉ ι.ix := by decide) (hc : X.calm = true := by rfl) (hs : ∀ x, foldedSetIterable iter X.env x = pure x := by intro _; rfl) :
    LO X ι Δ s elt tg iter ifs scope own (fun k => Mi fun xs s1 => (compM (compF Mc Me) xs s1).bind fun p => k p.1 p.2) F := by
  refine ⟨hN, blkOk_by ok, hc, hs, ?_⟩
  intro k r hk σ H Hf A Q st q
  refine hi _ r hk σ H Hf A _ st fun xs s1 hx1 J H1 Hf1 st1 e1 wk => ?_
  obtain ⟨⟨ys, sf⟩, hf, hK⟩ := bind_some hx1
  intro Dd hD
  have hDA : ∀ i, Dd ∉ A i := fun i m => (st1.own i Dd m).2 hD
  have hxP : ∀ s', ∀ i ∈ own.map (·.2), i ∉ (ι.tr s').map (·.1) := fun s' i m => by rw [ι.keys]; exact hx i m
  refine ⟨fun i m H' => m = xs.length - i ∧ i ≤ xs.length ∧ ∃ si Hf' acc dn rs, Sat X.K σ H' Hf' (ι.tr si ++ Δ) A ∧ ExtA A H1 Hf1 H' Hf' ∧ H' Dd = some (.lst acc) ∧ acc.length ≤ i ∧ RpAll X.K Hf' acc (dn.map F) ∧ Hf' Dd = none ∧
    compM (compF Mc Me) (xs.drop i) si = some (rs, sf) ∧ dn ++ rs = ys, ⟨xs.length, by simp, Nat.zero_le _, s1, Hf1, [], [], ys, st1.up (Ext.newO hD) (Sub.newO hD st1.sub), (Ext.newO hD).toA, upd_same, Nat.le_refl _, .nil, st1.sub.non hD, hf, rfl⟩, ?_⟩
  rintro i m H' ⟨rfl, hi', si, Hf', acc, dn, rs, st', ex', hDl, hal, hacc, hDf, hcm, hys⟩
  by_cases hlt : i < xs.length
  · obtain ⟨x, hxi⟩ : ∃ x, xs[i]? = some x := ⟨_, List.getElem?_eq_getElem hlt⟩
    obtain ⟨o, s2, zs, hfx, hcm2, ers⟩ := compM_drop hxi hcm
    refine .inr ⟨wk.go i H' Hf' ex'.grow st'.sub hlt, fun H2 => ∃ Hf2 acc2, Sat X.K σ H2 Hf2 (ι.tr s2 ++ Δ) A ∧ ExtA A H1 Hf1 H2 Hf2 ∧ H2 Dd = some (.lst acc2) ∧ acc2.length ≤ i + 1 ∧ RpAll X.K Hf2 acc2 ((dn ++ o.toList).map F) ∧ Hf2 Dd = none,
      fun H2 ⟨Hf2, acc2, q1, q2, q3, q4, q5, q6⟩ => ⟨xs.length - (i + 1), by omega, rfl, hlt, s2, Hf2, acc2, dn ++ o.toList, zs, q1, q2, q3, q4, q5, q6, hcm2, by rw [← hys, ers]; cases o <;> simp⟩, fun v H2 hy => ?_⟩
    obtain ⟨Hf2, e2, sb2, rv⟩ := wk.yld i x v H' H2 Hf' ex'.grow st'.sub hxi hy
    have st2 := st'.up e2 sb2
    have hD2 : H2 Dd = some (.lst acc) := e2.keep _ _ hDl
    have hDf2 : Hf2 Dd = none := by
      cases z : Hf2 Dd with
      | none => rfl
      | some u =>
        rcases e2.news Dd (by rw [z]; simp) with w | w
        · exact absurd hDf w
        · rw [hDl] at w; cases w
    intro s0 H0 C cl fp
    refine hg s0 H0 C cl fp x v (wipe σ (own.map (·.2))) H2 Hf2 (forget (own.map (·.2)) ++ Δ) _ si _ (st2.wiped (hxP si)) rv fun σ3 st3 o3 => ?_
    refine ⟨wipe_eq o3 hk3, ?_⟩
    intro s0 H0 C cl fp
    -- what a turn ends with, from the block's state
    have back : ∀ {H4 Hf4 : Hp} {s4 : S}, Sat X.K σ3 H4 Hf4 (ι.tr s4 ++ (b x ++ (forget (own.map (·.2)) ++ Δ))) (cutL (cutL A (own.map (·.2))) ixs) → ExtA (cutL (cutL A (own.map (·.2))) ixs) H2 Hf2 H4 Hf4 →
        Sat X.K σ H4 Hf4 (ι.tr s4 ++ Δ) A ∧ ExtA A H1 Hf1 H4 Hf4 ∧ H4 Dd = some (.lst acc) ∧ Hf4 Dd = none := by
      intro H4 Hf4 s4 st4 e4
      have inA : ∀ {j a}, a ∈ cutL (cutL A (own.map (·.2))) ixs j → a ∈ A j ∧ j ∉ own.map (·.2) := fun h => ⟨(cutL_in (cutL_in h).1).1, (cutL_in (cutL_in h).1).2⟩
      refine ⟨⟨st4.sub, fun j T hj => ?_, fun j a ha => ?_, st2.inj⟩, ?_, ?_, ?_⟩
      · by_cases m : j ∈ own.map (·.2)
        · rw [lk_append_out (hxP s4 j m)] at hj
          have hj2 : lk (ι.tr si ++ Δ) j = some T := by rw [lk_append_out (hxP si j m)]; exact hj
          obtain ⟨w, w1, w2⟩ := st2.slot j T hj2
          refine ⟨w, w1, w2.up e4.grow fun a ha u hu => e4.keep a u (fun l hl => ?_) hu⟩
          have := st2.inj j l a ha (inA hl).1
          subst this
          exact (inA hl).2 m
        · have mk : j ∉ kx := fun z => m (hk2 j z)
          have hj2 : lk (ι.tr s4 ++ (b x ++ (forget (own.map (·.2)) ++ Δ))) j = some T := by
            by_cases k' : j ∈ (ι.tr s4).map (·.1)
            · rw [lk_append_in (Δ' := Δ) k']; exact hj
            · rw [lk_append_out k', lk_append_out (by rw [hk1]; exact mk), lk_append_out (by rw [forget_keys]; exact m)]
              rw [lk_append_out k'] at hj; exact hj
          obtain ⟨w, w1, w2⟩ := st4.slot j T hj2
          have ni : j ∉ ixs := fun z => m (hk3 j z)
          rw [o3.out j ni, mem_wipe_ne m] at w1
          refine ⟨w, w1, ?_⟩
          have ec : cutL (cutL A (own.map (·.2))) ixs j = A j := by unfold cutL; rw [if_neg ni, if_neg m]
          rw [ec] at w2
          exact w2
      · obtain ⟨n1, n2⟩ := st2.own j a ha
        refine ⟨?_, e4.there a n2⟩
        cases z : Hf4 a with
        | none => rfl
        | some u =>
          rcases e4.news a (by rw [z]; simp) with w | w
          · exact absurd n1 w
          · exact absurd w n2
      · have e5 : ExtA A H2 Hf2 H4 Hf4 := ⟨fun a u m h => e4.keep a u (fun l hl => m l (inA hl).1) h, e4.there, e4.grow, e4.news⟩
        exact (ex'.trans e2.toA).trans e5
      · exact e4.keep _ _ (fun l hl => hDA l (inA hl).1) hD2
      · cases z : Hf4 Dd with
        | none => rfl
        | some u =>
          rcases e4.news Dd (by rw [z]; simp) with w | w
          · exact absurd hDf2 w
          · rw [hD2] at w; cases w
    refine ht s0 H0 C cl fp x si _ (o, s2) hfx σ3 H2 Hf2 _ _ st3 fun c s3 hc3 H3 Hf3 st4 e3 => ?_
    cases c with
    | false =>
      have hc3 : some ((none : Option β), s3) = some (o, s2) := hc3
      injection hc3 with hc3
      injection hc3 with h1 h2
      subst h1
      subst h2
      obtain ⟨q1, q2, q3, q4⟩ := back st4 e3
      rw [if_neg Bool.false_ne_true]
      exact ⟨Hf3, acc, q1, q2, q3, Nat.le_succ_of_le hal, by simpa using hacc.up (e2.grow.trans e3.grow), q4⟩
    | true =>
      rw [if_pos rfl]
      intro s0 H0 C cl fp
      refine he s0 H0 C cl fp x s3 _ (o, s2) hc3 σ3 H3 Hf3 _ _ st4 fun y s4 hy4 w H4 Hf4 st5 e4 r4 => ?_
      have hy4 : some (some y, s4) = some (o, s2) := hy4
      injection hy4 with hy4
      injection hy4 with h1 h2
      subst h1
      subst h2
      obtain ⟨q1, q2, q3, q4⟩ := back st5 (e3.trans e4)
      have hz := wk.size
      refine ⟨acc, q3, lt_line (by omega), Hf4, acc ++ [w], q1.poke q4 hDA, ⟨fun a u m h => ?_, fun a h => ?_, q2.grow, q2.news⟩, upd_same, by rw [List.length_append]; exact Nat.succ_le_succ hal, ?_, q4⟩
      · rw [upd_ne (ne_of_none h hD)]
        exact q2.keep a u m h
      · obtain ⟨u, hu⟩ := not_none h
        rw [upd_ne (ne_of_none hu hD)]
        exact q2.there a h
      · rw [List.map_append]
        exact (hacc.up (e2.grow.trans (e3.grow.trans e4.grow))).append (.one r4)
  · have ei : i = xs.length := by omega
    subst ei
    rw [List.drop_length] at hcm
    injection hcm with hcm
    injection hcm with h1 h2
    subst h1
    subst h2
    rw [List.append_nil] at hys
    subst hys
    refine .inl ⟨wk.stop _ H' Hf' ex'.grow st'.sub (Nat.le_refl _), ?_⟩
    have hz := wk.size
    have hD0 : H Dd = none := none_back e1.there hD
    exact q dn si hK Dd acc H' Hf' st' (e1.trans ex') hDl (by omega) hacc hDf hD0
/-- .. where nothing is touched and nothing fails -/
theorem EO.congr {e : Expr} {M N : (List α → S → Option R) → Option R} (h : EO X ι Δ s e M E) (eq : ∀ k, N k = M k) : EO X ι Δ s e N E := fun k r hk => h k r ((eq k).symm.trans hk)
theorem EX.congr {γ : Type} {e : Expr} {M N : (γ → S → Option R) → Option R} {G : γ → D} (h : EX X ι Δ s e M G) (eq : ∀ k, N k = M k) : EX X ι Δ s e N G := fun k r hk => h k r ((eq k).symm.trans hk)
end
end Ab
namespace Ab
open PySem PySem.Spec PyProof.Rows L2
/-! ### kinds of data -/
namespace Ty
abbrev int : Int → D := PyData.int
abbrev bool : Bool → D := PyData.bool
abbrev str : Str → D := PyData.str
abbrev none : Unit → D := fun _ => PyData.none
abbrev lst {α : Type} (E : α → D) : List α → D := fun l => .list (l.map E)
abbrev tup {α : Type} (E : α → D) : List α → D := fun l => .tuple (l.map E)
abbrev opt {α : Type} (E : α → D) : Option α → D := fun o => match o with | .none => PyData.none | .some a => E a
abbrev p1 {α : Type} (E : α → D) : α → D := fun x => .tuple [E x]
abbrev p2 {α β : Type} (E : α → D) (F : β → D) : α × β → D := fun p => .tuple [E p.1, F p.2]
abbrev p3 {α β γ : Type} (E : α → D) (F : β → D) (G : γ → D) : α × β × γ → D := fun p => .tuple [E p.1, F p.2.1, G p.2.2]
abbrev p4 {α β γ δ : Type} (E : α → D) (F : β → D) (G : γ → D) (I : δ → D) : α × β × γ × δ → D := fun p => .tuple [E p.1, F p.2.1, G p.2.2.1, I p.2.2.2]
abbrev p5 {α β γ δ ε : Type} (E : α → D) (F : β → D) (G : γ → D) (I : δ → D) (J : ε → D) : α × β × γ × δ × ε → D := fun p => .tuple [E p.1, F p.2.1, G p.2.2.1, I p.2.2.2.1, J p.2.2.2.2]
abbrev p6 {α β γ δ ε ζ : Type} (E : α → D) (F : β → D) (G : γ → D) (I : δ → D) (J : ε → D) (L : ζ → D) : α × β × γ × δ × ε × ζ → D := fun p => .tuple [E p.1, F p.2.1, G p.2.2.1, I p.2.2.2.1, J p.2.2.2.2.1, L p.2.2.2.2.2]
end Ty
/-- == is equality; never deeper than n -/
structure Eqn {α : Type} [DecidableEq α] (E : α → D) (n : Nat) : Prop where
  eq : EqD E
  dep : Dep E n
theorem eqvAll_map {α : Type} [DecidableEq α] {E : α → D} (h : EqD E) : ∀ xs ys : List α, PyData.eqvAll (xs.map E) (ys.map E) = decide (xs = ys)
  | [], [] => rfl
  | [], _ :: _ => rfl
  | _ :: _, [] => rfl
  | x :: xs, y :: ys => by
    show (PyData.eqv (E x) (E y) && PyData.eqvAll (xs.map E) (ys.map E)) = _
    rw [h x y, eqvAll_map h xs ys]
    by_cases e1 : x = y <;> by_cases e2 : xs = ys <;> simp [e1, e2]
theorem depthAll_map {α : Type} {E : α → D} {n : Nat} (h : Dep E n) : ∀ xs : List α, PyData.depthAll (xs.map E) ≤ n
  | [] => Nat.zero_le _
  | x :: xs => by
    show max (E x).depth (PyData.depthAll (xs.map E)) ≤ n
    exact Nat.max_le.mpr ⟨h x, depthAll_map h xs⟩
namespace Eqn
theorem int : Eqn Ty.int 0 := ⟨fun x y => by show (x == y) = _; exact Bool.beq_eq_decide_eq x y, fun _ => Nat.le_refl _⟩
theorem bool : Eqn Ty.bool 0 := ⟨fun x y => by show (x == y) = _; exact Bool.beq_eq_decide_eq x y, fun _ => Nat.le_refl _⟩
theorem str : Eqn Ty.str 0 := ⟨fun x y => by show (x == y) = _; exact Bool.beq_eq_decide_eq x y, fun _ => Nat.le_refl _⟩
theorem none : Eqn Ty.none 0 := ⟨fun x y => by cases x; cases y; rfl, fun _ => Nat.le_refl _⟩
variable {α β γ δ ε : Type} [DecidableEq α] [DecidableEq β] [DecidableEq γ] [DecidableEq δ] [DecidableEq ε] {E : α → D} {F : β → D} {G : γ → D} {I : δ → D} {J : ε → D} {m n o p q : Nat}
theorem lst (h : Eqn E n) : Eqn (Ty.lst E) (n + 1) := ⟨fun x y => eqvAll_map h.eq x y, fun x => by show PyData.depthAll (x.map E) + 1 ≤ n + 1; have := depthAll_map h.dep x; omega⟩
theorem tup (h : Eqn E n) : Eqn (Ty.tup E) (n + 1) := ⟨fun x y => eqvAll_map h.eq x y, fun x => by show PyData.depthAll (x.map E) + 1 ≤ n + 1; have := depthAll_map h.dep x; omega⟩
theorem p2 (h : Eqn E m) (k : Eqn F n) : Eqn (Ty.p2 E F) (m + n + 1) := ⟨fun x y => by
    obtain ⟨a, b⟩ := x
    obtain ⟨c, d⟩ := y
    show (PyData.eqv (E a) (E c) && (PyData.eqv (F b) (F d) && true)) = _
    rw [h.eq, k.eq]
    by_cases e1 : a = c <;> by_cases e2 : b = d <;> simp [e1, e2], fun x => by
    show max (E x.1).depth (max (F x.2).depth 0) + 1 ≤ _
    have h1 := h.dep x.1
    have h2 := k.dep x.2
    omega⟩
theorem p3 (h : Eqn E m) (k : Eqn F n) (l : Eqn G o) : Eqn (Ty.p3 E F G) (m + n + o + 1) := ⟨fun x y => by
    obtain ⟨a, b, c⟩ := x
    obtain ⟨a', b', c'⟩ := y
    show (PyData.eqv (E a) (E a') && (PyData.eqv (F b) (F b') && (PyData.eqv (G c) (G c') && true))) = _
    rw [h.eq, k.eq, l.eq]
    by_cases e1 : a = a' <;> by_cases e2 : b = b' <;> by_cases e3 : c = c' <;> simp [e1, e2, e3], fun x => by
    show max (E x.1).depth (max (F x.2.1).depth (max (G x.2.2).depth 0)) + 1 ≤ _
    have h1 := h.dep x.1
    have h2 := k.dep x.2.1
    have h3 := l.dep x.2.2
    omega⟩
theorem p4 (h : Eqn E m) (k : Eqn F n) (l : Eqn G o) (r : Eqn I p) : Eqn (Ty.p4 E F G I) (m + n + o + p + 1) := ⟨fun x y => by
    obtain ⟨a, b, c, d⟩ := x
    obtain ⟨a', b', c', d'⟩ := y
    show (PyData.eqv (E a) (E a') && (PyData.eqv (F b) (F b') && (PyData.eqv (G c) (G c') && (PyData.eqv (I d) (I d') && true)))) = _
    rw [h.eq, k.eq, l.eq, r.eq]
    by_cases e1 : a = a' <;> by_cases e2 : b = b' <;> by_cases e3 : c = c' <;> by_cases e4 : d = d' <;> simp [e1, e2, e3, e4], fun x => by
    show max (E x.1).depth (max (F x.2.1).depth (max (G x.2.2.1).depth (max (I x.2.2.2).depth 0))) + 1 ≤ _
    have h1 := h.dep x.1
    have h2 := k.dep x.2.1
    have h3 := l.dep x.2.2.1
    have h4 := r.dep x.2.2.2
    omega⟩
theorem p5 (h : Eqn E m) (k : Eqn F n) (l : Eqn G o) (r : Eqn I p) (t : Eqn J q) : Eqn (Ty.p5 E F G I J) (m + n + o + p + q + 1) := ⟨fun x y => by
    obtain ⟨a, b, c, d, e⟩ := x
    obtain ⟨a', b', c', d', e'⟩ := y
    show (PyData.eqv (E a) (E a') && (PyData.eqv (F b) (F b') && (PyData.eqv (G c) (G c') && (PyData.eqv (I d) (I d') && (PyData.eqv (J e) (J e') && true))))) = _
    rw [h.eq, k.eq, l.eq, r.eq, t.eq]
    by_cases e1 : a = a' <;> by_cases e2 : b = b' <;> by_cases e3 : c = c' <;> by_cases e4 : d = d' <;> by_cases e5 : e = e' <;> simp [e1, e2, e3, e4, e5], fun x => by
    show max (E x.1).depth (max (F x.2.1).depth (max (G x.2.2.1).depth (max (I x.2.2.2.1).depth (max (J x.2.2.2.2).depth 0)))) + 1 ≤ _
    have h1 := h.dep x.1
    have h2 := k.dep x.2.1
    have h3 := l.dep x.2.2.1
    have h4 := r.dep x.2.2.2.1
    have h5 := t.dep x.2.2.2.2
    omega⟩
end Eqn
section
variable {X : Cx} {S : Type} {ι : Io S} {Δ : Dl} {s : S} {R : Type} {pos : Pos} {a b c e : Expr} {k : Nat}
variable {α β γ : Type} {Ea : α → D} {Eb : β → D} {Ec : γ → D}
variable {Ma : (α → S → Option R) → Option R} {Mb : S → (β → S → Option R) → Option R}
/-! ### comparisons -/
section
variable {Na : (Int → S → Option R) → Option R} {Nb : S → (Int → S → Option R) → Option R}
theorem ex_lt (ha : EX X ι Δ s a Na Ty.int) (hb : ∀ s1, EX X ι Δ s1 b (Nb s1) Ty.int) : EX X ι Δ s (.Compare a [.Lt] [b] pos) (fun k => Na fun x s1 => Nb s1 fun y s2 => k (decide (x < y)) s2) Ty.bool := ex_cmpT op_lt opD_b0 ha hb (nomark _)
theorem ex_le (ha : EX X ι Δ s a Na Ty.int) (hb : ∀ s1, EX X ι Δ s1 b (Nb s1) Ty.int) : EX X ι Δ s (.Compare a [.LtE] [b] pos) (fun k => Na fun x s1 => Nb s1 fun y s2 => k (decide (x ≤ y)) s2) Ty.bool := ex_cmpT op_le opD_b0 ha hb (nomark _)
theorem ex_gt (ha : EX X ι Δ s a Na Ty.int) (hb : ∀ s1, EX X ι Δ s1 b (Nb s1) Ty.int) : EX X ι Δ s (.Compare a [.Gt] [b] pos) (fun k => Na fun x s1 => Nb s1 fun y s2 => k (decide (y < x)) s2) Ty.bool := ex_cmpT op_gt opD_b0 ha hb (nomark _)
theorem ex_ge (ha : EX X ι Δ s a Na Ty.int) (hb : ∀ s1, EX X ι Δ s1 b (Nb s1) Ty.int) : EX X ι Δ s (.Compare a [.GtE] [b] pos) (fun k => Na fun x s1 => Nb s1 fun y s2 => k (decide (y ≤ x)) s2) Ty.bool := ex_cmpT op_ge opD_b0 ha hb (nomark _)
theorem tx_lt (ha : EX X ι Δ s a Na Ty.int) (hb : ∀ s1, EX X ι Δ s1 b (Nb s1) Ty.int) : TX X ι Δ s (.Compare a [.Lt] [b] pos) (fun k => Na fun x s1 => Nb s1 fun y s2 => k (decide (x < y)) s2) := tx_cmpT op_lt opD_b0 ha hb (nomark _)
theorem tx_le (ha : EX X ι Δ s a Na Ty.int) (hb : ∀ s1, EX X ι Δ s1 b (Nb s1) Ty.int) : TX X ι Δ s (.Compare a [.LtE] [b] pos) (fun k => Na fun x s1 => Nb s1 fun y s2 => k (decide (x ≤ y)) s2) := tx_cmpT op_le opD_b0 ha hb (nomark _)
theorem tx_gt (ha : EX X ι Δ s a Na Ty.int) (hb : ∀ s1, EX X ι Δ s1 b (Nb s1) Ty.int) : TX X ι Δ s (.Compare a [.Gt] [b] pos) (fun k => Na fun x s1 => Nb s1 fun y s2 => k (decide (y < x)) s2) := tx_cmpT op_gt opD_b0 ha hb (nomark _)
theorem tx_ge (ha : EX X ι Δ s a Na Ty.int) (hb : ∀ s1, EX X ι Δ s1 b (Nb s1) Ty.int) : TX X ι Δ s (.Compare a [.GtE] [b] pos) (fun k => Na fun x s1 => Nb s1 fun y s2 => k (decide (y ≤ x)) s2) := tx_cmpT op_ge opD_b0 ha hb (nomark _)
end
section
variable {Mb' : S → (α → S → Option R) → Option R} {n : Nat}
theorem ex_eq [DecidableEq α] (hr : Room k X.A) (q : Eqn Ea n) (ha : EX X ι Δ s a Ma Ea) (hb : ∀ s1, EX X ι Δ s1 b (Mb' s1) Ea) (hn : n ≤ 64 := by decide) :
    EX X ι Δ s (.Compare a [.Eq] [b] pos) (fun k => Ma fun x s1 => Mb' s1 fun y s2 => k (decide (x = y)) s2) Ty.bool := ex_cmpT (op_eqD hr.units) (opD_eq q.eq q.dep hn) ha hb (nomark _)
theorem tx_eq [DecidableEq α] (hr : Room k X.A) (q : Eqn Ea n) (ha : EX X ι Δ s a Ma Ea) (hb : ∀ s1, EX X ι Δ s1 b (Mb' s1) Ea) (hn : n ≤ 64 := by decide) :
    TX X ι Δ s (.Compare a [.Eq] [b] pos) (fun k => Ma fun x s1 => Mb' s1 fun y s2 => k (decide (x = y)) s2) := tx_cmpT (op_eqD hr.units) (opD_eq q.eq q.dep hn) ha hb (nomark _)
theorem ex_ne [DecidableEq α] (hr : Room k X.A) (q : Eqn Ea n) (ha : EX X ι Δ s a Ma Ea) (hb : ∀ s1, EX X ι Δ s1 b (Mb' s1) Ea) (hn : n ≤ 64 := by decide) :
    EX X ι Δ s (.Compare a [.NotEq] [b] pos) (fun k => Ma fun x s1 => Mb' s1 fun y s2 => k (!decide (x = y)) s2) Ty.bool := ex_cmpT (op_neD hr.units) (opD_ne q.eq q.dep hn) ha hb (nomark _)
theorem tx_ne [DecidableEq α] (hr : Room k X.A) (q : Eqn Ea n) (ha : EX X ι Δ s a Ma Ea) (hb : ∀ s1, EX X ι Δ s1 b (Mb' s1) Ea) (hn : n ≤ 64 := by decide) :
    TX X ι Δ s (.Compare a [.NotEq] [b] pos) (fun k => Ma fun x s1 => Mb' s1 fun y s2 => k (!decide (x = y)) s2) := tx_cmpT (op_neD hr.units) (opD_ne q.eq q.dep hn) ha hb (nomark _)
end
/-! in, not in -/
def rInR (K : KF) (neg : Bool) : R2 := fun x y H Q => ∃ d ds, Dp K H x d ∧ (Dp K H y (.list ds) ∨ Dp K H y (.tuple ds)) ∧ d.canLay0 = true ∧ PyData.canLayAll0 ds = true ∧ d.depth ≤ 64 ∧ Q (.bl (if neg then !(ds.any fun z => PyData.eqv z d) else ds.any fun z => PyData.eqv z d)) H
theorem op_inR (hr : Room k X.A) : OpR X (compareOp .In) (rInR X.K false) := by
  intro pins s σ H x y v u Q I rx ry h
  obtain ⟨d, ds, hd, he, ld, lds, dp, q⟩ := h
  obtain ⟨as, r1⟩ := Dp.reads I d x v hd rx
  have hu : X.A.units + 1 + min (PyData.depthAll ds) d.depth < cLine := by have := hr.un; omega
  rcases he with he | he
  · obtain ⟨bs, r2⟩ := Dp.reads I (.list ds) y u he ry
    exact SeqAt.in_list_reads r2 r1 lds ld hu ⟨.bl _, H, I, rfl, q⟩
  · obtain ⟨bs, r2⟩ := Dp.reads I (.tuple ds) y u he ry
    exact SeqAt.in_tuple_reads r2 r1 lds ld hu ⟨.bl _, H, I, rfl, q⟩
theorem op_notInR (hr : Room k X.A) : OpR X (compareOp .NotIn) (rInR X.K true) := by
  intro pins s σ H x y v u Q I rx ry h
  obtain ⟨d, ds, hd, he, ld, lds, dp, q⟩ := h
  obtain ⟨as, r1⟩ := Dp.reads I d x v hd rx
  have hu : X.A.units + 1 + min (PyData.depthAll ds) d.depth < cLine := by have := hr.un; omega
  rcases he with he | he
  · obtain ⟨bs, r2⟩ := Dp.reads I (.list ds) y u he ry
    exact SeqAt.notIn_list_reads r2 r1 lds ld hu ⟨.bl _, H, I, rfl, q⟩
  · obtain ⟨bs, r2⟩ := Dp.reads I (.tuple ds) y u he ry
    exact SeqAt.notIn_tuple_reads r2 r1 lds ld hu ⟨.bl _, H, I, rfl, q⟩
theorem any_eqv [DecidableEq α] (h : EqD Ea) (x : α) : ∀ xs : List α, ((xs.map Ea).any fun z => PyData.eqv z (Ea x)) = decide (x ∈ xs)
  | [] => by simp
  | y :: ys => by
    rw [List.map_cons, List.any_cons, any_eqv h x ys, h y x]
    by_cases e : y = x
    · subst e; simp
    · have e2 : ¬ x = y := fun z => e z.symm
      simp [e, e2]
theorem opD_in [DecidableEq α] {n : Nat} {K : KF} (q : Eqn Ea n) (hn : n ≤ 64) (G : List α → D) (hG : (∀ l, G l = .list (l.map Ea)) ∨ (∀ l, G l = .tuple (l.map Ea))) (neg : Bool) :
    OpD K (rInR K neg) Ea G Ty.bool (fun _ _ => True) (fun x xs => if neg then !decide (x ∈ xs) else decide (x ∈ xs)) :=
  opD_of fun x y v w H Hf Q _ sb rv rw' => ⟨.bl _, .bl _, fun qq => by
    have h1 := Rp.dp _ _ (rv.up sb)
    rcases hG with hG | hG
    · rw [hG] at rw'
      have h2 := Rp.dp _ _ (rw'.up sb)
      refine ⟨_, _, h1.1, .inl h2.1, h1.2, h2.2, Nat.le_trans (q.dep x) hn, ?_⟩
      rw [any_eqv q.eq]
      exact qq
    · rw [hG] at rw'
      have h2 := Rp.dp _ _ (rw'.up sb)
      refine ⟨_, _, h1.1, .inr h2.1, h1.2, h2.2, Nat.le_trans (q.dep x) hn, ?_⟩
      rw [any_eqv q.eq]
      exact qq⟩
section
variable {Mb' : S → (List α → S → Option R) → Option R} {n : Nat}
theorem ex_inT [DecidableEq α] (hr : Room k X.A) (q : Eqn Ea n) (ha : EX X ι Δ s a Ma Ea) (hb : ∀ s1, EX X ι Δ s1 b (Mb' s1) (Ty.tup Ea)) (hn : n ≤ 64 := by decide) (hm : behindInMarks .In b = false := by with_unfolding_all rfl) :
    EX X ι Δ s (.Compare a [.In] [b] pos) (fun k => Ma fun x s1 => Mb' s1 fun y s2 => k (decide (x ∈ y)) s2) Ty.bool := ex_cmpT (op_inR hr) (opD_in q hn _ (.inr fun _ => rfl) false) ha hb hm
theorem tx_inT [DecidableEq α] (hr : Room k X.A) (q : Eqn Ea n) (ha : EX X ι Δ s a Ma Ea) (hb : ∀ s1, EX X ι Δ s1 b (Mb' s1) (Ty.tup Ea)) (hn : n ≤ 64 := by decide) (hm : behindInMarks .In b = false := by with_unfolding_all rfl) :
    TX X ι Δ s (.Compare a [.In] [b] pos) (fun k => Ma fun x s1 => Mb' s1 fun y s2 => k (decide (x ∈ y)) s2) := tx_cmpT (op_inR hr) (opD_in q hn _ (.inr fun _ => rfl) false) ha hb hm
theorem ex_notInT [DecidableEq α] (hr : Room k X.A) (q : Eqn Ea n) (ha : EX X ι Δ s a Ma Ea) (hb : ∀ s1, EX X ι Δ s1 b (Mb' s1) (Ty.tup Ea)) (hn : n ≤ 64 := by decide) (hm : behindInMarks .NotIn b = false := by with_unfolding_all rfl) :
    EX X ι Δ s (.Compare a [.NotIn] [b] pos) (fun k => Ma fun x s1 => Mb' s1 fun y s2 => k (!decide (x ∈ y)) s2) Ty.bool := ex_cmpT (op_notInR hr) (opD_in q hn _ (.inr fun _ => rfl) true) ha hb hm
theorem tx_notInT [DecidableEq α] (hr : Room k X.A) (q : Eqn Ea n) (ha : EX X ι Δ s a Ma Ea) (hb : ∀ s1, EX X ι Δ s1 b (Mb' s1) (Ty.tup Ea)) (hn : n ≤ 64 := by decide) (hm : behindInMarks .NotIn b = false := by with_unfolding_all rfl) :
    TX X ι Δ s (.Compare a [.NotIn] [b] pos) (fun k => Ma fun x s1 => Mb' s1 fun y s2 => k (!decide (x ∈ y)) s2) := tx_cmpT (op_notInR hr) (opD_in q hn _ (.inr fun _ => rfl) true) ha hb hm
theorem ex_inL [DecidableEq α] (hr : Room k X.A) (q : Eqn Ea n) (ha : EX X ι Δ s a Ma Ea) (hb : ∀ s1, EX X ι Δ s1 b (Mb' s1) (Ty.lst Ea)) (hn : n ≤ 64 := by decide) (hm : behindInMarks .In b = false := by with_unfolding_all rfl) :
    EX X ι Δ s (.Compare a [.In] [b] pos) (fun k => Ma fun x s1 => Mb' s1 fun y s2 => k (decide (x ∈ y)) s2) Ty.bool := ex_cmpT (op_inR hr) (opD_in q hn _ (.inl fun _ => rfl) false) ha hb hm
theorem tx_inL [DecidableEq α] (hr : Room k X.A) (q : Eqn Ea n) (ha : EX X ι Δ s a Ma Ea) (hb : ∀ s1, EX X ι Δ s1 b (Mb' s1) (Ty.lst Ea)) (hn : n ≤ 64 := by decide) (hm : behindInMarks .In b = false := by with_unfolding_all rfl) :
    TX X ι Δ s (.Compare a [.In] [b] pos) (fun k => Ma fun x s1 => Mb' s1 fun y s2 => k (decide (x ∈ y)) s2) := tx_cmpT (op_inR hr) (opD_in q hn _ (.inl fun _ => rfl) false) ha hb hm
theorem ex_notInL [DecidableEq α] (hr : Room k X.A) (q : Eqn Ea n) (ha : EX X ι Δ s a Ma Ea) (hb : ∀ s1, EX X ι Δ s1 b (Mb' s1) (Ty.lst Ea)) (hn : n ≤ 64 := by decide) (hm : behindInMarks .NotIn b = false := by with_unfolding_all rfl) :
    EX X ι Δ s (.Compare a [.NotIn] [b] pos) (fun k => Ma fun x s1 => Mb' s1 fun y s2 => k (!decide (x ∈ y)) s2) Ty.bool := ex_cmpT (op_notInR hr) (opD_in q hn _ (.inl fun _ => rfl) true) ha hb hm
theorem tx_notInL [DecidableEq α] (hr : Room k X.A) (q : Eqn Ea n) (ha : EX X ι Δ s a Ma Ea) (hb : ∀ s1, EX X ι Δ s1 b (Mb' s1) (Ty.lst Ea)) (hn : n ≤ 64 := by decide) (hm : behindInMarks .NotIn b = false := by with_unfolding_all rfl) :
    TX X ι Δ s (.Compare a [.NotIn] [b] pos) (fun k => Ma fun x s1 => Mb' s1 fun y s2 => k (!decide (x ∈ y)) s2) := tx_cmpT (op_notInR hr) (opD_in q hn _ (.inl fun _ => rfl) true) ha hb hm
end
/-! ### and, or, not -/
def tW (X : Cx) (e : Expr) : TT := fun σ H Q => ∀ whole pins s, Inv X pins σ H s → wpAny (model X.prog X.w) X.A (isTrue e X.env whole) (TP X pins σ Q) X.xe s
theorem pW (X : Cx) (e : Expr) : PW X e (tW X e) := ⟨fun wh pins s _ _ _ I h => h wh pins s I⟩
theorem tW_of {t : TT} (p : PW X e t) {σ : L2.St} {H : Hp} {Q : Bool → Hp → Prop} (h : t σ H Q) : tW X e σ H Q := fun wh pins s I => p.run wh pins s σ H Q I h
/-- a chain of and, or -/
def WX (X : Cx) {S : Type} (ι : Io S) (Δ : Dl) (s : S) (e : Expr) {R : Type} (M : (Bool → S → Option R) → Option R) : Prop :=
  ∀ k r, M k = some r → ∀ (σ : L2.St) (H Hf : Hp) (A : Nat → List Addr) (Q : Bool → Hp → Prop), Sat X.K σ H Hf (ι.tr s ++ Δ) A →
    (∀ x s', k x s' = some r → ∀ H' Hf', Sat X.K σ H' Hf' (ι.tr s' ++ Δ) A → ExtA A H Hf H' Hf' → Q x H') → tW X e σ H Q
section
variable {Ta : (Bool → S → Option R) → Option R} {rest : List Expr}
theorem WX.tx {T : (Bool → S → Option R) → Option R} (h : WX X ι Δ s e T) : TX X ι Δ s e T := fun k r hk σ H Hf A Q st q => tT_of (pW X e).pt (h k r hk σ H Hf A Q st q)
theorem wx_and1 (h : TX X ι Δ s a Ta) : WX X ι Δ s (.BoolOp .And [a] pos) Ta := fun k r hk σ H Hf A Q st q => tW_of (pw_and1 (pT X a)) (h k r hk σ H Hf A Q st q)
theorem wx_or1 (h : TX X ι Δ s a Ta) : WX X ι Δ s (.BoolOp .Or [a] pos) Ta := fun k r hk σ H Hf A Q st q => tW_of (pw_or1 (pT X a)) (h k r hk σ H Hf A Q st q)
/-- the rest never fails and touches no state -/
theorem wx_andT {y : Bool} (ha : TX X ι Δ s a Ta) (hb : ∀ s1, WX X ι Δ s1 (.BoolOp .And (b :: rest) pos) (R := R) (fun k => k y s1)) : WX X ι Δ s (.BoolOp .And (a :: b :: rest) pos) (fun k => Ta fun x s1 => k (x && y) s1) := by
  intro k r hk σ H Hf A Q st q
  refine tW_of (pw_and (pT X a) (pW X _)) (ha _ r hk σ H Hf A _ st fun x s1 hx H1 Hf1 st1 e1 => ?_)
  cases x with
  | false => rw [if_neg Bool.false_ne_true]; exact q false s1 hx H1 Hf1 st1 e1
  | true =>
    rw [if_pos rfl]
    exact hb s1 k r hx σ H1 Hf1 A Q st1 fun y' s2 hy H2 Hf2 st2 e2 => q y' s2 hy H2 Hf2 st2 (e1.trans e2)
theorem wx_orT {y : Bool} (ha : TX X ι Δ s a Ta) (hb : ∀ s1, WX X ι Δ s1 (.BoolOp .Or (b :: rest) pos) (R := R) (fun k => k y s1)) : WX X ι Δ s (.BoolOp .Or (a :: b :: rest) pos) (fun k => Ta fun x s1 => k (x || y) s1) := by
  intro k r hk σ H Hf A Q st q
  refine tW_of (pw_or (pT X a) (pW X _)) (ha _ r hk σ H Hf A _ st fun x s1 hx H1 Hf1 st1 e1 => ?_)
  cases x with
  | true => rw [if_pos rfl]; exact q true s1 hx H1 Hf1 st1 e1
  | false =>
    rw [if_neg Bool.false_ne_true]
    exact hb s1 k r hx σ H1 Hf1 A Q st1 fun y' s2 hy H2 Hf2 st2 e2 => q y' s2 hy H2 Hf2 st2 (e1.trans e2)
/-- in general -/
theorem wx_and {Tb : S → (Bool → S → Option (Bool × S)) → Option (Bool × S)} (ha : TX X ι Δ s a Ta) (hb : ∀ s1, WX X ι Δ s1 (.BoolOp .And (b :: rest) pos) (Tb s1)) :
    WX X ι Δ s (.BoolOp .And (a :: b :: rest) pos) (fun k => Ta fun x s1 => (if x = true then Tb s1 fun y s2 => some (y, s2) else some (false, s1)).bind fun p => k p.1 p.2) := by
  intro k r hk σ H Hf A Q st q
  refine tW_of (pw_and (pT X a) (pW X _)) (ha _ r hk σ H Hf A _ st fun x s1 hx H1 Hf1 st1 e1 => ?_)
  obtain ⟨p, h1, h2⟩ := bind_some hx
  cases x with
  | false =>
    rw [if_neg Bool.false_ne_true] at h1 ⊢
    cases h1
    exact q false s1 h2 H1 Hf1 st1 e1
  | true =>
    rw [if_pos rfl] at h1 ⊢
    exact hb s1 _ p h1 σ H1 Hf1 A Q st1 fun y' s2 hy H2 Hf2 st2 e2 => by
      cases hy
      exact q _ _ h2 H2 Hf2 st2 (e1.trans e2)
theorem wx_or {Tb : S → (Bool → S → Option (Bool × S)) → Option (Bool × S)} (ha : TX X ι Δ s a Ta) (hb : ∀ s1, WX X ι Δ s1 (.BoolOp .Or (b :: rest) pos) (Tb s1)) :
    WX X ι Δ s (.BoolOp .Or (a :: b :: rest) pos) (fun k => Ta fun x s1 => (if x = true then some (true, s1) else Tb s1 fun y s2 => some (y, s2)).bind fun p => k p.1 p.2) := by
  intro k r hk σ H Hf A Q st q
  refine tW_of (pw_or (pT X a) (pW X _)) (ha _ r hk σ H Hf A _ st fun x s1 hx H1 Hf1 st1 e1 => ?_)
  obtain ⟨p, h1, h2⟩ := bind_some hx
  cases x with
  | true =>
    rw [if_pos rfl] at h1 ⊢
    cases h1
    exact q true s1 h2 H1 Hf1 st1 e1
  | false =>
    rw [if_neg Bool.false_ne_true] at h1 ⊢
    exact hb s1 _ p h1 σ H1 Hf1 A Q st1 fun y' s2 hy H2 Hf2 st2 e2 => by
      cases hy
      exact q _ _ h2 H2 Hf2 st2 (e1.trans e2)
theorem tx_not (ha : TX X ι Δ s a Ta) : TX X ι Δ s (.UnaryOp .Not a pos) (fun k => Ta fun x s1 => k (!x) s1) := by
  intro k r hk σ H Hf A Q st q
  exact tT_of (pt_not (pT X a)) (ha _ r hk σ H Hf A _ st fun x s1 hx H1 Hf1 st1 e1 => q (!x) s1 hx H1 Hf1 st1 e1)
/-- a value that is a bool, as a test -/
theorem tx_val (ha : EX X ι Δ s a Ta Ty.bool) (he : ∀ whole, isTrue a X.env whole = (do let v ← whole; standAt a.pos; holding [v] (truthy v)) := by intro _; rfl) : TX X ι Δ s a Ta :=
  tx_of (pt_val (pE X a) he) ha
/-- a list's, a tuple's truth -/
theorem tx_lst {Ma : (List α → S → Option R) → Option R} (ha : EX X ι Δ s a Ma (Ty.lst Ea)) (he : ∀ whole, isTrue a X.env whole = (do let v ← whole; standAt a.pos; holding [v] (truthy v)) := by intro _; rfl) :
    TX X ι Δ s a (fun k => Ma fun x s1 => k (!x.isEmpty) s1) := by
  intro k r hk σ H Hf A Q st q
  refine tT_of (pt_truth (pE X a) he) (ha _ r hk σ H Hf A _ st fun x s1 hx v H1 Hf1 st1 e1 r1 => ?_)
  cases r1 with
  | @lst p vs _ hs hz ra =>
    refine ⟨_, .inl ⟨vs, (.inl (st1.sub.rd hs)), rfl⟩, ?_⟩
    have hl := ra.len
    have : (!vs.isEmpty) = !x.isEmpty := by cases vs <;> cases x <;> simp at hl ⊢
    rw [this]
    exact q _ s1 hx H1 Hf1 st1 e1
theorem tx_tup {Ma : (List α → S → Option R) → Option R} (ha : EX X ι Δ s a Ma (Ty.tup Ea)) (he : ∀ whole, isTrue a X.env whole = (do let v ← whole; standAt a.pos; holding [v] (truthy v)) := by intro _; rfl) :
    TX X ι Δ s a (fun k => Ma fun x s1 => k (!x.isEmpty) s1) := by
  intro k r hk σ H Hf A Q st q
  refine tT_of (pt_truth (pE X a) he) (ha _ r hk σ H Hf A _ st fun x s1 hx v H1 Hf1 st1 e1 r1 => ?_)
  cases r1 with
  | @tup p vs _ hs hz ra =>
    refine ⟨_, .inr (.inl ⟨vs, st1.sub.tup hs, rfl⟩), ?_⟩
    have hl := ra.len
    have : (!vs.isEmpty) = !x.isEmpty := by cases vs <;> cases x <;> simp at hl ⊢
    rw [this]
    exact q _ s1 hx H1 Hf1 st1 e1
/-- as values -/
theorem ex_not (ha : EX X ι Δ s a Ta Ty.bool) : EX X ι Δ s (.UnaryOp .Not a pos) (fun k => Ta fun x s1 => k (!x) s1) Ty.bool := by
  intro k r hk σ H Hf A Q st q
  refine tE_of (pe_not (pE X a)) (ha _ r hk σ H Hf A _ st fun x s1 hx v H1 Hf1 st1 e1 r1 => ?_)
  cases r1
  exact ⟨x, rfl, q _ s1 hx _ H1 Hf1 st1 e1 (.bl _)⟩
theorem ex_one {op : BoolOp} {E : α → D} (ha : EX X ι Δ s a Ma E) : EX X ι Δ s (.BoolOp op [a] pos) Ma E := fun k r hk σ H Hf A Q st q => tE_of (pe_one (pE X a)) (ha k r hk σ H Hf A Q st q)
theorem ex_andT {y : Bool} (ha : EX X ι Δ s a Ta Ty.bool) (hb : ∀ s1, EX X ι Δ s1 (.BoolOp .And (b :: rest) pos) (R := R) (fun k => k y s1) Ty.bool) : EX X ι Δ s (.BoolOp .And (a :: b :: rest) pos) (fun k => Ta fun x s1 => k (x && y) s1) Ty.bool := by
  intro k r hk σ H Hf A Q st q
  refine tE_of (pe_and (pE X a) (pE X _)) (ha _ r hk σ H Hf A _ st fun x s1 hx v H1 Hf1 st1 e1 r1 => ?_)
  cases r1
  refine ⟨x, rfl, ?_⟩
  cases x with
  | false => rw [if_neg Bool.false_ne_true]; exact q false s1 hx _ H1 Hf1 st1 e1 (.bl _)
  | true =>
    rw [if_pos rfl]
    exact hb s1 k r hx σ H1 Hf1 A Q st1 fun y' s2 hy v H2 Hf2 st2 e2 r2 => q y' s2 hy v H2 Hf2 st2 (e1.trans e2) r2
theorem ex_orT {y : Bool} (ha : EX X ι Δ s a Ta Ty.bool) (hb : ∀ s1, EX X ι Δ s1 (.BoolOp .Or (b :: rest) pos) (R := R) (fun k => k y s1) Ty.bool) : EX X ι Δ s (.BoolOp .Or (a :: b :: rest) pos) (fun k => Ta fun x s1 => k (x || y) s1) Ty.bool := by
  intro k r hk σ H Hf A Q st q
  refine tE_of (pe_or (pE X a) (pE X _)) (ha _ r hk σ H Hf A _ st fun x s1 hx v H1 Hf1 st1 e1 r1 => ?_)
  cases r1
  refine ⟨x, rfl, ?_⟩
  cases x with
  | true => rw [if_pos rfl]; exact q true s1 hx _ H1 Hf1 st1 e1 (.bl _)
  | false =>
    rw [if_neg Bool.false_ne_true]
    exact hb s1 k r hx σ H1 Hf1 A Q st1 fun y' s2 hy v H2 Hf2 st2 e2 r2 => q y' s2 hy v H2 Hf2 st2 (e1.trans e2) r2
theorem ex_and {Tb : S → (Bool → S → Option (Bool × S)) → Option (Bool × S)} (ha : EX X ι Δ s a Ta Ty.bool) (hb : ∀ s1, EX X ι Δ s1 (.BoolOp .And (b :: rest) pos) (Tb s1) Ty.bool) :
    EX X ι Δ s (.BoolOp .And (a :: b :: rest) pos) (fun k => Ta fun x s1 => (if x = true then Tb s1 fun y s2 => some (y, s2) else some (false, s1)).bind fun p => k p.1 p.2) Ty.bool := by
  intro k r hk σ H Hf A Q st q
  refine tE_of (pe_and (pE X a) (pE X _)) (ha _ r hk σ H Hf A _ st fun x s1 hx v H1 Hf1 st1 e1 r1 => ?_)
  cases r1
  refine ⟨x, rfl, ?_⟩
  obtain ⟨p, h1, h2⟩ := bind_some hx
  cases x with
  | false =>
    rw [if_neg Bool.false_ne_true] at h1 ⊢
    cases h1
    exact q false s1 h2 _ H1 Hf1 st1 e1 (.bl _)
  | true =>
    rw [if_pos rfl] at h1 ⊢
    exact hb s1 _ p h1 σ H1 Hf1 A Q st1 fun y' s2 hy v H2 Hf2 st2 e2 r2 => by
      cases hy
      exact q _ _ h2 v H2 Hf2 st2 (e1.trans e2) r2
theorem ex_or {Tb : S → (Bool → S → Option (Bool × S)) → Option (Bool × S)} (ha : EX X ι Δ s a Ta Ty.bool) (hb : ∀ s1, EX X ι Δ s1 (.BoolOp .Or (b :: rest) pos) (Tb s1) Ty.bool) :
    EX X ι Δ s (.BoolOp .Or (a :: b :: rest) pos) (fun k => Ta fun x s1 => (if x = true then some (true, s1) else Tb s1 fun y s2 => some (y, s2)).bind fun p => k p.1 p.2) Ty.bool := by
  intro k r hk σ H Hf A Q st q
  refine tE_of (pe_or (pE X a) (pE X _)) (ha _ r hk σ H Hf A _ st fun x s1 hx v H1 Hf1 st1 e1 r1 => ?_)
  cases r1
  refine ⟨x, rfl, ?_⟩
  obtain ⟨p, h1, h2⟩ := bind_some hx
  cases x with
  | true =>
    rw [if_pos rfl] at h1 ⊢
    cases h1
    exact q true s1 h2 _ H1 Hf1 st1 e1 (.bl _)
  | false =>
    rw [if_neg Bool.false_ne_true] at h1 ⊢
    exact hb s1 _ p h1 σ H1 Hf1 A Q st1 fun y' s2 hy v H2 Hf2 st2 e2 r2 => by
      cases hy
      exact q _ _ h2 v H2 Hf2 st2 (e1.trans e2) r2
/-- a if c else b -/
theorem ex_ifT {E : α → D} {x y : α} (hc : TX X ι Δ s c Ta) (ha : ∀ s1, EX X ι Δ s1 a (R := R) (fun k => k x s1) E) (hb : ∀ s1, EX X ι Δ s1 b (R := R) (fun k => k y s1) E) :
    EX X ι Δ s (.IfExp c a b pos) (fun k => Ta fun z s1 => k (if z = true then x else y) s1) E := by
  intro k r hk σ H Hf A Q st q
  refine tE_of (pe_ifExp (pT X c) (pE X a) (pE X b)) (hc _ r hk σ H Hf A _ st fun z s1 hz H1 Hf1 st1 e1 => ?_)
  cases z with
  | true =>
    rw [if_pos rfl] at hz ⊢
    exact ha s1 k r hz σ H1 Hf1 A Q st1 fun y' s2 hy v H2 Hf2 st2 e2 r2 => q y' s2 hy v H2 Hf2 st2 (e1.trans e2) r2
  | false =>
    rw [if_neg Bool.false_ne_true] at hz ⊢
    exact hb s1 k r hz σ H1 Hf1 A Q st1 fun y' s2 hy v H2 Hf2 st2 e2 r2 => q y' s2 hy v H2 Hf2 st2 (e1.trans e2) r2
theorem ex_if {E : α → D} {Pa Pb : S → (α → S → Option (α × S)) → Option (α × S)} (hc : TX X ι Δ s c Ta) (ha : ∀ s1, EX X ι Δ s1 a (Pa s1) E) (hb : ∀ s1, EX X ι Δ s1 b (Pb s1) E) :
    EX X ι Δ s (.IfExp c a b pos) (fun k => Ta fun z s1 => (if z = true then Pa s1 fun x s2 => some (x, s2) else Pb s1 fun x s2 => some (x, s2)).bind fun p => k p.1 p.2) E := by
  intro k r hk σ H Hf A Q st q
  refine tE_of (pe_ifExp (pT X c) (pE X a) (pE X b)) (hc _ r hk σ H Hf A _ st fun z s1 hz H1 Hf1 st1 e1 => ?_)
  obtain ⟨p, h1, h2⟩ := bind_some hz
  cases z with
  | true =>
    rw [if_pos rfl] at h1 ⊢
    exact ha s1 _ p h1 σ H1 Hf1 A Q st1 fun y' s2 hy v H2 Hf2 st2 e2 r2 => by
      cases hy
      exact q _ _ h2 v H2 Hf2 st2 (e1.trans e2) r2
  | false =>
    rw [if_neg Bool.false_ne_true] at h1 ⊢
    exact hb s1 _ p h1 σ H1 Hf1 A Q st1 fun y' s2 hy v H2 Hf2 st2 e2 r2 => by
      cases hy
      exact q _ _ h2 v H2 Hf2 st2 (e1.trans e2) r2
end
end
end Ab
namespace Ab
open PySem PySem.Spec PyProof.Rows L2
namespace Bo
theorem len : bootBuiltins "len" = some (.builtin "len") := by decide +kernel
theorem sorted : bootBuiltins "sorted" = some (.builtin "sorted") := by decide +kernel
theorem isinstance : bootBuiltins "isinstance" = some (.builtin "isinstance") := by decide +kernel
theorem sum : bootBuiltins "sum" = some (.builtin "sum") := by decide +kernel
theorem abs : bootBuiltins "abs" = some (.builtin "abs") := by decide +kernel
theorem max : bootBuiltins "max" = some (.builtin "max") := by decide +kernel
theorem min : bootBuiltins "min" = some (.builtin "min") := by decide +kernel
theorem any : bootBuiltins "any" = some (.builtin "any") := by decide +kernel
theorem all : bootBuiltins "all" = some (.builtin "all") := by decide +kernel
theorem int : bootBuiltins "int" = some (.type "int") := by decide +kernel
theorem bool : bootBuiltins "bool" = some (.type "bool") := by decide +kernel
theorem str : bootBuiltins "str" = some (.type "str") := by decide +kernel
theorem list : bootBuiltins "list" = some (.type "list") := by decide +kernel
theorem tuple : bootBuiltins "tuple" = some (.type "tuple") := by decide +kernel
end Bo
section
variable {X : Cx} {S : Type} {ι : Io S} {Δ : Dl} {s : S} {R : Type} {pos p : Pos} {a b c e : Expr} {k : Nat}
variable {α β γ : Type} {Ea : α → D} {Eb : β → D} {Ec : γ → D}
variable {Ma : (α → S → Option R) → Option R} {Mb : S → (β → S → Option R) → Option R}
/-! ### places -/
theorem atI_map {f : α → β} {xs : List α} {i : Int} {x : α} (h : atI xs i = some x) : atI (xs.map f) i = some (f x) := by
  unfold atI at h ⊢
  rw [List.length_map]
  cases e : ixN xs.length i with
  | none => rw [e] at h; cases h
  | some j =>
    rw [e] at h
    show (xs.map f)[j]? = _
    rw [List.getElem?_map, show xs[j]? = some x from h]
    rfl
theorem atI_rp {K : KF} {Hf : Hp} {vs : List V} {ds : List D} {i : Int} {d : D} (r : RpAll K Hf vs ds) (h : atI ds i = some d) : ∃ v, atI vs i = some v ∧ Rp K Hf v d := by
  unfold atI at h ⊢
  rw [r.len]
  cases e : ixN ds.length i with
  | none => rw [e] at h; cases h
  | some j =>
    rw [e] at h
    exact r.get (show ds[j]? = some d from h)
theorem ex_bindB {e : Expr} {t : R2} {G : α → β → Option γ} (he : PE X e (tOp t (tE X a) (tE X b))) (hg : ∀ (x : α) (y : β) (z : γ) (v w : V) (H Hf : Hp) (Q : VK), G x y = some z → Sub Hf H → Rp X.K Hf v (Ea x) → Rp X.K Hf w (Eb y) → (∀ u, Rp X.K Hf u (Ec z) → Q u H) → t v w H Q)
    (ha : EX X ι Δ s a Ma Ea) (hb : ∀ s1, EX X ι Δ s1 b (Mb s1) Eb) : EX X ι Δ s e (fun k => Ma fun x s1 => Mb s1 fun y s2 => (G x y).bind fun z => k z s2) Ec := by
  intro k r hk σ H Hf A Q st h
  refine tE_of he (ha _ r hk σ H Hf A _ st fun x s1 hx v H1 Hf1 st1 e1 r1 => ?_)
  refine hb s1 _ r hx σ H1 Hf1 A _ st1 fun y s2 hy w H2 Hf2 st2 e2 r2 => ?_
  obtain ⟨z, h1, h2⟩ := bind_some hy
  exact hg x y z v w H2 Hf2 Q h1 st2.sub (r1.up e2.grow) r2 fun u ru => h z s2 h2 u H2 Hf2 st2 (e1.trans e2) ru
/-- xs[i] of a list, of a tuple -/
theorem ex_ixL {Ml : (List α → S → Option R) → Option R} {Mi : S → (Int → S → Option R) → Option R} (ha : EX X ι Δ s a Ml (Ty.lst Ea)) (hb : ∀ s1, EX X ι Δ s1 b (Mi s1) Ty.int) (hs : PlainIx b := by exact fun _ _ => rfl) :
    EX X ι Δ s (.Subscript a b pos) (fun k => Ml fun x s1 => Mi s1 fun y s2 => (atI x y).bind fun z => k z s2) Ea := by
  refine ex_bindB (pe_ix L2.ix_list (pE X a) (pE X b) hs) (fun x y z v w H Hf Q hz sb rv rw' q => ?_) ha hb
  cases rw'
  cases rv with
  | @lst p vs _ hs hl ra =>
    obtain ⟨u, h1, h2⟩ := atI_rp ra (atI_map hz)
    exact ⟨p, vs, y, u, rfl, rfl, (.inl (sb.rd hs)), h1, q u h2⟩
theorem ex_ixT {Ml : (List α → S → Option R) → Option R} {Mi : S → (Int → S → Option R) → Option R} (ha : EX X ι Δ s a Ml (Ty.tup Ea)) (hb : ∀ s1, EX X ι Δ s1 b (Mi s1) Ty.int) (hs : PlainIx b := by exact fun _ _ => rfl) :
    EX X ι Δ s (.Subscript a b pos) (fun k => Ml fun x s1 => Mi s1 fun y s2 => (atI x y).bind fun z => k z s2) Ea := by
  refine ex_bindB (pe_ix L2.ix_tup (pE X a) (pE X b) hs) (fun x y z v w H Hf Q hz sb rv rw' q => ?_) ha hb
  cases rw'
  cases rv with
  | @tup p vs _ hs hl ra =>
    obtain ⟨u, h1, h2⟩ := atI_rp ra (atI_map hz)
    exact ⟨p, vs, y, u, rfl, rfl, sb.tup hs, h1, q u h2⟩
/-- the part of a tuple at a written place -/
theorem ex_prj {i : Int} (f : α → β) {F : α → List D} (hE : ∀ x, Ea x = .tuple (F x)) (hf : ∀ x, atI (F x) i = some (Eb (f x))) {j : Nat} {p' : Pos} (ha : EX X ι Δ s a Ma Ea) (hs : PlainIx (.Constant (.int i) j p') := by exact fun _ _ => rfl) :
    EX X ι Δ s (.Subscript a (.Constant (.int i) j p') pos) (fun k => Ma fun x s1 => k (f x) s1) Eb := by
  intro k r hk σ H Hf A Q st h
  refine tE_of (pe_ix L2.ix_tup (pE X a) pe_int hs) (ha _ r hk σ H Hf A _ st fun x s1 hx v H1 Hf1 st1 e1 r1 => ?_)
  rw [hE] at r1
  cases r1 with
  | @tup p vs _ hs hl ra =>
    obtain ⟨u, h1, h2⟩ := atI_rp ra (hf x)
    exact ⟨p, vs, i, u, rfl, rfl, st1.sub.tup hs, h1, h _ s1 hx u H1 Hf1 st1 e1 h2⟩
/-! slices -/
def sliceL {α : Type} (xs : List α) (lo hi : Option Int) : List α := (xs.drop (HT.sIx xs.length 0 lo)).take (HT.sIx xs.length xs.length hi - HT.sIx xs.length 0 lo)
theorem sliceL_rp {K : KF} {Hf : Hp} {vs : List V} {xs : List α} (lo hi : Option Int) (r : RpAll K Hf vs (xs.map Ea)) : RpAll K Hf (cutV vs lo hi) ((sliceL xs lo hi).map Ea) := by
  have hl := r.len
  rw [List.length_map] at hl
  unfold cutV sliceL
  rw [hl, List.map_take, List.map_drop]
  exact (r.drop _).take _
def tO (X : Cx) (e : Option Expr) : TO := fun σ H Q => ∀ pins s, Inv X pins σ H s → wpAny (model X.prog X.w) X.A (evalPart e X.env) (fun v s' => ∃ o H', Inv X pins σ H' s' ∧ IsPart v o ∧ Q o H') X.xe s
/-- a slice's bound -/
def OX (X : Cx) {S : Type} (ι : Io S) (Δ : Dl) (s : S) (e : Option Expr) {R : Type} (M : (Option Int → S → Option R) → Option R) : Prop :=
  ∀ k r, M k = some r → ∀ (σ : L2.St) (H Hf : Hp) (A : Nat → List Addr) (Q : Option Int → Hp → Prop), Sat X.K σ H Hf (ι.tr s ++ Δ) A →
    (∀ x s', k x s' = some r → ∀ H' Hf', Sat X.K σ H' Hf' (ι.tr s' ++ Δ) A → ExtA A H Hf H' Hf' → Q x H') → ∃ t : TO, PO X e t ∧ t σ H Q
theorem ox_none : OX X ι Δ s none (R := R) (fun k => k none s) := fun k r hk σ H Hf A Q st q => ⟨_, po_none, q none s hk H Hf st (ExtA.refl _ _ _)⟩
theorem ox_some {M : (Int → S → Option R) → Option R} (h : EX X ι Δ s e M Ty.int) : OX X ι Δ s (some e) (fun k => M fun i s1 => k (some i) s1) := fun k r hk σ H Hf A Q st q =>
  ⟨_, po_some (pE X e), h _ r hk σ H Hf A _ st fun x s1 hx v H1 Hf1 st1 e1 r1 => by cases r1; exact ⟨x, rfl, q _ s1 hx H1 Hf1 st1 e1⟩⟩
end
section
variable {X : Cx} {S : Type} {ι : Io S} {Δ : Dl} {s : S} {R : Type} {pos p p2 : Pos} {a b c e : Expr} {k : Nat}
variable {α β γ : Type} {Ea : α → D} {Eb : β → D} {Ec : γ → D}
variable {Ma : (α → S → Option R) → Option R} {Mb : S → (β → S → Option R) → Option R}
/-- a bound is none, or an int -/
inductive Bd (X : Cx) {S : Type} (ι : Io S) (Δ : Dl) {R : Type} : Option Expr → (S → (Option Int → S → Option R) → Option R) → Prop
  | no : Bd X ι Δ none (fun s k => k none s)
  | is {e : Expr} {M : S → (Int → S → Option R) → Option R} (h : ∀ s, EX X ι Δ s e (M s) Ty.int) : Bd X ι Δ (some e) (fun s k => M s fun i s1 => k (some i) s1)
theorem Bd.po {o : Option Expr} {M : S → (Option Int → S → Option R) → Option R} (h : Bd X ι Δ o M) : ∃ t : TO, PO X o t ∧ ∀ (s : S) k r, M s k = some r → ∀ (σ : L2.St) (H Hf : Hp) (A : Nat → List Addr) (Q : Option Int → Hp → Prop), Sat X.K σ H Hf (ι.tr s ++ Δ) A →
    (∀ x s', k x s' = some r → ∀ H' Hf', Sat X.K σ H' Hf' (ι.tr s' ++ Δ) A → ExtA A H Hf H' Hf' → Q x H') → t σ H Q := by
  cases h with
  | no => exact ⟨_, po_none, fun s k r hk σ H Hf A Q st q => q none s hk H Hf st (ExtA.refl _ _ _)⟩
  | is h => exact ⟨_, po_some (pE X _), fun s k r hk σ H Hf A Q st q => h s _ r hk σ H Hf A _ st fun x s1 hx v H1 Hf1 st1 e1 r1 => by cases r1; exact ⟨x, rfl, q _ s1 hx H1 Hf1 st1 e1⟩⟩
theorem ex_slL {lo hi : Option Expr} {Ml : (List α → S → Option R) → Option R} {Mlo Mhi : S → (Option Int → S → Option R) → Option R} (ha : EX X ι Δ s a Ml (Ty.lst Ea)) (hl : Bd X ι Δ lo Mlo) (hh : Bd X ι Δ hi Mhi) :
    EX X ι Δ s (.Subscript a (.Slice lo hi none p2) pos) (fun k => Ml fun x s1 => Mlo s1 fun i s2 => Mhi s2 fun j s3 => k (sliceL x i j) s3) (Ty.lst Ea) := by
  obtain ⟨tl, pl, ql⟩ := hl.po
  obtain ⟨th, ph, qh⟩ := hh.po
  intro k r hk σ H Hf A Q st h
  refine tE_of (pe_slice sl_list (pE X a) pl ph) (ha _ r hk σ H Hf A _ st fun x s1 hx v H1 Hf1 st1 e1 r1 => ?_)
  refine ql s1 _ r hx σ H1 Hf1 A _ st1 fun i s2 hx2 H2 Hf2 st2 e2 => ?_
  refine qh s2 _ r hx2 σ H2 Hf2 A _ st2 fun j s3 hx3 H3 Hf3 st3 e3 => ?_
  have r3 := r1.up (e2.grow.trans e3.grow)
  cases r3 with
  | @lst p vs _ hs hz ra =>
    refine ⟨p, vs, rfl, (.inl (st3.sub.rd hs)), fun q nq => ?_⟩
    have ex := Ext.new (o := .lst (cutV vs i j)) nq st3.sub
    exact h _ s3 hx3 _ _ _ (st3.up ex (Sub.new st3.sub)) ((e1.trans (e2.trans e3)).trans ex.toA) (.lst (.inl upd_same) (Nat.le_trans (cutV_length _ _ _) hz) ((sliceL_rp i j ra).up ex.grow))
theorem ex_slT {lo hi : Option Expr} {Ml : (List α → S → Option R) → Option R} {Mlo Mhi : S → (Option Int → S → Option R) → Option R} (ha : EX X ι Δ s a Ml (Ty.tup Ea)) (hl : Bd X ι Δ lo Mlo) (hh : Bd X ι Δ hi Mhi) :
    EX X ι Δ s (.Subscript a (.Slice lo hi none p2) pos) (fun k => Ml fun x s1 => Mlo s1 fun i s2 => Mhi s2 fun j s3 => k (sliceL x i j) s3) (Ty.tup Ea) := by
  obtain ⟨tl, pl, ql⟩ := hl.po
  obtain ⟨th, ph, qh⟩ := hh.po
  intro k r hk σ H Hf A Q st h
  refine tE_of (pe_slice sl_tupA (pE X a) pl ph) (ha _ r hk σ H Hf A _ st fun x s1 hx v H1 Hf1 st1 e1 r1 => ?_)
  refine ql s1 _ r hx σ H1 Hf1 A _ st1 fun i s2 hx2 H2 Hf2 st2 e2 => ?_
  refine qh s2 _ r hx2 σ H2 Hf2 A _ st2 fun j s3 hx3 H3 Hf3 st3 e3 => ?_
  have r3 := r1.up (e2.grow.trans e3.grow)
  cases r3 with
  | @tup p vs _ hs hz ra =>
    refine ⟨p, vs, rfl, st3.sub.tup hs, fun w => ?_, fun _ q nq => ?_⟩
    · refine h _ s3 hx3 _ H3 Hf3 st3 (e1.trans (e2.trans e3)) ?_
      have hl := ra.len
      rw [List.length_map] at hl
      have e : sliceL x i j = x := by
        unfold sliceL
        rw [← hl, w.1, w.2, List.drop_zero, Nat.sub_zero, hl, List.take_length]
      rw [e]
      exact .tup hs hz ra
    · have ex := Ext.new (o := .tup (cutV vs i j)) nq st3.sub
      exact h _ s3 hx3 _ _ _ (st3.up ex (Sub.new st3.sub)) ((e1.trans (e2.trans e3)).trans ex.toA) (.tup (.inl (.inl upd_same)) (Nat.le_trans (cutV_length _ _ _) hz) ((sliceL_rp i j ra).up ex.grow))
/-- a slice of a tuple of unlike parts, told through a list of its parts -/
theorem ex_slP {lo hi : Option Int} {jl jh : Nat} {pl ph : Pos} {olo ohi : Option Expr} (f : α → β) {F : α → List D} (hE : ∀ x, Ea x = .tuple (F x)) (hf : ∀ x, Eb (f x) = .tuple (sliceL (F x) lo hi))
    (hl : PO X olo (fun _ H Q => Q lo H)) (hh : PO X ohi (fun _ H Q => Q hi H)) (ha : EX X ι Δ s a Ma Ea) : EX X ι Δ s (.Subscript a (.Slice olo ohi none p2) pos) (fun k => Ma fun x s1 => k (f x) s1) Eb := by
  intro k r hk σ H Hf A Q st h
  refine tE_of (pe_slice sl_tupA (pE X a) hl hh) (ha _ r hk σ H Hf A _ st fun x s1 hx v H1 Hf1 st1 e1 r1 => ?_)
  rw [hE] at r1
  cases r1 with
  | @tup p vs _ hs hz ra =>
    have e : RpAll X.K Hf1 (cutV vs lo hi) (sliceL (F x) lo hi) := by
      unfold cutV sliceL
      rw [ra.len]
      exact (ra.drop _).take _
    refine ⟨p, vs, rfl, st1.sub.tup hs, fun w => ?_, fun _ q nq => ?_⟩
    · refine h _ s1 hx _ H1 Hf1 st1 e1 ?_
      rw [hf]
      have hl := ra.len
      have e2 : sliceL (F x) lo hi = F x := by
        unfold sliceL
        rw [← hl, w.1, w.2, List.drop_zero, Nat.sub_zero, hl, List.take_length]
      rw [e2]
      exact .tup hs hz ra
    · have ex := Ext.new (o := .tup (cutV vs lo hi)) nq st1.sub
      refine h _ s1 hx _ _ _ (st1.up ex (Sub.new st1.sub)) (e1.trans ex.toA) ?_
      rw [hf]
      exact .tup (.inl (.inl upd_same)) (Nat.le_trans (cutV_length _ _ _) hz) (e.up ex.grow)
/-! ### displays -/
theorem ex_tupD {es : List Expr} {x1 : Nat} {M : (α → S → Option R) → Option R} {F : α → List D} (f : α → β) (hf : ∀ x, Eb (f x) = .tuple (F x)) (hn : ∀ x, (F x).length ≤ Line) (h : AX X ι Δ s es M F) : EX X ι Δ s (.Tuple es x1 pos) (fun k => M fun x s1 => k (f x) s1) Eb := by
  intro k r hk σ H Hf A Q st q
  refine tE_of (pe_tup (pA X es)) (h _ r hk σ H Hf A _ st fun x s1 hx vs H1 Hf1 st1 e1 r1 => ⟨le_line (r1.len ▸ hn x), fun p np => ?_⟩)
  have ex := Ext.new (o := .tup vs) np st1.sub
  refine q _ s1 hx _ _ _ (st1.up ex (Sub.new st1.sub)) (e1.trans ex.toA) ?_
  rw [hf]
  exact .tup (.inl (.inl upd_same)) (r1.len ▸ hn x) (r1.up ex.grow)
theorem ex_lstD {es : List Expr} {M : (α → S → Option R) → Option R} {F : α → List D} (f : α → List β) (hf : ∀ x, (f x).map Eb = F x) (hn : ∀ x, (F x).length ≤ Line) (h : AX X ι Δ s es M F) : EX X ι Δ s (.List es pos) (fun k => M fun x s1 => k (f x) s1) (Ty.lst Eb) := by
  intro k r hk σ H Hf A Q st q
  refine tE_of (pe_lst (pA X es)) (h _ r hk σ H Hf A _ st fun x s1 hx vs H1 Hf1 st1 e1 r1 => ⟨le_line (r1.len ▸ hn x), fun p np => ?_⟩)
  have ex := Ext.new (o := .lst vs) np st1.sub
  refine q _ s1 hx _ _ _ (st1.up ex (Sub.new st1.sub)) (e1.trans ex.toA) ?_
  show Rp X.K _ _ (.list ((f x).map Eb))
  rw [hf]
  exact .lst (.inl upd_same) (r1.len ▸ hn x) (r1.up ex.grow)
/-! ### built-ins -/
theorem ex_callB1 {id x : Str} {id' : String} {rr : List V → Hp → VK → Prop} {C : α → Prop} [∀ x, Decidable (C x)] {g : α → β} (hc : CallR X (.builtin id') rr) (hm : X.mg x = none) (hv : bootBuiltins x = some (.builtin id'))
    (hg : ∀ (y : α) (v : V) (H Hf : Hp) (Q : VK), C y → Sub Hf H → Rp X.K Hf v (Ea y) → (∀ u H' Hf', Ext H Hf H' Hf' → Sub Hf' H' → Rp X.K Hf' u (Eb (g y)) → Q u H') → rr [v] H Q) (ha : EX X ι Δ s a Ma Ea)
    (hgl : Gl X x := by rfl) (hn : x ≠ "__name__" := by decide) (hdb : (x == ("__debug__" : Str)) = false := by decide) (he : starEach [a] X.env = (false, eval a X.env) :: starEach [] X.env := by rfl) (hpl : (backTo pos (starEach [] X.env)).any (·.1) = false := by rfl) :
    EX X ι Δ s (.Call (.Name x p) [a] [] pos) (fun k => Ma fun y s1 => guardM (C y) (k (g y) s1)) Eb := by
  intro k r hk σ H Hf A Q st q
  refine tE_of (pe_callB hc hgl hm hv (pA X [a]) hn hdb he hpl) ?_
  refine ax_cons ha (fun s1 => ax_nil) he (fun pp s' => guardM (C pp.1) (k (g pp.1) s')) r hk σ H Hf A _ st fun y s1 hx vs H1 Hf1 st1 e1 r1 => ?_
  obtain ⟨v, rfl, rv⟩ := one_arg r1
  obtain ⟨c, hx⟩ := guardM_some hx
  exact hg y.1 v H1 Hf1 Q c st1.sub rv fun u H2 Hf2 e2 sb r2 => q _ s1 hx u H2 Hf2 (st1.up e2 sb) (e1.trans e2.toA) r2
theorem ex_callB1T {x : Str} {id' : String} {rr : List V → Hp → VK → Prop} {g : α → β} (hc : CallR X (.builtin id') rr) (hm : X.mg x = none) (hv : bootBuiltins x = some (.builtin id'))
    (hg : ∀ (y : α) (v : V) (H Hf : Hp) (Q : VK), Sub Hf H → Rp X.K Hf v (Ea y) → (∀ u H' Hf', Ext H Hf H' Hf' → Sub Hf' H' → Rp X.K Hf' u (Eb (g y)) → Q u H') → rr [v] H Q) (ha : EX X ι Δ s a Ma Ea)
    (hgl : Gl X x := by rfl) (hn : x ≠ "__name__" := by decide) (hdb : (x == ("__debug__" : Str)) = false := by decide) (he : starEach [a] X.env = (false, eval a X.env) :: starEach [] X.env := by rfl) (hpl : (backTo pos (starEach [] X.env)).any (·.1) = false := by rfl) :
    EX X ι Δ s (.Call (.Name x p) [a] [] pos) (fun k => Ma fun y s1 => k (g y) s1) Eb := by
  intro k r hk σ H Hf A Q st q
  refine tE_of (pe_callB hc hgl hm hv (pA X [a]) hn hdb he hpl) ?_
  refine ax_cons ha (fun s1 => ax_nil) he (fun pp s' => k (g pp.1) s') r hk σ H Hf A _ st fun y s1 hx vs H1 Hf1 st1 e1 r1 => ?_
  obtain ⟨v, rfl, rv⟩ := one_arg r1
  exact hg y.1 v H1 Hf1 Q st1.sub rv fun u H2 Hf2 e2 sb r2 => q _ s1 hx u H2 Hf2 (st1.up e2 sb) (e1.trans e2.toA) r2
theorem ex_callT1T {x : Str} {id' : String} {rr : List V → Hp → VK → Prop} {g : α → β} (hc : CallR X (.type id') rr) (hm : X.mg x = none) (hv : bootBuiltins x = some (.type id'))
    (hg : ∀ (y : α) (v : V) (H Hf : Hp) (Q : VK), Sub Hf H → Rp X.K Hf v (Ea y) → (∀ u H' Hf', Ext H Hf H' Hf' → Sub Hf' H' → Rp X.K Hf' u (Eb (g y)) → Q u H') → rr [v] H Q) (ha : EX X ι Δ s a Ma Ea)
    (hgl : Gl X x := by rfl) (hn : x ≠ "__name__" := by decide) (hdb : (x == ("__debug__" : Str)) = false := by decide) (he : starEach [a] X.env = (false, eval a X.env) :: starEach [] X.env := by rfl) (hpl : (backTo pos (starEach [] X.env)).any (·.1) = false := by rfl) :
    EX X ι Δ s (.Call (.Name x p) [a] [] pos) (fun k => Ma fun y s1 => k (g y) s1) Eb := by
  intro k r hk σ H Hf A Q st q
  refine tE_of (pe_callTy hc hgl hm hv (pA X [a]) hn hdb he hpl) ?_
  refine ax_cons ha (fun s1 => ax_nil) he (fun pp s' => k (g pp.1) s') r hk σ H Hf A _ st fun y s1 hx vs H1 Hf1 st1 e1 r1 => ?_
  obtain ⟨v, rfl, rv⟩ := one_arg r1
  exact hg y.1 v H1 Hf1 Q st1.sub rv fun u H2 Hf2 e2 sb r2 => q _ s1 hx u H2 Hf2 (st1.up e2 sb) (e1.trans e2.toA) r2
section
variable {Ml : (List α → S → Option R) → Option R} {Mi : (Int → S → Option R) → Option R} {Mbo : (Bool → S → Option R) → Option R}
variable (he : starEach [a] X.env = (false, eval a X.env) :: starEach [] X.env) (hgl : ∀ x : Str, Prop)
theorem ex_lenL (hm : X.mg "len" = none) (ha : EX X ι Δ s a Ml (Ty.lst Ea)) (hgl : Gl X "len" := by rfl) (he : starEach [a] X.env = (false, eval a X.env) :: starEach [] X.env := by rfl) :
    EX X ι Δ s (.Call (.Name "len" p) [a] [] pos) (fun k => Ml fun y s1 => k (y.length : Int) s1) Ty.int := by
  refine ex_callB1T call_len hm Bo.len (fun y v H Hf Q sb rv q => ?_) ha hgl (by decide) (by decide) he rfl
  cases rv with
  | @lst p vs _ hs hz ra =>
    have hl := ra.len
    rw [List.length_map] at hl
    exact ⟨_, y.length, rfl, .inl ⟨vs, (.inl (sb.rd hs)), hl.symm⟩, q _ H Hf (Ext.refl _ _) sb (.int _)⟩
theorem ex_lenT (hm : X.mg "len" = none) (ha : EX X ι Δ s a Ml (Ty.tup Ea)) (hgl : Gl X "len" := by rfl) (he : starEach [a] X.env = (false, eval a X.env) :: starEach [] X.env := by rfl) :
    EX X ι Δ s (.Call (.Name "len" p) [a] [] pos) (fun k => Ml fun y s1 => k (y.length : Int) s1) Ty.int := by
  refine ex_callB1T call_len hm Bo.len (fun y v H Hf Q sb rv q => ?_) ha hgl (by decide) (by decide) he rfl
  cases rv with
  | @tup p vs _ hs hz ra =>
    have hl := ra.len
    rw [List.length_map] at hl
    exact ⟨_, y.length, rfl, .inr ⟨vs, sb.tup hs, hl.symm⟩, q _ H Hf (Ext.refl _ _) sb (.int _)⟩
theorem ex_tupleL (hm : X.mg "tuple" = none) (ha : EX X ι Δ s a Ml (Ty.lst Ea)) (hgl : Gl X "tuple" := by rfl) (he : starEach [a] X.env = (false, eval a X.env) :: starEach [] X.env := by rfl) :
    EX X ι Δ s (.Call (.Name "tuple" p) [a] [] pos) (fun k => Ml fun y s1 => k y s1) (Ty.tup Ea) := by
  refine ex_callT1T (g := fun y => y) call_tuple_of hm Bo.tuple (fun y v H Hf Q sb rv q => ?_) ha hgl (by decide) (by decide) he rfl
  cases rv with
  | @lst p vs _ hs hz ra =>
    refine ⟨p, vs, rfl, .inl ⟨(.inl (sb.rd hs)), fun l nl => ?_⟩⟩
    have ex := Ext.new (o := .tup vs) nl sb
    exact q _ _ _ ex (Sub.new sb) (.tup (.inl (.inl upd_same)) hz (ra.up ex.grow))
theorem ex_tupleT (hm : X.mg "tuple" = none) (ha : EX X ι Δ s a Ml (Ty.tup Ea)) (hgl : Gl X "tuple" := by rfl) (he : starEach [a] X.env = (false, eval a X.env) :: starEach [] X.env := by rfl) :
    EX X ι Δ s (.Call (.Name "tuple" p) [a] [] pos) (fun k => Ml fun y s1 => k y s1) (Ty.tup Ea) := by
  refine ex_callT1T (g := fun y => y) call_tuple_of hm Bo.tuple (fun y v H Hf Q sb rv q => ?_) ha hgl (by decide) (by decide) he rfl
  cases rv with
  | @tup p vs _ hs hz ra =>
    exact ⟨p, vs, rfl, .inr ⟨sb.tup hs, q _ H Hf (Ext.refl _ _) sb (.tup hs hz ra)⟩⟩
theorem ex_listT (hm : X.mg "list" = none) (ha : EX X ι Δ s a Ml (Ty.tup Ea)) (hgl : Gl X "list" := by rfl) (he : starEach [a] X.env = (false, eval a X.env) :: starEach [] X.env := by rfl) :
    EX X ι Δ s (.Call (.Name "list" p) [a] [] pos) (fun k => Ml fun y s1 => k y s1) (Ty.lst Ea) := by
  refine ex_callT1T (g := fun y => y) call_list_of hm Bo.list (fun y v H Hf Q sb rv q => ?_) ha hgl (by decide) (by decide) he rfl
  cases rv with
  | @tup p vs _ hs hz ra =>
    refine ⟨p, vs, rfl, .inr (sb.tup hs), fun l nl => ?_⟩
    have ex := Ext.new (o := .lst vs) nl sb
    exact q _ _ _ ex (Sub.new sb) (.lst (.inl upd_same) hz (ra.up ex.grow))
theorem ex_listL (hm : X.mg "list" = none) (ha : EX X ι Δ s a Ml (Ty.lst Ea)) (hgl : Gl X "list" := by rfl) (he : starEach [a] X.env = (false, eval a X.env) :: starEach [] X.env := by rfl) :
    EX X ι Δ s (.Call (.Name "list" p) [a] [] pos) (fun k => Ml fun y s1 => k y s1) (Ty.lst Ea) := by
  refine ex_callT1T (g := fun y => y) call_list_of hm Bo.list (fun y v H Hf Q sb rv q => ?_) ha hgl (by decide) (by decide) he rfl
  cases rv with
  | @lst p vs _ hs hz ra =>
    refine ⟨p, vs, rfl, .inl ((.inl (sb.rd hs))), fun l nl => ?_⟩
    have ex := Ext.new (o := .lst vs) nl sb
    exact q _ _ _ ex (Sub.new sb) (.lst (.inl upd_same) hz (ra.up ex.grow))
def b2i (b : Bool) : Int := if b = true then 1 else 0
theorem ex_intB (hm : X.mg "int" = none) (ha : EX X ι Δ s a Mbo Ty.bool) (hgl : Gl X "int" := by rfl) (he : starEach [a] X.env = (false, eval a X.env) :: starEach [] X.env := by rfl) :
    EX X ι Δ s (.Call (.Name "int" p) [a] [] pos) (fun k => Mbo fun y s1 => k (b2i y) s1) Ty.int := by
  refine ex_callT1T (g := b2i) call_int1 hm Bo.int (fun y v H Hf Q sb rv q => ?_) ha hgl (by decide) (by decide) he rfl
  cases rv
  exact .inr ⟨y, rfl, q _ H Hf (Ext.refl _ _) sb (.int _)⟩
theorem ex_intI (hm : X.mg "int" = none) (ha : EX X ι Δ s a Mi Ty.int) (hgl : Gl X "int" := by rfl) (he : starEach [a] X.env = (false, eval a X.env) :: starEach [] X.env := by rfl) :
    EX X ι Δ s (.Call (.Name "int" p) [a] [] pos) (fun k => Mi fun y s1 => k y s1) Ty.int := by
  refine ex_callT1T (g := fun y => y) call_int1 hm Bo.int (fun y v H Hf Q sb rv q => ?_) ha hgl (by decide) (by decide) he rfl
  cases rv
  exact .inl ⟨y, rfl, q _ H Hf (Ext.refl _ _) sb (.int _)⟩
theorem ex_abs (hm : X.mg "abs" = none) (ha : EX X ι Δ s a Mi Ty.int) (hgl : Gl X "abs" := by rfl) (he : starEach [a] X.env = (false, eval a X.env) :: starEach [] X.env := by rfl) :
    EX X ι Δ s (.Call (.Name "abs" p) [a] [] pos) (fun k => Mi fun y s1 => k (y.natAbs : Int) s1) Ty.int := by
  refine ex_callB1T (g := fun y : Int => (y.natAbs : Int)) call_abs hm Bo.abs (fun y v H Hf Q sb rv q => ?_) ha hgl (by decide) (by decide) he rfl
  cases rv
  refine ⟨y, rfl, q _ H Hf (Ext.refl _ _) sb ?_⟩
  have e : (if y < 0 then -y else y) = (y.natAbs : Int) := by split <;> omega
  rw [e]
  exact .int _
/-- a list of ints, ascending -/
def insI (x : Int) : List Int → List Int
  | [] => [x]
  | y :: ys => if x ≤ y then x :: y :: ys else y :: insI x ys
def sortI : List Int → List Int
  | [] => []
  | x :: xs => insI x (sortI xs)
theorem insI_perm (x : Int) : ∀ ys, (insI x ys).Perm (x :: ys)
  | [] => .refl _
  | y :: ys => by
    unfold insI
    split
    · exact .refl _
    · exact ((insI_perm x ys).cons y).trans (.swap x y ys)
theorem sortI_perm : ∀ xs, (sortI xs).Perm xs
  | [] => .refl _
  | x :: xs => (insI_perm x _).trans ((sortI_perm xs).cons x)
theorem insI_sorted (x : Int) : ∀ ys : List Int, ys.Pairwise (· ≤ ·) → (insI x ys).Pairwise (· ≤ ·)
  | [], _ => by simp [insI]
  | y :: ys, h => by
    unfold insI
    obtain ⟨h1, h2⟩ := List.pairwise_cons.mp h
    split
    · rename_i hxy
      refine List.pairwise_cons.mpr ⟨fun z hz => ?_, h⟩
      rcases List.mem_cons.mp hz with rfl | hz
      · exact hxy
      · exact Int.le_trans hxy (h1 z hz)
    · rename_i hxy
      refine List.pairwise_cons.mpr ⟨fun z hz => ?_, insI_sorted x ys h2⟩
      rcases List.mem_cons.mp ((insI_perm x ys).mem_iff.mp hz) with rfl | hz
      · omega
      · exact h1 z hz
theorem sortI_sorted : ∀ xs, (sortI xs).Pairwise (· ≤ ·)
  | [] => .nil
  | x :: xs => insI_sorted x _ (sortI_sorted xs)
theorem sorted_unique : ∀ {xs ys : List Int}, xs.Perm ys → xs.Pairwise (· ≤ ·) → ys.Pairwise (· ≤ ·) → xs = ys
  | [], ys, h, _, _ => by rw [List.nil_perm] at h; exact h.symm
  | x :: xs, [], h, _, _ => by simp at h
  | x :: xs, y :: ys, h, h1, h2 => by
    obtain ⟨a1, a2⟩ := List.pairwise_cons.mp h1
    obtain ⟨b1, b2⟩ := List.pairwise_cons.mp h2
    have e : x = y := by
      have m1 : x ∈ y :: ys := h.mem_iff.mp List.mem_cons_self
      have m2 : y ∈ x :: xs := h.mem_iff.mpr List.mem_cons_self
      rcases List.mem_cons.mp m1 with e | m1
      · exact e
      · rcases List.mem_cons.mp m2 with e | m2
        · exact e.symm
        · have := b1 x m1
          have := a1 y m2
          omega
    subst e
    rw [sorted_unique (List.perm_cons x |>.mp h) a2 b2]
theorem ex_sortI (hm : X.mg "sorted" = none) {Mil : (List Int → S → Option R) → Option R} (ha : EX X ι Δ s a Mil (Ty.lst Ty.int)) (hgl : Gl X "sorted" := by rfl) (he : starEach [a] X.env = (false, eval a X.env) :: starEach [] X.env := by rfl) :
    EX X ι Δ s (.Call (.Name "sorted" p) [a] [] pos) (fun k => Mil fun y s1 => k (sortI y) s1) (Ty.lst Ty.int) := by
  refine ex_callB1T (g := sortI) cr_sortedI hm Bo.sorted (fun y v H Hf Q sb rv q => ?_) ha hgl (by decide) (by decide) he rfl
  cases rv with
  | @lst p vs _ hs hz ra =>
    have ev := ra.ints
    subst ev
    refine ⟨p, y, rfl, (.inl (sb.rd hs)), fun ns' l pm so nl => ?_⟩
    have e : ns' = sortI y := sorted_unique (pm.trans (sortI_perm y).symm) so (sortI_sorted y)
    subst e
    have ex := Ext.new (o := .lst ((sortI y).map V.int)) nl sb
    refine q _ _ _ ex (Sub.new sb) (.lst (.inl upd_same) ?_ (.ofInts _))
    rw [List.length_map] at hz ⊢
    rw [(sortI_perm y).length_eq]
    exact hz
theorem ex_sum (hc : X.calm = true) (hm : X.mg "sum" = none) {Mil : (List Int → S → Option R) → Option R} (ha : EX X ι Δ s a Mil (Ty.lst Ty.int)) (hgl : Gl X "sum" := by rfl) (he : starEach [a] X.env = (false, eval a X.env) :: starEach [] X.env := by rfl) :
    EX X ι Δ s (.Call (.Name "sum" p) [a] [] pos) (fun k => Mil fun y s1 => k y.sum s1) Ty.int := by
  refine ex_callB1T (g := List.sum) (cr_sum hc) hm Bo.sum (fun y v H Hf Q sb rv q => ?_) ha hgl (by decide) (by decide) he rfl
  cases rv with
  | @lst p vs _ hs hz ra =>
    have ev := ra.ints
    subst ev
    exact ⟨p, y, rfl, (.inl (sb.rd hs)), q _ H Hf (Ext.refl _ _) sb (.int _)⟩
end
/-! ### + of lists and tuples -/
def rCatS : R2 := fun x y H Q => ∃ l b xs zs, x = .ref l ∧ y = .ref b ∧ Rd H l (.lst xs) ∧ Rd H b (.lst zs) ∧ xs.length + zs.length ≤ sizeLine ∧ ∀ p, H p = none → Q (.ref p) (upd H p (.lst (xs ++ zs)))
theorem op_catS : OpR X (binaryOp .Add) rCatS := by
  intro pins s σ H x y v u Q I rx ry h
  obtain ⟨l, b, xs, zs, rfl, rfl, hH, hB, hz, q⟩ := h
  cases rx
  cases ry
  obtain ⟨z, its, n, r, e⟩ := hH.ok I.hok
  obtain ⟨z2, its2, n2, r2, e2⟩ := hB.ok I.hok
  refine PySem.P.add_list e e2 ?_ (by rw [List.size_toArray, List.size_toArray, ← r.length, ← r2.length]; exact hz)
  have ea : its.toArray ++ its2.toArray = (its ++ its2).toArray := by simp
  rw [ea]
  exact ⟨.ref _, _, I.lnew (t' := s.toks) (r.append r2) (by rw [List.length_append]; omega), rfl, q _ I.fresh⟩
section
variable {Ml : (List α → S → Option R) → Option R} {Ml2 : S → (List α → S → Option R) → Option R}
theorem ex_catL (ha : EX X ι Δ s a Ml (Ty.lst Ea)) (hb : ∀ s1, EX X ι Δ s1 b (Ml2 s1) (Ty.lst Ea)) : EX X ι Δ s (.BinOp a .Add b pos) (fun k => Ml fun x s1 => Ml2 s1 fun y s2 => guardM (x.length + y.length ≤ Line) (k (x ++ y) s2)) (Ty.lst Ea) := by
  refine ex_binG (C := fun x y : List α => x.length + y.length ≤ Line) (g := fun x y => x ++ y) (pe_op op_catS (pE X a) (pE X b)) (fun x y v w H Hf Q c sb rv rw' q => ?_) ha hb
  cases rv with
  | @lst p vs _ hs hz ra =>
    cases rw' with
    | @lst p2 vs2 _ hs2 hz2 ra2 =>
      have h1 := ra.len
      have h2 := ra2.len
      rw [List.length_map] at h1 h2
      refine ⟨p, p2, vs, vs2, rfl, rfl, sb.rd hs, sb.rd hs2, le_line (by rw [h1, h2]; exact c), fun l nl => ?_⟩
      have ex := Ext.new (o := .lst (vs ++ vs2)) nl sb
      refine q _ _ _ ex (Sub.new sb) (.lst (.inl upd_same) (by rw [List.length_append, h1, h2]; exact c) ?_)
      rw [List.map_append]
      exact (ra.append ra2).up ex.grow
theorem ex_catT (ha : EX X ι Δ s a Ml (Ty.tup Ea)) (hb : ∀ s1, EX X ι Δ s1 b (Ml2 s1) (Ty.tup Ea)) : EX X ι Δ s (.BinOp a .Add b pos) (fun k => Ml fun x s1 => Ml2 s1 fun y s2 => guardM (x.length + y.length ≤ Line) (k (x ++ y) s2)) (Ty.tup Ea) := by
  refine ex_binG (C := fun x y : List α => x.length + y.length ≤ Line) (g := fun x y => x ++ y) (pe_op op_catA (pE X a) (pE X b)) (fun x y v w H Hf Q c sb rv rw' q => ?_) ha hb
  cases rv with
  | @tup p vs _ hs hz ra =>
    cases rw' with
    | @tup p2 vs2 _ hs2 hz2 ra2 =>
      have h1 := ra.len
      have h2 := ra2.len
      rw [List.length_map] at h1 h2
      refine ⟨p, p2, vs, vs2, rfl, rfl, sb.tup hs, sb.tup hs2, le_line (by rw [h1, h2]; exact c), fun e => ?_, fun _ e => ?_, fun _ _ l nl => ?_⟩
      · subst e
        cases x with
        | nil => exact q _ H Hf (Ext.refl _ _) sb (.tup hs2 hz2 ra2)
        | cons x xs => simp at h1
      · subst e
        cases y with
        | nil =>
          refine q _ H Hf (Ext.refl _ _) sb ?_
          show Rp X.K Hf (V.ref p) (.tuple ((x ++ []).map Ea))
          rw [List.append_nil]
          exact .tup hs hz ra
        | cons y ys => simp at h2
      · have ex := Ext.new (o := .tup (vs ++ vs2)) nl sb
        refine q _ _ _ ex (Sub.new sb) (.tup (.inl (.inl upd_same)) (by rw [List.length_append, h1, h2]; exact c) ?_)
        rw [List.map_append]
        exact (ra.append ra2).up ex.grow
end
/-! ### calls of pure defs -/
theorem ex_call {x : Str} {f : Addr} {fd : FuncData} {ps : List Str} {P C : Type} {argE : P → List D} {g : P → Option C} {E : C → D} {es : List Expr} {M : (P → S → Option R) → Option R} {e1 : Expr}
    (F : FnOk X.prog X.w X.K X.mg X.base CX0 k f fd ps (spP X.K argE g E)) (hr : Room k X.A) (hm : X.mg x = some (.ref f)) (hk : PySem.W.keepIn X.K (.ref f) = true) (hb : Binds X.K fd ps [])
    (ha : AX X ι Δ s (e1 :: es) M argE) (hg : Gl X x := by rfl) (hdb : (x == ("__debug__" : Str)) = false := by decide) (he : starEach (e1 :: es) X.env = (false, eval e1 X.env) :: starEach es X.env := by rfl) (hpl : (backTo pos (starEach es X.env)).any (·.1) = false := by rfl) :
    EX X ι Δ s (.Call (.Name x p) (e1 :: es) [] pos) (fun k => M fun y s1 => (g y).bind fun z => k z s1) E := by
  intro k r hk' σ H Hf A Q st q
  refine tE_of (pe_call F hr hg hm hk hb .nil pass0 (pA X _) hdb he hpl) (ha _ r hk' σ H Hf A _ st fun y s1 hx vs H1 Hf1 st1 e1 r1 => ?_)
  obtain ⟨z, h1, h2⟩ := bind_some hx
  rw [List.append_nil]
  exact ⟨y, z, Hf1, st1.sub, r1, h1, fun v H2 Hf2 sb ex rv => q z s1 h2 v H2 Hf2 (st1.up ex sb) (e1.trans ex.toA) rv⟩
/-! ### isinstance -/
/-- what type data of this kind has -/
def TyD (E : α → D) (t : String) : Prop := ∀ (K : KF) (H : Hp) (v : V) (x : α), Rp K H v (E x) → TyX K H v (.type t)
theorem tyd_int : TyD Ty.int "int" := fun K H v x r => by cases r; exact .base (.int x)
theorem tyd_bool : TyD Ty.bool "bool" := fun K H v x r => by cases r; exact .base (.bl x)
theorem tyd_str : TyD Ty.str "str" := fun K H v x r => by cases r; exact .base (.str x)
theorem tyd_lst : TyD (Ty.lst Ea) "list" := fun K H v x r => by
  cases r with
  | @lst p vs _ hs hz ra =>
    rcases hs with hs | ⟨o, hs⟩
    · exact .base (.lst hs)
    · exact .base (.frz hs)
theorem tyd_tup (F : α → List D) (h : ∀ x, Ea x = .tuple (F x)) : TyD Ea "tuple" := fun K H v x r => by
  rw [h] at r
  cases r with
  | @tup p vs _ hs hz ra =>
    rcases hs with (hs | ⟨o, hs⟩) | ⟨o, its, n, hk, hc, _⟩
    · exact .base (.tup hs)
    · exact .fTuple hs
    · exact .kTuple hk hc
/-- isinstance(x, T), T a built-in type: known -/
theorem ex_isi {t T : String} {Tn : Str} {r0 : Bool} {pT : Pos} (hm : X.mg "isinstance" = none) (hmT : X.mg Tn = none) (hT : bootBuiltins Tn = some (.type T)) (ty : TyD Ea t) (ha : EX X ι Δ s a Ma Ea) (hk : kitB t T = some r0 := by decide +kernel) (hgl : Gl X "isinstance" := by rfl) (hglT : Gl X Tn := by rfl)
    (hnT : Tn ≠ "__name__" := by decide) (hdT : (Tn == ("__debug__" : Str)) = false := by decide)
    (he : starEach (a :: [.Name Tn pT]) X.env = (false, eval a X.env) :: starEach [.Name Tn pT] X.env := by rfl) (he2 : starEach [.Name Tn pT] X.env = (false, eval (.Name Tn pT) X.env) :: starEach [] X.env := by rfl) (hpl : (backTo pos (starEach [.Name Tn pT] X.env)).any (·.1) = false := by rfl) :
    EX X ι Δ s (.Call (.Name "isinstance" p) [a, .Name Tn pT] [] pos) (fun k => Ma fun y s1 => k r0 s1) Ty.bool := by
  intro k r hk' σ H Hf A Q st q
  refine tE_of (pe_callB call_isi hgl hm Bo.isinstance (pa_cons (pE X a) (pa_cons (pe_bltn (v := .ty T) hglT hmT hT rfl hnT hdT) pa_nil he2) he) (by decide) (by decide) he hpl) ?_
  refine ha _ r hk' σ H Hf A _ st fun y s1 hx v H1 Hf1 st1 e1 r1 => ?_
  exact ⟨v, .ty T, _, _, r0, rfl, .ty T, ty X.K H1 v y (r1.up st1.sub), kit_ty hk, q r0 s1 hx _ H1 Hf1 st1 e1 (.bl r0)⟩
end
end Ab
namespace Ab
open PySem PySem.Spec PyProof.Rows L2
section
variable {X : Cx} {S : Type} {ι : Io S} {Δ : Dl} {s : S} {R : Type} {tg iter elt a b c e : Expr} {ifs : List Expr} {pos p : Pos} {scope : Scope} {k : Nat}
variable {α β : Type} {E : α → D} {F : β → D}
/-! ### comprehensions that touch no state and do not fail -/
theorem compM_map {g : α → β} (xs : List α) (s : S) : compM (fun x s1 => some (some (g x), s1)) xs s = some (xs.map g, s) := by
  rw [compM_total (g := fun x => some (g x)) (fun _ _ => rfl)]
  simp
theorem compM_filter {q : α → Bool} {g : α → β} (xs : List α) (s : S) : compM (fun x s1 => if q x = true then some (some (g x), s1) else some (none, s1)) xs s = some ((xs.filter q).map g, s) := by
  rw [compM_total (g := fun x => if q x = true then some (g x) else none) (fun x s => by split <;> rfl)]
  congr 2
  induction xs with
  | nil => rfl
  | cons x xs ih => by_cases h : q x = true <;> simp [h, ih]
theorem lo_compM {own : List (Str × Nat)} {ixs : List Nat} {bd : α → Dl} {Mi : (List α → S → Option R) → Option R} {g : α → β} (hN : X.N.Nodup)
    (hi : IX X ι Δ s tg iter Mi E)
    (hg : ∀ s0 H0 C cl fp, GX (X.blk s0 H0 scope (compEnvC scope cl C X.env) fp) ι tg ixs bd E)
    (he : ∀ s0 H0 C cl fp x s1, EX (X.blk s0 H0 scope (compEnvC scope cl C X.env) fp) ι (bd x ++ (forget (own.map (·.2)) ++ Δ)) s1 elt (R := Option β × S) (fun k => k (g x) s1) F)
    (ok : blkC X.N X.env.scope scope own = true := by kernel_rfl) (kx : List Nat := ixs) (hk1 : ∀ x, (bd x).map (·.1) = kx := by intro _; rfl) (hk2 : ∀ i ∈ kx, i ∈ own.map (·.2) := by decide) (hk3 : ∀ i ∈ ixs, i ∈ own.map (·.2) := by decide)
    (hx : ∀ i ∈ own.map (·.2), i ∉ ι.ix := by decide) (hc : X.calm = true := by rfl) (hs : ∀ x, foldedSetIterable iter X.env x = pure x := by intro _; rfl) :
    LO X ι Δ s elt tg iter [] scope own (fun k => Mi fun xs s1 => k (xs.map g) s1) F :=
  (lo_comp (Mc := fun x s1 k => k true s1) (Me := fun x s1 k => k (g x) s1) hN hi hg (fun s0 H0 C cl fp x s1 => cx_nil) he ok kx hk1 hk2 hk3 hx hc hs).congr fun k => by
    congr 1; funext xs s1
    show k (xs.map g) s1 = (compM (fun x s1 => some (some (g x), s1)) xs s1).bind fun p => k p.1 p.2
    rw [compM_map]; rfl
theorem lo_compF {own : List (Str × Nat)} {ixs : List Nat} {bd : α → Dl} {Mi : (List α → S → Option R) → Option R} {g : α → β} {q : α → Bool} (hN : X.N.Nodup)
    (hi : IX X ι Δ s tg iter Mi E)
    (hg : ∀ s0 H0 C cl fp, GX (X.blk s0 H0 scope (compEnvC scope cl C X.env) fp) ι tg ixs bd E)
    (ht : ∀ s0 H0 C cl fp x s1, TX (X.blk s0 H0 scope (compEnvC scope cl C X.env) fp) ι (bd x ++ (forget (own.map (·.2)) ++ Δ)) s1 c (R := Option β × S) (fun k => k (q x) s1))
    (he : ∀ s0 H0 C cl fp x s1, EX (X.blk s0 H0 scope (compEnvC scope cl C X.env) fp) ι (bd x ++ (forget (own.map (·.2)) ++ Δ)) s1 elt (R := Option β × S) (fun k => k (g x) s1) F)
    (ok : blkC X.N X.env.scope scope own = true := by kernel_rfl) (kx : List Nat := ixs) (hk1 : ∀ x, (bd x).map (·.1) = kx := by intro _; rfl) (hk2 : ∀ i ∈ kx, i ∈ own.map (·.2) := by decide) (hk3 : ∀ i ∈ ixs, i ∈ own.map (·.2) := by decide)
    (hx : ∀ i ∈ own.map (·.2), i ∉ ι.ix := by decide) (hc : X.calm = true := by rfl) (hs : ∀ x, foldedSetIterable iter X.env x = pure x := by intro _; rfl) :
    LO X ι Δ s elt tg iter [c] scope own (fun k => Mi fun xs s1 => k ((xs.filter q).map g) s1) F :=
  (lo_comp (Mc := fun x s1 k => k (q x) s1) (Me := fun x s1 k => k (g x) s1) hN hi hg (fun s0 H0 C cl fp x s1 => cx_one (ht s0 H0 C cl fp x s1)) he ok kx hk1 hk2 hk3 hx hc hs).congr fun k => by
    congr 1; funext xs s1
    show k ((xs.filter q).map g) s1 = (compM (fun x s1 => if q x = true then some (some (g x), s1) else some (none, s1)) xs s1).bind fun p => k p.1 p.2
    rw [compM_filter]; rfl
/-- .. whose element is the item itself -/
theorem lo_compI {own : List (Str × Nat)} {ixs : List Nat} {bd : α → Dl} {Mi : (List α → S → Option R) → Option R} {q : α → Bool} (hN : X.N.Nodup)
    (hi : IX X ι Δ s tg iter Mi E)
    (hg : ∀ s0 H0 C cl fp, GX (X.blk s0 H0 scope (compEnvC scope cl C X.env) fp) ι tg ixs bd E)
    (ht : ∀ s0 H0 C cl fp x s1, TX (X.blk s0 H0 scope (compEnvC scope cl C X.env) fp) ι (bd x ++ (forget (own.map (·.2)) ++ Δ)) s1 c (R := Option α × S) (fun k => k (q x) s1))
    (he : ∀ s0 H0 C cl fp x s1, EX (X.blk s0 H0 scope (compEnvC scope cl C X.env) fp) ι (bd x ++ (forget (own.map (·.2)) ++ Δ)) s1 elt (R := Option α × S) (fun k => k x s1) E)
    (ok : blkC X.N X.env.scope scope own = true := by kernel_rfl) (kx : List Nat := ixs) (hk1 : ∀ x, (bd x).map (·.1) = kx := by intro _; rfl) (hk2 : ∀ i ∈ kx, i ∈ own.map (·.2) := by decide) (hk3 : ∀ i ∈ ixs, i ∈ own.map (·.2) := by decide)
    (hx : ∀ i ∈ own.map (·.2), i ∉ ι.ix := by decide) (hc : X.calm = true := by rfl) (hs : ∀ x, foldedSetIterable iter X.env x = pure x := by intro _; rfl) :
    LO X ι Δ s elt tg iter [c] scope own (fun k => Mi fun xs s1 => k (xs.filter q) s1) E :=
  (lo_compF (g := fun x => x) hN hi hg ht he ok kx hk1 hk2 hk3 hx hc hs).congr fun k => by
    congr 1; funext xs s1
    rw [List.map_id']
/-! ### new lists -/
theorem eo_lstD {es : List Expr} {M : (α → S → Option R) → Option R} {G : α → List D} (f : α → List β) (hf : ∀ x, (f x).map F = G x) (hn : ∀ x, (G x).length ≤ Line) (h : AX X ι Δ s es M G) : EO X ι Δ s (.List es pos) (fun k => M fun x s1 => k (f x) s1) F := by
  intro k r hk σ H Hf A Q st q
  refine tE_of (pe_lst (pA X es)) (h _ r hk σ H Hf A _ st fun x s1 hx vs H1 Hf1 st1 e1 r1 => ⟨le_line (r1.len ▸ hn x), fun l nl => ?_⟩)
  have ex := Ext.newO (o := .lst vs) (Hf := Hf1) nl
  exact q _ s1 hx l vs _ Hf1 (st1.up ex (Sub.newO nl st1.sub)) (e1.trans ex.toA) upd_same (r1.len ▸ hn x) (by rw [hf]; exact r1) (st1.sub.non nl) (none_back e1.there nl)
theorem eo_listG {Ml : (List α → S → Option R) → Option R} (G : List α → D) (hG : (∀ l, G l = .list (l.map E)) ∨ (∀ l, G l = .tuple (l.map E))) (hm : X.mg "list" = none) (ha : EX X ι Δ s a Ml G) (hgl : Gl X "list") (he : starEach [a] X.env = (false, eval a X.env) :: starEach [] X.env) :
    EO X ι Δ s (.Call (.Name "list" p) [a] [] pos) (fun k => Ml fun y s1 => k y s1) E := by
  intro k r hk σ H Hf A Q st q
  refine tE_of (pe_callTy call_list_of hgl hm Bo.list (pA X [a]) (by decide) (by decide) he rfl) ?_
  refine ax_cons ha (fun s1 => ax_nil) he (fun pp s' => k pp.1 s') r hk σ H Hf A _ st fun y s1 hx vs H1 Hf1 st1 e1 r1 => ?_
  obtain ⟨v, rfl, rv⟩ := one_arg r1
  rcases hG with hG | hG
  · rw [hG] at rv
    cases rv with
    | @lst p ws _ hs hz ra =>
      refine ⟨p, ws, rfl, .inl (.inl (st1.sub.rd hs)), fun l nl => ?_⟩
      have ex := Ext.newO (o := .lst ws) (Hf := Hf1) nl
      exact q _ s1 hx l ws _ Hf1 (st1.up ex (Sub.newO nl st1.sub)) (e1.trans ex.toA) upd_same hz ra (st1.sub.non nl) (none_back e1.there nl)
  · rw [hG] at rv
    cases rv with
    | @tup p ws _ hs hz ra =>
      refine ⟨p, ws, rfl, .inr (st1.sub.tup hs), fun l nl => ?_⟩
      have ex := Ext.newO (o := .lst ws) (Hf := Hf1) nl
      exact q _ s1 hx l ws _ Hf1 (st1.up ex (Sub.newO nl st1.sub)) (e1.trans ex.toA) upd_same hz ra (st1.sub.non nl) (none_back e1.there nl)
theorem eo_listL {Ml : (List α → S → Option R) → Option R} (hm : X.mg "list" = none) (ha : EX X ι Δ s a Ml (Ty.lst E)) (hgl : Gl X "list" := by rfl) (he : starEach [a] X.env = (false, eval a X.env) :: starEach [] X.env := by rfl) :
    EO X ι Δ s (.Call (.Name "list" p) [a] [] pos) (fun k => Ml fun y s1 => k y s1) E := eo_listG _ (.inl fun _ => rfl) hm ha hgl he
theorem eo_listT {Ml : (List α → S → Option R) → Option R} (hm : X.mg "list" = none) (ha : EX X ι Δ s a Ml (Ty.tup E)) (hgl : Gl X "list" := by rfl) (he : starEach [a] X.env = (false, eval a X.env) :: starEach [] X.env := by rfl) :
    EO X ι Δ s (.Call (.Name "list" p) [a] [] pos) (fun k => Ml fun y s1 => k y s1) E := eo_listG _ (.inr fun _ => rfl) hm ha hgl he
/-- [x] * n -/
theorem eo_rep {Ml : (List α → S → Option R) → Option R} {Mi : S → (Int → S → Option R) → Option R} (ha : EO X ι Δ s a Ml E) (hb : ∀ s1, EX X ι Δ s1 b (Mi s1) Ty.int) :
    EO X ι Δ s (.BinOp a .Mult b pos) (fun k => Ml fun xs s1 => Mi s1 fun n s2 => guardM (n.natAbs ≤ Line ∧ xs.length * n.toNat ≤ Line) (k (List.replicate n.toNat xs).flatten s2)) E := by
  intro k r hk σ H Hf A Q st q
  refine tE_of (pe_op op_rep (pE X a) (pE X b)) (ha _ r hk σ H Hf A _ st fun xs s1 hx l vs H1 Hf1 st1 e1 hl hz ra hn hf => ?_)
  have nA : ∀ i, l ∉ A i := fun i m => (st.own i l m).2 hf
  refine hb s1 _ r hx σ H1 Hf1 A _ st1 fun n s2 hy w H2 Hf2 st2 e2 r2 => ?_
  obtain ⟨c, hy⟩ := guardM_some hy
  have c1 : n.natAbs ≤ 16777216 := c.1
  have hlen := ra.len
  rw [List.length_map] at hlen
  cases r2
  refine ⟨l, n, vs, rfl, rfl, e2.keep _ _ nA hl, by omega, by omega, le_line (by rw [hlen]; exact c.2), fun p np => ?_⟩
  have ex := Ext.newO (o := .lst (List.replicate n.toNat vs).flatten) (Hf := Hf2) np
  have rr : ∀ m, RpAll X.K Hf2 (List.replicate m vs).flatten ((List.replicate m xs).flatten.map E) := by
    intro m
    induction m with
    | zero => exact .nil
    | succ m ih =>
      rw [List.replicate_succ, List.replicate_succ, List.flatten_cons, List.flatten_cons, List.map_append]
      exact (ra.up e2.grow).append ih
  refine q _ s2 hy p _ _ Hf2 (st2.up ex (Sub.newO np st2.sub)) ((e1.trans e2).trans ex.toA) upd_same ?_ (rr _) (st2.sub.non np) (none_back (e1.trans e2).there np)
  rw [List.length_flatten, List.map_replicate, List.sum_replicate_nat, hlen, Nat.mul_comm]
  exact c.2
theorem lk_tail {i : Nat} {s1 : S} (hix : i ∉ ι.ix) : lk (ι.tr s ++ Δ) i = lk (ι.tr s1 ++ Δ) i := by
  rw [lk_append_out (by rw [ι.keys]; exact hix), lk_append_out (by rw [ι.keys]; exact hix)]
end
/-! ### statements -/
section
variable {X : Cx} {S : Type} {ι : Io S} {Δ : Dl} {s : S} {R : Type} {out : R → Out S} {rest : List Stmt} {pos pos' p : Pos} {α β : Type} {E : α → D} {F : β → D} {e c : Expr} {k : Nat}
/-- x = a new list -/
theorem bx_setO (i : Nat) {x : Str} {M : (List α → S → Option R) → Option R} {kk : List α → S → Option R} (hN : X.N.Nodup) (h : EO X ι Δ s e M E)
    (q : ∀ a s', BX X ι ((i, some (.lst (a.map E))) :: Δ) s' rest (kk a s') out) (hi : X.N[i]? = some x := by rfl) (hx : Loc X.env.scope x := by first | exact Or.inl rfl | exact Or.inr rfl)
    (hs : swapsWith e (some (.Name x pos')) pos.line X.env = pure false := by rfl) (hf : X.fn x = true ∨ X.env.scope.names.lookup x = some .local := by first | exact .inl rfl | exact .inr rfl) (hix : i ∉ ι.ix := by decide) :
    BX X ι Δ s (.Assign [.Name x pos'] e pos :: rest) (M kk) out := by
  intro r hr σ H Hf A Dn st p
  refine tS_inv fun pins sh I => tS_cons (ps_set hN hi hx (pE X e) hs hf) (h _ r hr σ H Hf A _ st fun a s' ha l vs H' Hf' st' e' hl hz ra hn hfr => ?_)
  have hlen : i < σ.length := by rw [I.len]; exact (List.getElem?_eq_some_iff.mp hi).1
  have nA : ∀ j, l ∉ A j := fun j m => (st.own j l m).2 hfr
  refine q a s' r ha _ H' Hf' _ _ (st'.set (P := ι.tr s') (as := [l]) hlen (by rw [ι.keys]; exact hix) ⟨l, vs, rfl, rfl, hl, hz, ra⟩ (fun b hb => by
    have : b = l := by simpa using hb
    subst this
    exact ⟨hn, fun j _ => nA j⟩)) (p.step ⟨fun j hj => List.getElem?_set_ne (ne_mem hj hix).symm, e'.keep, e'.there, e'.grow, fun b hb => (e'.news b hb).elim .inl fun z => .inr (.inl z), fun j b hb => ?_, fun j hj => cut_ne (ne_mem hj hix)⟩)
  by_cases z : j = i
  · subst z
    rw [cut_self] at hb
    have : b = l := by simpa using hb
    subst this
    exact .inr hfr
  · rw [cut_ne z] at hb
    exact .inl ⟨j, hb, fun _ => rfl⟩
/-- x = [.. for ..] on one line, x a local -/
theorem bx_setLcO (i : Nat) {x : Str} {elt tg iter : Expr} {ifs : List Expr} {scope : Scope} {own : List (Str × Nat)} {p2 : Pos} {M : (List α → S → Option R) → Option R} {kk : List α → S → Option R} (h : LO X ι Δ s elt tg iter ifs scope own M E)
    (q : ∀ a s', BX X ι ((i, some (.lst (a.map E))) :: Δ) s' rest (kk a s') out) (hi : X.N[i]? = some x := by rfl) (hyl : X.env.scope.names.lookup x = some .local := by rfl)
    (hsw : swapsWith (.ListComp elt [⟨tg, iter, ifs, 0⟩] scope p2) (some (.Name x pos')) pos.line X.env = pure true := by exact sw_true rfl rfl rfl (by decide +kernel)) (hix : i ∉ ι.ix := by decide) :
    BX X ι Δ s (.Assign [.Name x pos'] (.ListComp elt [⟨tg, iter, ifs, 0⟩] scope p2) pos :: rest) (M kk) out := by
  intro r hr σ H Hf A Dn st p
  refine tS_inv fun pins sh I => tS_cons (ps_setLc h.hc h.hN hi hyl hsw (pI X tg iter) h.ok (fun s0 H0 C cl fp => ⟨fun pins s _ _ _ u _ I r h => h s0 H0 C cl fp pins s u I r⟩)
    (fun s0 H0 C cl fp => ⟨fun pins s _ _ _ I h => h s0 H0 C cl fp pins s I⟩) (fun s0 H0 C cl fp => ⟨fun pins s _ _ _ I h => h s0 H0 C cl fp pins s I⟩) h.hs) (h.read _ r hr σ H Hf A _ st fun a s' ha l vs H' Hf' st' e' hl hz ra hn hfr => ?_)
  have hlen : i < σ.length := by rw [I.len]; exact (List.getElem?_eq_some_iff.mp hi).1
  have nA : ∀ j, l ∉ A j := fun j m => (st.own j l m).2 hfr
  refine q a s' r ha _ H' Hf' _ _ (st'.set (P := ι.tr s') (as := [l]) hlen (by rw [ι.keys]; exact hix) ⟨l, vs, rfl, rfl, hl, hz, ra⟩ (fun b hb => by
    have : b = l := by simpa using hb
    subst this
    exact ⟨hn, fun j _ => nA j⟩)) (p.step ⟨fun j hj => List.getElem?_set_ne (ne_mem hj hix).symm, e'.keep, e'.there, e'.grow, fun b hb => (e'.news b hb).elim .inl fun z => .inr (.inl z), fun j b hb => ?_, fun j hj => cut_ne (ne_mem hj hix)⟩)
  by_cases z : j = i
  · subst z
    rw [cut_self] at hb
    have : b = l := by simpa using hb
    subst this
    exact .inr hfr
  · rw [cut_ne z] at hb
    exact .inl ⟨j, hb, fun _ => rfl⟩
theorem bx_setLc (i : Nat) {x : Str} {elt tg iter : Expr} {ifs : List Expr} {scope : Scope} {own : List (Str × Nat)} {p2 : Pos} {M : (List α → S → Option R) → Option R} {kk : List α → S → Option R} (h : LO X ι Δ s elt tg iter ifs scope own M E)
    (q : ∀ a s', BX X ι ((i, some (.imm (Ty.lst E a))) :: Δ) s' rest (kk a s') out) (hi : X.N[i]? = some x := by rfl) (hyl : X.env.scope.names.lookup x = some .local := by rfl)
    (hsw : swapsWith (.ListComp elt [⟨tg, iter, ifs, 0⟩] scope p2) (some (.Name x pos')) pos.line X.env = pure true := by exact sw_true rfl rfl rfl (by decide +kernel)) (hix : i ∉ ι.ix := by decide) :
    BX X ι Δ s (.Assign [.Name x pos'] (.ListComp elt [⟨tg, iter, ifs, 0⟩] scope p2) pos :: rest) (M kk) out := by
  intro r hr σ H Hf A Dn st p
  refine tS_inv fun pins sh I => tS_cons (ps_setLc h.hc h.hN hi hyl hsw (pI X tg iter) h.ok (fun s0 H0 C cl fp => ⟨fun pins s _ _ _ u _ I r h => h s0 H0 C cl fp pins s u I r⟩)
    (fun s0 H0 C cl fp => ⟨fun pins s _ _ _ I h => h s0 H0 C cl fp pins s I⟩) (fun s0 H0 C cl fp => ⟨fun pins s _ _ _ I h => h s0 H0 C cl fp pins s I⟩) h.hs) (h.read _ r hr σ H Hf A _ st fun a s' ha l vs H' Hf' st' e' hl hz ra hn hfr => ?_)
  have hlen : i < σ.length := by rw [I.len]; exact (List.getElem?_eq_some_iff.mp hi).1
  have nA : ∀ j, l ∉ A j := fun j m => (st.own j l m).2 hfr
  have gr : Sub Hf' (upd Hf' l (.lst vs)) := fun b u h => by rw [upd_ne (ne_of_none h hn)]; exact h
  have st2 := (st'.freeze hl hn nA).imm (P := ι.tr s') (d := Ty.lst E a) hlen (by rw [ι.keys]; exact hix) (.lst (.inl upd_same) hz (ra.up gr))
  have e2 : ExtA A H Hf H' (upd Hf' l (.lst vs)) := ⟨e'.keep, e'.there, e'.grow.trans gr, fun b h => by
    by_cases z : b = l
    · subst z; exact .inr hfr
    · rw [upd_ne z] at h; exact e'.news b h⟩
  exact q a s' r ha _ H' _ _ _ st2 (p.step ((e2.stp ι.ix σ).trans (stp_cut hix)))
/-- an expression for itself -/
theorem bx_expr {M : (α → S → Option R) → Option R} {kk : S → Option R} (h : EX X ι Δ s e M E) (q : ∀ s', BX X ι Δ s' rest (kk s') out) (hs : swapsWith e none pos.line X.env = pure false := by rfl) :
    BX X ι Δ s (.Expr e pos :: rest) (M fun _ s' => kk s') out := by
  intro r hr σ H Hf A Dn st p
  exact tS_cons (ps_expr (pE X e) hs) (h _ r hr σ H Hf A _ st fun a s' ha v H' Hf' st' e' r' => q s' r ha σ H' Hf' A Dn st' (p.step (e'.stp _ _)))
/-- the slot's list is another now -/
theorem Sat.relst {K : KF} {σ : L2.St} {H Hf : Hp} {P Δ : Dl} {A : Nat → List Addr} {i : Nat} {l : Addr} {vs : List V} {ds : List D} (st : Sat K σ H Hf (P ++ Δ) A) (hP : i ∉ P.map (·.1)) (hA : A i = [l]) (hσ : σ[i]? = some (some (.ref l)))
    (hz : vs.length ≤ Line) (ra : RpAll K Hf vs ds) : Sat K σ (upd H l (.lst vs)) Hf (P ++ (i, some (.lst ds)) :: Δ) A where
  sub := fun a u e => by
    have : a ≠ l := fun z => by
      have := (st.own i l (by rw [hA]; simp)).1
      rw [z, this] at e; cases e
    rw [upd_ne this]; exact st.sub a u e
  slot := fun j T hj => by
    by_cases e : j = i
    · subst e
      rw [lk_append_out hP, lk_self] at hj
      cases hj
      exact ⟨_, hσ, l, vs, rfl, hA, upd_same, hz, ra⟩
    · have hj' : lk (P ++ Δ) j = some T := by
        by_cases m : j ∈ P.map (·.1)
        · rw [lk_append_in (Δ' := Δ) m] at hj; exact hj
        · rw [lk_append_out m, lk_ne e] at hj; rw [lk_append_out m]; exact hj
      obtain ⟨w, h1, h2⟩ := st.slot j T hj'
      refine ⟨w, h1, h2.up (Sub.refl _) fun a ha u hu => ?_⟩
      have : a ≠ l := fun z => e (st.inj j i a ha (by rw [hA, z]; simp))
      rw [upd_ne this]; exact hu
  own := fun j a ha => by
    refine ⟨(st.own j a ha).1, ?_⟩
    by_cases z : a = l
    · subst z; rw [upd_same]; simp
    · rw [upd_ne z]; exact (st.own j a ha).2
  inj := st.inj
theorem stp_poke {ix : List Nat} {σ : L2.St} {A : Nat → List Addr} {H Hf : Hp} {i : Nat} {l : Addr} {o : HO} (hA : l ∈ A i) : Stp ix σ A H Hf σ A (upd H l o) Hf where
  root := fun _ _ => rfl
  keep := fun a u m h => by
    have ne : a ≠ l := fun z => m i (by rw [z]; exact hA)
    rw [upd_ne ne]; exact h
  there := fun a h => by
    by_cases z : a = l
    · subst z; rw [upd_same]; simp
    · rw [upd_ne z]; exact h
  grow := Sub.refl _
  news := fun a h => .inl h
  ownd := fun j a h => .inl ⟨j, h, fun _ => rfl⟩
  stay := fun _ _ => rfl
theorem Sat.lstAt {K : KF} {σ : L2.St} {H Hf : Hp} {Δ : Dl} {A : Nat → List Addr} {i : Nat} {ds : List D} (st : Sat K σ H Hf Δ A) (h : lk Δ i = some (.lst ds)) : ∃ l vs, σ[i]? = some (some (.ref l)) ∧ A i = [l] ∧ H l = some (.lst vs) ∧ vs.length ≤ Line ∧ RpAll K Hf vs ds := by
  obtain ⟨v, h1, a, xs, rfl, h2, h3, h4, h5⟩ := st.slot i _ h
  exact ⟨a, xs, h1, h2, h3, h4, h5⟩
/-- xs.append(e), xs one's own -/
theorem bx_append (i : Nat) {x : Str} {l : List α} {apos cpos : Pos} {p1 : Pos} {M : (α → S → Option R) → Option R} {kk : List α → S → Option R} (hl : lk (ι.tr s ++ Δ) i = some (.lst (l.map E))) (h : EX X ι Δ s e M E)
    (q : ∀ a s', BX X ι ((i, some (.lst (a.map E))) :: Δ) s' rest (kk a s') out) (hN : X.N[i]? = some x := by rfl)
    (hv : Vis X.env.scope x := by first | exact Or.inl rfl | exact Or.inr (Or.inl rfl) | exact Or.inr (Or.inr rfl)) (hd : (x == ("__debug__" : Str)) = false := by decide) (hcd : (x == ("__classdict__" : Str)) = false := by decide) (hix : i ∉ ι.ix := by decide)
    (he : starEach [e] X.env = (false, eval e X.env) :: starEach [] X.env := by rfl)
    (hpb : ∀ {t : TA} {to : TE}, PE X (.Name x p1) to → PA X [e] t → PE X (.Call (.Attribute (.Name x p1) "append" apos) [e] [] cpos) (tBM X.K "list" rAppend to t) := by
      intro _ _ ho ha; exact pe_bm PySem.F.plainAttrs_list PySem.F.slot_list_append PySem.F.type_list_append mt_append ho ha)
    (hs : swapsWith (.Call (.Attribute (.Name x p1) "append" apos) [e] [] cpos) none pos.line X.env = pure false := by rfl) :
    BX X ι Δ s (.Expr (.Call (.Attribute (.Name x p1) "append" apos) [e] [] cpos) pos :: rest) (M fun y s' => guardM (l.length < Line) (kk (l ++ [y]) s')) out := by
  intro r hr σ H Hf A Dn st p
  obtain ⟨a, vs, h1, h2, h3, h4, h5⟩ := st.lstAt hl
  refine tS_cons (ps_expr (hpb (pe_var hN hv hd hcd) (pA X [e])) hs) ?_
  refine ⟨_, h1, .inl ⟨rfl, _, .inl (.inl h3)⟩, ?_⟩
  refine ax_cons h (fun s1 => ax_nil) he (fun pp s' => guardM (l.length < Line) (kk (l ++ [pp.1]) s')) r hr σ H Hf A _ st fun y s1 hx ws H1 Hf1 st1 e1 r1 => ?_
  obtain ⟨v, rfl, rv⟩ := one_arg r1
  obtain ⟨c, hx⟩ := guardM_some hx
  rw [lk_tail (s1 := s1) hix] at hl
  obtain ⟨a', vs', g1, g2, g3, g4, g5⟩ := st1.lstAt hl
  rw [h1] at g1
  cases g1
  have hlen := g5.len
  rw [List.length_map] at hlen
  refine ⟨a, vs', v, rfl, rfl, g3, lt_line (by rw [hlen]; exact c), ?_⟩
  refine q _ s1 r hx σ _ Hf1 A Dn (st1.relst (P := ι.tr s1) (by rw [ι.keys]; exact hix) g2 h1 (by rw [List.length_append, hlen]; exact c) ?_) (p.step ((e1.stp _ _).trans (stp_poke (i := i) (by rw [g2]; simp))))
  rw [List.map_append]
  exact g5.append (.one rv)
/-- if: the first way never falls through -/
theorem bx_ifR {A : List Stmt} {Mc : (Bool → S → Option R) → Option R} {mA mB : S → Option R} (hc : TX X ι Δ s c Mc) (hA : ∀ s1, BX X ι Δ s1 A (mA s1) out) (hB : ∀ s1, BX X ι Δ s1 rest (mB s1) out)
    (hn : ∀ r Δ' s', out r ≠ .next Δ' s' := by intro _ _ _ h; nomatch h) : BX X ι Δ s (.If c A [] pos :: rest) (Mc fun z s1 => if z = true then mA s1 else mB s1) out := by
  intro r hr σ H Hf As Dn st p
  refine tS_cons (ps_if (pT X c) (pS X A) (pS X [])) (hc _ r hr σ H Hf As _ st fun z s1 hz H1 Hf1 st1 e1 => ?_)
  cases z with
  | true =>
    rw [if_pos rfl] at hz ⊢
    refine hA s1 r hz σ H1 Hf1 As _ st1 ?_
    have p' := p.step (e1.stp ι.ix _)
    cases ho : out r with
    | next Δ' s' => exact absurd ho (hn r Δ' s')
    | ret d s' => rw [ho] at p'; exact p'
    | brk Δ' s' => rw [ho] at p'; exact p'
    | cont Δ' s' => rw [ho] at p'; exact p'
  | false =>
    rw [if_neg Bool.false_ne_true] at hz ⊢
    exact tS_of pss_nil (hB s1 r hz σ H1 Hf1 As Dn st1 (p.step (e1.stp _ _)))
/-- if .. else: neither way falls through -/
theorem bx_ifRR {A B : List Stmt} {Mc : (Bool → S → Option R) → Option R} {mA mB : S → Option R} (hc : TX X ι Δ s c Mc) (hA : ∀ s1, BX X ι Δ s1 A (mA s1) out) (hB : ∀ s1, BX X ι Δ s1 B (mB s1) out)
    (hn : ∀ r Δ' s', out r ≠ .next Δ' s' := by intro _ _ _ h; nomatch h) : BX X ι Δ s (.If c A B pos :: rest) (Mc fun z s1 => if z = true then mA s1 else mB s1) out := by
  intro r hr σ H Hf As Dn st p
  refine tS_cons (ps_if (pT X c) (pS X A) (pS X B)) (hc _ r hr σ H Hf As _ st fun z s1 hz H1 Hf1 st1 e1 => ?_)
  have p' := p.step (e1.stp ι.ix _)
  cases z with
  | true =>
    rw [if_pos rfl] at hz ⊢
    refine hA s1 r hz σ H1 Hf1 As _ st1 ?_
    cases ho : out r with
    | next Δ' s' => exact absurd ho (hn r Δ' s')
    | ret d s' => rw [ho] at p'; exact p'
    | brk Δ' s' => rw [ho] at p'; exact p'
    | cont Δ' s' => rw [ho] at p'; exact p'
  | false =>
    rw [if_neg Bool.false_ne_true] at hz ⊢
    refine hB s1 r hz σ H1 Hf1 As _ st1 ?_
    cases ho : out r with
    | next Δ' s' => exact absurd ho (hn r Δ' s')
    | ret d s' => rw [ho] at p'; exact p'
    | brk Δ' s' => rw [ho] at p'; exact p'
    | cont Δ' s' => rw [ho] at p'; exact p'
/-- if, both ways fall through: they meet in W -/
theorem bx_if {A B : List Stmt} {W : Type} (Δw : W → Dl) (sw : W → S) {Mc : (Bool → S → Option R) → Option R} {mA mB : S → Option W} {K : W → Option R} (hc : TX X ι Δ s c Mc)
    (hA : ∀ s1, BX X ι Δ s1 A (mA s1) (fun w => .next (Δw w) (sw w))) (hB : ∀ s1, BX X ι Δ s1 B (mB s1) (fun w => .next (Δw w) (sw w))) (hK : ∀ w, BX X ι (Δw w) (sw w) rest (K w) out) :
    BX X ι Δ s (.If c A B pos :: rest) (Mc fun z s1 => (if z = true then mA s1 else mB s1).bind K) out := by
  intro r hr σ H Hf As Dn st p
  refine tS_cons (ps_if (pT X c) (pS X A) (pS X B)) (hc _ r hr σ H Hf As _ st fun z s1 hz H1 Hf1 st1 e1 => ?_)
  obtain ⟨w, h1, h2⟩ := bind_some hz
  have p' := p.step (e1.stp ι.ix _)
  cases z with
  | true =>
    rw [if_pos rfl] at h1 ⊢
    exact hA s1 w h1 σ H1 Hf1 As _ st1 fun σ2 H2 Hf2 A2 q1 q2 => hK w r h2 σ2 H2 Hf2 A2 Dn q1 (p'.step q2)
  | false =>
    rw [if_neg Bool.false_ne_true] at h1 ⊢
    exact hB s1 w h1 σ H1 Hf1 As _ st1 fun σ2 H2 Hf2 A2 q1 q2 => hK w r h2 σ2 H2 Hf2 A2 Dn q1 (p'.step q2)
/-- .. and neither fails -/
theorem bx_ifT {A B : List Stmt} {W : Type} (Δw : W → Dl) (sw : W → S) {Mc : (Bool → S → Option R) → Option R} {wA wB : S → W} {K : W → Option R} (hc : TX X ι Δ s c Mc)
    (hA : ∀ s1, BX X ι Δ s1 A (some (wA s1)) (fun w => .next (Δw w) (sw w))) (hB : ∀ s1, BX X ι Δ s1 B (some (wB s1)) (fun w => .next (Δw w) (sw w))) (hK : ∀ w, BX X ι (Δw w) (sw w) rest (K w) out) :
    BX X ι Δ s (.If c A B pos :: rest) (Mc fun z s1 => letM (if z = true then wA s1 else wB s1) K) out := by
  have h := bx_if (pos := pos) (out := out) Δw sw hc hA hB hK
  intro r hr
  refine h r ?_
  rw [← hr]
  congr 1
  funext z s1
  cases z <;> rfl
end
end Ab
namespace Ab
open PySem PySem.Spec PyProof.Rows L2
/-! ### a def that is handed a state to change -/
def spS (K : KF) {S P C : Type} (n : Nat) (ι : Io S) (argE : P → List D) (f : P → S → Option (C × S)) (E : C → D) : Sp := fun vs H Q _ =>
  ∃ (p : P) (s : S) (c : C) (s' : S) (Hf : Hp) (A : Nat → List Addr), Sat K (vs.map some) H Hf (ι.tr s ++ argD n (argE p)) A ∧ vs.length = n + (argE p).length ∧ (∀ i, i ∉ ι.ix → A i = []) ∧ f p s = some (c, s') ∧
    ∀ v H' Hf', Sat K (vs.map some) H' Hf' (ι.tr s') A → ExtA A H Hf H' Hf' → Rp K Hf' v (E c) → Q v H'
theorem lk_key : ∀ {P : Dl} {i : Nat} {T : Tr}, lk P i = some T → i ∈ P.map (·.1)
  | [], _, _, h => by cases h
  | (j, U) :: P, i, T, h => by
    by_cases e : i = j
    · subst e; simp
    · rw [lk_ne e] at h
      simp only [List.map_cons, List.mem_cons]
      exact .inr (lk_key h)
theorem start_at {N : List Str} {vs : List V} {i : Nat} {v : V} (h : (vs.map some)[i]? = some (some v)) : (L2.start N vs)[i]? = some (some v) := by
  have hi : i < (vs.map some).length := (List.getElem?_eq_some_iff.mp h).1
  unfold L2.start
  rw [List.getElem?_append_left hi]
  exact h
theorem start_of {N : List Str} {vs : List V} {i : Nat} {v : V} (h : (L2.start N vs)[i]? = some (some v)) : (vs.map some)[i]? = some (some v) := by
  unfold L2.start at h
  by_cases hi : i < (vs.map some).length
  · rw [List.getElem?_append_left hi] at h; exact h
  · rw [List.getElem?_append_right (by omega), List.getElem?_replicate] at h
    split at h <;> cases h
section
variable {Pg : Program} {w : World} {K : KF} {mg : Str → Option Value} {base : Heap}
theorem fn_state {x qual : Str} {st : Stmt} {f : Addr} {fd : FuncData} {N ps : List Str} {k n : Nat} {S P C : Type} {ι : Io S} {argE : P → List D} {g : P → S → Option (C × S)} {E : C → D} (F : Fun K x qual st f fd) (Sc : FnScope N ps (defScope st))
    (len : ∀ p, n + (argE p).length = ps.length)
    (body : ∀ (p : P) (s : S) (cdv : Value) (A : Around) (outer : List Env) (sh : Shared) (H : Hp) (E' : XK), Room k (A.deeper (envOfC qual (defScope st) sh.heap.objs.size f cdv)) →
      BX (cxOf CX0 Pg w K mg base N qual (defScope st) f cdv A outer sh H E').nox ι (argD n (argE p)) s (defBody st) (g p s) (fun c => Out.ret (E c.1) c.2)) :
    FnOk Pg w K mg base CX0 (k + 1) f fd ps (spS K n ι argE g E) := by
  refine F.ok Sc (fun vs H Q E' h => ?_) (fun cdv A outer s H vs Q E' hr h => ?_)
  · obtain ⟨p, s, c, s', Hf, As, _, hl, _⟩ := h
    rw [hl, len p]
  · obtain ⟨p, st0, c, s', Hf, As, sat, hl, hA, hf, q⟩ := h
    refine ⟨_, pS _ _, ?_⟩
    have sat2 : Sat K (L2.start N vs) H Hf (ι.tr st0 ++ argD n (argE p)) As := ⟨sat.sub, fun i T hi => by
      obtain ⟨v, h1, h2⟩ := sat.slot i T hi
      exact ⟨v, start_at h1, h2⟩, sat.own, sat.inj⟩
    refine body p st0 cdv A outer s H E' hr (c, s') hf _ H Hf As _ sat2 ?_
    intro v σ' H' Hf' A' h1 h2 h3
    refine q v H' Hf' ⟨h1.sub, fun i T hi => ?_, fun i a ha => ?_, sat.inj⟩ ⟨h2.keep, h2.there, h2.grow, fun a ha => ?_⟩ h3
    · have hk : i ∈ ι.ix := by rw [← ι.keys s']; exact lk_key hi
      obtain ⟨u, g1, g2⟩ := h1.slot i T hi
      rw [h2.root i hk] at g1
      rw [h2.stay i hk] at g2
      exact ⟨u, start_of g1, g2⟩
    · by_cases hk : i ∈ ι.ix
      · exact h1.own i a (by rw [h2.stay i hk]; exact ha)
      · rw [hA i hk] at ha; simp at ha
    · rcases h2.news a ha with z | z | ⟨i, hi, z⟩
      · exact .inl z
      · exact .inr z
      · rw [hA i hi] at z; simp at z
end
theorem ext_keep_in {A : Nat → List Addr} {H Hf H' Hf' : Hp} {i0 : Nat} (inj : ∀ i j a, a ∈ A i → a ∈ A j → i = j) (e : ExtA (fun j => if j = 0 then A i0 else []) H Hf H' Hf') {a : Addr} {o : HO} {j : Nat} (ha : a ∈ A j) (hj : j ≠ i0) (h : H a = some o) : H' a = some o :=
  e.keep a o (fun i hi => by
    by_cases z : i = 0
    · subst z
      have hi' : a ∈ A i0 := by simpa using hi
      exact hj (inj j i0 a ha hi')
    · simp [z] at hi) h
section
variable {X : Cx} {S : Type} {rt : S → Tr} {i0 : Nat} {Δ : Dl} {s : S} {R : Type} {pos p : Pos} {k : Nat}
/-- f(state, ..): the state is the frame's own, or what it was handed itself -/
theorem ex_callS {x x0 : Str} {p0 : Pos} {f : Addr} {fd : FuncData} {ps : List Str} {P C : Type} {argE : P → List D} {g : P → S → Option (C × S)} {E : C → D} {es : List Expr} {M : (P → S → Option R) → Option R}
    (F : FnOk X.prog X.w X.K X.mg X.base CX0 k f fd ps (spS X.K 1 (io1 rt 0) argE g E)) (hr : Room k X.A) (hm : X.mg x = some (.ref f)) (hk : PySem.W.keepIn X.K (.ref f) = true) (hb : Binds X.K fd ps [])
    (ha : AX X (io1 rt i0) Δ s es M argE) (hg : Gl X x := by rfl) (hdb : (x == ("__debug__" : Str)) = false := by decide)
    (hN : X.N[i0]? = some x0 := by rfl) (hv : Vis X.env.scope x0 := by first | exact Or.inl rfl | exact Or.inr (Or.inl rfl) | exact Or.inr (Or.inr rfl)) (hd : (x0 == ("__debug__" : Str)) = false := by decide) (hcd : (x0 == ("__classdict__" : Str)) = false := by decide)
    (he : starEach (.Name x0 p0 :: es) X.env = (false, eval (.Name x0 p0) X.env) :: starEach es X.env := by rfl) (hpl : (backTo pos (starEach es X.env)).any (·.1) = false := by rfl) :
    EX X (io1 rt i0) Δ s (.Call (.Name x p) (.Name x0 p0 :: es) [] pos) (fun k => M fun y s1 => (g y s1).bind fun z => k z.1 z.2) E := by
  intro kk r hk' σ H Hf A Q st q
  refine tE_of (pe_call F hr hg hm hk hb .nil pass0 (pa_cons (pe_var hN hv hd hcd) (pA X es) he) hdb he hpl) ?_
  obtain ⟨w0, hw0, hh0⟩ := st.slot i0 (rt s) (by show lk ((i0, some (rt s)) :: Δ) i0 = _; rw [lk_self])
  refine ⟨w0, hw0, ?_⟩
  refine ha _ r hk' σ H Hf A _ st fun y s1 hx vs H1 Hf1 st1 e1 r1 => ?_
  obtain ⟨⟨c, s2⟩, h1, h2⟩ := bind_some hx
  rw [List.append_nil]
  obtain ⟨w1, hw1, hh1⟩ := st1.slot i0 (rt s1) (by show lk ((i0, some (rt s1)) :: Δ) i0 = _; rw [lk_self])
  rw [hw0] at hw1
  cases hw1
  refine ⟨y, s1, c, s2, Hf1, fun j => if j = 0 then A i0 else [], ⟨st1.sub, fun j T hj => ?_, fun j a ha => ?_, fun i j a hi hj => ?_⟩, ?_, fun i hi => ?_, h1, fun v H2 Hf2 sat ex rv => ?_⟩
  · by_cases z : j = 0
    · subst z
      have hj' : lk ((0, some (rt s1)) :: argD 1 (argE y)) 0 = some T := hj
      rw [lk_self] at hj'
      cases hj'
      exact ⟨w0, rfl, by simpa using hh1⟩
    · have hj' : lk ((0, some (rt s1)) :: argD 1 (argE y)) j = some T := hj
      rw [lk_ne z] at hj'
      obtain ⟨hle, d, hd', rfl⟩ := lk_argD _ 1 j T hj'
      obtain ⟨u, hu1, hu2⟩ := r1.get hd'
      refine ⟨u, ?_, ?_⟩
      · have e : j = (j - 1) + 1 := by omega
        rw [e, List.map_cons, List.getElem?_cons_succ, List.getElem?_map, hu1]
        rfl
      · rw [if_neg z]; exact ⟨rfl, hu2⟩
  · by_cases z : j = 0
    · subst z
      exact st1.own i0 a (by simpa using ha)
    · simp [z] at ha
  · by_cases z : i = 0 <;> by_cases z2 : j = 0
    · rw [z, z2]
    · simp [z2] at hj
    · simp [z] at hi
    · simp [z] at hi
  · rw [List.length_cons, r1.len, Nat.add_comm]
  · have : i ≠ 0 := by simpa using hi
    simp [this]
  · have ex' : ExtA A H1 Hf1 H2 Hf2 := ⟨fun a u m h => ex.keep a u (fun i hi => by
      by_cases z : i = 0
      · subst z; exact m i0 (by simpa using hi)
      · simp [z] at hi) h, ex.there, ex.grow, ex.news⟩
    refine q c s2 h2 v H2 Hf2 ⟨sat.sub, fun j T hj => ?_, fun j a ha => ?_, st1.inj⟩ (e1.trans ex') rv
    · by_cases z : j = i0
      · subst z
        have hj' : lk ((j, some (rt s2)) :: Δ) j = some T := hj
        rw [lk_self] at hj'
        cases hj'
        obtain ⟨u, g1, g2⟩ := sat.slot 0 (rt s2) (by show lk [(0, some (rt s2))] 0 = _; rw [lk_self])
        have g1' : some (some w0) = some (some u) := g1
        cases g1'
        exact ⟨w0, hw0, by simpa using g2⟩
      · have hj' : lk ((i0, some (rt s2)) :: Δ) j = some T := hj
        rw [lk_ne z] at hj'
        obtain ⟨u, g1, g2⟩ := st1.slot j T (by show lk ((i0, some (rt s1)) :: Δ) j = _; rw [lk_ne z]; exact hj')
        exact ⟨u, g1, g2.up ex.grow fun a ha u hu => ext_keep_in st1.inj ex ha z hu⟩
    · obtain ⟨n1, n2⟩ := st1.own j a ha
      refine ⟨?_, ex.there a n2⟩
      cases z : Hf2 a with
      | none => rfl
      | some u =>
        rcases ex.news a (by rw [z]; simp) with y | y
        · exact absurd n1 y
        · exact absurd y n2
end
end Ab
namespace Ab
open PySem PySem.Spec PyProof.Rows L2
/-! ### drawing from a row of cells: what it gives -/
abbrev Rs := List Int × Int
abbrev rtR : Rs → Tr := fun s => .rnd s.1 s.2
def skip0 : List Int → List Int
  | [] => []
  | x :: xs => if x = 0 then skip0 xs else x :: xs
def mixR (seed : Int) : Int := (seed * 48271 + 12345).fmod 2147483647
def drawR (many : Int) (s : Rs) : Option (Int × Rs) :=
  guardM (many ≠ 0 ∧ many.natAbs < 1073741824 ∧ CMul s.2 48271) (match skip0 s.1 with
    | v :: r => some (v.fmod many, (v.fdiv many :: r, s.2))
    | [] => some (((mixR s.2).fdiv 64).fmod many, ([], mixR s.2)))
/-- how it is read -/
abbrev rLenC (K : KF) : List V → Hp → VK → Prop := fun xs H Q => ∃ x n, xs = [x] ∧ LenV K x H n ∧ Q (.int (n : Nat)) H
abbrev rInt1 : List V → Hp → VK → Prop := fun xs H Q => (∃ i, xs = [.int i] ∧ Q (.int i) H) ∨ ∃ k, xs = [.bl k] ∧ Q (.int (if k then 1 else 0)) H
abbrev oGt : R2 := rI0 fun i j => .bl (decide (j < i))
abbrev oMod : R2 := rI (fun _ j => j ≠ 0) fun i j => .int (i.fmod j)
abbrev oDiv : R2 := rI CDivN fun i j => .int (i.fdiv j)
abbrev oMul : R2 := rI CMul fun i j => .int (i * j)
abbrev oAdd : R2 := rI0 fun i j => .int (i + j)
def tDraw (K : KF) : TS :=
  tSeq (tAsg (tOp (rIxL K) (tVar 0) (tC (.int 0))) (gName 2))
  (tSeq (tWhile (tAnd (tTest (tOp oGt (tCB (rLenC K) (tCons (tVar 2) tNil)) (tC (.int 0)))) (tTest (tOp rEq (tOp (rIxL K) (tVar 2) (tC (.int 0))) (tC (.int 0))))) (tDrop (tBM K "list" rPopAt (tVar 2) (tCons (tC (.int 0)) tNil))))
  (tSeq (tIfS (tTest (tOp oGt (tCB (rLenC K) (tCons (tVar 2) tNil)) (tC (.int 0))))
      (tSeq (tAsg (tOp (rIxL K) (tVar 2) (tC (.int 0))) (gName 3))
      (tSeq (tAsg (tOp oDiv (tVar 3) (tVar 1)) (gSub (tVar 2) (tC (.int 0)) rSetL))
      (tRet (tOp oMod (tCB rInt1 (tCons (tVar 3) tNil)) (tVar 1))))) tNext)
  (tSeq (tAsg (tOp oMod (tCB rInt1 (tCons (tOp oAdd (tOp oMul (tOp (rIxL K) (tVar 0) (tC (.int 1))) (tC (.int 48271))) (tC (.int 12345))) tNil)) (tC (.int 2147483647))) (gName 4))
  (tSeq (tAsg (tVar 4) (gSub (tVar 0) (tC (.int 1)) rSetL))
  (tRet (tOp oMod (tCB rInt1 (tCons (tOp oDiv (tVar 4) (tC (.int 64))) tNil)) (tVar 1)))))))
theorem skip0_drop : ∀ (cs : List Int), ∃ n, skip0 cs = cs.drop n ∧ n ≤ cs.length ∧ (∀ i, i < n → cs[i]? = some 0) ∧ (∀ v, cs[n]? = some v → v ≠ 0)
  | [] => ⟨0, rfl, Nat.le_refl _, fun i h => by omega, fun v h => by simp at h⟩
  | x :: xs => by
    by_cases e : x = 0
    · obtain ⟨n, h1, h2, h3, h4⟩ := skip0_drop xs
      refine ⟨n + 1, by unfold skip0; rw [if_pos e, h1]; rfl, Nat.succ_le_succ h2, fun i hi => ?_, fun v hv => h4 v (by simpa using hv)⟩
      cases i with
      | zero => simp [e]
      | succ i => simpa using h3 i (by omega)
    · exact ⟨0, by unfold skip0; rw [if_neg e]; rfl, Nat.zero_le _, fun i h => by omega, fun v hv => by
        have : x = v := by simpa using hv
        rw [← this]; exact e⟩
theorem seqIdx0 {n : Nat} (h : 0 < n) : seqIndex? 0 n = some 0 := by
  have h2 : (decide ((0 : Int) ≤ 0) && decide ((0 : Int) < (n : Int))) = true := by
    rw [decide_eq_true (by omega : (0 : Int) < (n : Int))]; rfl
  show (if (decide ((0 : Int) ≤ 0) && decide ((0 : Int) < (n : Int))) = true then some (0 : Int).toNat else none) = some 0
  rw [if_pos h2]; rfl
theorem skip0_len (cs : List Int) : (skip0 cs).length ≤ cs.length := by
  obtain ⟨n, h1, _⟩ := skip0_drop cs
  rw [h1, List.length_drop]; omega
theorem draw_pure {K : KF} {vs : List V} {H : Hp} {Q : VK} {E' : XK} (h : spS K 1 (io1 rtR 0) (fun n : Int × Unit => [PyData.int n.1]) (fun n s => drawR n.1 s) Ty.int vs H Q E') :
    tDraw K { nx := fun _ H' => Q .non H', rt := Q } (L2.start ["state", "many", "cells", "value", "mixed"] vs) H := by
  obtain ⟨⟨m, _⟩, ⟨cs, seed⟩, c, ⟨cs', seed'⟩, Hf, A, st, hl, hA, hf, q⟩ := h
  obtain ⟨hg, hf⟩ := guardM_some hf
  obtain ⟨hm0, hmb, hmul⟩ := hg
  -- the arguments
  obtain ⟨v0, g0, hh⟩ := st.slot 0 (.rnd cs seed) rfl
  obtain ⟨a, b, rfl, hA0, hab, hHa, hHb, hz⟩ := hh
  obtain ⟨v1, g1, hi1⟩ := st.slot 1 (.imm (.int m)) rfl
  have ev : vs = [.ref a, v1] := by
    match vs, hl, g0, g1 with
    | [x, y], _, h0, h1 =>
      have e0 : x = .ref a := by simpa using h0
      have e1 : y = v1 := by simpa using h1
      rw [e0, e1]
  subst ev
  have e1 : v1 = .int m := by cases hi1.2; rfl
  subst e1
  obtain ⟨n, hs, hn, hz0, hnz⟩ := skip0_drop cs
  -- what stands behind a change of the cells and the seed
  have fin : ∀ {cs2 : List Int} {n2 : Int} {H' : Hp}, cs2.length ≤ Line → H' a = some (.lst [.ref b, .int n2]) → H' b = some (.lst (cs2.map V.int)) → (∀ x, x ≠ a → x ≠ b → H' x = H x) → cs2 = cs' → n2 = seed' → Q (.int c) H' := by
    intro cs2 n2 H' hz2 ha hb hk e1 e2
    subst e1 e2
    have own := st.own
    refine q (.int c) H' Hf ⟨fun x o hx => ?_, fun i T hi => ?_, fun i x hx => ?_, st.inj⟩ ⟨fun x o hx ho => ?_, fun x hx => ?_, Sub.refl _, fun x hx => .inl hx⟩ (.int c)
    · have na : x ≠ a := fun z => by have := (own 0 a (by rw [hA0]; simp)).1; rw [z, this] at hx; cases hx
      have nb : x ≠ b := fun z => by have := (own 0 b (by rw [hA0]; simp)).1; rw [z, this] at hx; cases hx
      rw [hk x na nb]; exact st.sub x o hx
    · have hi0 : i = 0 := by
        have := lk_key hi
        simpa using this
      subst hi0
      have : T = .rnd cs2 n2 := by
        have h' : lk [(0, some (Tr.rnd cs2 n2))] 0 = some T := hi
        rw [lk_self] at h'
        exact (Option.some.inj h').symm
      subst this
      exact ⟨.ref a, rfl, a, b, rfl, hA0, hab, ha, hb, hz2⟩
    · refine ⟨(own i x hx).1, ?_⟩
      by_cases za : x = a
      · subst za; rw [ha]; simp
      · by_cases zb : x = b
        · subst zb; rw [hb]; simp
        · rw [hk x za zb]; exact (own i x hx).2
    · have na : x ≠ a := fun z => hx 0 (by rw [hA0, z]; simp)
      have nb : x ≠ b := fun z => hx 0 (by rw [hA0, z]; simp)
      rw [hk x na nb]; exact ho
    · by_cases za : x = a
      · subst za; rw [ha]; simp
      · by_cases zb : x = b
        · subst zb; rw [hb]; simp
        · rw [hk x za zb]; exact hx
  show tDraw K _ [some (.ref a), some (.int m), none, none, none] H
  -- cells = state[0]
  refine ⟨_, rfl, a, [.ref b, .int seed], 0, .ref b, rfl, rfl, SqL.of hHa, rfl, ?_⟩
  -- the loop
  refine ⟨fun k σ H' => ∃ i, i ≤ n ∧ k = n - i ∧ σ = [some (.ref a), some (.int m), some (.ref b), none, none] ∧ H' b = some (.lst ((cs.drop i).map V.int)) ∧ ∀ x, x ≠ b → H' x = H x, ⟨n, 0, Nat.zero_le _, rfl, rfl, hHb, fun _ _ => rfl⟩, ?_⟩
  rintro k σ H1 ⟨i, hi, rfl, rfl, hb1, hk1⟩
  have hlen : (((cs.drop i).map V.int).length : Int) = ((cs.length - i : Nat) : Int) := by simp
  refine ⟨_, rfl, .ref b, _, rfl, .inl ⟨_, SqL.of hb1, rfl⟩, _, _, rfl, rfl, _, rfl, ?_⟩
  by_cases hlt : i < cs.length
  · have hpos : decide ((0 : Int) < ((((cs.drop i).map V.int).length : Nat) : Int)) = true := decide_eq_true (by rw [hlen]; omega)
    rw [hpos]
    refine iteT ?_
    obtain ⟨w, hw⟩ : ∃ w, cs[i]? = some w := ⟨_, List.getElem?_eq_getElem hlt⟩
    have hat : atI ((cs.drop i).map V.int) 0 = some (.int w) := atI_nat (j := 0) (by rw [List.getElem?_map, List.getElem?_drop, Nat.add_zero, hw]; rfl)
    refine ⟨_, rfl, b, _, 0, .int w, rfl, rfl, SqL.of hb1, hat, rfl, _, rfl, ?_⟩
    by_cases hin : i < n
    · have hw0 : w = 0 := by rw [hz0 i hin] at hw; exact (Option.some.inj hw).symm
      subst hw0
      rw [show decide (V.int 0 = V.int 0) = true from decide_eq_true rfl]
      refine iteT ?_
      refine ⟨fun σ' H' => ∃ j, j = i + 1 ∧ σ' = [some (.ref a), some (.int m), some (.ref b), none, none] ∧ H' b = some (.lst ((cs.drop j).map V.int)) ∧ ∀ x, x ≠ b → H' x = H x, fun σ' H' ⟨j, e, h1, h2, h3⟩ => ⟨n - (i + 1), by omega, i + 1, hin, rfl, h1, by rw [← e]; exact h2, h3⟩, ?_⟩
      refine ⟨_, rfl, .inl ⟨rfl, _, .inl (.inl hb1)⟩, b, _, 0, 0, .int 0, rfl, rfl, hb1, by decide, by decide, ?_, ?_, ?_⟩
      · rw [List.length_map, List.length_drop]
        exact seqIdx0 (by omega)
      · rw [List.getElem?_map, List.getElem?_drop, Nat.add_zero, hw]; rfl
      · refine ⟨i + 1, rfl, rfl, ?_, fun x hx => by rw [upd_ne hx]; exact hk1 x hx⟩
        rw [upd_same]
        congr 2
        rw [List.drop_eq_getElem_cons hlt, List.map_cons, List.eraseIdx_cons_zero]
    · have hin' : i = n := by omega
      subst hin'
      have hw0 : w ≠ 0 := hnz w hw
      rw [show decide (V.int w = V.int 0) = false from decide_eq_false (fun z => hw0 (V.int.inj z))]
      refine iteF ?_
      -- if len(cells) > 0
      refine ⟨_, rfl, .ref b, _, rfl, .inl ⟨_, SqL.of hb1, rfl⟩, _, _, rfl, rfl, _, rfl, ?_⟩
      rw [hpos]
      refine iteT ?_
      have hsk : skip0 cs = w :: cs.drop (i + 1) := by
        rw [hs, List.drop_eq_getElem_cons hlt]
        congr 1
        have := List.getElem?_eq_getElem hlt
        rw [this] at hw
        exact Option.some.inj hw
      rw [hsk] at hf
      injection hf with hf
      injection hf with hf1 hf2
      injection hf2 with hf3 hf4
      have hf1' : c = w.fmod m := hf1.symm
      subst hf1'
      refine ⟨_, rfl, b, _, 0, .int w, rfl, rfl, SqL.of hb1, hat, ?_⟩
      refine ⟨_, rfl, _, rfl, w, m, rfl, rfl, ⟨hm0, hmb⟩, _, rfl, b, _, 0, 0, rfl, rfl, hb1, ?_, ?_⟩
      · rw [List.length_map, List.length_drop]
        unfold ixN
        rw [if_pos (Int.le_refl _), if_pos (by omega)]
        rfl
      · refine ⟨_, rfl, .inl ⟨w, rfl, _, rfl, w, m, rfl, rfl, hm0, ?_⟩⟩
        refine fin (cs2 := w.fdiv m :: cs.drop (i + 1)) (n2 := seed) ?_ ?_ ?_ (fun x xa xb => by rw [upd_ne xb]; exact hk1 x xb) hf3 hf4
        · rw [List.length_cons, List.length_drop]
          have : cs.length ≤ 16777216 := hz
          show _ ≤ 16777216
          omega
        · rw [upd_ne hab, hk1 a hab]; exact hHa
        · rw [upd_same, List.drop_eq_getElem_cons hlt]
          rfl
  · have hneg : decide ((0 : Int) < ((((cs.drop i).map V.int).length : Nat) : Int)) = false := decide_eq_false (by rw [hlen]; omega)
    rw [hneg]
    refine iteF ?_
    refine ⟨_, rfl, .ref b, _, rfl, .inl ⟨_, SqL.of hb1, rfl⟩, _, _, rfl, rfl, _, rfl, ?_⟩
    rw [hneg]
    refine iteF ?_
    have hsk : skip0 cs = [] := by
      rw [hs]
      exact List.drop_eq_nil_of_le (by omega)
    rw [hsk] at hf
    injection hf with hf
    injection hf with hf1 hf2
    injection hf2 with hf3 hf4
    have hf1' : c = ((mixR seed).fdiv 64).fmod m := hf1.symm
    subst hf1'
    have hHa1 : H1 a = some (.lst [.ref b, .int seed]) := by rw [hk1 a hab]; exact hHa
    refine ⟨_, rfl, a, _, 1, .int seed, rfl, rfl, SqL.of hHa1, rfl, _, _, rfl, rfl, hmul, _, _, rfl, rfl, .inl ⟨_, rfl, _, _, rfl, rfl, (by show (2147483647 : Int) ≠ 0; decide), ?_⟩⟩
    -- state[1] = mixed
    refine ⟨_, rfl, _, rfl, a, [.ref b, .int seed], 1, 1, rfl, rfl, hHa1, rfl, ?_⟩
    refine ⟨_, rfl, _, _, rfl, rfl, ⟨by decide, by decide⟩, .inl ⟨_, rfl, _, rfl, _, m, rfl, rfl, hm0, ?_⟩⟩
    refine fin (cs2 := []) (n2 := mixR seed) (Nat.zero_le _) ?_ ?_ (fun x xa xb => by rw [upd_ne xa]; exact hk1 x xb) hf3 hf4
    · rw [upd_same]; rfl
    · rw [upd_ne hab.symm, hb1, List.drop_eq_nil_of_le (by omega)]
end Ab
namespace Ab
open PySem PySem.Spec PyProof.Rows L2
/-! ### the state that a law makes of its script -/
def seedR (ns : List Int) : Int := ns.foldl (fun s c => (s * 31 + c).fmod 1000003) 7
def stateR (ns : List Int) : Rs := (ns.map fun c => (c.natAbs : Int), seedR ns + 1)
abbrev rAbsC : List V → Hp → VK → Prop := fun xs H Q => ∃ i, xs = [.int i] ∧ Q (.int (if i < 0 then -i else i)) H
def tState (K : KF) : TS :=
  tSeq (tAsg (tC (.int 7)) (gName 1))
  (tSeq (tFor (iList K (tVar 0)) (gName 2) (tAsg (tOp oMod (tCB rInt1 (tCons (tOp oAdd (tOp oMul (tVar 1) (tC (.int 31))) (tVar 2)) tNil)) (tC (.int 1000003))) (gName 1)))
  (tRet (tLst (tCons (tLc (iList K (tVar 0)) (gName 2) tYes (tCB rAbsC (tCons (tVar 2) tNil)) [2]) (tCons (tOp oAdd (tVar 1) (tC (.int 1))) tNil)))))
def spSt (K : KF) : Sp := fun vs H Q _ => ∃ (a : Addr) (ns : List Int), vs = [.ref a] ∧ SqL K H a (ns.map V.int) ∧ ns.length ≤ 63 ∧
  ∀ H' p q, Sub H H' → H p = none → H q = none → p ≠ q → H' p = some (.lst [.ref q, .int (stateR ns).2]) → H' q = some (.lst ((stateR ns).1.map V.int)) → Q (.ref p) H'
theorem seedR_take {ns : List Int} {i : Nat} {x : Int} (h : ns[i]? = some x) : seedR (ns.take (i + 1)) = (seedR (ns.take i) * 31 + x).fmod 1000003 := by
  unfold seedR
  rw [List.take_add_one, h, List.foldl_append]
  rfl
theorem seedR_lo (ns : List Int) : 0 ≤ seedR ns ∧ seedR ns < 1000003 := by
  have h : ∀ (l : List Int) (s : Int), 0 ≤ s → s < 1000003 → 0 ≤ l.foldl (fun s c => (s * 31 + c).fmod 1000003) s ∧ l.foldl (fun s c => (s * 31 + c).fmod 1000003) s < 1000003 := by
    intro l
    induction l with
    | nil => exact fun s h1 h2 => ⟨h1, h2⟩
    | cons x l ih =>
      intro s h1 h2
      refine ih _ ?_ ?_
      · show 0 ≤ (s * 31 + x).fmod 1000003
        rw [Int.fmod_eq_emod_of_nonneg _ (by decide)]; exact Int.emod_nonneg _ (by decide)
      · show (s * 31 + x).fmod 1000003 < 1000003
        rw [Int.fmod_eq_emod_of_nonneg _ (by decide)]; exact Int.emod_lt_of_pos _ (by decide)
  exact h ns 7 (by decide) (by decide)
theorem state_pure {K : KF} {vs : List V} {H : Hp} {Q : VK} {E' : XK} (h : spSt K vs H Q E') : tState K { nx := fun _ H' => Q .non H', rt := Q } (L2.start ["script", "seed", "cell"] vs) H := by
  obtain ⟨a, ns, rfl, hS, hlen, q⟩ := h
  refine ⟨_, rfl, a, rfl, ⟨_, hS⟩, for_list (K := K) (a := a) (xs := ns.map V.int) (fun i σ H' => H' = H ∧ ∃ v, σ = [some (.ref a), some (.int (seedR (ns.take i))), v]) ⟨rfl, none, rfl⟩ (fun i σ H' _ hp => by rw [hp.1]; exact hS) ?_ ?_⟩
  · rintro i x σ H' hx ⟨rfl, v, rfl⟩
    rw [List.getElem?_map] at hx
    cases e : ns[i]? with
    | none => rw [e] at hx; cases hx
    | some y =>
      rw [e] at hx
      cases hx
      have hb := seedR_lo (ns.take i)
      refine ⟨_, rfl, _, _, rfl, rfl, .inl ⟨by omega, by omega⟩, _, rfl, _, _, rfl, rfl, .inl ⟨_, rfl, _, _, rfl, rfl, (by show (1000003 : Int) ≠ 0; decide), rfl, some (.int y), ?_⟩⟩
      rw [seedR_take e]
      rfl
  · rintro σ H' ⟨rfl, v, rfl⟩
    rw [List.length_map, List.take_length]
    refine ⟨_, rfl, a, rfl, ⟨_, hS⟩, fun Dd hD => ?_⟩
    have ne : ∀ {b o}, H' b = some o → b ≠ Dd := fun h => ne_of_none h hD
    have hS2 : ∀ l, SqL K (upd H' Dd (.lst l)) a (ns.map V.int) := fun l => (Ext.newO (Hf := H') hD).keep.seq hS
    refine lc_list (K := K) (a := a) (xs := ns.map V.int) (fun i H2 => H2 = upd H' Dd (.lst ((ns.take i).map fun c => V.int (c.natAbs : Int)))) rfl (fun i H2 _ hp => by rw [hp]; exact hS2 _) ?_ ?_
    · rintro i x H2 hx rfl
      rw [List.getElem?_map] at hx
      cases e : ns[i]? with
      | none => rw [e] at hx; cases hx
      | some y =>
        rw [e] at hx
        cases hx
        refine ⟨rfl, ?_⟩
        rw [tYes]
        refine iteT ?_
        refine ⟨_, rfl, y, rfl, _, upd_same, lt_line ?_, ?_⟩
        · rw [List.length_map, List.length_take]
          show _ < 16777216
          omega
        · rw [upd_upd, List.take_add_one, e, List.map_append]
          have : (if y < 0 then -y else y) = (y.natAbs : Int) := by split <;> omega
          rw [this]
          rfl
    · rintro H2 rfl
      rw [List.length_map, List.take_length]
      refine ⟨_, rfl, _, _, rfl, rfl, (by show 2 ≤ sizeLine; decide), fun p np => ?_⟩
      have hpD : p ≠ Dd := fun z => by rw [z, upd_same] at np; cases np
      refine q _ p Dd (fun b o e => ?_) ?_ hD hpD upd_same ?_
      · have h1 : upd H' Dd (.lst (ns.map fun c => V.int (c.natAbs : Int))) b = some o := by rw [upd_ne (ne e)]; exact e
        rw [upd_ne (ne_of_none h1 np)]; exact h1
      · cases z : H' p with
        | none => rfl
        | some o => rw [upd_ne hpD, z] at np; cases np
      · rw [upd_ne hpD.symm, upd_same]
        unfold stateR
        rw [List.map_map]
        rfl
/-! ### the law -/
def spLaw (K : KF) (m : Rs → Option (Bool × Rs)) : Sp := fun vs H Q _ => ∃ (a : Addr) (ns : List Int), vs = [.ref a] ∧ SqL K H a (ns.map V.int) ∧ ns.length ≤ 63 ∧ (∃ s', m (stateR ns) = some (true, s')) ∧ ∀ H', Q (.bl true) H'
section
variable {Pg : Program} {w : World} {K : KF} {mg : Str → Option Value} {base : Heap}
theorem fn_law {st : Stmt} {f fS : Addr} {fd fdS : FuncData} {N : List Str} {k : Nat} {m : Rs → Option (Bool × Rs)} {rest : List Stmt} {p1 p2 p3 p4 p5 : Pos} (F : Fun K "law" "law" st f fd) (Sc : FnScope N ["script"] (defScope st))
    (FS : FnOk Pg w K mg base CX0 k fS fdS ["script"] (spSt K)) (gS : mg "_law_state" = some (.ref fS)) (kS : PySem.W.keepIn K (.ref fS) = true) (bS : Binds K fdS ["script"] [])
    (hb : defBody st = .Assign [.Name "state" p1] (.Call (.Name "_law_state" p2) [.Name "script" p3] [] p4) p5 :: rest) (h0 : N[0]? = some ("script" : Str)) (h1 : N[1]? = some ("state" : Str)) (hl1 : L2.Loc (defScope st) "state") (hl0 : Vis (defScope st) "script") (hgl : (defScope st).names.lookup ("_law_state" : Str) = some NameKind.globalImplicit)
    (body : ∀ (s : Rs) (cdv : Value) (A : Around) (outer : List Env) (sh : Shared) (H : Hp) (E' : XK), Room k (A.deeper (envOfC "law" (defScope st) sh.heap.objs.size f cdv)) →
      BX (cxOf CX0 Pg w K mg base N "law" (defScope st) f cdv A outer sh H E').nox (io1 rtR 1) [] s rest (m s) (fun c => Out.ret (.bool c.1) c.2)) :
    FnOk Pg w K mg base CX0 (k + 1) f fd ["script"] (spLaw K m) := by
  refine F.ok Sc (fun vs H Q E' h => ?_) (fun cdv A outer s H vs Q E' hr h => ?_)
  · obtain ⟨a, ns, rfl, _⟩ := h
    rfl
  · obtain ⟨a, ns, rfl, hS, hlen, ⟨s', hm⟩, q⟩ := h
    refine ⟨_, pS _ _, ?_⟩
    rw [hb]
    refine tS_inv fun pins sh I => tS_cons (ps_set (i := 1) Sc.nd h1 hl1 (pe_call FS hr hgl gS kS bS .nil pass0 (pa_cons (pe_var (i := 0) h0 hl0) pa_nil)) (by rfl) (.inl rfl)) ?_
    have hlN : 1 < N.length := (List.getElem?_eq_some_iff.mp h1).1
    refine ⟨.ref a, rfl, a, ns, rfl, hS, hlen, fun H' p0 q0 sb np nq hpq hp hq => ?_⟩
    have hσ : (L2.start N [V.ref a]).length = N.length := by
      unfold L2.start
      simp only [List.length_append, List.length_map, List.length_replicate, List.length_cons, List.length_nil]
      omega
    refine body (stateR ns) cdv A outer s H E' hr (true, s') hm _ H' H (fun j => if j = 1 then [p0, q0] else []) _ ⟨sb, fun i T hi => ?_, fun i x hx => ?_, fun i j x hi hj => ?_⟩ ?_
    · have hi1 : i = 1 := by simpa using lk_key hi
      subst hi1
      have : T = rtR (stateR ns) := by
        have h' : lk [(1, some (rtR (stateR ns)))] 1 = some T := hi
        rw [lk_self] at h'
        exact (Option.some.inj h').symm
      subst this
      refine ⟨.ref p0, by rw [List.getElem?_set_self (by rw [hσ]; exact hlN)], p0, q0, rfl, rfl, hpq, hp, hq, ?_⟩
      show (stateR ns).1.length ≤ 16777216
      unfold stateR
      rw [List.length_map]
      omega
    · by_cases z : i = 1
      · subst z
        have hx' : x = p0 ∨ x = q0 := by simpa using hx
        rcases hx' with rfl | rfl
        · exact ⟨np, by rw [hp]; simp⟩
        · exact ⟨nq, by rw [hq]; simp⟩
      · simp [z] at hx
    · by_cases z : i = 1 <;> by_cases z2 : j = 1
      · rw [z, z2]
      · simp [z2] at hj
      · simp [z] at hi
      · simp [z] at hi
    · intro v σ' H2 Hf2 A2 g1 g2 g3
      have : v = .bl true := by cases g3; rfl
      subst this
      exact q H2
end
end Ab
namespace Ab
open PySem PySem.Spec PyProof.Rows L2
abbrev iv {α : Type} (i : Nat) (E : α → D) (a : α) : Nat × Option Tr := (i, some (.imm (E a)))
abbrev ov {α : Type} (i : Nat) (E : α → D) (l : List α) : Nat × Option Tr := (i, some (.lst (l.map E)))
section
variable {X : Cx} {S : Type} {ι : Io S} {Δ : Dl} {s : S} {R : Type} {pos p : Pos} {a b c e : Expr} {k : Nat}
variable {α β γ : Type} {E : α → D} {F : β → D}
theorem BX_to {st : List Stmt} {m m' : Option R} {out : R → Out S} (h : BX X ι Δ s st m out) (e : m = m') : BX X ι Δ s st m' out := e ▸ h
/-! ### arguments without an end -/
theorem ax_one {Ma : (α → S → Option R) → Option R} (ha : EX X ι Δ s e Ma E) (hs : starEach (e :: []) X.env = (false, eval e X.env) :: starEach [] X.env := by rfl) :
    AX X ι Δ s [e] Ma (fun x => [E x]) := by
  intro k r hk σ H Hf A Q st q
  refine tA_of (pa_cons (pE X e) pa_nil hs) (ha _ r hk σ H Hf A _ st fun x s1 hx v H1 Hf1 st1 e1 r1 => ?_)
  exact q x s1 hx [v] H1 Hf1 st1 e1 (.one r1)
/-- items of one kind -/
theorem axl_nil : AX X ι Δ s [] (R := R) (fun k => k ([] : List α) s) (fun l => l.map E) := by
  intro k r hk σ H Hf A Q st q
  exact tA_of pa_nil (q [] s hk [] H Hf st (ExtA.refl _ _ _) .nil)
theorem axl_cons {es : List Expr} {Ma : (α → S → Option R) → Option R} {Mb : S → (List α → S → Option R) → Option R} (ha : EX X ι Δ s e Ma E) (hb : ∀ s1, AX X ι Δ s1 es (Mb s1) (fun l => l.map E))
    (hs : starEach (e :: es) X.env = (false, eval e X.env) :: starEach es X.env := by rfl) :
    AX X ι Δ s (e :: es) (fun k => Ma fun x s1 => Mb s1 fun l s2 => k (x :: l) s2) (fun l => l.map E) := by
  intro k r hk σ H Hf A Q st q
  refine tA_of (pa_cons (pE X e) (pA X es) hs) (ha _ r hk σ H Hf A _ st fun x s1 hx v H1 Hf1 st1 e1 r1 => ?_)
  refine hb s1 _ r hx σ H1 Hf1 A _ st1 fun y s2 hy vs H2 Hf2 st2 e2 r2 => ?_
  exact q (x :: y) s2 hy (v :: vs) H2 Hf2 st2 (e1.trans e2) (.cons (r1.up e2.grow) r2)
/-- a tuple display -/
theorem ex_tup {es : List Expr} {x1 : Nat} {M : (α → S → Option R) → Option R} {G : α → List D} (h : AX X ι Δ s es M G) (hE : ∀ x, E x = .tuple (G x)) (hn : ∀ x, (G x).length ≤ Line := by intro _; decide) : EX X ι Δ s (.Tuple es x1 pos) M E := by
  intro k r hk σ H Hf A Q st q
  refine tE_of (pe_tup (pA X es)) (h _ r hk σ H Hf A _ st fun x s1 hx vs H1 Hf1 st1 e1 r1 => ⟨le_line (r1.len ▸ hn x), fun p np => ?_⟩)
  have ex := Ext.new (o := .tup vs) np st1.sub
  refine q _ s1 hx _ _ _ (st1.up ex (Sub.new st1.sub)) (e1.trans ex.toA) ?_
  rw [hE]
  exact .tup (.inl (.inl upd_same)) (r1.len ▸ hn x) (r1.up ex.grow)
end
section
variable {X : Cx} {S : Type} {ι : Io S} {Δ : Dl} {s : S} {R : Type} {pos p : Pos} {a b c e : Expr} {k : Nat}
variable {α β γ : Type} {E : α → D} {F : β → D}
/-- items of one kind, so many of them -/
def AL (X : Cx) {S : Type} (ι : Io S) (Δ : Dl) (s : S) (es : List Expr) (n : Nat) {α R : Type} (M : (List α → S → Option R) → Option R) (E : α → D) : Prop :=
  ∀ k r, M k = some r → ∀ (σ : L2.St) (H Hf : Hp) (A : Nat → List Addr) (Q : List V → Hp → Prop), Sat X.K σ H Hf (ι.tr s ++ Δ) A →
    (∀ x s', k x s' = some r → x.length = n → ∀ vs H' Hf', Sat X.K σ H' Hf' (ι.tr s' ++ Δ) A → ExtA A H Hf H' Hf' → RpAll X.K Hf' vs (x.map E) → Q vs H') → tA X es σ H Q
theorem al_nil : AL X ι Δ s [] 0 (R := R) (fun k => k ([] : List α) s) E := by
  intro k r hk σ H Hf A Q st q
  exact tA_of pa_nil (q [] s hk rfl [] H Hf st (ExtA.refl _ _ _) .nil)
theorem al_cons {es : List Expr} {n : Nat} {Ma : (α → S → Option R) → Option R} {Mb : S → (List α → S → Option R) → Option R} (ha : EX X ι Δ s e Ma E) (hb : ∀ s1, AL X ι Δ s1 es n (Mb s1) E)
    (hs : starEach (e :: es) X.env = (false, eval e X.env) :: starEach es X.env := by rfl) :
    AL X ι Δ s (e :: es) (n + 1) (fun k => Ma fun x s1 => Mb s1 fun l s2 => k (x :: l) s2) E := by
  intro k r hk σ H Hf A Q st q
  refine tA_of (pa_cons (pE X e) (pA X es) hs) (ha _ r hk σ H Hf A _ st fun x s1 hx v H1 Hf1 st1 e1 r1 => ?_)
  refine hb s1 _ r hx σ H1 Hf1 A _ st1 fun y s2 hy hn vs H2 Hf2 st2 e2 r2 => ?_
  exact q (x :: y) s2 hy (congrArg (· + 1) hn) (v :: vs) H2 Hf2 st2 (e1.trans e2) (.cons (r1.up e2.grow) r2)
theorem eo_lst {es : List Expr} {n : Nat} {M : (List α → S → Option R) → Option R} (h : AL X ι Δ s es n M E) (hn : n ≤ Line := by decide) : EO X ι Δ s (.List es pos) M E := by
  intro k r hk σ H Hf A Q st q
  refine tE_of (pe_lst (pA X es)) (h _ r hk σ H Hf A _ st fun x s1 hx hl vs H1 Hf1 st1 e1 r1 => ?_)
  have hvl : vs.length ≤ Line := by rw [r1.len, List.length_map, hl]; exact hn
  refine ⟨le_line hvl, fun l nl => ?_⟩
  have ex := Ext.newO (o := .lst vs) (Hf := Hf1) nl
  exact q _ s1 hx l vs _ Hf1 (st1.up ex (Sub.newO nl st1.sub)) (e1.trans ex.toA) upd_same hvl r1 (st1.sub.non nl) (none_back e1.there nl)
theorem ex_tupL {es : List Expr} {n x1 : Nat} {M : (List α → S → Option R) → Option R} (h : AL X ι Δ s es n M E) (hn : n ≤ Line := by decide) : EX X ι Δ s (.Tuple es x1 pos) M (Ty.tup E) := by
  intro k r hk σ H Hf A Q st q
  refine tE_of (pe_tup (pA X es)) (h _ r hk σ H Hf A _ st fun x s1 hx hl vs H1 Hf1 st1 e1 r1 => ?_)
  have hvl : vs.length ≤ Line := by rw [r1.len, List.length_map, hl]; exact hn
  refine ⟨le_line hvl, fun l nl => ?_⟩
  have ex := Ext.new (o := .tup vs) nl st1.sub
  exact q _ s1 hx _ _ _ (st1.up ex (Sub.new st1.sub)) (e1.trans ex.toA) (.tup (.inl (.inl upd_same)) hvl (r1.up ex.grow))
/-- an int's truth -/
theorem tx_int {Ma : (Int → S → Option R) → Option R} (ha : EX X ι Δ s a Ma Ty.int) (he : ∀ whole, isTrue a X.env whole = (do let v ← whole; standAt a.pos; holding [v] (truthy v)) := by intro _; rfl) :
    TX X ι Δ s a (fun k => Ma fun x s1 => k (!decide (x = 0)) s1) := by
  intro k r hk σ H Hf A Q st q
  refine tT_of (pt_truth (pE X a) he) (ha _ r hk σ H Hf A _ st fun x s1 hx v H1 Hf1 st1 e1 r1 => ?_)
  cases r1
  refine ⟨_, rfl, ?_⟩
  have : (x != 0) = !decide (x = 0) := by rw [bne, Bool.beq_eq_decide_eq]
  rw [this]
  exact q _ s1 hx H1 Hf1 st1 e1
/-! a op b op' c -/
section
variable {Ma : (Int → S → Option R) → Option R} {Mb Mc Md : S → (Int → S → Option R) → Option R} {op op' op'' : CmpOp} {g g' g'' : Int → Int → Bool} {d : Expr}
theorem EX.congrT {e : Expr} {M N : (Bool → S → Option R) → Option R} (h : TX X ι Δ s e M) (eq : ∀ k, N k = M k) : TX X ι Δ s e N := fun k r hk => h k r ((eq k).symm.trans hk)
theorem ex_chain (ho : OpR X (compareOp op) (rI0 fun i j => .bl (g i j))) (ho' : OpR X (compareOp op') (rI0 fun i j => .bl (g' i j)))
    (ha : EX X ι Δ s a Ma Ty.int) (hb : ∀ s1, EX X ι Δ s1 b (Mb s1) Ty.int) (hc : ∀ s1, EX X ι Δ s1 c (Mc s1) Ty.int) (hm : lastMarks [op, op'] [b, c] = false := by with_unfolding_all rfl) :
    EX X ι Δ s (.Compare a [op, op'] [b, c] pos) (fun k => Ma fun x s1 => Mb s1 fun y s2 => if g x y = true then Mc s2 fun z s3 => k (g' y z) s3 else k false s2) Ty.bool := by
  intro k r hk σ H Hf A Q st q
  refine tE_of (pe_chain ho ho' (pE X a) (pE X b) (pE X c) hm) ?_
  refine ha _ r hk σ H Hf A _ st fun x s1 hx v H1 Hf1 st1 e1 r1 => ?_
  refine hb s1 _ r hx σ H1 Hf1 A _ st1 fun y s2 hy v2 H2 Hf2 st2 e2 r2 => ?_
  cases r1
  cases r2
  refine ⟨x, y, rfl, rfl, g x y, rfl, ?_⟩
  cases hg : g x y with
  | false =>
    rw [hg, if_neg Bool.false_ne_true] at hy
    rw [if_neg Bool.false_ne_true]
    exact q false s2 hy _ H2 Hf2 st2 (e1.trans e2) (.bl _)
  | true =>
    rw [hg, if_pos rfl] at hy
    rw [if_pos rfl]
    refine hc s2 _ r hy σ H2 Hf2 A _ st2 fun z s3 hz v3 H3 Hf3 st3 e3 r3 => ?_
    cases r3
    exact ⟨y, z, rfl, rfl, q _ s3 hz _ H3 Hf3 st3 ((e1.trans e2).trans e3) (.bl _)⟩
theorem tx_chain (ho : OpR X (compareOp op) (rI0 fun i j => .bl (g i j))) (ho' : OpR X (compareOp op') (rI0 fun i j => .bl (g' i j)))
    (ha : EX X ι Δ s a Ma Ty.int) (hb : ∀ s1, EX X ι Δ s1 b (Mb s1) Ty.int) (hc : ∀ s1, EX X ι Δ s1 c (Mc s1) Ty.int) (hm : lastMarks [op, op'] [b, c] = false := by with_unfolding_all rfl) :
    TX X ι Δ s (.Compare a [op, op'] [b, c] pos) (fun k => Ma fun x s1 => Mb s1 fun y s2 => if g x y = true then Mc s2 fun z s3 => k (g' y z) s3 else k false s2) := by
  intro k r hk σ H Hf A Q st q
  refine tT_of (pt_chain ho ho' (pE X a) (pE X b) (pE X c) hm) ?_
  refine ha _ r hk σ H Hf A _ st fun x s1 hx v H1 Hf1 st1 e1 r1 => ?_
  refine hb s1 _ r hx σ H1 Hf1 A _ st1 fun y s2 hy v2 H2 Hf2 st2 e2 r2 => ?_
  cases r1
  cases r2
  refine ⟨x, y, rfl, rfl, g x y, rfl, ?_⟩
  cases hg : g x y with
  | false =>
    rw [hg, if_neg Bool.false_ne_true] at hy
    rw [if_neg Bool.false_ne_true]
    exact ⟨false, rfl, q false s2 hy H2 Hf2 st2 (e1.trans e2)⟩
  | true =>
    rw [hg, if_pos rfl] at hy
    rw [if_pos rfl]
    refine hc s2 _ r hy σ H2 Hf2 A _ st2 fun z s3 hz v3 H3 Hf3 st3 e3 r3 => ?_
    cases r3
    exact ⟨y, z, rfl, rfl, _, rfl, q _ s3 hz H3 Hf3 st3 ((e1.trans e2).trans e3)⟩
/-- .. where nothing fails and no state is touched -/
theorem ex_chainT {y z : Int} (ho : OpR X (compareOp op) (rI0 fun i j => .bl (g i j))) (ho' : OpR X (compareOp op') (rI0 fun i j => .bl (g' i j)))
    (ha : EX X ι Δ s a Ma Ty.int) (hb : ∀ s1, EX X ι Δ s1 b (R := R) (fun k => k y s1) Ty.int) (hc : ∀ s1, EX X ι Δ s1 c (R := R) (fun k => k z s1) Ty.int) (hm : lastMarks [op, op'] [b, c] = false := by with_unfolding_all rfl) :
    EX X ι Δ s (.Compare a [op, op'] [b, c] pos) (fun k => Ma fun x s1 => k (g x y && g' y z) s1) Ty.bool :=
  (ex_chain ho ho' ha hb hc hm).congr fun k => by refine congrArg Ma (funext fun x => funext fun s1 => ?_); show k (g x y && g' y z) s1 = (if g x y = true then k (g' y z) s1 else k false s1); cases g x y <;> rfl
theorem tx_chainT {y z : Int} (ho : OpR X (compareOp op) (rI0 fun i j => .bl (g i j))) (ho' : OpR X (compareOp op') (rI0 fun i j => .bl (g' i j)))
    (ha : EX X ι Δ s a Ma Ty.int) (hb : ∀ s1, EX X ι Δ s1 b (R := R) (fun k => k y s1) Ty.int) (hc : ∀ s1, EX X ι Δ s1 c (R := R) (fun k => k z s1) Ty.int) (hm : lastMarks [op, op'] [b, c] = false := by with_unfolding_all rfl) :
    TX X ι Δ s (.Compare a [op, op'] [b, c] pos) (fun k => Ma fun x s1 => k (g x y && g' y z) s1) :=
  EX.congrT (tx_chain ho ho' ha hb hc hm) fun k => by refine congrArg Ma (funext fun x => funext fun s1 => ?_); show k (g x y && g' y z) s1 = (if g x y = true then k (g' y z) s1 else k false s1); cases g x y <;> rfl
/-- a op b op' c op'' d -/
theorem pe_chain3 {r r' r'' : R2} {ta tb tc td : TE} (ho : OpR X (compareOp op) r) (ho' : OpR X (compareOp op') r') (ho'' : OpR X (compareOp op'') r'') (ha : PE X a ta) (hb : PE X b tb) (hc : PE X c tc) (hd : PE X d td)
    (hm : lastMarks [op, op', op''] [b, c, d] = false := by with_unfolding_all rfl) : PE X (.Compare a [op, op', op''] [b, c, d] pos) (fun σ H Q => ta σ H fun x H1 => tb σ H1 fun y H2 => r x y H2 fun z H3 => ∃ k, z = .bl k ∧
      (if k = true then tc σ H3 fun w' H4 => r' y w' H4 fun z2 H5 => ∃ k2, z2 = .bl k2 ∧ (if k2 = true then td σ H5 fun w2 H6 => r'' w' w2 H6 Q else Q (.bl false) H5) else Q (.bl false) H3)) := by
  refine ⟨fun pins s σ H Q I h => ?_⟩
  refine Compare_chain (thn (ha.run pins s σ H _ I h) fun v s1 ⟨x, H1, I1, r1, q1⟩ => chain_link (thn (hb.run pins s1 σ H1 _ I1 q1) fun u s2 ⟨y, H2, I2, r2, q2⟩ =>
    thn (ho pins s2 σ H2 x y v u _ I2 r1 r2 q2) fun d s3 ⟨z, H3, I3, r3, k, e, q3⟩ => ?_)) hm
  subst e
  cases r3
  refine wpAny_truthy_bool ?_
  cases k with
  | false => exact ite_ff ⟨.bl false, H3, I3, rfl, q3⟩
  | true =>
    refine ite_tt (chain_link (thn (hc.run pins s3 σ H3 _ I3 q3) fun w' s4 ⟨z', H4, I4, r4, q4⟩ => thn (ho' pins s4 σ H4 y z' u w' _ I4 r2 r4 q4) fun d' s5 ⟨z2, H5, I5, r5, k2, e2, q5⟩ => ?_))
    subst e2
    cases r5
    refine wpAny_truthy_bool ?_
    cases k2 with
    | false => exact ite_ff ⟨.bl false, H5, I5, rfl, q5⟩
    | true => exact ite_tt (chain_last (thn (hd.run pins s5 σ H5 _ I5 q5) fun w2 s6 ⟨z6, H6, I6, r6, q6⟩ => ho'' pins s6 σ H6 z' z6 w' w2 Q I6 r4 r6 q6))
theorem ex_chain3T {y z u : Int} (ho : OpR X (compareOp op) (rI0 fun i j => .bl (g i j))) (ho' : OpR X (compareOp op') (rI0 fun i j => .bl (g' i j))) (ho'' : OpR X (compareOp op'') (rI0 fun i j => .bl (g'' i j)))
    (ha : EX X ι Δ s a Ma Ty.int) (hb : ∀ s1, EX X ι Δ s1 b (R := R) (fun k => k y s1) Ty.int) (hc : ∀ s1, EX X ι Δ s1 c (R := R) (fun k => k z s1) Ty.int) (hd : ∀ s1, EX X ι Δ s1 d (R := R) (fun k => k u s1) Ty.int)
    (hm : lastMarks [op, op', op''] [b, c, d] = false := by with_unfolding_all rfl) : EX X ι Δ s (.Compare a [op, op', op''] [b, c, d] pos) (fun k => Ma fun x s1 => k (g x y && (g' y z && g'' z u)) s1) Ty.bool := by
  have gen : EX X ι Δ s (.Compare a [op, op', op''] [b, c, d] pos) (fun k => Ma fun x s1 => if g x y = true then (if g' y z = true then k (g'' z u) s1 else k false s1) else k false s1) Ty.bool := by
    intro k r hk σ H Hf A Q st q
    refine tE_of (pe_chain3 ho ho' ho'' (pE X a) (pE X b) (pE X c) (pE X d) hm) ?_
    refine ha _ r hk σ H Hf A _ st fun x s1 hx v H1 Hf1 st1 e1 r1 => ?_
    cases r1
    refine hb s1 (fun y' s2 => if g x y' = true then (if g' y' z = true then k (g'' z u) s2 else k false s2) else k false s2) r hx σ H1 Hf1 A _ st1 fun y' s2 hy v2 H2 Hf2 st2 e2 r2 => ?_
    cases r2
    refine ⟨x, y', rfl, rfl, g x y', rfl, ?_⟩
    cases hg : g x y' with
    | false =>
      rw [hg, if_neg Bool.false_ne_true] at hy
      rw [if_neg Bool.false_ne_true]
      exact q false s2 hy _ H2 Hf2 st2 (e1.trans e2) (.bl _)
    | true =>
      rw [hg, if_pos rfl] at hy
      rw [if_pos rfl]
      refine hc s2 (fun z' s3 => if g' y' z' = true then k (g'' z' u) s3 else k false s3) r hy σ H2 Hf2 A _ st2 fun z' s3 hz v3 H3 Hf3 st3 e3 r3 => ?_
      cases r3
      refine ⟨y', z', rfl, rfl, g' y' z', rfl, ?_⟩
      cases hg' : g' y' z' with
      | false =>
        rw [hg', if_neg Bool.false_ne_true] at hz
        rw [if_neg Bool.false_ne_true]
        exact q false s3 hz _ H3 Hf3 st3 ((e1.trans e2).trans e3) (.bl _)
      | true =>
        rw [hg', if_pos rfl] at hz
        rw [if_pos rfl]
        refine hd s3 (fun u' s4 => k (g'' z' u') s4) r hz σ H3 Hf3 A _ st3 fun u' s4 hu v4 H4 Hf4 st4 e4 r4 => ?_
        cases r4
        exact ⟨z', u', rfl, rfl, q _ s4 hu _ H4 Hf4 st4 (((e1.trans e2).trans e3).trans e4) (.bl _)⟩
  exact gen.congr fun k => by refine congrArg Ma (funext fun x => funext fun s1 => ?_); show k (g x y && (g' y z && g'' z u)) s1 = (if g x y = true then (if g' y z = true then k (g'' z u) s1 else k false s1) else k false s1); cases g x y <;> cases g' y z <;> rfl
end
/-! ### statements, further -/
section
variable {out : R → Out S} {rest : List Stmt} {pos' : Pos} {tg : Expr}
/-- with the value named -/
theorem bx_setL (i : Nat) {x : Str} {M : (α → S → Option R) → Option R} {kk : α → S → Option R} (hN : X.N.Nodup) (h : EX X ι Δ s e M E)
    (q : ∀ a s', BX X ι (iv i E a :: Δ) s' rest (kk a s') out) (hi : X.N[i]? = some x := by rfl) (hx : Loc X.env.scope x := by first | exact Or.inl rfl | exact Or.inr rfl)
    (hs : swapsWith e (some (.Name x pos')) pos.line X.env = pure false := by rfl) (hf : X.fn x = true ∨ X.env.scope.names.lookup x = some .local := by first | exact .inl rfl | exact .inr rfl) (hix : i ∉ ι.ix := by decide) :
    BX X ι Δ s (.Assign [.Name x pos'] e pos :: rest) (M fun a s' => letM a fun a => kk a s') out := bx_set i hN h q hi hx hs hf hix
theorem bx_setOL (i : Nat) {x : Str} {M : (List α → S → Option R) → Option R} {kk : List α → S → Option R} (hN : X.N.Nodup) (h : EO X ι Δ s e M E)
    (q : ∀ a s', BX X ι (ov i E a :: Δ) s' rest (kk a s') out) (hi : X.N[i]? = some x := by rfl) (hx : Loc X.env.scope x := by first | exact Or.inl rfl | exact Or.inr rfl)
    (hs : swapsWith e (some (.Name x pos')) pos.line X.env = pure false := by rfl) (hf : X.fn x = true ∨ X.env.scope.names.lookup x = some .local := by first | exact .inl rfl | exact .inr rfl) (hix : i ∉ ι.ix := by decide) :
    BX X ι Δ s (.Assign [.Name x pos'] e pos :: rest) (M fun a s' => letM a fun a => kk a s') out := bx_setO i hN h q hi hx hs hf hix
theorem bx_setLcL (i : Nat) {x : Str} {elt tg iter : Expr} {ifs : List Expr} {scope : Scope} {own : List (Str × Nat)} {p2 : Pos} {M : (List α → S → Option R) → Option R} {kk : List α → S → Option R} (h : LO X ι Δ s elt tg iter ifs scope own M E)
    (q : ∀ a s', BX X ι (iv i (Ty.lst E) a :: Δ) s' rest (kk a s') out) (hi : X.N[i]? = some x := by rfl) (hyl : X.env.scope.names.lookup x = some .local := by rfl)
    (hsw : swapsWith (.ListComp elt [⟨tg, iter, ifs, 0⟩] scope p2) (some (.Name x pos')) pos.line X.env = pure true := by exact sw_true rfl rfl rfl (by decide +kernel)) (hix : i ∉ ι.ix := by decide) :
    BX X ι Δ s (.Assign [.Name x pos'] (.ListComp elt [⟨tg, iter, ifs, 0⟩] scope p2) pos :: rest) (M fun a s' => letM a fun a => kk a s') out := bx_setLc i h q hi hyl hsw hix
theorem bx_setLcOL (i : Nat) {x : Str} {elt tg iter : Expr} {ifs : List Expr} {scope : Scope} {own : List (Str × Nat)} {p2 : Pos} {M : (List α → S → Option R) → Option R} {kk : List α → S → Option R} (h : LO X ι Δ s elt tg iter ifs scope own M E)
    (q : ∀ a s', BX X ι (ov i E a :: Δ) s' rest (kk a s') out) (hi : X.N[i]? = some x := by rfl) (hyl : X.env.scope.names.lookup x = some .local := by rfl)
    (hsw : swapsWith (.ListComp elt [⟨tg, iter, ifs, 0⟩] scope p2) (some (.Name x pos')) pos.line X.env = pure true := by exact sw_true rfl rfl rfl (by decide +kernel)) (hix : i ∉ ι.ix := by decide) :
    BX X ι Δ s (.Assign [.Name x pos'] (.ListComp elt [⟨tg, iter, ifs, 0⟩] scope p2) pos :: rest) (M fun a s' => letM a fun a => kk a s') out := bx_setLcO i h q hi hyl hsw hix
/-- a, b, .. = e -/
theorem bx_unp {M : (α → S → Option R) → Option R} {ixs : List Nat} {b : α → Dl} {kk : α → S → Option R} (h : EX X ι Δ s e M E) (hg : GX X ι tg ixs b E)
    (q : ∀ x s', BX X ι (b x ++ Δ) s' rest (kk x s') out) (hx : ∀ i ∈ ixs, i ∉ ι.ix := by decide) (hs : swapsWithSole [tg] e pos.line X.env = pure false := by rfl) (hw : swappedStores [tg] e X.env = pure none := by rfl)
    (h1 : (assignEach [tg] X.env).map (·.2) = [assign tg X.env] := by rfl) : BX X ι Δ s (.Assign [tg] e pos :: rest) (M fun a s' => letM a fun a => kk a s') out := by
  intro r hr σ H Hf A Dn st p
  refine tS_cons (ps_asg (pE X e) (pG X tg) hs hw h1) (h _ r hr σ H Hf A _ st fun x s' hx' v H' Hf' st' e' r' => ?_)
  refine hg x v σ H' Hf' Δ A s' _ st' r' fun σ2 st2 o2 => ?_
  exact q x s' r hx' σ2 H' Hf' _ Dn st2 (p.step ((e'.stp ι.ix σ).trans (stp_cutL hx o2)))
/-- a, b = x, y: plain local names -/
theorem bx_par {i j : Nat} {x y : Str} {es1 es2 : Expr} {px py pt : Pos} {kt k2 : Nat} {pt2 : Pos} {M : (α × β → S → Option R) → Option R} {kk : α × β → S → Option R} (hN : X.N.Nodup) (h : AX X ι Δ s [es1, es2] M (fun p => [E p.1, F p.2]))
    (q : ∀ a s', BX X ι (iv j F a.2 :: iv i E a.1 :: Δ) s' rest (kk a s') out) (hc : X.calm = true := by rfl) (hi : X.N[i]? = some x := by rfl) (hj : X.N[j]? = some y := by rfl) (hij : i ≠ j := by decide)
    (hx : X.env.scope.names.lookup x = some .local := by rfl) (hy : X.env.scope.names.lookup y = some .local := by rfl) (hix : i ∉ ι.ix := by decide) (hjx : j ∉ ι.ix := by decide)
    (hw : swappedStores [.Tuple [.Name x px, .Name y py] kt pt] (.Tuple [es1, es2] k2 pt2) X.env = pure (some [x, y]) := by rfl)
    (hs : swapsWithSole [.Tuple [.Name x px, .Name y py] kt pt] (.Tuple [es1, es2] k2 pt2) pos.line X.env = pure false := by rfl) :
    BX X ι Δ s (.Assign [.Tuple [.Name x px, .Name y py] kt pt] (.Tuple [es1, es2] k2 pt2) pos :: rest) (M fun a s' => letM a fun a => kk a s') out := by
  intro r hr σ H Hf A Dn st p
  refine tS_inv fun pins sh I => tS_cons (ps_par hc hN hi hj hij hx hy (pA X _) hw hs) (h _ r hr σ H Hf A _ st fun a s' ha vs H' Hf' st' e' r' => ?_)
  obtain ⟨v, w, rfl, rv, rw'⟩ := two_args r'
  have hlen : i < σ.length := by rw [I.len]; exact (List.getElem?_eq_some_iff.mp hi).1
  have hlen2 : j < (σ.set i (some v)).length := by rw [List.length_set, I.len]; exact (List.getElem?_eq_some_iff.mp hj).1
  have st1 := st'.imm (P := ι.tr s') hlen (by rw [ι.keys]; exact hix) rv
  have st2 := st1.imm (P := ι.tr s') hlen2 (by rw [ι.keys]; exact hjx) rw'
  exact ⟨v, w, rfl, q a s' r ha _ H' Hf' _ Dn st2 (p.step (((e'.stp ι.ix σ).trans (stp_cut hix)).trans (stp_cut hjx)))⟩
theorem bx_brk {w : R} {Δ' : Dl} (ho : out w = .brk Δ' s) (hle : Le Δ' Δ) : BX X ι Δ s (.Break pos :: rest) (some w) out := by
  intro r hr σ H Hf A Dn st p
  cases hr
  rw [ho] at p
  exact tS_of (pss_cons ps_break (pS X rest)) (p σ H Hf A (st.weak hle.app) (Stp.refl _ _ _ _ _))
theorem bx_cont {w : R} {Δ' : Dl} (ho : out w = .cont Δ' s) (hle : Le Δ' Δ) : BX X ι Δ s (.Continue pos :: rest) (some w) out := by
  intro r hr σ H Hf A Dn st p
  cases hr
  rw [ho] at p
  exact tS_of (pss_cons ps_continue (pS X rest)) (p σ H Hf A (st.weak hle.app) (Stp.refl _ _ _ _ _))
theorem bx_pass {m : Option R} (h : BX X ι Δ s rest m out) : BX X ι Δ s (.Pass pos :: rest) m out := fun r hr σ H Hf A Dn st p => tS_cons ps_pass (h r hr σ H Hf A Dn st p)
/-- how a body's ways out are told -/
@[reducible] def outF {W Rr : Type} (Δw : W → Dl) (sw : W → S) (rd : Rr → D) (rs : Rr → S) : Fl W Rr → Out S
  | .next w => .next (Δw w) (sw w)
  | .cont w => .cont (Δw w) (sw w)
  | .brk w => .brk (Δw w) (sw w)
  | .ret r => .ret (rd r) (rs r)
/-- what follows a loop that may be left by a return -/
def flK {W Rr : Type} (K : W → Option R) (kr : Rr → R) : Fl W Rr → Option R
  | .next w => K w
  | .cont w => K w
  | .brk w => K w
  | .ret r => some (kr r)
/-- for, with a body that may be left -/
theorem bx_forE {W Rr : Type} (Δw : W → Dl) (sw : W → S) (rd : Rr → D) (rs : Rr → S) {iter : Expr} {body : List Stmt} {w0 : S → W} {Mi : (List α → S → Option R) → Option R} {ixs : List Nat} {b : α → Dl} {f : W → α → Option (Fl W Rr)} {K : W → Option R} {kr : Rr → R}
    (hi : IX X ι Δ s tg iter Mi E) (hg : GX X ι tg ixs b E) (h0 : ∀ s1, sw (w0 s1) = s1) (h0' : ∀ s1, Le (Δw (w0 s1)) Δ)
    (hb : ∀ w x, BX X ι (b x ++ Δw w) (sw w) body (f w x) (outF Δw sw rd rs))
    (hk : ∀ w, BX X ι (Δw w) (sw w) rest (K w) out) (hr : ∀ r, out (kr r) = .ret (rd r) (rs r)) (hp : PassesOwn (model X.prog X.w) X.A X.env X.xe := by exact PassesOwn.never) (hc : X.calm = true := by rfl)
    (hs : ∀ x, foldedSetIterable iter X.env x = pure x := by intro _; rfl) (hx : ∀ i ∈ ixs, i ∉ ι.ix := by decide) :
    BX X ι Δ s (.For tg iter body [] pos :: rest) (Mi fun xs s1 => (forE f xs (w0 s1)).bind (flK K kr)) out := by
  intro r hr' σ H Hf A Dn st p
  refine tS_cons (ps_for hp hc (pI X tg iter) (pG X tg) (pS X body) hs) (hi _ r hr' σ H Hf A _ st fun xs s1 hx1 J H1 Hf1 st1 e1 wk => ?_)
  obtain ⟨o, hf, hK⟩ := bind_some hx1
  refine ⟨fun i m σ' H' => m = xs.length - i ∧ i ≤ xs.length ∧ ∃ w Hf' A', Sat X.K σ' H' Hf' (ι.tr (sw w) ++ Δw w) A' ∧ Stp ι.ix σ A H Hf σ' A' H' Hf' ∧ Sub Hf1 Hf' ∧ forE f (xs.drop i) w = some o,
    ⟨xs.length, by simp, Nat.zero_le _, w0 s1, Hf1, A, by rw [h0]; exact st1.weak (h0' s1).app, e1.stp _ _, Sub.refl _, hf⟩, ?_⟩
  rintro i m σ' H' ⟨rfl, hi', w, Hf', A', st', sp, sb, hw⟩
  by_cases hlt : i < xs.length
  · have hd : xs.drop i = xs[i] :: xs.drop (i + 1) := List.drop_eq_getElem_cons hlt
    rw [hd] at hw
    obtain ⟨o1, hw1, hw2⟩ := bind_some (show (f w xs[i]).bind _ = some o from hw)
    refine .inr ⟨wk.go i H' Hf' sb st'.sub hlt, fun σ2 H2 => ∃ w1 Hf2 A2, Sat X.K σ2 H2 Hf2 (ι.tr (sw w1) ++ Δw w1) A2 ∧ Stp ι.ix σ A H Hf σ2 A2 H2 Hf2 ∧ Sub Hf1 Hf2 ∧ forE f (xs.drop (i + 1)) w1 = some o,
      fun σ2 H2 ⟨w1, Hf2, A2, q1, q2, q3, q4⟩ => ⟨xs.length - (i + 1), by omega, rfl, hlt, w1, Hf2, A2, q1, q2, q3, q4⟩, fun v H2 hy => ?_⟩
    obtain ⟨Hf2, e2, sb2, rv⟩ := wk.yld i xs[i] v H' H2 Hf' sb st'.sub (List.getElem?_eq_getElem hlt) hy
    have st2 := st'.up e2 sb2
    refine hg xs[i] v σ' H2 Hf2 _ A' (sw w) _ st2 rv fun σ3 st3 o3 => ?_
    have sp3 : Stp ι.ix σ A H Hf σ3 (cutL A' ixs) H2 Hf2 := (sp.trans (e2.toA.stp _ _)).trans (stp_cutL hx o3)
    refine hb w xs[i] o1 hw1 σ3 H2 Hf2 _ _ st3 ?_
    have sbg : Sub Hf1 Hf2 := sb.trans e2.grow
    cases o1 with
    | next w1 => exact fun σ4 H4 Hf4 A4 q1 q2 => ⟨w1, Hf4, A4, q1, sp3.trans q2, sbg.trans q2.grow, hw2⟩
    | cont w1 => exact fun σ4 H4 Hf4 A4 q1 q2 => ⟨w1, Hf4, A4, q1, sp3.trans q2, sbg.trans q2.grow, hw2⟩
    | brk w1 =>
      have eo : Fl.next w1 = o := Option.some.inj hw2
      subst eo
      exact fun σ4 H4 Hf4 A4 q1 q2 => hk w1 r hK σ4 H4 Hf4 A4 Dn q1 (p.step (sp3.trans q2))
    | ret r1 =>
      have eo : Fl.ret r1 = o := Option.some.inj hw2
      subst eo
      have er : kr r1 = r := Option.some.inj hK
      subst er
      rw [hr] at p
      exact fun v σ4 H4 Hf4 A4 q1 q2 q3 => p v σ4 H4 Hf4 A4 q1 (sp3.trans q2) q3
  · have ei : i = xs.length := by omega
    subst ei
    rw [List.drop_length] at hw
    have eo : Fl.next w = o := Option.some.inj hw
    subst eo
    exact .inl ⟨wk.stop _ H' Hf' sb st'.sub (Nat.le_refl _), hk w r hK σ' H' Hf' A' Dn st' (p.step sp)⟩
/-- the first way does not fall through; it ends as P tells -/
theorem bx_ifX {P : Type} (emb : P → R) {A : List Stmt} {Mc : (Bool → S → Option R) → Option R} {mA : S → Option P} {mB : S → Option R} (hc : TX X ι Δ s c Mc) (hA : ∀ s1, BX X ι Δ s1 A (mA s1) (fun p => out (emb p))) (hB : ∀ s1, BX X ι Δ s1 rest (mB s1) out)
    (hn : ∀ p Δ' s', out (emb p) ≠ .next Δ' s' := by intro p _ _ h; cases p <;> nomatch h) : BX X ι Δ s (.If c A [] pos :: rest) (Mc fun z s1 => if z = true then (mA s1).map emb else mB s1) out := by
  intro r hr σ H Hf As Dn st p
  refine tS_cons (ps_if (pT X c) (pS X A) (pS X [])) (hc _ r hr σ H Hf As _ st fun z s1 hz H1 Hf1 st1 e1 => ?_)
  cases z with
  | true =>
    rw [if_pos rfl] at hz ⊢
    cases hm : mA s1 with
    | none => rw [hm] at hz; cases hz
    | some x =>
      rw [hm] at hz
      have er : emb x = r := Option.some.inj hz
      subst er
      refine hA s1 x hm σ H1 Hf1 As _ st1 ?_
      have p' := p.step (e1.stp ι.ix σ)
      show Post X.K ι σ As H1 Hf1 _ (out (emb x))
      cases ho : out (emb x) with
      | next Δ' s' => exact absurd ho (hn x Δ' s')
      | ret d s' => rw [ho] at p'; exact p'
      | brk Δ' s' => rw [ho] at p'; exact p'
      | cont Δ' s' => rw [ho] at p'; exact p'
  | false =>
    rw [if_neg Bool.false_ne_true] at hz ⊢
    exact tS_of pss_nil (hB s1 r hz σ H1 Hf1 As Dn st1 (p.step (e1.stp _ _)))
/-- either way may fall through, or end as P tells -/
inductive Jn (W P : Type) where
  | go (w : W)
  | ex (p : P)
@[reducible] def outJ {W P : Type} (Δw : W → Dl) (sw : W → S) (o : P → Out S) : Jn W P → Out S
  | .go w => .next (Δw w) (sw w)
  | .ex p => o p
def jnK {P W : Type} (K : W → Option R) (emb : P → R) : Jn W P → Option R
  | .go w => K w
  | .ex p => some (emb p)
theorem bx_ifJ {P W : Type} (emb : P → R) (Δw : W → Dl) (sw : W → S) {A B : List Stmt} {Mc : (Bool → S → Option R) → Option R} {mA mB : S → Option (Jn W P)} {K : W → Option R} (hc : TX X ι Δ s c Mc)
    (hA : ∀ s1, BX X ι Δ s1 A (mA s1) (outJ Δw sw fun p => out (emb p))) (hB : ∀ s1, BX X ι Δ s1 B (mB s1) (outJ Δw sw fun p => out (emb p))) (hK : ∀ w, BX X ι (Δw w) (sw w) rest (K w) out)
    (hn : ∀ p Δ' s', out (emb p) ≠ .next Δ' s' := by intro p _ _ h; cases p <;> nomatch h) :
    BX X ι Δ s (.If c A B pos :: rest) (Mc fun z s1 => (if z = true then mA s1 else mB s1).bind (jnK K emb)) out := by
  intro r hr σ H Hf As Dn st p
  refine tS_cons (ps_if (pT X c) (pS X A) (pS X B)) (hc _ r hr σ H Hf As _ st fun z s1 hz H1 Hf1 st1 e1 => ?_)
  obtain ⟨o, h1, h2⟩ := bind_some hz
  have p' := p.step (e1.stp ι.ix σ)
  have fin : Post X.K ι σ As H1 Hf1 { Dn with nx := fun σ' H' => tS X rest Dn σ' H' } (outJ Δw sw (fun p => out (emb p)) o) := by
    cases o with
    | go w => exact fun σ2 H2 Hf2 A2 q1 q2 => hK w r h2 σ2 H2 Hf2 A2 Dn q1 (p'.step q2)
    | ex x =>
      have er : emb x = r := Option.some.inj h2
      subst er
      show Post X.K ι σ As H1 Hf1 _ (out (emb x))
      cases ho : out (emb x) with
      | next Δ' s' => exact absurd ho (hn x Δ' s')
      | ret d s' => rw [ho] at p'; exact p'
      | brk Δ' s' => rw [ho] at p'; exact p'
      | cont Δ' s' => rw [ho] at p'; exact p'
  cases z with
  | true =>
    rw [if_pos rfl] at h1 ⊢
    exact hA s1 o h1 σ H1 Hf1 As _ st1 fin
  | false =>
    rw [if_neg Bool.false_ne_true] at h1 ⊢
    exact hB s1 o h1 σ H1 Hf1 As _ st1 fin
/-! while -/
def iterW {W Rr : Type} (f : W → Option (Fl W Rr)) : Nat → W → Option (Fl W Rr)
  | 0, _ => none
  | n + 1, w => (f w).bind fun o => match o with
    | .next w' => iterW f n w'
    | .cont w' => iterW f n w'
    | .brk w' => some (.next w')
    | .ret r => some (.ret r)
theorem iterW_mono {W Rr : Type} {f : W → Option (Fl W Rr)} : ∀ {n : Nat} {w : W} {o : Fl W Rr}, iterW f n w = some o → ∀ m, n ≤ m → iterW f m w = some o
  | 0, w, o, h, _, _ => by cases h
  | n + 1, w, o, h, m, hm => by
    obtain ⟨m', rfl⟩ : ∃ m', m = m' + 1 := ⟨m - 1, by omega⟩
    obtain ⟨x, h1, h2⟩ := bind_some (show (f w).bind _ = some o from h)
    show (f w).bind _ = some o
    rw [h1]
    cases x with
    | next w' => exact iterW_mono (n := n) h2 m' (by omega)
    | cont w' => exact iterW_mono (n := n) h2 m' (by omega)
    | brk w' => exact h2
    | ret r => exact h2
open Classical in
/-- a while loop: f tells one turn, .brk where its test is false -/
noncomputable def whileM {W Rr : Type} (f : W → Option (Fl W Rr)) (w : W) : Option (Fl W Rr) := if h : ∃ n, (iterW f n w).isSome = true then iterW f h.choose w else none
theorem whileM_iter {W Rr : Type} {f : W → Option (Fl W Rr)} {w : W} {o : Fl W Rr} (h : whileM f w = some o) : ∃ n, iterW f n w = some o := by
  unfold whileM at h
  split at h
  · exact ⟨_, h⟩
  · cases h
theorem whileM_of {W Rr : Type} {f : W → Option (Fl W Rr)} {w : W} {o : Fl W Rr} {n : Nat} (h : iterW f n w = some o) : whileM f w = some o := by
  unfold whileM
  have ex : ∃ n, (iterW f n w).isSome = true := ⟨n, by rw [h]; rfl⟩
  rw [dif_pos ex]
  obtain ⟨o', ho⟩ := Option.isSome_iff_exists.mp ex.choose_spec
  have h1 := iterW_mono h (max n ex.choose) (Nat.le_max_left _ _)
  have h2 := iterW_mono ho (max n ex.choose) (Nat.le_max_right _ _)
  rw [h1] at h2
  rw [ho]; exact h2.symm
theorem bx_while {W Rr : Type} (Δw : W → Dl) (sw : W → S) (rd : Rr → D) (rs : Rr → S) (ws : W → S → W) {body : List Stmt} {w0 : W} {Mc : W → (Bool → S → Option (Fl W Rr)) → Option (Fl W Rr)} {mb : W → S → Option (Fl W Rr)} {K : W → Option R} {kr : Rr → R}
    (h0 : sw w0 = s) (h0' : Le (Δw w0) Δ) (hs1 : ∀ w s1, Δw (ws w s1) = Δw w) (hs2 : ∀ w s1, sw (ws w s1) = s1)
    (hc : ∀ w, TX X ι (Δw w) (sw w) c (Mc w)) (hb : ∀ w s1, BX X ι (Δw w) s1 body (mb w s1) (outF Δw sw rd rs))
    (hk : ∀ w, BX X ι (Δw w) (sw w) rest (K w) out) (hr : ∀ r, out (kr r) = .ret (rd r) (rs r)) (hp : PassesOwn (model X.prog X.w) X.A X.env X.xe := by exact PassesOwn.never) :
    BX X ι Δ s (.While c body [] pos :: rest) ((whileM (fun w => Mc w fun z s1 => if z = true then mb w s1 else some (.brk (ws w s1))) w0).bind (flK K kr)) out := by
  intro r hr' σ H Hf A Dn st p
  obtain ⟨o, hf, hK⟩ := bind_some hr'
  obtain ⟨n, hn⟩ := whileM_iter hf
  refine tS_cons (ps_while hp (pT X c) (pS X body)) ?_
  refine ⟨fun m σ' H' => ∃ w Hf' A', Sat X.K σ' H' Hf' (ι.tr (sw w) ++ Δw w) A' ∧ Stp ι.ix σ A H Hf σ' A' H' Hf' ∧ iterW (fun w => Mc w fun z s1 => if z = true then mb w s1 else some (.brk (ws w s1))) m w = some o,
    ⟨n, w0, Hf, A, by rw [h0]; exact st.weak h0'.app, Stp.refl _ _ _ _ _, hn⟩, ?_⟩
  rintro m σ' H' ⟨w, Hf', A', st', sp, hit⟩
  cases m with
  | zero => cases hit
  | succ m =>
    obtain ⟨o1, h1, h2⟩ := bind_some (show (Mc w _).bind _ = some o from hit)
    refine hc w _ o1 h1 σ' H' Hf' A' _ st' fun z s1 hz H1 Hf1 st1 e1 => ?_
    have sp1 := sp.trans (e1.stp ι.ix σ')
    cases z with
    | false =>
      rw [if_neg Bool.false_ne_true] at hz ⊢
      have eo : Fl.brk (ws w s1) = o1 := Option.some.inj hz
      subst eo
      have eo2 : Fl.next (ws w s1) = o := Option.some.inj h2
      subst eo2
      exact hk (ws w s1) r hK σ' H1 Hf1 A' Dn (by rw [hs1, hs2]; exact st1) (p.step sp1)
    | true =>
      rw [if_pos rfl] at hz ⊢
      refine ⟨fun σ2 H2 => ∃ w1 Hf2 A2, Sat X.K σ2 H2 Hf2 (ι.tr (sw w1) ++ Δw w1) A2 ∧ Stp ι.ix σ A H Hf σ2 A2 H2 Hf2 ∧ iterW (fun w => Mc w fun z s1 => if z = true then mb w s1 else some (.brk (ws w s1))) m w1 = some o,
        fun σ2 H2 ⟨w1, Hf2, A2, q1, q2, q3⟩ => ⟨m, Nat.lt_succ_self m, w1, Hf2, A2, q1, q2, q3⟩, ?_⟩
      refine hb w s1 o1 hz σ' H1 Hf1 A' _ st1 ?_
      cases o1 with
      | next w1 => exact fun σ4 H4 Hf4 A4 q1 q2 => ⟨w1, Hf4, A4, q1, sp1.trans q2, h2⟩
      | cont w1 => exact fun σ4 H4 Hf4 A4 q1 q2 => ⟨w1, Hf4, A4, q1, sp1.trans q2, h2⟩
      | brk w1 =>
        have eo : Fl.next w1 = o := Option.some.inj h2
        subst eo
        exact fun σ4 H4 Hf4 A4 q1 q2 => hk w1 r hK σ4 H4 Hf4 A4 Dn q1 (p.step (sp1.trans q2))
      | ret r1 =>
        have eo : Fl.ret r1 = o := Option.some.inj h2
        subst eo
        have er : kr r1 = r := Option.some.inj hK
        subst er
        rw [hr] at p
        exact fun v σ4 H4 Hf4 A4 q1 q2 q3 => p v σ4 H4 Hf4 A4 q1 (sp1.trans q2) q3
end
end
end Ab
namespace Ab
open PySem PySem.Spec PyProof.Rows L2
/-! ### a list of one's own is not written any more -/
theorem Sat.thaw {K : KF} {σ : L2.St} {H Hf : Hp} {P Δ : Dl} {A : Nat → List Addr} {i : Nat} {l : Addr} {vs : List V} {ds : List D} (st : Sat K σ H Hf (P ++ Δ) A) (hP : i ∉ P.map (·.1)) (hA : A i = [l]) (hσ : σ[i]? = some (some (.ref l)))
    (hl : H l = some (.lst vs)) (hz : vs.length ≤ Line) (ra : RpAll K Hf vs ds) : Sat K σ H (upd Hf l (.lst vs)) (P ++ (i, some (.imm (.list ds))) :: Δ) (cut A i []) := by
  have hn : Hf l = none := (st.own i l (by rw [hA]; simp)).1
  have gr : Sub Hf (upd Hf l (.lst vs)) := fun b u h => by rw [upd_ne (ne_of_none h hn)]; exact h
  have hin : ∀ j a, a ∈ cut A i [] j → a ∈ A j ∧ j ≠ i := fun j a h => by
    by_cases z : j = i
    · subst z; rw [cut_self] at h; simp at h
    · rw [cut_ne z] at h; exact ⟨h, z⟩
  refine ⟨fun a u h => ?_, fun j T h => ?_, fun j a h => ?_, fun j k a h1 h2 => st.inj j k a (hin j a h1).1 (hin k a h2).1⟩
  · by_cases q : a = l
    · subst q; rw [upd_same] at h; rw [hl]; exact h
    · rw [upd_ne q] at h; exact st.sub a u h
  · by_cases z : j = i
    · subst z
      rw [lk_append_out hP, lk_self] at h
      cases h
      exact ⟨_, hσ, by rw [cut_self], .lst (.inl upd_same) hz (ra.up gr)⟩
    · have h' : lk (P ++ Δ) j = some T := by
        by_cases m : j ∈ P.map (·.1)
        · rw [lk_append_in (Δ' := Δ) m] at h; exact h
        · rw [lk_append_out m] at h ⊢; rw [lk_ne z] at h; exact h
      obtain ⟨v, h1, h2⟩ := st.slot j T h'
      rw [cut_ne z]
      exact ⟨v, h1, h2.up gr fun a _ u q => q⟩
  · obtain ⟨m, z⟩ := hin j a h
    obtain ⟨n1, n2⟩ := st.own j a m
    refine ⟨?_, n2⟩
    by_cases q : a = l
    · subst q; exact absurd (st.inj j i a m (by rw [hA]; simp)) z
    · rw [upd_ne q]; exact n1
section
variable {X : Cx} {S : Type} {ι : Io S} {Δ : Dl} {s : S} {R : Type} {out : R → Out S} {st : List Stmt} {m : Option R} {pos : Pos}
variable {α β γ : Type} {E : α → D} {F : β → D}
theorem bx_freeze (i : Nat) {l : List α} (hl : lk (ι.tr s ++ Δ) i = some (.lst (l.map E))) (h : BX X ι (iv i (Ty.lst E) l :: Δ) s st m out) (hix : i ∉ ι.ix := by decide) : BX X ι Δ s st m out := by
  intro r hr σ H Hf A Dn sat p
  obtain ⟨a, vs, h1, h2, h3, h4, h5⟩ := sat.lstAt hl
  have hn : Hf a = none := (sat.own i a (by rw [h2]; simp)).1
  have gr : Sub Hf (upd Hf a (.lst vs)) := fun b u h => by rw [upd_ne (ne_of_none h hn)]; exact h
  have st2 := sat.thaw (P := ι.tr s) (by rw [ι.keys]; exact hix) h2 h1 h3 h4 h5
  refine h r hr σ H _ _ Dn st2 (p.step ⟨fun _ _ => rfl, fun _ _ _ h => h, fun _ h => h, gr, fun b hb => ?_, fun j b hb => ?_, fun j hj => cut_ne (ne_mem hj hix)⟩)
  · by_cases z : b = a
    · subst z; exact .inr (.inr ⟨i, hix, by rw [h2]; simp⟩)
    · rw [upd_ne z] at hb; exact .inl hb
  · by_cases z : j = i
    · subst z; rw [cut_self] at hb; simp at hb
    · rw [cut_ne z] at hb; exact .inl ⟨j, hb, fun _ => rfl⟩
/-! maybe something -/
theorem ex_some {e : Expr} {M : (α → S → Option R) → Option R} (h : EX X ι Δ s e M E) : EX X ι Δ s e (fun k => M fun x s1 => k (some x) s1) (Ty.opt E) := fun k r hk σ H Hf A Q st q => h _ r hk σ H Hf A Q st fun x s1 hx v H1 Hf1 st1 e1 r1 => q (some x) s1 hx v H1 Hf1 st1 e1 r1
theorem ex_non {e : Expr} {M : (Unit → S → Option R) → Option R} (h : EX X ι Δ s e M Ty.none) : EX X ι Δ s e (fun k => M fun _ s1 => k none s1) (Ty.opt E) := fun k r hk σ H Hf A Q st q => h _ r hk σ H Hf A Q st fun x s1 hx v H1 Hf1 st1 e1 r1 => q none s1 hx v H1 Hf1 st1 e1 r1
end
end Ab
namespace Ab
open PySem PySem.Spec PyProof.Rows L2
/-! ### what a mirror gives -/
def Y {α : Type} (m : Option α) (P : α → Prop) : Prop := ∃ a, m = some a ∧ P a
section
variable {α β γ W S R Rr : Type} {P : α → Prop} {Q : β → Prop}
theorem Y.ok {a : α} (h : P a) : Y (Option.some a) P := ⟨a, rfl, h⟩
theorem Y.mono {m : Option α} {P' : α → Prop} (h : Y m P) (k : ∀ a, P a → P' a) : Y m P' := by
  obtain ⟨a, h1, h2⟩ := h
  exact ⟨a, h1, k a h2⟩
theorem Y.bind {m : Option α} {f : α → Option β} (h : Y m P) (k : ∀ a, P a → Y (f a) Q) : Y (m.bind f) Q := by
  obtain ⟨a, h1, h2⟩ := h
  obtain ⟨b, h3, h4⟩ := k a h2
  exact ⟨b, by rw [h1]; exact h3, h4⟩
theorem Y.bindE {m : Option α} {f : α → Option β} {a : α} (h : m = some a) (k : Y (f a) Q) : Y (m.bind f) Q := by
  rw [h]; exact k
theorem Y.guard {c : Prop} [Decidable c] {m : Option α} (h : c) (k : Y m P) : Y (guardM c m) P := by
  rw [guardM_pos h]; exact k
theorem Y.lt {a : β} {k : β → Option α} (h : Y (k a) P) : Y (letM a k) P := h
theorem Y.ite {z : Bool} {A B : Option α} (h1 : z = true → Y A P) (h2 : z = false → Y B P) : Y (if z = true then A else B) P := by
  cases z with
  | true => rw [if_pos rfl]; exact h1 rfl
  | false => rw [if_neg Bool.false_ne_true]; exact h2 rfl
theorem Y.iteT {z : Bool} {A B : Option α} (h : z = true) (h1 : Y A P) : Y (if z = true then A else B) P := by rw [if_pos h]; exact h1
theorem Y.iteF {z : Bool} {A B : Option α} (h : z = false) (h1 : Y B P) : Y (if z = true then A else B) P := by rw [h, if_neg Bool.false_ne_true]; exact h1
theorem Y.of_eq {m : Option α} {a : α} (h : m = .some a) (p : P a) : Y m P := ⟨a, h, p⟩
theorem Y.foldlM {f : W → α → Option W} {I : List α → W → Prop} : ∀ (xs pre : List α) (w : W), I pre w → (∀ p x w, p ++ [x] <+: pre ++ xs → I p w → Y (f w x) (I (p ++ [x]))) → Y (xs.foldlM f w) (I (pre ++ xs))
  | [], pre, w, h, _ => by rw [List.append_nil]; exact ⟨w, rfl, h⟩
  | x :: xs, pre, w, h, k => by
    rw [List.foldlM_cons]
    refine Y.bind (k pre x w ⟨xs, by simp⟩ h) fun w1 h1 => ?_
    have := Y.foldlM (f := f) (I := I) xs (pre ++ [x]) w1 h1 (fun p y w2 hp => k p y w2 (by simpa using hp))
    simpa using this
/-- a walk with what holds ahead of each turn -/
theorem Y.fold {f : W → α → Option W} {xs : List α} {w : W} (I : List α → W → Prop) (h : I [] w) (k : ∀ p x w, p ++ [x] <+: xs → I p w → Y (f w x) (I (p ++ [x]))) : Y (xs.foldlM f w) (I xs) := Y.foldlM xs [] w h (by simpa using k)
theorem pre_mem {p xs : List α} {x : α} (h : p ++ [x] <+: xs) : x ∈ xs := by
  obtain ⟨t, rfl⟩ := h
  simp
theorem Y.foldI {f : W → α → Option W} {xs : List α} {w : W} (I : W → Prop) (h : I w) (k : ∀ x w, x ∈ xs → I w → Y (f w x) I) : Y (xs.foldlM f w) I :=
  Y.fold (fun _ => I) h fun p x w hp hw => k x w (pre_mem hp) hw
/-- a walk that is known -/
theorem foldlM_eq {f : W → α → Option W} {g : W → α → W} {xs : List α} (I : W → Prop) : ∀ (ys : List α) (w : W), I w → (∀ y ∈ ys, ∀ w, I w → f w y = .some (g w y) ∧ I (g w y)) → ys.foldlM f w = .some (ys.foldl g w) ∧ I (ys.foldl g w)
  | [], w, h, _ => ⟨rfl, h⟩
  | y :: ys, w, h, k => by
    obtain ⟨h1, h2⟩ := k y (by simp) w h
    rw [List.foldlM_cons, h1]
    exact foldlM_eq (xs := xs) I ys _ h2 fun z hz => k z (by simp [hz])
/-- a walk that may be left, and is not -/
theorem Y.forE {f : W → α → Option (Fl W Rr)} {I : List α → W → Prop} : ∀ (xs pre : List α) (w : W), I pre w → (∀ p x w, p ++ [x] <+: pre ++ xs → I p w → Y (f w x) (fun o => ∃ w', (o = .next w' ∨ o = .cont w') ∧ I (p ++ [x]) w')) → Y (forE f xs w) (fun o => ∃ w', o = .next w' ∧ I (pre ++ xs) w')
  | [], pre, w, h, _ => by rw [List.append_nil]; exact ⟨.next w, rfl, w, rfl, h⟩
  | x :: xs, pre, w, h, k => by
    obtain ⟨o, h1, w', h2, h3⟩ := k pre x w ⟨xs, by simp⟩ h
    have q := Y.forE (f := f) (I := I) xs (pre ++ [x]) w' h3 (fun p y w2 hp => k p y w2 (by simpa using hp))
    rw [show pre ++ [x] ++ xs = pre ++ x :: xs by simp] at q
    rcases h2 with rfl | rfl
    · obtain ⟨o, g1, g2⟩ := q
      exact ⟨o, by show (f w x).bind _ = _; rw [h1]; exact g1, g2⟩
    · obtain ⟨o, g1, g2⟩ := q
      exact ⟨o, by show (f w x).bind _ = _; rw [h1]; exact g1, g2⟩
/-- .. and what follows -/
theorem Y.for {f : W → α → Option (Fl W Rr)} {xs : List α} {w : W} {K : W → Option R} {kr : Rr → R} {P : R → Prop} (I : List α → W → Prop) (h : I [] w) (k : ∀ p x w, p ++ [x] <+: xs → I p w → Y (f w x) (fun o => ∃ w', (o = .next w' ∨ o = .cont w') ∧ I (p ++ [x]) w'))
    (q : ∀ w, I xs w → Y (K w) P) : Y ((Ab.forE f xs w).bind (flK K kr)) P := by
  refine Y.bind (Y.forE xs [] w h (by simpa using k)) fun o h => ?_
  obtain ⟨w', rfl, hi⟩ := h
  exact q w' (by simpa using hi)
theorem Y.forI {f : W → α → Option (Fl W Rr)} {xs : List α} {w : W} {K : W → Option R} {kr : Rr → R} {P : R → Prop} (I : W → Prop) (h : I w) (k : ∀ x w, x ∈ xs → I w → Y (f w x) (fun o => ∃ w', (o = .next w' ∨ o = .cont w') ∧ I w'))
    (q : ∀ w, I w → Y (K w) P) : Y ((Ab.forE f xs w).bind (flK K kr)) P := Y.for (fun _ => I) h (fun p x w hp hw => k x w (pre_mem hp) hw) q
theorem Y.next {w : W} {I : W → Prop} (h : I w) : Y (.some (Fl.next w : Fl W Rr)) (fun o => ∃ w', (o = .next w' ∨ o = .cont w') ∧ I w') := ⟨_, rfl, w, .inl rfl, h⟩
theorem Y.cont {w : W} {I : W → Prop} (h : I w) : Y (.some (Fl.cont w : Fl W Rr)) (fun o => ∃ w', (o = .next w' ∨ o = .cont w') ∧ I w') := ⟨_, rfl, w, .inr rfl, h⟩
/-- comprehensions -/
theorem Y.compM {f : α → S → Option (Option β × S)} {I : List α → List β → S → Prop} : ∀ (xs pre : List α) (acc : List β) (s : S), I pre acc s → (∀ p x acc s, p ++ [x] <+: pre ++ xs → I p acc s → Y (f x s) (fun o => I (p ++ [x]) (acc ++ o.1.toList) o.2)) → Y (compM f xs s) (fun o => I (pre ++ xs) (acc ++ o.1) o.2)
  | [], pre, acc, s, h, _ => ⟨([], s), rfl, by simpa using h⟩
  | x :: xs, pre, acc, s, h, k => by
    obtain ⟨⟨o, s1⟩, h1, h2⟩ := k pre x acc s ⟨xs, by simp⟩ h
    obtain ⟨⟨ys, s2⟩, h3, h4⟩ := Y.compM (f := f) (I := I) xs (pre ++ [x]) (acc ++ o.toList) s1 h2 (fun p y ac w2 hp => k p y ac w2 (by simpa using hp))
    refine ⟨(o.toList ++ ys, s2), ?_, by simpa using h4⟩
    show (f x s).bind _ = _
    rw [h1]
    show (Ab.compM f xs s1).bind _ = _
    rw [h3]
    cases o <;> rfl
/-- each item is taken, or left -/
theorem Y.pick {f : α → S → Option (Option α × S)} {xs : List α} {s : S} (k : ∀ x s, x ∈ xs → Y (f x s) (fun o => o.1 = none ∨ o.1 = .some x)) : Y (Ab.compM f xs s) (fun o => o.1.Sublist xs) := by
  have := Y.compM (f := f) (I := fun p acc _ => acc.Sublist p) xs [] [] s (List.Sublist.refl _) fun p x acc s hp h => (k x s (by simpa using pre_mem hp)).mono fun o ho => by
    rcases ho with ho | ho
    · rw [ho]; simpa using h.trans (List.sublist_append_left _ _)
    · rw [ho]; exact h.append (List.Sublist.refl _)
  simpa using this
/-- each item gives one -/
theorem Y.each {f : α → S → Option (Option β × S)} {xs : List α} {s : S} {P : β → Prop} (k : ∀ x s, x ∈ xs → Y (f x s) (fun o => ∃ y, o.1 = .some y ∧ P y)) : Y (Ab.compM f xs s) (fun o => o.1.length = xs.length ∧ ∀ y ∈ o.1, P y) := by
  have := Y.compM (f := f) (I := fun p acc _ => acc.length = p.length ∧ ∀ y ∈ acc, P y) xs [] [] s ⟨rfl, by simp⟩ fun p x acc s hp h => (k x s (by simpa using pre_mem hp)).mono fun o ho => by
    obtain ⟨y, hy, hp⟩ := ho
    rw [hy]
    refine ⟨by simp [h.1], fun z hz => ?_⟩
    have hz' : z ∈ acc ∨ z = y := by simpa using hz
    rcases hz' with hz | rfl
    · exact h.2 z hz
    · exact hp
  simpa using this
end
/-! ### drawing -/
theorem Y.draw {n : Int} {s : Rs} (h : 0 < n) (h2 : n < 1073741824) : Y (drawR n s) (fun p => 0 ≤ p.1 ∧ p.1 < n) := by
  unfold drawR
  refine Y.guard ⟨by omega, by omega, .inr ⟨by decide, by decide⟩⟩ ?_
  have m : ∀ v : Int, 0 ≤ v.fmod n ∧ v.fmod n < n := fun v => by
    rw [Int.fmod_eq_emod_of_nonneg _ (by omega)]
    exact ⟨Int.emod_nonneg _ (by omega), Int.emod_lt_of_pos _ h⟩
  split
  · exact Y.ok (m _)
  · exact Y.ok (m _)
theorem at_mem {α : Type} {P : α → Prop} {xs : List α} {i : Int} (h0 : 0 ≤ i) (h1 : i < xs.length) (h : ∀ x ∈ xs, P x) : Y (atI xs i) P := by
  have e : atI xs i = xs[i.toNat]? := by
    unfold atI
    have : ixN xs.length i = some i.toNat := by
      unfold ixN
      rw [if_pos h0, if_pos h1]
    rw [this]; rfl
  have hl : i.toNat < xs.length := by omega
  exact ⟨xs[i.toNat], by rw [e, List.getElem?_eq_getElem hl], h _ (List.getElem_mem hl)⟩
theorem at_zero {α : Type} {x : α} {l : List α} : atI (x :: l) 0 = some x := by
  unfold atI ixN
  rw [if_pos (by decide), if_pos (by simp)]
  rfl
/-! ### rows that rise -/
def SL (l : List Int) : Prop := l.Pairwise (· < ·)
theorem SL.nodup {l : List Int} (h : SL l) : l.Nodup := List.Pairwise.imp (fun h => by omega) h
theorem SL.ext {a b : List Int} (ha : SL a) (hb : SL b) (h : ∀ x, x ∈ a ↔ x ∈ b) : a = b :=
  sorted_unique ((List.perm_ext_iff_of_nodup ha.nodup hb.nodup).mpr h) (List.Pairwise.imp (fun h => by omega) ha) (List.Pairwise.imp (fun h => by omega) hb)
theorem SL.sub {a b : List Int} (hb : SL b) (h : a.Sublist b) : SL a := List.Pairwise.sublist h hb
theorem SL.filter {a : List Int} (h : SL a) (p : Int → Bool) : SL (a.filter p) := h.sub List.filter_sublist
theorem SL.nil : SL [] := List.Pairwise.nil
theorem sortI_SL {l : List Int} (h : l.Nodup) : SL (sortI l) := by
  have h1 := sortI_sorted l
  have h2 : (sortI l).Nodup := (sortI_perm l).nodup_iff.mpr h
  exact h1.imp₂ (fun a b h1 h2 => by omega) h2
theorem mem_sortI {l : List Int} {x : Int} : x ∈ sortI l ↔ x ∈ l := (sortI_perm l).mem_iff
theorem rangeL_SL (lo : Int) (n : Nat) : SL (rangeL lo n) := by
  unfold rangeL SL
  rw [List.pairwise_map]
  exact List.pairwise_lt_range.imp fun h => by omega
theorem mem_rangeL {lo x : Int} {n : Nat} : x ∈ rangeL lo n ↔ lo ≤ x ∧ x < lo + n := by
  unfold rangeL
  rw [List.mem_map]
  constructor
  · rintro ⟨i, hi, rfl⟩
    rw [List.mem_range] at hi
    omega
  · rintro ⟨h1, h2⟩
    exact ⟨(x - lo).toNat, by rw [List.mem_range]; omega, by omega⟩
theorem mem_range0 {x n : Int} : x ∈ rangeL 0 n.toNat ↔ 0 ≤ x ∧ x < n := by
  rw [mem_rangeL]; omega
/-- bounded: short -/
theorem SL.len {l : List Int} {n : Int} (h : SL l) (b : ∀ x ∈ l, 0 ≤ x ∧ x < n) : (l.length : Int) ≤ max n 0 := by
  have e : l = (rangeL 0 n.toNat).filter fun x => decide (x ∈ l) := SL.ext h ((rangeL_SL _ _).filter _) fun x => by
    rw [List.mem_filter, mem_range0]
    simp only [decide_eq_true_eq]
    exact ⟨fun hx => ⟨b x hx, hx⟩, fun hx => hx.2⟩
  have := List.length_filter_le (fun x => decide (x ∈ l)) (rangeL 0 n.toNat)
  rw [← e, rangeL_len] at this
  omega
/-- the sum of sets -/
def sumS (a b : List Int) : List Int := sortI (a.filter (fun v => !decide (v ∈ b)) ++ b.filter (fun v => !decide (v ∈ a)))
theorem sumS_nodup {a b : List Int} (ha : a.Nodup) (hb : b.Nodup) : (a.filter (fun v => !decide (v ∈ b)) ++ b.filter (fun v => !decide (v ∈ a))).Nodup := by
  rw [List.nodup_append]
  refine ⟨ha.sublist List.filter_sublist, hb.sublist List.filter_sublist, fun x hx y hy e => ?_⟩
  subst e
  rw [List.mem_filter] at hx hy
  simp at hx hy
  exact hx.2 hy.1
theorem sumS_SL {a b : List Int} (ha : SL a) (hb : SL b) : SL (sumS a b) := sortI_SL (sumS_nodup ha.nodup hb.nodup)
theorem mem_sumS {a b : List Int} {x : Int} : x ∈ sumS a b ↔ ((x ∈ a) ≠ (x ∈ b)) := by
  unfold sumS
  rw [mem_sortI, List.mem_append, List.mem_filter, List.mem_filter]
  by_cases h1 : x ∈ a <;> by_cases h2 : x ∈ b <;> simp [h1, h2]
/-- how many of a that are p, even or not -/
def par (p : Int → Bool) (l : List Int) : Bool := (l.filter p).length % 2 == 1
theorem filter_len_eq {a b : List Int} {p q : Int → Bool} (ha : a.Nodup) (hb : b.Nodup) (h : ∀ x, (x ∈ a ∧ p x = true) ↔ (x ∈ b ∧ q x = true)) : (a.filter p).length = (b.filter q).length :=
  ((List.perm_ext_iff_of_nodup (ha.sublist List.filter_sublist) (hb.sublist List.filter_sublist)).mpr fun x => by rw [List.mem_filter, List.mem_filter]; exact h x).length_eq
theorem len_split {α : Type} (q : α → Bool) (l : List α) : l.length = (l.filter q).length + (l.filter fun x => !q x).length := by
  rw [← List.length_append]; exact (List.filter_append_perm q l).length_eq.symm
theorem par_sum {a b c : List Int} {p : Int → Bool} (ha : a.Nodup) (hb : b.Nodup) (hc : c.Nodup) (h : ∀ x, x ∈ c ↔ ((x ∈ a) ≠ (x ∈ b))) : par p c = (par p a != par p b) := by
  have e1 := len_split (fun x => decide (x ∈ b)) (a.filter p)
  have e2 := len_split (fun x => decide (x ∈ a)) (b.filter p)
  have e3 := len_split (fun x => decide (x ∈ a)) (c.filter p)
  rw [List.filter_filter, List.filter_filter] at e1 e2 e3
  have f1 : (a.filter fun x => decide (x ∈ b) && p x).length = (b.filter fun x => decide (x ∈ a) && p x).length := filter_len_eq ha hb fun x => by
    by_cases h1 : x ∈ a <;> by_cases h2 : x ∈ b <;> simp [h1, h2]
  have f2 : (c.filter fun x => decide (x ∈ a) && p x).length = (a.filter fun x => !decide (x ∈ b) && p x).length := filter_len_eq hc ha fun x => by
    rw [h]
    by_cases h1 : x ∈ a <;> by_cases h2 : x ∈ b <;> simp [h1, h2]
  have f3 : (c.filter fun x => !decide (x ∈ a) && p x).length = (b.filter fun x => !decide (x ∈ a) && p x).length := filter_len_eq hc hb fun x => by
    rw [h]
    by_cases h1 : x ∈ a <;> by_cases h2 : x ∈ b <;> simp [h1, h2]
  unfold par
  rw [e3, f2, f3, e1, e2, f1]
  generalize (b.filter fun x => decide (x ∈ a) && p x).length = u
  generalize (a.filter fun x => !decide (x ∈ b) && p x).length = v
  generalize (b.filter fun x => !decide (x ∈ a) && p x).length = t
  rcases Nat.mod_two_eq_zero_or_one u with hu | hu <;> rcases Nat.mod_two_eq_zero_or_one v with hv | hv <;> rcases Nat.mod_two_eq_zero_or_one t with ht | ht <;> simp [Nat.add_mod, hu, hv, ht]
end Ab
namespace Ab
open PySem PySem.Spec PyProof.Rows L2
abbrev Gr := Int × List (Int × Int) × List Int × List Int × List Str
def nbr (g : Gr) (v : Int) : List Int := sortI ((g.2.1.filter fun e => decide (e.1 = v)).map (fun e => e.2) ++ (g.2.1.filter fun e => decide (e.2 = v)).map (fun e => e.1))
/-- vertices 0 .. n-1, edges told once, inputs and outputs rise -/
structure Good (g : Gr) : Prop where
  n0 : 0 ≤ g.1
  n1 : g.1 ≤ 64
  nd : g.2.1.Nodup
  eb : ∀ e ∈ g.2.1, 0 ≤ e.1 ∧ e.1 < e.2 ∧ e.2 < g.1
  el : g.2.1.length ≤ 4096
  ins : g.2.2.1.Sublist (rangeL 0 g.1.toNat)
  out : g.2.2.2.1.Sublist (rangeL 0 g.1.toNat)
theorem mem_nbr {g : Gr} {u v : Int} : u ∈ nbr g v ↔ ((v, u) ∈ g.2.1 ∨ (u, v) ∈ g.2.1) := by
  unfold nbr
  rw [mem_sortI, List.mem_append, List.mem_map, List.mem_map]
  constructor
  · rintro (⟨⟨a, b⟩, h, rfl⟩ | ⟨⟨a, b⟩, h, rfl⟩) <;> rw [List.mem_filter] at h <;> simp only [decide_eq_true_eq] at h
    · obtain ⟨h, rfl⟩ := h; exact .inl h
    · obtain ⟨h, rfl⟩ := h; exact .inr h
  · rintro (h | h)
    · exact .inl ⟨(v, u), by rw [List.mem_filter]; exact ⟨h, by simp⟩, rfl⟩
    · exact .inr ⟨(u, v), by rw [List.mem_filter]; exact ⟨h, by simp⟩, rfl⟩
theorem nodup_mapf {α : Type} {f : α → Int} {l : List α} (h : l.Nodup) (inj : ∀ x ∈ l, ∀ y ∈ l, f x = f y → x = y) : (l.map f).Nodup := by
  unfold List.Nodup
  rw [List.pairwise_map]
  exact List.Pairwise.imp_of_mem (fun {a b} ha hb hab e => hab (inj a ha b hb e)) h
theorem Good.nbr_SL {g : Gr} (G : Good g) (v : Int) : SL (nbr g v) := by
  refine sortI_SL ?_
  rw [List.nodup_append]
  refine ⟨nodup_mapf (G.nd.sublist List.filter_sublist) ?_, nodup_mapf (G.nd.sublist List.filter_sublist) ?_, ?_⟩
  · rintro ⟨a, b⟩ hx ⟨c, d⟩ hy e
    rw [List.mem_filter] at hx hy
    simp at hx hy e
    simp [hx.2, hy.2, e]
  · rintro ⟨a, b⟩ hx ⟨c, d⟩ hy e
    rw [List.mem_filter] at hx hy
    simp at hx hy e
    simp [hx.2, hy.2, e]
  · intro x hx y hy e
    subst e
    rw [List.mem_map] at hx hy
    obtain ⟨⟨a, b⟩, h1, rfl⟩ := hx
    obtain ⟨⟨c, d⟩, h2, e⟩ := hy
    rw [List.mem_filter] at h1 h2
    simp at h1 h2 e
    have q1 := G.eb _ h1.1
    have q2 := G.eb _ h2.1
    simp at q1 q2
    omega
theorem Good.nbr_in {g : Gr} (G : Good g) {u v : Int} (h : u ∈ nbr g v) : 0 ≤ u ∧ u < g.1 := by
  rw [mem_nbr] at h
  rcases h with h | h <;> have q := G.eb _ h <;> simp at q <;> omega
theorem nbr_sym {g : Gr} {u v : Int} : u ∈ nbr g v ↔ v ∈ nbr g u := by
  rw [mem_nbr, mem_nbr]; exact Or.comm
/-- the odd set -/
def oddS (g : Gr) (l : List Int) : List Int := l.foldl (fun t v => sumS t (nbr g v)) []
theorem odd_fold {g : Gr} (G : Good g) : ∀ (l t : List Int), SL t → SL (l.foldl (fun t v => sumS t (nbr g v)) t) ∧ ∀ x, x ∈ l.foldl (fun t v => sumS t (nbr g v)) t ↔ ((x ∈ t) ≠ (par (fun v => decide (x ∈ nbr g v)) l = true))
  | [], t, ht => ⟨ht, fun x => by simp [par]⟩
  | v :: l, t, ht => by
    obtain ⟨h1, h2⟩ := odd_fold G l (sumS t (nbr g v)) (sumS_SL ht (G.nbr_SL v))
    refine ⟨h1, fun x => ?_⟩
    rw [List.foldl_cons, h2, mem_sumS]
    have e : par (fun w => decide (x ∈ nbr g w)) (v :: l) = (decide (x ∈ nbr g v) != par (fun w => decide (x ∈ nbr g w)) l) := by
      unfold par
      by_cases h : x ∈ nbr g v
      · rw [List.filter_cons_of_pos (by simpa using h), List.length_cons, Nat.add_mod]
        rcases Nat.mod_two_eq_zero_or_one (l.filter fun w => decide (x ∈ nbr g w)).length with q | q <;> simp [q, h]
      · rw [List.filter_cons_of_neg (by simpa using h)]
        simp [h]
    rw [e]
    by_cases q1 : x ∈ t <;> by_cases q2 : x ∈ nbr g v <;> cases par (fun w => decide (x ∈ nbr g w)) l <;> simp [q1, q2]
theorem Good.odd_SL {g : Gr} (G : Good g) (l : List Int) : SL (oddS g l) := (odd_fold G l [] SL.nil).1
theorem Good.mem_odd {g : Gr} (G : Good g) {l : List Int} {x : Int} : x ∈ oddS g l ↔ par (fun v => decide (x ∈ nbr g v)) l = true := by
  have := (odd_fold G l [] SL.nil).2 x
  unfold oddS
  rw [this]
  simp
theorem par_pos {p : Int → Bool} {l : List Int} (h : par p l = true) : ∃ v ∈ l, p v = true := by
  unfold par at h
  cases e : l.filter p with
  | nil => rw [e] at h; simp at h
  | cons v t =>
    have : v ∈ l.filter p := by rw [e]; simp
    rw [List.mem_filter] at this
    exact ⟨v, this⟩
theorem Good.odd_in {g : Gr} (G : Good g) {l : List Int} {x : Int} (h : x ∈ oddS g l) : 0 ≤ x ∧ x < g.1 := by
  rw [G.mem_odd] at h
  obtain ⟨v, _, hv⟩ := par_pos h
  exact G.nbr_in (by simpa using hv)
/-- counted from the other end -/
theorem Good.odd_eq {g : Gr} (G : Good g) {l : List Int} (hl : l.Nodup) : oddS g l = (rangeL 0 g.1.toNat).filter fun x => par (fun v => decide (v ∈ l)) (nbr g x) := by
  refine SL.ext (G.odd_SL l) ((rangeL_SL _ _).filter _) fun x => ?_
  rw [List.mem_filter, mem_range0]
  have e : par (fun v => decide (x ∈ nbr g v)) l = par (fun v => decide (v ∈ l)) (nbr g x) := by
    unfold par
    rw [filter_len_eq hl (G.nbr_SL x).nodup fun y => ?_]
    simp only [decide_eq_true_eq]
    rw [nbr_sym (u := x)]
    exact And.comm
  constructor
  · intro h
    exact ⟨G.odd_in h, by rw [← e]; exact G.mem_odd.mp h⟩
  · rintro ⟨_, h⟩
    rw [G.mem_odd, e]; exact h
theorem Good.odd_sum {g : Gr} (G : Good g) {a b c : List Int} (ha : a.Nodup) (hb : b.Nodup) (hc : c.Nodup) (h : ∀ x, x ∈ c ↔ ((x ∈ a) ≠ (x ∈ b))) : sumS (oddS g a) (oddS g b) = oddS g c := by
  refine SL.ext (sumS_SL (G.odd_SL a) (G.odd_SL b)) (G.odd_SL c) fun x => ?_
  rw [mem_sumS, G.mem_odd, G.mem_odd, G.mem_odd, par_sum ha hb hc h]
  cases par (fun v => decide (x ∈ nbr g v)) a <;> cases par (fun v => decide (x ∈ nbr g v)) b <;> simp
theorem Good.len {g : Gr} (G : Good g) {l : List Int} (h : SL l) (b : ∀ x ∈ l, 0 ≤ x ∧ x < g.1) : l.length ≤ 64 := by
  have := h.len b
  have := G.n1
  have := G.n0
  omega
theorem Good.nbr_len {g : Gr} (G : Good g) (v : Int) : (nbr g v).length ≤ 64 := G.len (G.nbr_SL v) fun x hx => G.nbr_in hx
theorem Good.odd_len {g : Gr} (G : Good g) (l : List Int) : (oddS g l).length ≤ 64 := G.len (G.odd_SL l) fun x hx => G.odd_in hx
/-- the first of the sum of sets -/
def lessS (a b : List Int) : Bool := match sumS a b with | [] => false | x :: _ => decide (x ∈ b)
/-- all pairs -/
def pairsL (n : Int) : List (Int × Int) := (rangeL 0 n.toNat).flatMap fun i => (rangeL (i + 1) (n - (i + 1)).toNat).map fun j => (i, j)
theorem mem_pairs {n : Int} {e : Int × Int} : e ∈ pairsL n ↔ 0 ≤ e.1 ∧ e.1 < e.2 ∧ e.2 < n := by
  unfold pairsL
  rw [List.mem_flatMap]
  constructor
  · rintro ⟨i, hi, h⟩
    rw [List.mem_map] at h
    obtain ⟨j, hj, rfl⟩ := h
    rw [mem_range0] at hi
    rw [mem_rangeL] at hj
    simp only
    omega
  · rintro ⟨h1, h2, h3⟩
    exact ⟨e.1, by rw [mem_range0]; omega, by rw [List.mem_map]; exact ⟨e.2, by rw [mem_rangeL]; omega, rfl⟩⟩
theorem nodup_flat {f : Int → List (Int × Int)} : ∀ {l : List Int}, l.Nodup → (∀ i ∈ l, (f i).Nodup) → (∀ i ∈ l, ∀ e ∈ f i, e.1 = i) → (l.flatMap f).Nodup
  | [], _, _, _ => by simp
  | x :: l, h, h1, h2 => by
    rw [List.flatMap_cons, List.nodup_append]
    rw [List.nodup_cons] at h
    refine ⟨h1 x (by simp), nodup_flat h.2 (fun i hi => h1 i (by simp [hi])) (fun i hi => h2 i (by simp [hi])), fun a ha b hb e => ?_⟩
    subst e
    rw [List.mem_flatMap] at hb
    obtain ⟨i, hi, hb⟩ := hb
    have e1 := h2 x (by simp) a ha
    have e2 := h2 i (by simp [hi]) a hb
    rw [e1] at e2
    subst e2
    exact h.1 hi
theorem pairs_nodup (n : Int) : (pairsL n).Nodup := by
  refine nodup_flat (rangeL_SL _ _).nodup (fun i _ => ?_) (fun i _ e he => ?_)
  · unfold List.Nodup
    rw [List.pairwise_map]
    exact List.Pairwise.imp (fun {a b} h e => by simp at e; omega) (rangeL_SL (i + 1) (n - (i + 1)).toNat)
  · rw [List.mem_map] at he
    obtain ⟨j, _, rfl⟩ := he
    rfl
theorem pairs_len (n : Int) (h : n ≤ 64) : (pairsL n).length ≤ 4096 := by
  have gen : ∀ (l : List Int), (l.flatMap fun i => (rangeL (i + 1) (n - (i + 1)).toNat).map fun j => (i, j)).length ≤ l.length * 64 + l.foldl (fun s i => s + (0 - i).toNat) 0 := by
    intro l
    induction l with
    | nil => simp
    | cons x l ih =>
      have hf : ∀ (l : List Int) (s : Nat), l.foldl (fun s i => s + (0 - i).toNat) s = s + l.foldl (fun s i => s + (0 - i).toNat) 0 := by
        intro l
        induction l with
        | nil => simp
        | cons y l ih2 => intro s; rw [List.foldl_cons, List.foldl_cons, ih2, ih2 (0 + _)]; omega
      rw [List.flatMap_cons, List.length_append, List.length_map, rangeL_len, List.length_cons, List.foldl_cons, hf]
      have : (n - (x + 1)).toNat ≤ 64 + (0 - x).toNat := by omega
      have : (l.length + 1) * 64 = l.length * 64 + 64 := by omega
      omega
  have h2 : ∀ (l : List Int), (∀ x ∈ l, 0 ≤ x) → l.foldl (fun s i => s + (0 - i).toNat) 0 = 0 := by
    intro l
    induction l with
    | nil => simp
    | cons x l ih =>
      intro h
      have := h x (by simp)
      rw [List.foldl_cons, show (0 : Nat) + (0 - x).toNat = 0 by omega]
      exact ih fun y hy => h y (by simp [hy])
  have q := gen (rangeL 0 n.toNat)
  rw [h2 _ (fun x hx => (mem_range0.mp hx).1), rangeL_len] at q
  unfold pairsL
  omega
theorem flatMap_pre {β : Type} {f : Int → List β} {p xs : List Int} (h : p <+: xs) : (p.flatMap f).Sublist (xs.flatMap f) := by
  obtain ⟨t, rfl⟩ := h
  rw [List.flatMap_append]
  exact List.sublist_append_left _ _
end Ab
namespace K02
open PySem PySem.Spec PyProof.Rows L2 Ab
def topS (i : Nat) : Stmt := PySem.Challenge.pw_allbranches_k02_odd_sets.main.body.getD i (.Pass ⟨0, 0, 0, 0⟩)
abbrev s_neighbours : Stmt := topS 1
abbrev s_odd_set : Stmt := topS 2
abbrev s_measured : Stmt := topS 3
abbrev s_sum_of : Stmt := topS 4
abbrev s_is_less_heavy : Stmt := topS 5
abbrev s__law_state : Stmt := topS 7
abbrev s__law_draw : Stmt := topS 8
abbrev s__law_graph : Stmt := topS 9
abbrev s__law_path : Stmt := topS 10
abbrev s__law_near : Stmt := topS 11
abbrev s__law_odd : Stmt := topS 12
abbrev s_law : Stmt := topS 13
theorem sc__law_draw : FnScope ["state", "many", "cells", "value", "mixed"] ["state", "many"] (defScope s__law_draw) := ⟨rfl, rfl, rfl, by decide +kernel, rfl, by decide +kernel, by decide +kernel⟩
theorem sc__law_state : FnScope ["script", "seed", "cell"] ["script"] (defScope s__law_state) := ⟨rfl, rfl, rfl, by decide +kernel, rfl, by decide +kernel, by decide +kernel⟩
theorem sc_neighbours : FnScope ["graph", "vertex", "found", "one", "other"] ["graph", "vertex"] (defScope s_neighbours) := ⟨rfl, rfl, rfl, by decide +kernel, rfl, by decide +kernel, by decide +kernel⟩
theorem sc_measured : FnScope ["graph", "vertex"] ["graph"] (defScope s_measured) := ⟨rfl, rfl, rfl, by decide +kernel, rfl, by decide +kernel, by decide +kernel⟩
theorem sc_sum_of : FnScope ["one", "other", "found", "vertex"] ["one", "other"] (defScope s_sum_of) := ⟨rfl, rfl, rfl, by decide +kernel, rfl, by decide +kernel, by decide +kernel⟩
theorem sc_is_less_heavy : FnScope ["one", "other", "unlike"] ["one", "other"] (defScope s_is_less_heavy) := ⟨rfl, rfl, rfl, by decide +kernel, rfl, by decide +kernel, by decide +kernel⟩
theorem sc__law_graph : FnScope ["state", "most", "all_planes", "many", "dense", "edges", "one", "other", "outputs", "inputs", "planes", "vertex", "word"] ["state", "most", "all_planes"] (defScope s__law_graph) := ⟨rfl, rfl, rfl, by decide +kernel, rfl, by decide +kernel, by decide +kernel⟩
theorem sc__law_near : FnScope ["graph", "vertex", "found", "one", "other"] ["graph", "vertex"] (defScope s__law_near) := ⟨rfl, rfl, rfl, by decide +kernel, rfl, by decide +kernel, by decide +kernel⟩
theorem sc__law_odd : FnScope ["graph", "some", "found", "vertex", "one"] ["graph", "some"] (defScope s__law_odd) := ⟨rfl, rfl, rfl, by decide +kernel, rfl, by decide +kernel, by decide +kernel⟩
theorem sc_odd_set : FnScope ["graph", "some", "told", "vertex"] ["graph", "some"] (defScope s_odd_set) := ⟨rfl, rfl, rfl, by decide +kernel, rfl, by decide +kernel, by decide +kernel⟩
theorem sc_law : FnScope ["script", "state", "graph", "many", "vertex", "told", "turn", "one", "other", "both", "first", "second", "unlike"] ["script"] (defScope s_law) := ⟨rfl, rfl, rfl, by decide +kernel, rfl, by decide +kernel, by decide +kernel⟩
structure Txt (K : KF) (mg : Str → Option Value) where
  a_neighbours : Addr
  d_neighbours : FuncData
  F_neighbours : Fun K "neighbours" "neighbours" s_neighbours a_neighbours d_neighbours
  g_neighbours : mg "neighbours" = some (.ref a_neighbours)
  k_neighbours : PySem.W.keepIn K (.ref a_neighbours) = true
  b_neighbours : Binds K d_neighbours ["graph", "vertex"] []
  a_odd_set : Addr
  d_odd_set : FuncData
  F_odd_set : Fun K "odd_set" "odd_set" s_odd_set a_odd_set d_odd_set
  g_odd_set : mg "odd_set" = some (.ref a_odd_set)
  k_odd_set : PySem.W.keepIn K (.ref a_odd_set) = true
  b_odd_set : Binds K d_odd_set ["graph", "some"] []
  a_measured : Addr
  d_measured : FuncData
  F_measured : Fun K "measured" "measured" s_measured a_measured d_measured
  g_measured : mg "measured" = some (.ref a_measured)
  k_measured : PySem.W.keepIn K (.ref a_measured) = true
  b_measured : Binds K d_measured ["graph"] []
  a_sum_of : Addr
  d_sum_of : FuncData
  F_sum_of : Fun K "sum_of" "sum_of" s_sum_of a_sum_of d_sum_of
  g_sum_of : mg "sum_of" = some (.ref a_sum_of)
  k_sum_of : PySem.W.keepIn K (.ref a_sum_of) = true
  b_sum_of : Binds K d_sum_of ["one", "other"] []
  a_is_less_heavy : Addr
  d_is_less_heavy : FuncData
  F_is_less_heavy : Fun K "is_less_heavy" "is_less_heavy" s_is_less_heavy a_is_less_heavy d_is_less_heavy
  g_is_less_heavy : mg "is_less_heavy" = some (.ref a_is_less_heavy)
  k_is_less_heavy : PySem.W.keepIn K (.ref a_is_less_heavy) = true
  b_is_less_heavy : Binds K d_is_less_heavy ["one", "other"] []
  a__law_state : Addr
  d__law_state : FuncData
  F__law_state : Fun K "_law_state" "_law_state" s__law_state a__law_state d__law_state
  g__law_state : mg "_law_state" = some (.ref a__law_state)
  k__law_state : PySem.W.keepIn K (.ref a__law_state) = true
  b__law_state : Binds K d__law_state ["script"] []
  a__law_draw : Addr
  d__law_draw : FuncData
  F__law_draw : Fun K "_law_draw" "_law_draw" s__law_draw a__law_draw d__law_draw
  g__law_draw : mg "_law_draw" = some (.ref a__law_draw)
  k__law_draw : PySem.W.keepIn K (.ref a__law_draw) = true
  b__law_draw : Binds K d__law_draw ["state", "many"] []
  a__law_graph : Addr
  d__law_graph : FuncData
  F__law_graph : Fun K "_law_graph" "_law_graph" s__law_graph a__law_graph d__law_graph
  g__law_graph : mg "_law_graph" = some (.ref a__law_graph)
  k__law_graph : PySem.W.keepIn K (.ref a__law_graph) = true
  b__law_graph : Binds K d__law_graph ["state", "most", "all_planes"] []
  a__law_path : Addr
  d__law_path : FuncData
  F__law_path : Fun K "_law_path" "_law_path" s__law_path a__law_path d__law_path
  g__law_path : mg "_law_path" = some (.ref a__law_path)
  k__law_path : PySem.W.keepIn K (.ref a__law_path) = true
  b__law_path : Binds K d__law_path ["state", "most"] []
  a__law_near : Addr
  d__law_near : FuncData
  F__law_near : Fun K "_law_near" "_law_near" s__law_near a__law_near d__law_near
  g__law_near : mg "_law_near" = some (.ref a__law_near)
  k__law_near : PySem.W.keepIn K (.ref a__law_near) = true
  b__law_near : Binds K d__law_near ["graph", "vertex"] []
  a__law_odd : Addr
  d__law_odd : FuncData
  F__law_odd : Fun K "_law_odd" "_law_odd" s__law_odd a__law_odd d__law_odd
  g__law_odd : mg "_law_odd" = some (.ref a__law_odd)
  k__law_odd : PySem.W.keepIn K (.ref a__law_odd) = true
  b__law_odd : Binds K d__law_odd ["graph", "some"] []
  a_law : Addr
  d_law : FuncData
  F_law : Fun K "law" "law" s_law a_law d_law
  g_law : mg "law" = some (.ref a_law)
  k_law : PySem.W.keepIn K (.ref a_law) = true
  b_law : Binds K d_law ["script"] []
  n_abs : mg "abs" = none
  n_bool : mg "bool" = none
  n_int : mg "int" = none
  n_isinstance : mg "isinstance" = none
  n_len : mg "len" = none
  n_range : mg "range" = none
  n_sorted : mg "sorted" = none
  n_tuple : mg "tuple" = none
def m_neighbours (graph0 : (Int × (List (Int × Int)) × (List Int) × (List Int) × (List Str))) (vertex0 : Int) : Option (List Int) := letM ((graph0.2.1.filter fun (it0 : (Int × Int)) => (decide (it0.1 = vertex0))).map fun (it0 : (Int × Int)) => it0.2) fun found0 => guardM (found0.length + ((graph0.2.1.filter fun (it1 : (Int × Int)) => (decide (it1.2 = vertex0))).map fun (it1 : (Int × Int)) => it1.1).length ≤ Line) (some ((sortI (found0 ++ ((graph0.2.1.filter fun (it1 : (Int × Int)) => (decide (it1.2 = vertex0))).map fun (it1 : (Int × Int)) => it1.1)))))
def m_measured (graph0 : (Int × (List (Int × Int)) × (List Int) × (List Int) × (List Str))) : Option (List Int) := guardM (graph0.1.natAbs ≤ Line) (some (((rangeL 0 graph0.1.toNat).filter fun (vertex0 : Int) => (!decide (vertex0 ∈ graph0.2.2.2.1)))))
def m_sum_of (one0 : (List Int)) (other0 : (List Int)) : Option (List Int) := letM (one0.filter fun (vertex0 : Int) => (!decide (vertex0 ∈ other0))) fun found0 => guardM (found0.length + (other0.filter fun (vertex1 : Int) => (!decide (vertex1 ∈ one0))).length ≤ Line) (some ((sortI (found0 ++ (other0.filter fun (vertex1 : Int) => (!decide (vertex1 ∈ one0)))))))
def m_is_less_heavy (one0 : (List Int)) (other0 : (List Int)) : Option Bool := (m_sum_of one0 other0).bind fun z0 => letM z0 fun unlike0 => (if (decide ((0 : Int) < (unlike0.length : Int))) = true then (atI unlike0 (0 : Int)).bind fun z1 => some ((decide (z1 ∈ other0)), ()) else some (false, ())).bind fun z2 => some (z2.1)
def m_law_graph (most0 : Int) (all_planes0 : Bool) (s : Rs) : Option ((Int × (List (Int × Int)) × (List Int) × (List Int) × (List Str)) × Rs) := (drawR most0 s).bind fun z0 => letM ((1 : Int) + z0.1) fun many0 => (drawR (3 : Int) z0.2).bind fun z1 => (atI [(2 : Int), (3 : Int), (5 : Int)] z1.1).bind fun z2 => letM z2 fun dense0 => letM ([] : List (Int × Int)) fun edges0 => guardM (many0.natAbs ≤ Line) (((rangeL 0 many0.toNat).foldlM (fun (w0 : (List (Int × Int)) × Rs) (one0 : Int) => guardM ((one0 + (1 : Int)).natAbs ≤ Line ∧ many0.natAbs ≤ Line ∧ many0 - (one0 + (1 : Int)) ≤ (Line : Int)) (((rangeL (one0 + (1 : Int)) (many0 - (one0 + (1 : Int))).toNat).foldlM (fun (w2 : (List (Int × Int)) × Rs) (other0 : Int) => (drawR dense0 w2.2).bind fun z3 => (if (decide (z3.1 = (0 : Int))) = true then guardM (w2.1.length < Line) (letM (w2.1 ++ [(one0, other0)]) fun edges1 => some ((edges1, z3.2))) else some ((w2.1, z3.2))).bind fun (w4 : (List (Int × Int)) × Rs) => some ((w4.1, w4.2))) (w0.1, w0.2)).bind fun w3 => some ((w3.1, w3.2)))) (edges0, z1.2)).bind fun w1 => guardM (many0.natAbs ≤ Line) ((compM (fun (vertex0 : Int) s0 => (drawR (3 : Int) s0).bind fun z4 => (if (decide (z4.1 = (0 : Int))) = true then some (true, z4.2) else (if (decide (vertex0 = (many0 - (1 : Int)))) = true then (drawR (8 : Int) z4.2).bind fun z5 => some ((decide ((0 : Int) < z5.1)), z5.2) else some (false, z4.2)).bind fun z6 => some (z6.1, z6.2)).bind fun z7 => if z7.1 = true then some (some vertex0, z7.2) else some (none, z7.2)) (rangeL 0 many0.toNat) w1.2).bind fun z8 => letM z8.1 fun outputs0 => guardM (many0.natAbs ≤ Line) ((compM (fun (vertex1 : Int) s1 => (drawR (4 : Int) s1).bind fun z9 => if (decide (z9.1 = (0 : Int))) = true then some (some vertex1, z9.2) else some (none, z9.2)) (rangeL 0 many0.toNat) z8.2).bind fun z10 => letM z10.1 fun inputs0 => letM ([] : List Str) fun planes0 => guardM (many0.natAbs ≤ Line) (((rangeL 0 many0.toNat).foldlM (fun (w5 : (List Str) × Rs) (vertex2 : Int) => (if all_planes0 = true then (drawR (4 : Int) w5.2).bind fun z11 => (atI [("XY" : Str), ("XY" : Str), ("XZ" : Str), ("YZ" : Str)] z11.1).bind fun z12 => some (z12, z11.2) else some (("XY" : Str), w5.2)).bind fun z13 => letM z13.1 fun word0 => guardM (w5.1.length < Line) (letM (w5.1 ++ [(if (decide (vertex2 ∈ outputs0)) = true then ("" : Str) else (if (decide (vertex2 ∈ inputs0)) = true then ("XY" : Str) else word0))]) fun planes1 => some ((planes1, z13.2)))) (planes0, z10.2)).bind fun w6 => some (((many0, w1.1, inputs0, outputs0, w6.1), w6.2))))))
def m_law_near (graph0 : (Int × (List (Int × Int)) × (List Int) × (List Int) × (List Str))) (vertex0 : Int) : Option (List Int) := letM ((graph0.2.1.filter fun (it0 : (Int × Int)) => (decide (it0.1 = vertex0))).map fun (it0 : (Int × Int)) => it0.2) fun found0 => guardM (found0.length + ((graph0.2.1.filter fun (it1 : (Int × Int)) => (decide (it1.2 = vertex0))).map fun (it1 : (Int × Int)) => it1.1).length ≤ Line) (some ((sortI (found0 ++ ((graph0.2.1.filter fun (it1 : (Int × Int)) => (decide (it1.2 = vertex0))).map fun (it1 : (Int × Int)) => it1.1)))))
def m_law_odd (graph0 : (Int × (List (Int × Int)) × (List Int) × (List Int) × (List Str))) (some0 : (List Int)) : Option (List Int) := letM ([] : List Int) fun found0 => guardM (graph0.1.natAbs ≤ Line) (((rangeL 0 graph0.1.toNat).foldlM (fun (w0 : (List Int)) (vertex0 : Int) => (m_law_near graph0 vertex0).bind fun z0 => guardM ((2 : Int) ≠ 0) ((if (decide ((((z0.filter fun (one0 : Int) => (decide (one0 ∈ some0))).length : Int).fmod (2 : Int)) = (1 : Int))) = true then guardM (w0.length < Line) (letM (w0 ++ [vertex0]) fun found1 => some (found1)) else some (w0)).bind fun (w2 : (List Int)) => some (w2))) found0).bind fun w1 => some (w1))
def m_odd_set (graph0 : (Int × (List (Int × Int)) × (List Int) × (List Int) × (List Str))) (some0 : (List Int)) : Option (List Int) := letM ([] : List Int) fun told0 => (some0.foldlM (fun (w0 : (List Int)) (vertex0 : Int) => (m_neighbours graph0 vertex0).bind fun z0 => (m_sum_of w0 z0).bind fun z1 => letM z1 fun told1 => some (told1)) told0).bind fun w1 => some (w1)
def m_law (s : Rs) : Option (Bool × Rs) := (m_law_graph (24 : Int) true s).bind fun z0 => letM z0.1 fun graph0 => letM graph0.1 fun many0 => guardM (many0.natAbs ≤ Line) ((forE (W := Rs) (R := (Bool × Rs)) (fun (w0 : Rs) (vertex0 : Int) => (m_neighbours graph0 vertex0).bind fun z1 => letM z1 fun told0 => (if (!true) = true then some (true, w0) else (m_law_near graph0 vertex0).bind fun z2 => some ((!decide (told0 = z2)), w0)).bind fun z3 => if z3.1 = true then Option.map Fl.ret (some ((false, z3.2))) else some (Fl.next z3.2)) (rangeL 0 many0.toNat) z0.2).bind (flK (W := Rs) (Rr := (Bool × Rs)) (fun w1 => (m_measured graph0).bind fun z4 => letM z4 fun told1 => (if (!true) = true then some (true, w1) else guardM (many0.natAbs ≤ Line) (some ((!decide (told1 = ((rangeL 0 many0.toNat).filter fun (vertex1 : Int) => (!decide (vertex1 ∈ graph0.2.2.2.1))))), w1))).bind fun z5 => if z5.1 = true then some ((false, z5.2)) else guardM ((6 : Int).natAbs ≤ Line) ((forE (W := Rs) (R := (Bool × Rs)) (fun (w2 : Rs) (turn0 : Int) => guardM (many0.natAbs ≤ Line) ((compM (fun (vertex2 : Int) s1 => (drawR (2 : Int) s1).bind fun z6 => if (decide (z6.1 = (0 : Int))) = true then some (some vertex2, z6.2) else some (none, z6.2)) (rangeL 0 many0.toNat) w2).bind fun z7 => letM z7.1 fun one0 => guardM (many0.natAbs ≤ Line) ((compM (fun (vertex3 : Int) s2 => (drawR (3 : Int) s2).bind fun z8 => if (decide (z8.1 = (0 : Int))) = true then some (some vertex3, z8.2) else some (none, z8.2)) (rangeL 0 many0.toNat) z7.2).bind fun z9 => letM z9.1 fun other0 => guardM (many0.natAbs ≤ Line) (letM ((rangeL 0 many0.toNat).filter fun (vertex4 : Int) => (!decide ((decide (vertex4 ∈ one0)) = (decide (vertex4 ∈ other0))))) fun both0 => (m_odd_set graph0 one0).bind fun z10 => letM z10 fun told2 => (if (!true) = true then some (true, z9.2) else (m_law_odd graph0 one0).bind fun z11 => some ((!decide (told2 = z11)), z9.2)).bind fun z12 => if z12.1 = true then Option.map Fl.ret (some ((false, z12.2))) else (m_sum_of one0 other0).bind fun z13 => (if (!decide (z13 = both0)) = true then some (true, z12.2) else (m_sum_of one0 other0).bind fun z14 => (if (!true) = true then some (true, z12.2) else (m_odd_set graph0 other0).bind fun z15 => (m_sum_of told2 z15).bind fun z16 => (m_odd_set graph0 both0).bind fun z17 => some ((!decide (z16 = z17)), z12.2)).bind fun z18 => some (z18.1, z18.2)).bind fun z19 => if z19.1 = true then Option.map Fl.ret (some ((false, z19.2))) else (forE (W := Rs) (R := (Bool × Rs)) (fun (w4 : Rs) (it0 : ((List Int) × (List Int))) => guardM (many0.natAbs ≤ Line) (letM ((rangeL 0 many0.toNat).filter fun (vertex5 : Int) => (!decide ((decide (vertex5 ∈ it0.1)) = (decide (vertex5 ∈ it0.2))))) fun unlike0 => (m_is_less_heavy it0.1 it0.2).bind fun z20 => letM z20 fun told3 => (if (!true) = true then some (true, w4) else (if (decide ((0 : Int) < (unlike0.length : Int))) = true then (atI unlike0 (0 : Int)).bind fun z21 => some ((decide (z21 ∈ it0.2)), w4) else some (false, w4)).bind fun z22 => some ((!decide (told3 = z22.1)), z22.2)).bind fun z23 => if z23.1 = true then Option.map Fl.ret (some ((false, z23.2))) else some (Fl.next z23.2))) [(one0, other0), (other0, one0), (one0, one0), (one0, both0)] z19.2).bind (flK (W := Rs) (Rr := (Bool × Rs)) (fun w5 => some (Fl.next w5)) (fun r => Fl.ret r)))))) (rangeL 0 (6 : Int).toNat) z5.2).bind (flK (W := Rs) (Rr := (Bool × Rs)) (fun w3 => some ((true, w3))) (fun r => r)))) (fun r => r)))
section
variable {Pg : Program} {w : World} {K : KF} {mg : Str → Option Value} {base : Heap}
theorem ok__law_draw (T : Txt K mg) : FnOk Pg w K mg base CX0 1 T.a__law_draw T.d__law_draw ["state", "many"] (spS K 1 (io1 rtR 0) (fun n : Int × Unit => [PyData.int n.1]) (fun n s => drawR n.1 s) Ty.int) := by
  refine T.F__law_draw.ok sc__law_draw (fun vs H Q E' h => ?_) (fun cdv A outer s H vs Q E' hr h => ?_)
  · obtain ⟨p, s, c, s', Hf, As, _, hl, _⟩ := h
    rw [hl]; rfl
  · have pv : ∀ {X : Cx} (i : Nat) {x : Str} {p : Pos}, X.N[i]? = some x → Vis X.env.scope x → (x == ("__debug__" : Str)) = false → (x == ("__classdict__" : Str)) = false → PE X (.Name x p) (tVar i) := fun i _ _ h1 h2 h3 h4 => pe_var h1 h2 h3 h4
    refine ⟨_, pss_cons (ps_set (i := 2) sc__law_draw.nd rfl (.inl rfl) (pe_ix L2.ix_list (pv 0 rfl (.inl rfl) rfl rfl) pe_int (fun _ _ => rfl)))
      (pss_cons (ps_while PassesOwn.never (pw_and (pt_cmpR op_gt (pe_callB call_len (by rfl) T.n_len Bo.len (pa_cons (pv 2 rfl (.inl rfl) rfl rfl) pa_nil)) pe_int (nomark _)) (pw_and1 (pt_cmpR op_eq (pe_ix L2.ix_list (pv 2 rfl (.inl rfl) rfl rfl) pe_int (fun _ _ => rfl)) pe_int (nomark _)))).pt
        (pss_one (ps_expr (pe_bm PySem.F.plainAttrs_list PySem.F.slot_list_pop PySem.F.type_list_pop mt_popAt (pv 2 rfl (.inl rfl) rfl rfl) (pa_cons pe_int pa_nil)))))
      (pss_cons (ps_if (pt_cmpR op_gt (pe_callB call_len (by rfl) T.n_len Bo.len (pa_cons (pv 2 rfl (.inl rfl) rfl rfl) pa_nil)) pe_int (nomark _))
        (pss_cons (ps_set (i := 3) sc__law_draw.nd rfl (.inl rfl) (pe_ix L2.ix_list (pv 2 rfl (.inl rfl) rfl rfl) pe_int (fun _ _ => rfl)))
        (pss_cons (ps_asg (pe_op op_fdivN (pv 3 rfl (.inl rfl) rfl rfl) (pv 1 rfl (.inl rfl) rfl rfl)) (pg_sub (pv 2 rfl (.inl rfl) rfl rfl) pe_int set_list))
        (pss_one (ps_ret (pe_op op_modN (pe_callTy call_int1 (by rfl) T.n_int Bo.int (pa_cons (pv 3 rfl (.inl rfl) rfl rfl) pa_nil)) (pv 1 rfl (.inl rfl) rfl rfl))))))
        pss_nil)
      (pss_cons (ps_set (i := 4) sc__law_draw.nd rfl (.inl rfl) (pe_op op_modN (pe_callTy call_int1 (by rfl) T.n_int Bo.int (pa_cons (pe_op op_add (pe_op op_mul (pe_ix L2.ix_list (pv 0 rfl (.inl rfl) rfl rfl) pe_int (fun _ _ => rfl)) pe_int) pe_int) pa_nil)) pe_int))
      (pss_cons (ps_asg (pv 4 rfl (.inl rfl) rfl rfl) (pg_sub (pv 0 rfl (.inl rfl) rfl rfl) pe_int set_list))
      (pss_one (ps_ret (pe_op op_modN (pe_callTy call_int1 (by rfl) T.n_int Bo.int (pa_cons (pe_op op_fdivN (pv 4 rfl (.inl rfl) rfl rfl) pe_int) pa_nil)) (pv 1 rfl (.inl rfl) rfl rfl)))))))), draw_pure h⟩
theorem ok__law_state (T : Txt K mg) : FnOk Pg w K mg base CX0 1 T.a__law_state T.d__law_state ["script"] (spSt K) := by
  refine T.F__law_state.ok sc__law_state (fun vs H Q E' h => ?_) (fun cdv A outer s H vs Q E' hr h => ?_)
  · obtain ⟨a, ns, rfl, _⟩ := h
    rfl
  · have pv : ∀ {X : Cx} (i : Nat) {x : Str} {p : Pos}, X.N[i]? = some x → Vis X.env.scope x → (x == ("__debug__" : Str)) = false → (x == ("__classdict__" : Str)) = false → PE X (.Name x p) (tVar i) := fun i _ _ h1 h2 h3 h4 => pe_var h1 h2 h3 h4
    refine ⟨_, pss_cons (ps_set (i := 1) sc__law_state.nd rfl (.inl rfl) pe_int)
      (pss_cons (ps_for PassesOwn.never rfl (pi_list (pv 0 rfl (.inl rfl) rfl rfl)) (pg_name (i := 2) sc__law_state.nd rfl (.inl rfl))
        (pss_one (ps_set (i := 1) sc__law_state.nd rfl (.inl rfl) (pe_op op_modN (pe_callTy call_int1 (by rfl) T.n_int Bo.int (pa_cons (pe_op op_add (pe_op op_mul (pv 1 rfl (.inl rfl) rfl rfl) pe_int) (pv 2 rfl (.inl rfl) rfl rfl)) pa_nil)) pe_int))))
      (pss_one (ps_ret (pe_lst (pa_cons (pe_lc (own := [("cell", 2)]) rfl sc__law_state.nd (pi_list (pv 0 rfl (.inl rfl) rfl rfl)) (blkOk_by (by kernel_rfl)) (fun _ _ _ _ _ => pg_name (i := 2) sc__law_state.nd rfl (.inl rfl)) (fun _ _ _ _ _ => pts_nil) (fun _ _ _ _ _ => pe_callB call_abs (by rfl) T.n_abs Bo.abs (pa_cons (pv 2 rfl (.inl rfl) rfl rfl) pa_nil)) (fun _ => rfl)) (pa_cons (pe_op op_add (pv 1 rfl (.inl rfl) rfl rfl) pe_int) pa_nil)))))), state_pure h⟩
theorem ok_neighbours (T : Txt K mg) : FnOk Pg w K mg base CX0 1 T.a_neighbours T.d_neighbours ["graph", "vertex"] (spP K (fun p : (Int × (List (Int × Int)) × (List Int) × (List Int) × (List Str)) × Int × Unit => [(Ty.p5 Ty.int (Ty.tup (Ty.p2 Ty.int Ty.int)) (Ty.tup Ty.int) (Ty.tup Ty.int) (Ty.tup Ty.str)) p.1, Ty.int p.2.1]) (fun p => m_neighbours p.1 p.2.1) (Ty.tup Ty.int)) := by
  refine fn_pure T.F_neighbours sc_neighbours (fun _ => rfl) (fun p cdv A outer s H E' hr => ?_)
  obtain ⟨graph0, vertex0, _⟩ := p
  refine BX_to (m' := m_neighbours graph0 vertex0) (bx_setLcL (E := Ty.int) 2 (lo_compF (own := [("one", 3), ("other", 4)]) (kx := [4, 3]) sc_neighbours.nd (it_tup (ex_prj (Ea := (Ty.p5 Ty.int (Ty.tup (Ty.p2 Ty.int Ty.int)) (Ty.tup Ty.int) (Ty.tup Ty.int) (Ty.tup Ty.str))) (Eb := (Ty.tup (Ty.p2 Ty.int Ty.int))) (fun g : (Int × (List (Int × Int)) × (List Int) × (List Int) × (List Str)) => g.2.1) (fun _ => rfl) (fun _ => rfl) (ex_var (E := (Ty.p5 Ty.int (Ty.tup (Ty.p2 Ty.int Ty.int)) (Ty.tup Ty.int) (Ty.tup Ty.int) (Ty.tup Ty.str))) (a := graph0) 0 rfl))) (fun _ _ _ _ _ => gx_tup (E := (Ty.p2 Ty.int Ty.int)) (F := fun x => [Ty.int x.1, Ty.int x.2]) (gxs_cons (GX.map (F := Ty.int) (E := fun x : (Int × Int) => Ty.int x.1) (gx_name 3 sc_neighbours.nd) (fun x : (Int × Int) => x.1) (fun _ => rfl)) (gxs_cons (GX.map (F := Ty.int) (E := fun x : (Int × Int) => Ty.int x.2) (gx_name 4 sc_neighbours.nd) (fun x : (Int × Int) => x.2) (fun _ => rfl)) gxs_nil)) (fun _ => rfl) (fun _ => rfl)) (fun _ _ _ _ _ it0 _ => (tx_eq hr Eqn.int (ex_var (E := Ty.int) (a := it0.1) 3 rfl) (fun _ => (ex_var (E := Ty.int) (a := vertex0) 1 rfl)))) (fun _ _ _ _ _ it0 _ => (ex_var (E := Ty.int) (a := it0.2) 4 rfl))) (fun found0 q0 => (bx_ret (E := (Ty.tup Ty.int)) (k := fun x q => x) (ex_tupleL T.n_tuple (ex_sortI T.n_sorted (ex_catL (ex_var (E := (Ty.lst Ty.int)) (a := found0) 2 rfl) (fun _ => (EO.ex (LO.eo (lo_compF (own := [("one", 3), ("other", 4)]) (kx := [4, 3]) sc_neighbours.nd (it_tup (ex_prj (Ea := (Ty.p5 Ty.int (Ty.tup (Ty.p2 Ty.int Ty.int)) (Ty.tup Ty.int) (Ty.tup Ty.int) (Ty.tup Ty.str))) (Eb := (Ty.tup (Ty.p2 Ty.int Ty.int))) (fun g : (Int × (List (Int × Int)) × (List Int) × (List Int) × (List Str)) => g.2.1) (fun _ => rfl) (fun _ => rfl) (ex_var (E := (Ty.p5 Ty.int (Ty.tup (Ty.p2 Ty.int Ty.int)) (Ty.tup Ty.int) (Ty.tup Ty.int) (Ty.tup Ty.str))) (a := graph0) 0 rfl))) (fun _ _ _ _ _ => gx_tup (E := (Ty.p2 Ty.int Ty.int)) (F := fun x => [Ty.int x.1, Ty.int x.2]) (gxs_cons (GX.map (F := Ty.int) (E := fun x : (Int × Int) => Ty.int x.1) (gx_name 3 sc_neighbours.nd) (fun x : (Int × Int) => x.1) (fun _ => rfl)) (gxs_cons (GX.map (F := Ty.int) (E := fun x : (Int × Int) => Ty.int x.2) (gx_name 4 sc_neighbours.nd) (fun x : (Int × Int) => x.2) (fun _ => rfl)) gxs_nil)) (fun _ => rfl) (fun _ => rfl)) (fun _ _ _ _ _ it1 _ => (tx_eq hr Eqn.int (ex_var (E := Ty.int) (a := it1.2) 4 rfl) (fun _ => (ex_var (E := Ty.int) (a := vertex0) 1 rfl)))) (fun _ _ _ _ _ it1 _ => (ex_var (E := Ty.int) (a := it1.1) 3 rfl))))))))) (fun _ _ => rfl)))) ?_
  rfl
theorem ok_measured (T : Txt K mg) : FnOk Pg w K mg base CX0 1 T.a_measured T.d_measured ["graph"] (spP K (fun p : (Int × (List (Int × Int)) × (List Int) × (List Int) × (List Str)) × Unit => [(Ty.p5 Ty.int (Ty.tup (Ty.p2 Ty.int Ty.int)) (Ty.tup Ty.int) (Ty.tup Ty.int) (Ty.tup Ty.str)) p.1]) (fun p => m_measured p.1) (Ty.tup Ty.int)) := by
  refine fn_pure T.F_measured sc_measured (fun _ => rfl) (fun p cdv A outer s H E' hr => ?_)
  obtain ⟨graph0, _⟩ := p
  refine BX_to (m' := m_measured graph0) (bx_ret (E := (Ty.tup Ty.int)) (k := fun x q => x) (ex_tupleL T.n_tuple (EO.ex (LO.eo (lo_compI (own := [("vertex", 1)]) sc_measured.nd (it_range1 T.n_range (ex_prj (Ea := (Ty.p5 Ty.int (Ty.tup (Ty.p2 Ty.int Ty.int)) (Ty.tup Ty.int) (Ty.tup Ty.int) (Ty.tup Ty.str))) (Eb := Ty.int) (fun g : (Int × (List (Int × Int)) × (List Int) × (List Int) × (List Str)) => g.1) (fun _ => rfl) (fun _ => rfl) (ex_var (E := (Ty.p5 Ty.int (Ty.tup (Ty.p2 Ty.int Ty.int)) (Ty.tup Ty.int) (Ty.tup Ty.int) (Ty.tup Ty.str))) (a := graph0) 0 rfl))) (fun _ _ _ _ _ => gx_name 1 sc_measured.nd) (fun _ _ _ _ _ vertex0 _ => (tx_notInT hr Eqn.int (ex_var (E := Ty.int) (a := vertex0) 1 rfl) (fun _ => (ex_prj (Ea := (Ty.p5 Ty.int (Ty.tup (Ty.p2 Ty.int Ty.int)) (Ty.tup Ty.int) (Ty.tup Ty.int) (Ty.tup Ty.str))) (Eb := (Ty.tup Ty.int)) (fun g : (Int × (List (Int × Int)) × (List Int) × (List Int) × (List Str)) => g.2.2.2.1) (fun _ => rfl) (fun _ => rfl) (ex_var (E := (Ty.p5 Ty.int (Ty.tup (Ty.p2 Ty.int Ty.int)) (Ty.tup Ty.int) (Ty.tup Ty.int) (Ty.tup Ty.str))) (a := graph0) 0 rfl))))) (fun _ _ _ _ _ vertex0 _ => (ex_var (E := Ty.int) (a := vertex0) 1 rfl)))))) (fun _ _ => rfl)) ?_
  rfl
theorem ok_sum_of (T : Txt K mg) : FnOk Pg w K mg base CX0 1 T.a_sum_of T.d_sum_of ["one", "other"] (spP K (fun p : (List Int) × (List Int) × Unit => [(Ty.tup Ty.int) p.1, (Ty.tup Ty.int) p.2.1]) (fun p => m_sum_of p.1 p.2.1) (Ty.tup Ty.int)) := by
  refine fn_pure T.F_sum_of sc_sum_of (fun _ => rfl) (fun p cdv A outer s H E' hr => ?_)
  obtain ⟨one0, other0, _⟩ := p
  refine BX_to (m' := m_sum_of one0 other0) (bx_setLcL (E := Ty.int) 2 (lo_compI (own := [("vertex", 3)]) sc_sum_of.nd (it_tup (ex_var (E := (Ty.tup Ty.int)) (a := one0) 0 rfl)) (fun _ _ _ _ _ => gx_name 3 sc_sum_of.nd) (fun _ _ _ _ _ vertex0 _ => (tx_notInT hr Eqn.int (ex_var (E := Ty.int) (a := vertex0) 3 rfl) (fun _ => (ex_var (E := (Ty.tup Ty.int)) (a := other0) 1 rfl)))) (fun _ _ _ _ _ vertex0 _ => (ex_var (E := Ty.int) (a := vertex0) 3 rfl))) (fun found0 q0 => (bx_ret (E := (Ty.tup Ty.int)) (k := fun x q => x) (ex_tupleL T.n_tuple (ex_sortI T.n_sorted (ex_catL (ex_var (E := (Ty.lst Ty.int)) (a := found0) 2 rfl) (fun _ => (EO.ex (LO.eo (lo_compI (own := [("vertex", 3)]) sc_sum_of.nd (it_tup (ex_var (E := (Ty.tup Ty.int)) (a := other0) 1 rfl)) (fun _ _ _ _ _ => gx_name 3 sc_sum_of.nd) (fun _ _ _ _ _ vertex1 _ => (tx_notInT hr Eqn.int (ex_var (E := Ty.int) (a := vertex1) 3 rfl) (fun _ => (ex_var (E := (Ty.tup Ty.int)) (a := one0) 0 rfl)))) (fun _ _ _ _ _ vertex1 _ => (ex_var (E := Ty.int) (a := vertex1) 3 rfl))))))))) (fun _ _ => rfl)))) ?_
  rfl
theorem ok_is_less_heavy (T : Txt K mg) : FnOk Pg w K mg base CX0 2 T.a_is_less_heavy T.d_is_less_heavy ["one", "other"] (spP K (fun p : (List Int) × (List Int) × Unit => [(Ty.tup Ty.int) p.1, (Ty.tup Ty.int) p.2.1]) (fun p => m_is_less_heavy p.1 p.2.1) Ty.bool) := by
  refine fn_pure T.F_is_less_heavy sc_is_less_heavy (fun _ => rfl) (fun p cdv A outer s H E' hr => ?_)
  obtain ⟨one0, other0, _⟩ := p
  refine BX_to (m' := m_is_less_heavy one0 other0) (bx_setL (E := (Ty.tup Ty.int)) 2 sc_is_less_heavy.nd (ex_call (ok_sum_of T) (hr.mono (by decide)) T.g_sum_of T.k_sum_of T.b_sum_of (ax_cons (E := (Ty.tup Ty.int)) (F := (fun q : (List Int) × Unit => [(Ty.tup Ty.int) q.1])) (ex_var (E := (Ty.tup Ty.int)) (a := one0) 0 rfl) (fun _ => (ax_cons (E := (Ty.tup Ty.int)) (F := (fun q : Unit => [])) (ex_var (E := (Ty.tup Ty.int)) (a := other0) 1 rfl) (fun _ => ax_nil))))) (fun unlike0 q0 => (bx_ret (E := Ty.bool) (k := fun x q => x) (ex_and (ex_gt (ex_lenT T.n_len (ex_var (E := (Ty.tup Ty.int)) (a := unlike0) 2 rfl)) (fun _ => ex_int)) (fun _ => (ex_one (ex_inT hr Eqn.int (ex_ixT (ex_var (E := (Ty.tup Ty.int)) (a := unlike0) 2 rfl) (fun _ => ex_int)) (fun _ => (ex_var (E := (Ty.tup Ty.int)) (a := other0) 1 rfl)))))) (fun _ _ => rfl)))) ?_
  rfl
theorem ok__law_graph (T : Txt K mg) : FnOk Pg w K mg base CX0 2 T.a__law_graph T.d__law_graph ["state", "most", "all_planes"] (spS K 1 (io1 rtR 0) (fun p : Int × Bool × Unit => [Ty.int p.1, Ty.bool p.2.1]) (fun p s => m_law_graph p.1 p.2.1 s) (Ty.p5 Ty.int (Ty.tup (Ty.p2 Ty.int Ty.int)) (Ty.tup Ty.int) (Ty.tup Ty.int) (Ty.tup Ty.str))) := by
  refine fn_state T.F__law_graph sc__law_graph (fun _ => rfl) (fun p s cdv A outer sh H E' hr => ?_)
  obtain ⟨most0, all_planes0, _⟩ := p
  refine BX_to (m' := m_law_graph most0 all_planes0 s) (bx_setL (E := Ty.int) 3 sc__law_graph.nd (ex_add ex_int (fun _ => (ex_callS (ok__law_draw T) (hr.mono (by decide)) T.g__law_draw T.k__law_draw T.b__law_draw (ax_cons (E := Ty.int) (F := (fun q : Unit => [])) (ex_var (E := Ty.int) (a := most0) 1 rfl) (fun _ => ax_nil))))) (fun many0 q0 => (bx_setL (E := Ty.int) 4 sc__law_graph.nd (ex_ixL (EO.ex (eo_lst (E := Ty.int) (al_cons (E := Ty.int) ex_int (fun _ => (al_cons (E := Ty.int) ex_int (fun _ => (al_cons (E := Ty.int) ex_int (fun _ => (al_nil (E := Ty.int)))))))))) (fun _ => (ex_callS (ok__law_draw T) (hr.mono (by decide)) T.g__law_draw T.k__law_draw T.b__law_draw (ax_cons (E := Ty.int) (F := (fun q : Unit => [])) ex_int (fun _ => ax_nil))))) (fun dense0 q1 => (bx_setOL (E := (Ty.p2 Ty.int Ty.int)) 5 sc__law_graph.nd (eo_lst (E := (Ty.p2 Ty.int Ty.int)) (al_nil (E := (Ty.p2 Ty.int Ty.int)))) (fun edges0 q2 => (bx_for (W := (List (Int × Int)) × Rs) (fun w0 : (List (Int × Int)) × Rs => [ov 5 (Ty.p2 Ty.int Ty.int) w0.1, iv 4 Ty.int dense0, iv 3 Ty.int many0, iv 2 Ty.bool all_planes0]) (fun w0 : (List (Int × Int)) × Rs => w0.2) (w0 := (fun q => (edges0, q))) (it_range1 T.n_range (ex_var (E := Ty.int) (a := many0) 3 rfl)) (gx_name 6 sc__law_graph.nd) (fun _ => rfl) (fun _ => (le_cons rfl (le_cons rfl (le_cons rfl (le_cons rfl le_nil))))) (fun w0 one0 => (bx_for (W := (List (Int × Int)) × Rs) (fun w2 : (List (Int × Int)) × Rs => [iv 6 Ty.int one0, ov 5 (Ty.p2 Ty.int Ty.int) w2.1, iv 4 Ty.int dense0, iv 3 Ty.int many0, iv 2 Ty.bool all_planes0]) (fun w2 : (List (Int × Int)) × Rs => w2.2) (w0 := (fun q => (w0.1, q))) (it_range2 T.n_range (ex_add (ex_var (E := Ty.int) (a := one0) 6 rfl) (fun _ => ex_int)) (fun _ => (ex_var (E := Ty.int) (a := many0) 3 rfl))) (gx_name 7 sc__law_graph.nd) (fun _ => rfl) (fun _ => (le_cons rfl (le_cons rfl (le_cons rfl (le_cons rfl (le_cons rfl le_nil)))))) (fun w2 other0 => (bx_if (W := (List (Int × Int)) × Rs) (fun w4 : (List (Int × Int)) × Rs => [iv 6 Ty.int one0, ov 5 (Ty.p2 Ty.int Ty.int) w4.1, iv 4 Ty.int dense0, iv 3 Ty.int many0, iv 2 Ty.bool all_planes0]) (fun w4 : (List (Int × Int)) × Rs => w4.2) (tx_eq hr Eqn.int (ex_callS (ok__law_draw T) (hr.mono (by decide)) T.g__law_draw T.k__law_draw T.b__law_draw (ax_cons (E := Ty.int) (F := (fun q : Unit => [])) (ex_var (E := Ty.int) (a := dense0) 4 rfl) (fun _ => ax_nil))) (fun _ => ex_int)) (fun q3 => (bx_append (E := (Ty.p2 Ty.int Ty.int)) (l := w2.1) 5 rfl (ex_tup (E := (Ty.p2 Ty.int Ty.int)) (ax_cons (E := Ty.int) (F := (fun q : Int => [Ty.int q])) (ex_var (E := Ty.int) (a := one0) 6 rfl) (fun _ => (ax_one (E := Ty.int) (ex_var (E := Ty.int) (a := other0) 7 rfl)))) (fun _ => rfl) (fun _ => Nat.le_of_ble_eq_true rfl)) (fun edges1 q4 => (bx_nil (r := (edges1, q4)) rfl (le_cons rfl (le_cons rfl (le_cons rfl (le_cons rfl (le_cons rfl le_nil))))))))) (fun q3 => (bx_nil (r := (w2.1, q3)) rfl (le_cons rfl (le_cons rfl (le_cons rfl (le_cons rfl (le_cons rfl le_nil))))))) (fun w4 => (bx_nil (r := (w4.1, w4.2)) rfl (le_cons rfl (le_cons rfl (le_cons rfl (le_cons rfl (le_cons rfl le_nil))))))))) (fun w3 => (bx_nil (r := (w3.1, w3.2)) rfl (le_cons rfl (le_cons rfl (le_cons rfl (le_cons rfl le_nil)))))))) (fun w1 => (bx_setL (E := (Ty.tup Ty.int)) 8 sc__law_graph.nd (ex_tupleL T.n_tuple (EO.ex (LO.eo (lo_comp (own := [("vertex", 11)]) sc__law_graph.nd (it_range1 T.n_range (ex_var (E := Ty.int) (a := many0) 3 rfl)) (fun _ _ _ _ _ => gx_name 11 sc__law_graph.nd) (fun _ _ _ _ _ vertex0 _ => cx_one (WX.tx (wx_or (tx_eq hr Eqn.int (ex_callS (ok__law_draw T) (hr.mono (by decide)) T.g__law_draw T.k__law_draw T.b__law_draw (ax_cons (E := Ty.int) (F := (fun q : Unit => [])) ex_int (fun _ => ax_nil))) (fun _ => ex_int)) (fun _ => (wx_or1 (WX.tx (wx_and (tx_eq hr Eqn.int (ex_var (E := Ty.int) (a := vertex0) 11 rfl) (fun _ => (ex_sub (ex_var (E := Ty.int) (a := many0) 3 rfl) (fun _ => ex_int)))) (fun _ => (wx_and1 (tx_gt (ex_callS (ok__law_draw T) (hr.mono (by decide)) T.g__law_draw T.k__law_draw T.b__law_draw (ax_cons (E := Ty.int) (F := (fun q : Unit => [])) ex_int (fun _ => ax_nil))) (fun _ => ex_int))))))))))) (fun _ _ _ _ _ vertex0 _ => (ex_var (E := Ty.int) (a := vertex0) 11 rfl)))))) (fun outputs0 q5 => (bx_setL (E := (Ty.tup Ty.int)) 9 sc__law_graph.nd (ex_tupleL T.n_tuple (EO.ex (LO.eo (lo_comp (own := [("vertex", 11)]) sc__law_graph.nd (it_range1 T.n_range (ex_var (E := Ty.int) (a := many0) 3 rfl)) (fun _ _ _ _ _ => gx_name 11 sc__law_graph.nd) (fun _ _ _ _ _ vertex1 _ => cx_one (tx_eq hr Eqn.int (ex_callS (ok__law_draw T) (hr.mono (by decide)) T.g__law_draw T.k__law_draw T.b__law_draw (ax_cons (E := Ty.int) (F := (fun q : Unit => [])) ex_int (fun _ => ax_nil))) (fun _ => ex_int))) (fun _ _ _ _ _ vertex1 _ => (ex_var (E := Ty.int) (a := vertex1) 11 rfl)))))) (fun inputs0 q7 => (bx_setOL (E := Ty.str) 10 sc__law_graph.nd (eo_lst (E := Ty.str) (al_nil (E := Ty.str))) (fun planes0 q9 => (bx_for (W := (List Str) × Rs) (fun w5 : (List Str) × Rs => [ov 10 Ty.str w5.1, iv 9 (Ty.tup Ty.int) inputs0, iv 8 (Ty.tup Ty.int) outputs0, ov 5 (Ty.p2 Ty.int Ty.int) w1.1, iv 3 Ty.int many0, iv 2 Ty.bool all_planes0]) (fun w5 : (List Str) × Rs => w5.2) (w0 := (fun q => (planes0, q))) (it_range1 T.n_range (ex_var (E := Ty.int) (a := many0) 3 rfl)) (gx_name 11 sc__law_graph.nd) (fun _ => rfl) (fun _ => (le_cons rfl (le_cons rfl (le_cons rfl (le_cons rfl (le_cons rfl (le_cons rfl le_nil))))))) (fun w5 vertex2 => (bx_setL (E := Ty.str) 12 sc__law_graph.nd (ex_if (E := Ty.str) (tx_val (ex_var (E := Ty.bool) (a := all_planes0) 2 rfl)) (fun _ => (ex_ixL (EO.ex (eo_lst (E := Ty.str) (al_cons (E := Ty.str) (ex_str (by decide +kernel)) (fun _ => (al_cons (E := Ty.str) (ex_str (by decide +kernel)) (fun _ => (al_cons (E := Ty.str) (ex_str (by decide +kernel)) (fun _ => (al_cons (E := Ty.str) (ex_str (by decide +kernel)) (fun _ => (al_nil (E := Ty.str)))))))))))) (fun _ => (ex_callS (ok__law_draw T) (hr.mono (by decide)) T.g__law_draw T.k__law_draw T.b__law_draw (ax_cons (E := Ty.int) (F := (fun q : Unit => [])) ex_int (fun _ => ax_nil)))))) (fun _ => (ex_str (by decide +kernel)))) (fun word0 q10 => (bx_append (E := Ty.str) (l := w5.1) 10 rfl (ex_ifT (E := Ty.str) (tx_inT hr Eqn.int (ex_var (E := Ty.int) (a := vertex2) 11 rfl) (fun _ => (ex_var (E := (Ty.tup Ty.int)) (a := outputs0) 8 rfl))) (fun _ => (ex_str (by decide +kernel))) (fun _ => (ex_ifT (E := Ty.str) (tx_inT hr Eqn.int (ex_var (E := Ty.int) (a := vertex2) 11 rfl) (fun _ => (ex_var (E := (Ty.tup Ty.int)) (a := inputs0) 9 rfl))) (fun _ => (ex_str (by decide +kernel))) (fun _ => (ex_var (E := Ty.str) (a := word0) 12 rfl))))) (fun planes1 q11 => (bx_nil (r := (planes1, q11)) rfl (le_cons rfl (le_cons rfl (le_cons rfl (le_cons rfl (le_cons rfl (le_cons rfl le_nil)))))))))))) (fun w6 => (bx_freeze (E := (Ty.p2 Ty.int Ty.int)) (l := w1.1) 5 rfl (bx_freeze (E := Ty.str) (l := w6.1) 10 rfl (bx_ret (E := (Ty.p5 Ty.int (Ty.tup (Ty.p2 Ty.int Ty.int)) (Ty.tup Ty.int) (Ty.tup Ty.int) (Ty.tup Ty.str))) (k := fun x q => (x, q)) (ex_tup (E := (Ty.p5 Ty.int (Ty.tup (Ty.p2 Ty.int Ty.int)) (Ty.tup Ty.int) (Ty.tup Ty.int) (Ty.tup Ty.str))) (ax_cons (E := Ty.int) (F := (fun q : (List (Int × Int)) × (List Int) × (List Int) × (List Str) => [(Ty.tup (Ty.p2 Ty.int Ty.int)) q.1, (Ty.tup Ty.int) q.2.1, (Ty.tup Ty.int) q.2.2.1, (Ty.tup Ty.str) q.2.2.2])) (ex_var (E := Ty.int) (a := many0) 3 rfl) (fun _ => (ax_cons (E := (Ty.tup (Ty.p2 Ty.int Ty.int))) (F := (fun q : (List Int) × (List Int) × (List Str) => [(Ty.tup Ty.int) q.1, (Ty.tup Ty.int) q.2.1, (Ty.tup Ty.str) q.2.2])) (ex_tupleL T.n_tuple (ex_var (E := (Ty.lst (Ty.p2 Ty.int Ty.int))) (a := w1.1) 5 rfl)) (fun _ => (ax_cons (E := (Ty.tup Ty.int)) (F := (fun q : (List Int) × (List Str) => [(Ty.tup Ty.int) q.1, (Ty.tup Ty.str) q.2])) (ex_var (E := (Ty.tup Ty.int)) (a := inputs0) 9 rfl) (fun _ => (ax_cons (E := (Ty.tup Ty.int)) (F := (fun q : (List Str) => [(Ty.tup Ty.str) q])) (ex_var (E := (Ty.tup Ty.int)) (a := outputs0) 8 rfl) (fun _ => (ax_one (E := (Ty.tup Ty.str)) (ex_tupleL T.n_tuple (ex_var (E := (Ty.lst Ty.str)) (a := w6.1) 10 rfl))))))))))) (fun _ => rfl) (fun _ => Nat.le_of_ble_eq_true rfl)) (fun _ _ => rfl)))))))))))))))))))) ?_
  rfl
theorem ok__law_near (T : Txt K mg) : FnOk Pg w K mg base CX0 1 T.a__law_near T.d__law_near ["graph", "vertex"] (spP K (fun p : (Int × (List (Int × Int)) × (List Int) × (List Int) × (List Str)) × Int × Unit => [(Ty.p5 Ty.int (Ty.tup (Ty.p2 Ty.int Ty.int)) (Ty.tup Ty.int) (Ty.tup Ty.int) (Ty.tup Ty.str)) p.1, Ty.int p.2.1]) (fun p => m_law_near p.1 p.2.1) (Ty.lst Ty.int)) := by
  refine fn_pure T.F__law_near sc__law_near (fun _ => rfl) (fun p cdv A outer s H E' hr => ?_)
  obtain ⟨graph0, vertex0, _⟩ := p
  refine BX_to (m' := m_law_near graph0 vertex0) (bx_setLcL (E := Ty.int) 2 (lo_compF (own := [("one", 3), ("other", 4)]) (kx := [4, 3]) sc__law_near.nd (it_tup (ex_prj (Ea := (Ty.p5 Ty.int (Ty.tup (Ty.p2 Ty.int Ty.int)) (Ty.tup Ty.int) (Ty.tup Ty.int) (Ty.tup Ty.str))) (Eb := (Ty.tup (Ty.p2 Ty.int Ty.int))) (fun g : (Int × (List (Int × Int)) × (List Int) × (List Int) × (List Str)) => g.2.1) (fun _ => rfl) (fun _ => rfl) (ex_var (E := (Ty.p5 Ty.int (Ty.tup (Ty.p2 Ty.int Ty.int)) (Ty.tup Ty.int) (Ty.tup Ty.int) (Ty.tup Ty.str))) (a := graph0) 0 rfl))) (fun _ _ _ _ _ => gx_tup (E := (Ty.p2 Ty.int Ty.int)) (F := fun x => [Ty.int x.1, Ty.int x.2]) (gxs_cons (GX.map (F := Ty.int) (E := fun x : (Int × Int) => Ty.int x.1) (gx_name 3 sc__law_near.nd) (fun x : (Int × Int) => x.1) (fun _ => rfl)) (gxs_cons (GX.map (F := Ty.int) (E := fun x : (Int × Int) => Ty.int x.2) (gx_name 4 sc__law_near.nd) (fun x : (Int × Int) => x.2) (fun _ => rfl)) gxs_nil)) (fun _ => rfl) (fun _ => rfl)) (fun _ _ _ _ _ it0 _ => (tx_eq hr Eqn.int (ex_var (E := Ty.int) (a := it0.1) 3 rfl) (fun _ => (ex_var (E := Ty.int) (a := vertex0) 1 rfl)))) (fun _ _ _ _ _ it0 _ => (ex_var (E := Ty.int) (a := it0.2) 4 rfl))) (fun found0 q0 => (bx_ret (E := (Ty.lst Ty.int)) (k := fun x q => x) (ex_sortI T.n_sorted (ex_catL (ex_var (E := (Ty.lst Ty.int)) (a := found0) 2 rfl) (fun _ => (EO.ex (LO.eo (lo_compF (own := [("one", 3), ("other", 4)]) (kx := [4, 3]) sc__law_near.nd (it_tup (ex_prj (Ea := (Ty.p5 Ty.int (Ty.tup (Ty.p2 Ty.int Ty.int)) (Ty.tup Ty.int) (Ty.tup Ty.int) (Ty.tup Ty.str))) (Eb := (Ty.tup (Ty.p2 Ty.int Ty.int))) (fun g : (Int × (List (Int × Int)) × (List Int) × (List Int) × (List Str)) => g.2.1) (fun _ => rfl) (fun _ => rfl) (ex_var (E := (Ty.p5 Ty.int (Ty.tup (Ty.p2 Ty.int Ty.int)) (Ty.tup Ty.int) (Ty.tup Ty.int) (Ty.tup Ty.str))) (a := graph0) 0 rfl))) (fun _ _ _ _ _ => gx_tup (E := (Ty.p2 Ty.int Ty.int)) (F := fun x => [Ty.int x.1, Ty.int x.2]) (gxs_cons (GX.map (F := Ty.int) (E := fun x : (Int × Int) => Ty.int x.1) (gx_name 3 sc__law_near.nd) (fun x : (Int × Int) => x.1) (fun _ => rfl)) (gxs_cons (GX.map (F := Ty.int) (E := fun x : (Int × Int) => Ty.int x.2) (gx_name 4 sc__law_near.nd) (fun x : (Int × Int) => x.2) (fun _ => rfl)) gxs_nil)) (fun _ => rfl) (fun _ => rfl)) (fun _ _ _ _ _ it1 _ => (tx_eq hr Eqn.int (ex_var (E := Ty.int) (a := it1.2) 4 rfl) (fun _ => (ex_var (E := Ty.int) (a := vertex0) 1 rfl)))) (fun _ _ _ _ _ it1 _ => (ex_var (E := Ty.int) (a := it1.1) 3 rfl)))))))) (fun _ _ => rfl)))) ?_
  rfl
theorem ok__law_odd (T : Txt K mg) : FnOk Pg w K mg base CX0 2 T.a__law_odd T.d__law_odd ["graph", "some"] (spP K (fun p : (Int × (List (Int × Int)) × (List Int) × (List Int) × (List Str)) × (List Int) × Unit => [(Ty.p5 Ty.int (Ty.tup (Ty.p2 Ty.int Ty.int)) (Ty.tup Ty.int) (Ty.tup Ty.int) (Ty.tup Ty.str)) p.1, (Ty.tup Ty.int) p.2.1]) (fun p => m_law_odd p.1 p.2.1) (Ty.lst Ty.int)) := by
  refine fn_pure T.F__law_odd sc__law_odd (fun _ => rfl) (fun p cdv A outer s H E' hr => ?_)
  obtain ⟨graph0, some0, _⟩ := p
  refine BX_to (m' := m_law_odd graph0 some0) (bx_setOL (E := Ty.int) 2 sc__law_odd.nd (eo_lst (E := Ty.int) (al_nil (E := Ty.int))) (fun found0 q0 => (bx_for (W := (List Int)) (fun w0 : (List Int) => [ov 2 Ty.int w0, iv 1 (Ty.tup Ty.int) some0, iv 0 (Ty.p5 Ty.int (Ty.tup (Ty.p2 Ty.int Ty.int)) (Ty.tup Ty.int) (Ty.tup Ty.int) (Ty.tup Ty.str)) graph0]) (fun w0 : (List Int) => ()) (w0 := (fun q => found0)) (it_range1 T.n_range (ex_prj (Ea := (Ty.p5 Ty.int (Ty.tup (Ty.p2 Ty.int Ty.int)) (Ty.tup Ty.int) (Ty.tup Ty.int) (Ty.tup Ty.str))) (Eb := Ty.int) (fun g : (Int × (List (Int × Int)) × (List Int) × (List Int) × (List Str)) => g.1) (fun _ => rfl) (fun _ => rfl) (ex_var (E := (Ty.p5 Ty.int (Ty.tup (Ty.p2 Ty.int Ty.int)) (Ty.tup Ty.int) (Ty.tup Ty.int) (Ty.tup Ty.str))) (a := graph0) 0 rfl))) (gx_name 3 sc__law_odd.nd) (fun _ => rfl) (fun _ => (le_cons rfl (le_cons rfl (le_cons rfl le_nil)))) (fun w0 vertex0 => (bx_if (W := (List Int)) (fun w2 : (List Int) => [ov 2 Ty.int w2, iv 1 (Ty.tup Ty.int) some0, iv 0 (Ty.p5 Ty.int (Ty.tup (Ty.p2 Ty.int Ty.int)) (Ty.tup Ty.int) (Ty.tup Ty.int) (Ty.tup Ty.str)) graph0]) (fun w2 : (List Int) => ()) (tx_eq hr Eqn.int (ex_mod (ex_intI T.n_int (ex_lenL T.n_len (EO.ex (LO.eo (lo_compI (own := [("one", 4)]) sc__law_odd.nd (it_list (ex_call (ok__law_near T) (hr.mono (by decide)) T.g__law_near T.k__law_near T.b__law_near (ax_cons (E := (Ty.p5 Ty.int (Ty.tup (Ty.p2 Ty.int Ty.int)) (Ty.tup Ty.int) (Ty.tup Ty.int) (Ty.tup Ty.str))) (F := (fun q : Int × Unit => [Ty.int q.1])) (ex_var (E := (Ty.p5 Ty.int (Ty.tup (Ty.p2 Ty.int Ty.int)) (Ty.tup Ty.int) (Ty.tup Ty.int) (Ty.tup Ty.str))) (a := graph0) 0 rfl) (fun _ => (ax_cons (E := Ty.int) (F := (fun q : Unit => [])) (ex_var (E := Ty.int) (a := vertex0) 3 rfl) (fun _ => ax_nil)))))) (fun _ _ _ _ _ => gx_name 4 sc__law_odd.nd) (fun _ _ _ _ _ one0 _ => (tx_inT hr Eqn.int (ex_var (E := Ty.int) (a := one0) 4 rfl) (fun _ => (ex_var (E := (Ty.tup Ty.int)) (a := some0) 1 rfl)))) (fun _ _ _ _ _ one0 _ => (ex_var (E := Ty.int) (a := one0) 4 rfl))))))) (fun _ => ex_int)) (fun _ => ex_int)) (fun q2 => (bx_append (E := Ty.int) (l := w0) 2 rfl (ex_var (E := Ty.int) (a := vertex0) 3 rfl) (fun found1 q3 => (bx_nil (r := found1) rfl (le_cons rfl (le_cons rfl (le_cons rfl le_nil))))))) (fun q2 => (bx_nil (r := w0) rfl (le_cons rfl (le_cons rfl (le_cons rfl le_nil))))) (fun w2 => (bx_nil (r := w2) rfl (le_cons rfl (le_cons rfl (le_cons rfl le_nil))))))) (fun w1 => (bx_freeze (E := Ty.int) (l := w1) 2 rfl (bx_ret (E := (Ty.lst Ty.int)) (k := fun x q => x) (ex_var (E := (Ty.lst Ty.int)) (a := w1) 2 rfl) (fun _ _ => rfl))))))) ?_
  rfl
theorem ok_odd_set (T : Txt K mg) : FnOk Pg w K mg base CX0 2 T.a_odd_set T.d_odd_set ["graph", "some"] (spP K (fun p : (Int × (List (Int × Int)) × (List Int) × (List Int) × (List Str)) × (List Int) × Unit => [(Ty.p5 Ty.int (Ty.tup (Ty.p2 Ty.int Ty.int)) (Ty.tup Ty.int) (Ty.tup Ty.int) (Ty.tup Ty.str)) p.1, (Ty.tup Ty.int) p.2.1]) (fun p => m_odd_set p.1 p.2.1) (Ty.tup Ty.int)) := by
  refine fn_pure T.F_odd_set sc_odd_set (fun _ => rfl) (fun p cdv A outer s H E' hr => ?_)
  obtain ⟨graph0, some0, _⟩ := p
  refine BX_to (m' := m_odd_set graph0 some0) (bx_setL (E := (Ty.tup Ty.int)) 2 sc_odd_set.nd (ex_tupL (E := Ty.int) (al_nil (E := Ty.int))) (fun told0 q0 => (bx_for (W := (List Int)) (fun w0 : (List Int) => [iv 2 (Ty.tup Ty.int) w0, iv 0 (Ty.p5 Ty.int (Ty.tup (Ty.p2 Ty.int Ty.int)) (Ty.tup Ty.int) (Ty.tup Ty.int) (Ty.tup Ty.str)) graph0]) (fun w0 : (List Int) => ()) (w0 := (fun q => told0)) (it_tup (ex_var (E := (Ty.tup Ty.int)) (a := some0) 1 rfl)) (gx_name 3 sc_odd_set.nd) (fun _ => rfl) (fun _ => (le_cons rfl (le_cons rfl le_nil))) (fun w0 vertex0 => (bx_setL (E := (Ty.tup Ty.int)) 2 sc_odd_set.nd (ex_call (ok_sum_of T) (hr.mono (by decide)) T.g_sum_of T.k_sum_of T.b_sum_of (ax_cons (E := (Ty.tup Ty.int)) (F := (fun q : (List Int) × Unit => [(Ty.tup Ty.int) q.1])) (ex_var (E := (Ty.tup Ty.int)) (a := w0) 2 rfl) (fun _ => (ax_cons (E := (Ty.tup Ty.int)) (F := (fun q : Unit => [])) (ex_call (ok_neighbours T) (hr.mono (by decide)) T.g_neighbours T.k_neighbours T.b_neighbours (ax_cons (E := (Ty.p5 Ty.int (Ty.tup (Ty.p2 Ty.int Ty.int)) (Ty.tup Ty.int) (Ty.tup Ty.int) (Ty.tup Ty.str))) (F := (fun q : Int × Unit => [Ty.int q.1])) (ex_var (E := (Ty.p5 Ty.int (Ty.tup (Ty.p2 Ty.int Ty.int)) (Ty.tup Ty.int) (Ty.tup Ty.int) (Ty.tup Ty.str))) (a := graph0) 0 rfl) (fun _ => (ax_cons (E := Ty.int) (F := (fun q : Unit => [])) (ex_var (E := Ty.int) (a := vertex0) 3 rfl) (fun _ => ax_nil))))) (fun _ => ax_nil))))) (fun told1 q1 => (bx_nil (r := told1) rfl (le_cons rfl (le_cons rfl le_nil)))))) (fun w1 => (bx_ret (E := (Ty.tup Ty.int)) (k := fun x q => x) (ex_var (E := (Ty.tup Ty.int)) (a := w1) 2 rfl) (fun _ _ => rfl)))))) ?_
  rfl
theorem ok_law (T : Txt K mg) : FnOk Pg w K mg base CX0 3 T.a_law T.d_law ["script"] (spLaw K m_law) := by
  refine fn_law T.F_law sc_law ((ok__law_state T).mono (by decide)) T.g__law_state T.k__law_state T.b__law_state rfl rfl rfl (by first | exact .inl rfl | exact .inr rfl) (by first | exact .inl rfl | exact .inr (.inl rfl) | exact .inr (.inr rfl)) (by rfl) (fun s cdv A outer sh H E' hr => ?_)
  refine BX_to (m' := m_law s) (bx_setL (E := (Ty.p5 Ty.int (Ty.tup (Ty.p2 Ty.int Ty.int)) (Ty.tup Ty.int) (Ty.tup Ty.int) (Ty.tup Ty.str))) 2 sc_law.nd (ex_callS (ok__law_graph T) (hr.mono (by decide)) T.g__law_graph T.k__law_graph T.b__law_graph (ax_cons (E := Ty.int) (F := (fun q : Bool × Unit => [Ty.bool q.1])) ex_int (fun _ => (ax_cons (E := Ty.bool) (F := (fun q : Unit => [])) ex_bool (fun _ => ax_nil))))) (fun graph0 q0 => (bx_setL (E := Ty.int) 3 sc_law.nd (ex_prj (Ea := (Ty.p5 Ty.int (Ty.tup (Ty.p2 Ty.int Ty.int)) (Ty.tup Ty.int) (Ty.tup Ty.int) (Ty.tup Ty.str))) (Eb := Ty.int) (fun g : (Int × (List (Int × Int)) × (List Int) × (List Int) × (List Str)) => g.1) (fun _ => rfl) (fun _ => rfl) (ex_var (E := (Ty.p5 Ty.int (Ty.tup (Ty.p2 Ty.int Ty.int)) (Ty.tup Ty.int) (Ty.tup Ty.int) (Ty.tup Ty.str))) (a := graph0) 2 rfl)) (fun many0 q1 => (bx_forE (W := Rs) (Rr := (Bool × Rs)) (fun w0 : Rs => [iv 3 Ty.int many0, iv 2 (Ty.p5 Ty.int (Ty.tup (Ty.p2 Ty.int Ty.int)) (Ty.tup Ty.int) (Ty.tup Ty.int) (Ty.tup Ty.str)) graph0]) (fun w0 : Rs => w0) (fun r : (Bool × Rs) => Ty.bool r.1) (fun r : (Bool × Rs) => r.2) (w0 := (fun q => q)) (kr := fun r => r) (it_range1 T.n_range (ex_var (E := Ty.int) (a := many0) 3 rfl)) (gx_name 4 sc_law.nd) (fun _ => rfl) (fun _ => (le_cons rfl (le_cons rfl le_nil))) (fun w0 vertex0 => (bx_setL (E := (Ty.tup Ty.int)) 5 sc_law.nd (ex_call (ok_neighbours T) (hr.mono (by decide)) T.g_neighbours T.k_neighbours T.b_neighbours (ax_cons (E := (Ty.p5 Ty.int (Ty.tup (Ty.p2 Ty.int Ty.int)) (Ty.tup Ty.int) (Ty.tup Ty.int) (Ty.tup Ty.str))) (F := (fun q : Int × Unit => [Ty.int q.1])) (ex_var (E := (Ty.p5 Ty.int (Ty.tup (Ty.p2 Ty.int Ty.int)) (Ty.tup Ty.int) (Ty.tup Ty.int) (Ty.tup Ty.str))) (a := graph0) 2 rfl) (fun _ => (ax_cons (E := Ty.int) (F := (fun q : Unit => [])) (ex_var (E := Ty.int) (a := vertex0) 4 rfl) (fun _ => ax_nil))))) (fun told0 q2 => (bx_ifX (P := (Bool × Rs)) Fl.ret (WX.tx (wx_or (tx_not (tx_val (ex_isi (r0 := true) T.n_isinstance T.n_tuple Bo.tuple (tyd_tup (Ea := (Ty.tup Ty.int)) (fun l => l.map Ty.int) (fun _ => rfl)) (ex_var (E := (Ty.tup Ty.int)) (a := told0) 5 rfl)))) (fun _ => (wx_or1 (tx_ne hr (Eqn.tup Eqn.int) (ex_var (E := (Ty.tup Ty.int)) (a := told0) 5 rfl) (fun _ => (ex_tupleL T.n_tuple (ex_call (ok__law_near T) (hr.mono (by decide)) T.g__law_near T.k__law_near T.b__law_near (ax_cons (E := (Ty.p5 Ty.int (Ty.tup (Ty.p2 Ty.int Ty.int)) (Ty.tup Ty.int) (Ty.tup Ty.int) (Ty.tup Ty.str))) (F := (fun q : Int × Unit => [Ty.int q.1])) (ex_var (E := (Ty.p5 Ty.int (Ty.tup (Ty.p2 Ty.int Ty.int)) (Ty.tup Ty.int) (Ty.tup Ty.int) (Ty.tup Ty.str))) (a := graph0) 2 rfl) (fun _ => (ax_cons (E := Ty.int) (F := (fun q : Unit => [])) (ex_var (E := Ty.int) (a := vertex0) 4 rfl) (fun _ => ax_nil)))))))))))) (fun q3 => (bx_ret (E := Ty.bool) (k := fun x q => (x, q)) ex_bool (fun _ _ => rfl))) (fun q3 => (bx_nil (r := Fl.next q3) rfl (le_cons rfl (le_cons rfl le_nil)))))))) (fun w1 => (bx_setL (E := (Ty.tup Ty.int)) 5 sc_law.nd (ex_call (ok_measured T) (hr.mono (by decide)) T.g_measured T.k_measured T.b_measured (ax_cons (E := (Ty.p5 Ty.int (Ty.tup (Ty.p2 Ty.int Ty.int)) (Ty.tup Ty.int) (Ty.tup Ty.int) (Ty.tup Ty.str))) (F := (fun q : Unit => [])) (ex_var (E := (Ty.p5 Ty.int (Ty.tup (Ty.p2 Ty.int Ty.int)) (Ty.tup Ty.int) (Ty.tup Ty.int) (Ty.tup Ty.str))) (a := graph0) 2 rfl) (fun _ => ax_nil))) (fun told1 q4 => (bx_ifR (WX.tx (wx_or (tx_not (tx_val (ex_isi (r0 := true) T.n_isinstance T.n_tuple Bo.tuple (tyd_tup (Ea := (Ty.tup Ty.int)) (fun l => l.map Ty.int) (fun _ => rfl)) (ex_var (E := (Ty.tup Ty.int)) (a := told1) 5 rfl)))) (fun _ => (wx_or1 (tx_ne hr (Eqn.tup Eqn.int) (ex_var (E := (Ty.tup Ty.int)) (a := told1) 5 rfl) (fun _ => (ex_tupleL T.n_tuple (EO.ex (LO.eo (lo_compI (own := [("vertex", 4)]) sc_law.nd (it_range1 T.n_range (ex_var (E := Ty.int) (a := many0) 3 rfl)) (fun _ _ _ _ _ => gx_name 4 sc_law.nd) (fun _ _ _ _ _ vertex1 _ => (tx_notInT hr Eqn.int (ex_var (E := Ty.int) (a := vertex1) 4 rfl) (fun _ => (ex_prj (Ea := (Ty.p5 Ty.int (Ty.tup (Ty.p2 Ty.int Ty.int)) (Ty.tup Ty.int) (Ty.tup Ty.int) (Ty.tup Ty.str))) (Eb := (Ty.tup Ty.int)) (fun g : (Int × (List (Int × Int)) × (List Int) × (List Int) × (List Str)) => g.2.2.2.1) (fun _ => rfl) (fun _ => rfl) (ex_var (E := (Ty.p5 Ty.int (Ty.tup (Ty.p2 Ty.int Ty.int)) (Ty.tup Ty.int) (Ty.tup Ty.int) (Ty.tup Ty.str))) (a := graph0) 2 rfl))))) (fun _ _ _ _ _ vertex1 _ => (ex_var (E := Ty.int) (a := vertex1) 4 rfl)))))))))))) (fun q6 => (bx_ret (E := Ty.bool) (k := fun x q => (x, q)) ex_bool (fun _ _ => rfl))) (fun q6 => (bx_forE (W := Rs) (Rr := (Bool × Rs)) (fun w2 : Rs => [iv 3 Ty.int many0, iv 2 (Ty.p5 Ty.int (Ty.tup (Ty.p2 Ty.int Ty.int)) (Ty.tup Ty.int) (Ty.tup Ty.int) (Ty.tup Ty.str)) graph0]) (fun w2 : Rs => w2) (fun r : (Bool × Rs) => Ty.bool r.1) (fun r : (Bool × Rs) => r.2) (w0 := (fun q => q)) (kr := fun r => r) (it_range1 T.n_range ex_int) (gx_name 6 sc_law.nd) (fun _ => rfl) (fun _ => (le_cons rfl (le_cons rfl le_nil))) (fun w2 turn0 => (bx_setL (E := (Ty.tup Ty.int)) 7 sc_law.nd (ex_tupleL T.n_tuple (EO.ex (LO.eo (lo_comp (own := [("vertex", 4)]) sc_law.nd (it_range1 T.n_range (ex_var (E := Ty.int) (a := many0) 3 rfl)) (fun _ _ _ _ _ => gx_name 4 sc_law.nd) (fun _ _ _ _ _ vertex2 _ => cx_one (tx_eq hr Eqn.int (ex_callS (ok__law_draw T) (hr.mono (by decide)) T.g__law_draw T.k__law_draw T.b__law_draw (ax_cons (E := Ty.int) (F := (fun q : Unit => [])) ex_int (fun _ => ax_nil))) (fun _ => ex_int))) (fun _ _ _ _ _ vertex2 _ => (ex_var (E := Ty.int) (a := vertex2) 4 rfl)))))) (fun one0 q7 => (bx_setL (E := (Ty.tup Ty.int)) 8 sc_law.nd (ex_tupleL T.n_tuple (EO.ex (LO.eo (lo_comp (own := [("vertex", 4)]) sc_law.nd (it_range1 T.n_range (ex_var (E := Ty.int) (a := many0) 3 rfl)) (fun _ _ _ _ _ => gx_name 4 sc_law.nd) (fun _ _ _ _ _ vertex3 _ => cx_one (tx_eq hr Eqn.int (ex_callS (ok__law_draw T) (hr.mono (by decide)) T.g__law_draw T.k__law_draw T.b__law_draw (ax_cons (E := Ty.int) (F := (fun q : Unit => [])) ex_int (fun _ => ax_nil))) (fun _ => ex_int))) (fun _ _ _ _ _ vertex3 _ => (ex_var (E := Ty.int) (a := vertex3) 4 rfl)))))) (fun other0 q9 => (bx_setL (E := (Ty.tup Ty.int)) 9 sc_law.nd (ex_tupleL T.n_tuple (EO.ex (LO.eo (lo_compI (own := [("vertex", 4)]) sc_law.nd (it_range1 T.n_range (ex_var (E := Ty.int) (a := many0) 3 rfl)) (fun _ _ _ _ _ => gx_name 4 sc_law.nd) (fun _ _ _ _ _ vertex4 _ => (tx_ne hr Eqn.bool (ex_inT hr Eqn.int (ex_var (E := Ty.int) (a := vertex4) 4 rfl) (fun _ => (ex_var (E := (Ty.tup Ty.int)) (a := one0) 7 rfl))) (fun _ => (ex_inT hr Eqn.int (ex_var (E := Ty.int) (a := vertex4) 4 rfl) (fun _ => (ex_var (E := (Ty.tup Ty.int)) (a := other0) 8 rfl)))))) (fun _ _ _ _ _ vertex4 _ => (ex_var (E := Ty.int) (a := vertex4) 4 rfl)))))) (fun both0 q11 => (bx_setL (E := (Ty.tup Ty.int)) 5 sc_law.nd (ex_call (ok_odd_set T) (hr.mono (by decide)) T.g_odd_set T.k_odd_set T.b_odd_set (ax_cons (E := (Ty.p5 Ty.int (Ty.tup (Ty.p2 Ty.int Ty.int)) (Ty.tup Ty.int) (Ty.tup Ty.int) (Ty.tup Ty.str))) (F := (fun q : (List Int) × Unit => [(Ty.tup Ty.int) q.1])) (ex_var (E := (Ty.p5 Ty.int (Ty.tup (Ty.p2 Ty.int Ty.int)) (Ty.tup Ty.int) (Ty.tup Ty.int) (Ty.tup Ty.str))) (a := graph0) 2 rfl) (fun _ => (ax_cons (E := (Ty.tup Ty.int)) (F := (fun q : Unit => [])) (ex_var (E := (Ty.tup Ty.int)) (a := one0) 7 rfl) (fun _ => ax_nil))))) (fun told2 q13 => (bx_ifX (P := (Bool × Rs)) Fl.ret (WX.tx (wx_or (tx_not (tx_val (ex_isi (r0 := true) T.n_isinstance T.n_tuple Bo.tuple (tyd_tup (Ea := (Ty.tup Ty.int)) (fun l => l.map Ty.int) (fun _ => rfl)) (ex_var (E := (Ty.tup Ty.int)) (a := told2) 5 rfl)))) (fun _ => (wx_or1 (tx_ne hr (Eqn.tup Eqn.int) (ex_var (E := (Ty.tup Ty.int)) (a := told2) 5 rfl) (fun _ => (ex_tupleL T.n_tuple (ex_call (ok__law_odd T) (hr.mono (by decide)) T.g__law_odd T.k__law_odd T.b__law_odd (ax_cons (E := (Ty.p5 Ty.int (Ty.tup (Ty.p2 Ty.int Ty.int)) (Ty.tup Ty.int) (Ty.tup Ty.int) (Ty.tup Ty.str))) (F := (fun q : (List Int) × Unit => [(Ty.tup Ty.int) q.1])) (ex_var (E := (Ty.p5 Ty.int (Ty.tup (Ty.p2 Ty.int Ty.int)) (Ty.tup Ty.int) (Ty.tup Ty.int) (Ty.tup Ty.str))) (a := graph0) 2 rfl) (fun _ => (ax_cons (E := (Ty.tup Ty.int)) (F := (fun q : Unit => [])) (ex_var (E := (Ty.tup Ty.int)) (a := one0) 7 rfl) (fun _ => ax_nil)))))))))))) (fun q14 => (bx_ret (E := Ty.bool) (k := fun x q => (x, q)) ex_bool (fun _ _ => rfl))) (fun q14 => (bx_ifX (P := (Bool × Rs)) Fl.ret (WX.tx (wx_or (tx_ne hr (Eqn.tup Eqn.int) (ex_call (ok_sum_of T) (hr.mono (by decide)) T.g_sum_of T.k_sum_of T.b_sum_of (ax_cons (E := (Ty.tup Ty.int)) (F := (fun q : (List Int) × Unit => [(Ty.tup Ty.int) q.1])) (ex_var (E := (Ty.tup Ty.int)) (a := one0) 7 rfl) (fun _ => (ax_cons (E := (Ty.tup Ty.int)) (F := (fun q : Unit => [])) (ex_var (E := (Ty.tup Ty.int)) (a := other0) 8 rfl) (fun _ => ax_nil))))) (fun _ => (ex_var (E := (Ty.tup Ty.int)) (a := both0) 9 rfl))) (fun _ => (wx_or (tx_not (tx_val (ex_isi (r0 := true) T.n_isinstance T.n_tuple Bo.tuple (tyd_tup (Ea := (Ty.tup Ty.int)) (fun l => l.map Ty.int) (fun _ => rfl)) (ex_call (ok_sum_of T) (hr.mono (by decide)) T.g_sum_of T.k_sum_of T.b_sum_of (ax_cons (E := (Ty.tup Ty.int)) (F := (fun q : (List Int) × Unit => [(Ty.tup Ty.int) q.1])) (ex_var (E := (Ty.tup Ty.int)) (a := one0) 7 rfl) (fun _ => (ax_cons (E := (Ty.tup Ty.int)) (F := (fun q : Unit => [])) (ex_var (E := (Ty.tup Ty.int)) (a := other0) 8 rfl) (fun _ => ax_nil)))))))) (fun _ => (wx_or1 (tx_ne hr (Eqn.tup Eqn.int) (ex_call (ok_sum_of T) (hr.mono (by decide)) T.g_sum_of T.k_sum_of T.b_sum_of (ax_cons (E := (Ty.tup Ty.int)) (F := (fun q : (List Int) × Unit => [(Ty.tup Ty.int) q.1])) (ex_var (E := (Ty.tup Ty.int)) (a := told2) 5 rfl) (fun _ => (ax_cons (E := (Ty.tup Ty.int)) (F := (fun q : Unit => [])) (ex_call (ok_odd_set T) (hr.mono (by decide)) T.g_odd_set T.k_odd_set T.b_odd_set (ax_cons (E := (Ty.p5 Ty.int (Ty.tup (Ty.p2 Ty.int Ty.int)) (Ty.tup Ty.int) (Ty.tup Ty.int) (Ty.tup Ty.str))) (F := (fun q : (List Int) × Unit => [(Ty.tup Ty.int) q.1])) (ex_var (E := (Ty.p5 Ty.int (Ty.tup (Ty.p2 Ty.int Ty.int)) (Ty.tup Ty.int) (Ty.tup Ty.int) (Ty.tup Ty.str))) (a := graph0) 2 rfl) (fun _ => (ax_cons (E := (Ty.tup Ty.int)) (F := (fun q : Unit => [])) (ex_var (E := (Ty.tup Ty.int)) (a := other0) 8 rfl) (fun _ => ax_nil))))) (fun _ => ax_nil))))) (fun _ => (ex_call (ok_odd_set T) (hr.mono (by decide)) T.g_odd_set T.k_odd_set T.b_odd_set (ax_cons (E := (Ty.p5 Ty.int (Ty.tup (Ty.p2 Ty.int Ty.int)) (Ty.tup Ty.int) (Ty.tup Ty.int) (Ty.tup Ty.str))) (F := (fun q : (List Int) × Unit => [(Ty.tup Ty.int) q.1])) (ex_var (E := (Ty.p5 Ty.int (Ty.tup (Ty.p2 Ty.int Ty.int)) (Ty.tup Ty.int) (Ty.tup Ty.int) (Ty.tup Ty.str))) (a := graph0) 2 rfl) (fun _ => (ax_cons (E := (Ty.tup Ty.int)) (F := (fun q : Unit => [])) (ex_var (E := (Ty.tup Ty.int)) (a := both0) 9 rfl) (fun _ => ax_nil))))))))))))) (fun q15 => (bx_ret (E := Ty.bool) (k := fun x q => (x, q)) ex_bool (fun _ _ => rfl))) (fun q15 => (bx_forE (W := Rs) (Rr := (Bool × Rs)) (fun w4 : Rs => [iv 3 Ty.int many0, iv 2 (Ty.p5 Ty.int (Ty.tup (Ty.p2 Ty.int Ty.int)) (Ty.tup Ty.int) (Ty.tup Ty.int) (Ty.tup Ty.str)) graph0]) (fun w4 : Rs => w4) (fun r : (Bool × Rs) => Ty.bool r.1) (fun r : (Bool × Rs) => r.2) (w0 := (fun q => q)) (kr := fun r => Fl.ret r) (it_list (EO.ex (eo_lst (E := (Ty.p2 (Ty.tup Ty.int) (Ty.tup Ty.int))) (al_cons (E := (Ty.p2 (Ty.tup Ty.int) (Ty.tup Ty.int))) (ex_tup (E := (Ty.p2 (Ty.tup Ty.int) (Ty.tup Ty.int))) (ax_cons (E := (Ty.tup Ty.int)) (F := (fun q : (List Int) => [(Ty.tup Ty.int) q])) (ex_var (E := (Ty.tup Ty.int)) (a := one0) 7 rfl) (fun _ => (ax_one (E := (Ty.tup Ty.int)) (ex_var (E := (Ty.tup Ty.int)) (a := other0) 8 rfl)))) (fun _ => rfl) (fun _ => Nat.le_of_ble_eq_true rfl)) (fun _ => (al_cons (E := (Ty.p2 (Ty.tup Ty.int) (Ty.tup Ty.int))) (ex_tup (E := (Ty.p2 (Ty.tup Ty.int) (Ty.tup Ty.int))) (ax_cons (E := (Ty.tup Ty.int)) (F := (fun q : (List Int) => [(Ty.tup Ty.int) q])) (ex_var (E := (Ty.tup Ty.int)) (a := other0) 8 rfl) (fun _ => (ax_one (E := (Ty.tup Ty.int)) (ex_var (E := (Ty.tup Ty.int)) (a := one0) 7 rfl)))) (fun _ => rfl) (fun _ => Nat.le_of_ble_eq_true rfl)) (fun _ => (al_cons (E := (Ty.p2 (Ty.tup Ty.int) (Ty.tup Ty.int))) (ex_tup (E := (Ty.p2 (Ty.tup Ty.int) (Ty.tup Ty.int))) (ax_cons (E := (Ty.tup Ty.int)) (F := (fun q : (List Int) => [(Ty.tup Ty.int) q])) (ex_var (E := (Ty.tup Ty.int)) (a := one0) 7 rfl) (fun _ => (ax_one (E := (Ty.tup Ty.int)) (ex_var (E := (Ty.tup Ty.int)) (a := one0) 7 rfl)))) (fun _ => rfl) (fun _ => Nat.le_of_ble_eq_true rfl)) (fun _ => (al_cons (E := (Ty.p2 (Ty.tup Ty.int) (Ty.tup Ty.int))) (ex_tup (E := (Ty.p2 (Ty.tup Ty.int) (Ty.tup Ty.int))) (ax_cons (E := (Ty.tup Ty.int)) (F := (fun q : (List Int) => [(Ty.tup Ty.int) q])) (ex_var (E := (Ty.tup Ty.int)) (a := one0) 7 rfl) (fun _ => (ax_one (E := (Ty.tup Ty.int)) (ex_var (E := (Ty.tup Ty.int)) (a := both0) 9 rfl)))) (fun _ => rfl) (fun _ => Nat.le_of_ble_eq_true rfl)) (fun _ => (al_nil (E := (Ty.p2 (Ty.tup Ty.int) (Ty.tup Ty.int))))))))))))))) (gx_tup (E := (Ty.p2 (Ty.tup Ty.int) (Ty.tup Ty.int))) (F := fun x => [(Ty.tup Ty.int) x.1, (Ty.tup Ty.int) x.2]) (gxs_cons (GX.map (F := (Ty.tup Ty.int)) (E := fun x : ((List Int) × (List Int)) => (Ty.tup Ty.int) x.1) (gx_name 10 sc_law.nd) (fun x : ((List Int) × (List Int)) => x.1) (fun _ => rfl)) (gxs_cons (GX.map (F := (Ty.tup Ty.int)) (E := fun x : ((List Int) × (List Int)) => (Ty.tup Ty.int) x.2) (gx_name 11 sc_law.nd) (fun x : ((List Int) × (List Int)) => x.2) (fun _ => rfl)) gxs_nil)) (fun _ => rfl) (fun _ => rfl)) (fun _ => rfl) (fun _ => (le_cons rfl (le_cons rfl le_nil))) (fun w4 it0 => (bx_setLcL (E := Ty.int) 12 (lo_compI (own := [("vertex", 4)]) sc_law.nd (it_range1 T.n_range (ex_var (E := Ty.int) (a := many0) 3 rfl)) (fun _ _ _ _ _ => gx_name 4 sc_law.nd) (fun _ _ _ _ _ vertex5 _ => (tx_ne hr Eqn.bool (ex_inT hr Eqn.int (ex_var (E := Ty.int) (a := vertex5) 4 rfl) (fun _ => (ex_var (E := (Ty.tup Ty.int)) (a := it0.1) 10 rfl))) (fun _ => (ex_inT hr Eqn.int (ex_var (E := Ty.int) (a := vertex5) 4 rfl) (fun _ => (ex_var (E := (Ty.tup Ty.int)) (a := it0.2) 11 rfl)))))) (fun _ _ _ _ _ vertex5 _ => (ex_var (E := Ty.int) (a := vertex5) 4 rfl))) (fun unlike0 q16 => (bx_setL (E := Ty.bool) 5 sc_law.nd (ex_call (ok_is_less_heavy T) (hr.mono (by decide)) T.g_is_less_heavy T.k_is_less_heavy T.b_is_less_heavy (ax_cons (E := (Ty.tup Ty.int)) (F := (fun q : (List Int) × Unit => [(Ty.tup Ty.int) q.1])) (ex_var (E := (Ty.tup Ty.int)) (a := it0.1) 10 rfl) (fun _ => (ax_cons (E := (Ty.tup Ty.int)) (F := (fun q : Unit => [])) (ex_var (E := (Ty.tup Ty.int)) (a := it0.2) 11 rfl) (fun _ => ax_nil))))) (fun told3 q18 => (bx_ifX (P := (Bool × Rs)) Fl.ret (WX.tx (wx_or (tx_not (tx_val (ex_isi (r0 := true) T.n_isinstance T.n_bool Bo.bool tyd_bool (ex_var (E := Ty.bool) (a := told3) 5 rfl)))) (fun _ => (wx_or1 (tx_ne hr Eqn.bool (ex_var (E := Ty.bool) (a := told3) 5 rfl) (fun _ => (ex_and (ex_gt (ex_lenL T.n_len (ex_var (E := (Ty.lst Ty.int)) (a := unlike0) 12 rfl)) (fun _ => ex_int)) (fun _ => (ex_one (ex_inT hr Eqn.int (ex_ixL (ex_var (E := (Ty.lst Ty.int)) (a := unlike0) 12 rfl) (fun _ => ex_int)) (fun _ => (ex_var (E := (Ty.tup Ty.int)) (a := it0.2) 11 rfl)))))))))))) (fun q19 => (bx_ret (E := Ty.bool) (k := fun x q => (x, q)) ex_bool (fun _ _ => rfl))) (fun q19 => (bx_nil (r := Fl.next q19) rfl (le_cons rfl (le_cons rfl le_nil)))))))))) (fun w5 => (bx_nil (r := Fl.next w5) rfl (le_cons rfl (le_cons rfl le_nil)))) (fun _ => rfl))))))))))))))) (fun w3 => (bx_ret (E := Ty.bool) (k := fun x q => (x, q)) ex_bool (fun _ _ => rfl))) (fun _ => rfl))))))) (fun _ => rfl)))))) ?_
  rfl
end
end K02
namespace K02
open PySem PySem.Spec PyProof.Rows L2 Ab
/-! ### graphs.py -/
theorem neighbours_eq {g : Gr} (h : g.2.1.length ≤ 4096) (v : Int) : m_neighbours g v = some (nbr g v) := by
  unfold m_neighbours
  have h1 := List.length_filter_le (fun e : Int × Int => decide (e.1 = v)) g.2.1
  have h2 := List.length_filter_le (fun e : Int × Int => decide (e.2 = v)) g.2.1
  exact guardM_pos (by rw [List.length_map, List.length_map]; show _ ≤ 16777216; omega)
theorem sum_of_eq {a b : List Int} (ha : a.length ≤ 4096) (hb : b.length ≤ 4096) : m_sum_of a b = some (sumS a b) := by
  unfold m_sum_of
  have h1 := List.length_filter_le (fun v : Int => !decide (v ∈ b)) a
  have h2 := List.length_filter_le (fun v : Int => !decide (v ∈ a)) b
  exact guardM_pos (by show _ ≤ 16777216; omega)
theorem measured_eq {g : Gr} (h0 : 0 ≤ g.1) (h : g.1 ≤ 64) : m_measured g = some ((rangeL 0 g.1.toNat).filter fun v => !decide (v ∈ g.2.2.2.1)) := by
  unfold m_measured
  exact guardM_pos (by show _ ≤ 16777216; omega)
theorem odd_set_eq {g : Gr} (G : Good g) (l : List Int) : m_odd_set g l = some (oddS g l) := by
  unfold m_odd_set
  have := foldlM_eq (f := fun (w0 : List Int) (vertex0 : Int) => (m_neighbours g vertex0).bind fun z0 => (m_sum_of w0 z0).bind fun z1 => letM z1 fun told1 => some told1) (g := fun t v => sumS t (nbr g v)) (xs := l) (fun t => SL t ∧ ∀ x ∈ t, 0 ≤ x ∧ x < g.1) l [] ⟨SL.nil, by simp⟩ fun v _ t ht => by
    have e : sumS t (nbr g v) = sumS t (nbr g v) := rfl
    have l1 := G.len ht.1 ht.2
    have l2 := G.nbr_len v
    refine ⟨?_, sumS_SL ht.1 (G.nbr_SL v), fun x hx => ?_⟩
    · rw [neighbours_eq G.el]
      show (m_sum_of t (nbr g v)).bind _ = _
      rw [sum_of_eq (by omega) (by omega)]
      rfl
    · rw [mem_sumS] at hx
      by_cases q : x ∈ t
      · exact ht.2 x q
      · by_cases q2 : x ∈ nbr g v
        · exact G.nbr_in q2
        · simp [q, q2] at hx
  exact congrArg (fun m : Option (List Int) => m.bind fun w1 => some w1) this.1
theorem is_less_heavy_eq {a b : List Int} (ha : a.length ≤ 4096) (hb : b.length ≤ 4096) : m_is_less_heavy a b = some (lessS a b) := by
  unfold m_is_less_heavy
  rw [sum_of_eq ha hb]
  unfold lessS
  show (if decide ((0 : Int) < ((sumS a b).length : Int)) = true then (atI (sumS a b) 0).bind fun z1 => some (decide (z1 ∈ b), ()) else some (false, ())).bind _ = _
  cases sumS a b with
  | nil => rfl
  | cons x l =>
    rw [if_pos (by simp), at_zero]
    rfl
theorem near_eq {g : Gr} (h : g.2.1.length ≤ 4096) (v : Int) : m_law_near g v = some (nbr g v) := neighbours_eq h v
theorem odd_law {g : Gr} (G : Good g) {l : List Int} (hl : l.Nodup) : m_law_odd g l = some (oddS g l) := by
  rw [G.odd_eq hl]
  unfold m_law_odd
  refine guardM_pos (c := g.1.natAbs ≤ Line) (by have := G.n0; have := G.n1; show _ ≤ 16777216; omega) |>.trans ?_
  have gen : ∀ (xs w : List Int), w.length + xs.length ≤ 1000 → xs.foldlM (fun (w0 : List Int) (vertex0 : Int) => (m_law_near g vertex0).bind fun z0 => guardM ((2 : Int) ≠ 0) ((if (decide ((((z0.filter fun (one0 : Int) => (decide (one0 ∈ l))).length : Int).fmod (2 : Int)) = (1 : Int))) = true then guardM (w0.length < Line) (letM (w0 ++ [vertex0]) fun found1 => some (found1)) else some (w0)).bind fun w2 => some (w2))) w = some (w ++ xs.filter fun x => par (fun v => decide (v ∈ l)) (nbr g x)) := by
    intro xs
    induction xs with
    | nil => intro w _; simp
    | cons x xs ih =>
      intro w hw
      rw [List.length_cons] at hw
      rw [List.foldlM_cons, near_eq G.el]
      have e : decide ((((nbr g x).filter fun one0 => decide (one0 ∈ l)).length : Int).fmod 2 = 1) = par (fun v => decide (v ∈ l)) (nbr g x) := by
        unfold par
        rw [Int.fmod_eq_emod_of_nonneg _ (by decide), ← Bool.beq_eq_decide_eq]
        generalize ((nbr g x).filter fun one0 => decide (one0 ∈ l)).length = k
        rcases Nat.mod_two_eq_zero_or_one k with q | q
        · have : (k : Int) % 2 = 0 := by omega
          rw [this, q]; rfl
        · have : (k : Int) % 2 = 1 := by omega
          rw [this, q]; rfl
      show (guardM ((2 : Int) ≠ 0) ((if decide ((((nbr g x).filter fun one0 => decide (one0 ∈ l)).length : Int).fmod 2 = 1) = true then guardM (w.length < Line) (letM (w ++ [x]) fun found1 => some found1) else some w).bind fun w2 => some w2)).bind _ = _
      rw [guardM_pos (by decide), e]
      cases hp : par (fun v => decide (v ∈ l)) (nbr g x) with
      | true =>
        rw [if_pos rfl, guardM_pos (show w.length < 16777216 by omega), List.filter_cons_of_pos (p := fun x => par (fun v => decide (v ∈ l)) (nbr g x)) hp]
        refine (ih (w ++ [x]) (by rw [List.length_append]; simp; omega)).trans ?_
        simp
      | false =>
        rw [if_neg Bool.false_ne_true, List.filter_cons_of_neg (p := fun x => par (fun v => decide (v ∈ l)) (nbr g x)) (by simp [hp])]
        exact ih w (by omega)
  have h0 := G.n0
  have h1 := G.n1
  have := gen (rangeL 0 g.1.toNat) [] (by rw [rangeL_len]; simp; omega)
  exact congrArg (fun m : Option (List Int) => m.bind fun w1 => some w1) this
theorem law_graph_ok {most : Int} {all : Bool} (s : Rs) (h : 1 ≤ most) (h2 : most ≤ 63) : Y (m_law_graph most all s) (fun p => Good p.1 ∧ 1 ≤ p.1.1 ∧ p.1.1 ≤ most) := by
  unfold m_law_graph
  refine Y.bind (Y.draw (by omega) (by omega)) fun z0 h0 => ?_
  refine Y.lt ?_
  generalize hn : (1 : Int) + z0.1 = n
  have hn1 : 1 ≤ n ∧ n ≤ most := by omega
  refine Y.bind (Y.draw (by omega) (by omega)) fun z1 h1 => ?_
  refine Y.bind (at_mem (P := fun d => 2 ≤ d ∧ d ≤ 5) h1.1 (by simpa using h1.2) (by simp)) fun dense hd => ?_
  refine Y.lt (Y.lt (Y.guard (show n.natAbs ≤ 16777216 by omega) ?_))
  refine Y.bind (Y.fold (fun p w => w.1.Sublist (p.flatMap fun i => (rangeL (i + 1) (n - (i + 1)).toNat).map fun j => (i, j))) (by simp) fun p x w hp hw => ?_) fun w1 hw1 => ?_
  · have hx := mem_range0.mp (pre_mem hp)
    refine Y.guard (by refine ⟨?_, ?_, ?_⟩ <;> show _ ≤ _ <;> simp only [Line] <;> omega) ?_
    refine Y.bind (Y.fold (fun q v => v.1.Sublist ((p.flatMap fun i => (rangeL (i + 1) (n - (i + 1)).toNat).map fun j => (i, j)) ++ q.map fun j => (x, j))) (by simpa using hw) fun q y v hq hv => ?_) fun v hv => ?_
    · refine Y.bind (Y.draw (by omega) (by omega)) fun z3 _ => ?_
      refine Y.bind (P := fun v => v.1.Sublist ((p.flatMap fun i => (rangeL (i + 1) (n - (i + 1)).toNat).map fun j => (i, j)) ++ (q ++ [y]).map fun j => (x, j))) (Y.ite (fun _ => Y.guard ?_ (Y.lt (Y.ok ?_))) fun _ => Y.ok ?_) fun w4 h4 => Y.ok h4
      · have l1 := hv.length_le
        have sub : ((p.flatMap fun i => (rangeL (i + 1) (n - (i + 1)).toNat).map fun j => (i, j)) ++ q.map fun j => (x, j)).Sublist ((p ++ [x]).flatMap fun i => (rangeL (i + 1) (n - (i + 1)).toNat).map fun j => (i, j)) := by
          rw [List.flatMap_append, List.flatMap_singleton]
          refine (List.Sublist.refl _).append ?_
          obtain ⟨t, ht⟩ := hq
          rw [← ht, List.map_append, List.map_append]
          exact (List.sublist_append_left _ _).trans (List.sublist_append_left _ _)
        have l2 := sub.length_le
        have l3 := (flatMap_pre (f := fun i => (rangeL (i + 1) (n - (i + 1)).toNat).map fun j => (i, j)) hp).length_le
        have l4 := pairs_len n (by omega)
        unfold pairsL at l4
        show _ < 16777216
        omega
      · rw [List.map_append, ← List.append_assoc]
        exact hv.append (List.Sublist.refl _)
      · rw [List.map_append, ← List.append_assoc]
        exact hv.trans (List.sublist_append_left _ _)
    · refine Y.ok ?_
      rw [List.flatMap_append, List.flatMap_singleton]
      exact hv
  · refine Y.guard (show n.natAbs ≤ 16777216 by omega) ?_
    refine Y.bind (Y.pick fun x s hx => ?_) fun z8 h8 => ?_
    · refine Y.bind (Y.draw (by omega) (by omega)) fun z4 _ => ?_
      refine Y.bind (P := fun _ => True) (Y.ite (fun _ => Y.ok trivial) fun _ => ?_) fun z7 _ => Y.ite (fun _ => Y.ok (.inr rfl)) fun _ => Y.ok (.inl rfl)
      refine Y.bind (P := fun _ => True) (Y.ite (fun _ => ?_) fun _ => Y.ok trivial) fun z6 _ => Y.ok trivial
      exact Y.bind (Y.draw (by omega) (by omega)) fun z5 _ => Y.ok trivial
    · refine Y.lt (Y.guard (show n.natAbs ≤ 16777216 by omega) ?_)
      refine Y.bind (Y.pick fun x s hx => ?_) fun z10 h10 => ?_
      · exact Y.bind (Y.draw (by omega) (by omega)) fun z9 _ => Y.ite (fun _ => Y.ok (.inr rfl)) fun _ => Y.ok (.inl rfl)
      · refine Y.lt (Y.lt (Y.guard (show n.natAbs ≤ 16777216 by omega) ?_))
        refine Y.bind (Y.fold (fun p w => w.1.length = p.length) rfl fun p x w hp hw => ?_) fun w6 h6 => Y.ok ?_
        · refine Y.bind (P := fun _ => True) (Y.ite (fun _ => ?_) fun _ => Y.ok trivial) fun z13 _ => ?_
          · refine Y.bind (Y.draw (by omega) (by omega)) fun z11 h11 => ?_
            exact Y.bind (at_mem (P := fun _ => True) h11.1 (by simpa using h11.2) (by simp)) fun _ _ => Y.ok trivial
          · refine Y.lt (Y.guard ?_ (Y.lt (Y.ok ?_)))
            · obtain ⟨t, ht⟩ := hp
              have := congrArg List.length ht
              rw [rangeL_len] at this
              simp at this
              show _ < 16777216
              omega
            · simp [hw]
        · have hE : w1.1.Sublist (pairsL n) := hw1
          refine ⟨⟨by show 0 ≤ n; omega, by show n ≤ 64; omega, (pairs_nodup n).sublist hE, fun e he => mem_pairs.mp (hE.mem he), Nat.le_trans hE.length_le (pairs_len n (by omega)), h10, h8⟩, hn1.1, hn1.2⟩
theorem both_mem {n : Int} {a b : List Int} (ha : a.Sublist (rangeL 0 n.toNat)) (hb : b.Sublist (rangeL 0 n.toNat)) : ∀ x, x ∈ ((rangeL 0 n.toNat).filter fun v => !decide ((decide (v ∈ a)) = (decide (v ∈ b)))) ↔ ((x ∈ a) ≠ (x ∈ b)) := by
  intro x
  rw [List.mem_filter]
  by_cases h1 : x ∈ a <;> by_cases h2 : x ∈ b <;> simp [h1, h2]
  · exact ha.mem h1
  · exact hb.mem h2
theorem both_eq {n : Int} {a b : List Int} (ha : a.Sublist (rangeL 0 n.toNat)) (hb : b.Sublist (rangeL 0 n.toNat)) : sumS a b = (rangeL 0 n.toNat).filter fun v => !decide ((decide (v ∈ a)) = (decide (v ∈ b))) :=
  SL.ext (sumS_SL ((rangeL_SL _ _).sub ha) ((rangeL_SL _ _).sub hb)) ((rangeL_SL _ _).filter _) fun x => by rw [mem_sumS, both_mem ha hb]
theorem law_true (ns : List Int) (h : ns.length ≤ 63) : ∃ s', m_law (stateR ns) = some (true, s') := by
  suffices hs : ∀ s, Y (m_law s) (fun p => p.1 = true) by
    obtain ⟨⟨b, s'⟩, h1, rfl⟩ := hs (stateR ns)
    exact ⟨s', h1⟩
  intro s
  unfold m_law
  refine Y.bind (law_graph_ok s (by decide) (by decide)) fun z0 h0 => Y.lt (Y.lt ?_)
  obtain ⟨G, h1, h2⟩ := h0
  generalize z0.1 = g at *
  generalize z0.2 = s0 at *
  have gl : g.1.natAbs ≤ 16777216 := by omega
  refine Y.guard gl ?_
  refine Y.forI (fun _ => True) trivial (fun v w hv _ => ?_) fun w1 _ => ?_
  · refine Y.bindE (neighbours_eq G.el v) (Y.lt ?_)
    refine Y.bind (P := fun z => z.1 = false) (Y.iteF rfl (Y.bindE (near_eq G.el v) (Y.ok (by simp)))) fun z3 h3 => ?_
    exact Y.iteF h3 (Y.next trivial)
  · refine Y.bindE (measured_eq (by omega) (by omega)) (Y.lt ?_)
    refine Y.bind (P := fun z => z.1 = false) (Y.iteF rfl (Y.guard gl (Y.ok (by simp)))) fun z5 h5 => ?_
    refine Y.iteF h5 (Y.guard (by decide) ?_)
    refine Y.forI (fun _ => True) trivial (fun v w hv _ => ?_) fun w1 _ => Y.ok rfl
    refine Y.guard gl (Y.bind (Y.pick fun x s hx => ?_) fun z7 h7 => ?_)
    · exact Y.bind (Y.draw (by omega) (by omega)) fun z9 _ => Y.ite (fun _ => Y.ok (.inr rfl)) fun _ => Y.ok (.inl rfl)
    refine Y.lt (Y.guard gl (Y.bind (Y.pick fun x s hx => ?_) fun z9 h9 => ?_))
    · exact Y.bind (Y.draw (by omega) (by omega)) fun z9 _ => Y.ite (fun _ => Y.ok (.inr rfl)) fun _ => Y.ok (.inl rfl)
    refine Y.lt (Y.guard gl (Y.lt ?_))
    generalize z7.1 = a at *
    generalize z9.1 = b at *
    generalize z9.2 = s3 at *
    have sa := (rangeL_SL _ _).sub h7
    have sb := (rangeL_SL _ _).sub h9
    have la : a.length ≤ 64 := G.len sa fun x hx => mem_range0.mp (h7.mem hx)
    have lb : b.length ≤ 64 := G.len sb fun x hx => mem_range0.mp (h9.mem hx)
    have hb := both_mem h7 h9
    have eb := both_eq h7 h9
    have sc : SL ((rangeL 0 g.1.toNat).filter fun v => !decide ((decide (v ∈ a)) = (decide (v ∈ b)))) := (rangeL_SL _ _).filter _
    have hc : ((rangeL 0 g.1.toNat).filter fun v => !decide ((decide (v ∈ a)) = (decide (v ∈ b)))).Sublist (rangeL 0 g.1.toNat) := List.filter_sublist
    generalize ((rangeL 0 g.1.toNat).filter fun v => !decide ((decide (v ∈ a)) = (decide (v ∈ b)))) = c at *
    have lc : c.length ≤ 64 := G.len sc fun x hx => mem_range0.mp (hc.mem hx)
    refine Y.bindE (odd_set_eq G a) (Y.lt ?_)
    refine Y.bind (P := fun z => z.1 = false) (Y.iteF rfl (Y.bindE (odd_law G sa.nodup) (Y.ok (by simp)))) fun z12 h12 => ?_
    refine Y.iteF h12 (Y.bindE (sum_of_eq (by omega) (by omega)) ?_)
    have o1 := G.odd_len a
    have o2 := G.odd_len b
    refine Y.bind (P := fun z => z.1 = false) (Y.iteF (by rw [eb]; simp) (Y.bindE (sum_of_eq (by omega) (by omega)) (Y.bind (P := fun z => z.1 = false) (Y.iteF rfl (Y.bindE (odd_set_eq G b) (Y.bindE (sum_of_eq (by omega) (by omega)) (Y.bindE (odd_set_eq G c) (Y.ok ?_))))) fun z18 h18 => Y.ok h18))) fun z19 h19 => ?_
    · show (!decide (sumS (oddS g a) (oddS g b) = oddS g c)) = false
      rw [G.odd_sum sa.nodup sb.nodup sc.nodup hb]
      simp
    refine Y.iteF h19 ?_
    refine Y.forI (fun _ => True) trivial (fun v w hv _ => ?_) fun w1 _ => Y.next trivial
    have hv' : v.1.Sublist (rangeL 0 g.1.toNat) ∧ v.2.Sublist (rangeL 0 g.1.toNat) ∧ v.1.length ≤ 64 ∧ v.2.length ≤ 64 := by
      simp at hv
      rcases hv with rfl | rfl | rfl | rfl
      · exact ⟨h7, h9, la, lb⟩
      · exact ⟨h9, h7, lb, la⟩
      · exact ⟨h7, h7, la, la⟩
      · exact ⟨h7, hc, la, lc⟩
    obtain ⟨v1, v2, l1, l2⟩ := hv'
    refine Y.guard gl (Y.lt (Y.bindE (is_less_heavy_eq (by omega) (by omega)) (Y.lt ?_)))
    rw [← both_eq v1 v2]
    refine Y.bind (P := fun z => z.1 = false) (Y.iteF rfl (Y.bind (P := fun z => z.1 = lessS v.1 v.2) ?_ fun z22 h22 => Y.ok ?_)) fun z23 h23 => Y.iteF h23 (Y.next trivial)
    · unfold lessS
      cases sumS v.1 v.2 with
      | nil => exact Y.iteF rfl (Y.ok rfl)
      | cons x t => exact Y.iteT (by simp) (Y.bindE at_zero (Y.ok rfl))
    · show (!decide (lessS v.1 v.2 = z22.1)) = false
      rw [h22]; simp
end K02
namespace K02
open PySem PySem.Spec PyProof.Rows L2 Ab
def txt_mk {K : PySem.W.Frag} {h : Heap} {mg : Str → Option Value} {f0 : Addr} {od0 an0 : Option Addr} {sl0 : Array (Option Value)} {oc0 kV0 dc0 pm0 cd0 ct0 : Value} {f1 : Addr} {od1 an1 : Option Addr} {sl1 : Array (Option Value)} {oc1 kV1 dc1 pm1 cd1 ct1 : Value} {f2 : Addr} {od2 an2 : Option Addr} {sl2 : Array (Option Value)} {oc2 kV2 dc2 pm2 cd2 ct2 : Value} {f3 : Addr} {od3 an3 : Option Addr} {sl3 : Array (Option Value)} {oc3 kV3 dc3 pm3 cd3 ct3 : Value} {f4 : Addr} {od4 an4 : Option Addr} {sl4 : Array (Option Value)} {oc4 kV4 dc4 pm4 cd4 ct4 : Value} {f5 : Addr} {od5 an5 : Option Addr} {sl5 : Array (Option Value)} {oc5 kV5 dc5 pm5 cd5 ct5 : Value} {f6 : Addr} {od6 an6 : Option Addr} {sl6 : Array (Option Value)} {oc6 kV6 dc6 pm6 cd6 ct6 : Value} {f7 : Addr} {od7 an7 : Option Addr} {sl7 : Array (Option Value)} {oc7 kV7 dc7 pm7 cd7 ct7 : Value} {f8 : Addr} {od8 an8 : Option Addr} {sl8 : Array (Option Value)} {oc8 kV8 dc8 pm8 cd8 ct8 : Value} {f9 : Addr} {od9 an9 : Option Addr} {sl9 : Array (Option Value)} {oc9 kV9 dc9 pm9 cd9 ct9 : Value} {f10 : Addr} {od10 an10 : Option Addr} {sl10 : Array (Option Value)} {oc10 kV10 dc10 pm10 cd10 ct10 : Value} {f11 : Addr} {od11 an11 : Option Addr} {sl11 : Array (Option Value)} {oc11 kV11 dc11 pm11 cd11 ct11 : Value} (X : K.In h) (G : h.Ns mainGlobals mg)
    (a0 : PySem.W.nsIn K mainGlobals "neighbours" = some (some (.ref f0))) (l0 : K.lookup f0 = some ⟨oc0, od0, .func (PySem.W.fnOf "neighbours" "neighbours" (defArgs s_neighbours) (defBody s_neighbours) (defScope s_neighbours) .none kV0 dc0 pm0 an0 cd0 ct0), sl0⟩) (c0 : PySem.W.codeIn K cd0 "neighbours" = true) (k0 : PySem.W.keepIn K (.ref f0) = true)
    (a1 : PySem.W.nsIn K mainGlobals "odd_set" = some (some (.ref f1))) (l1 : K.lookup f1 = some ⟨oc1, od1, .func (PySem.W.fnOf "odd_set" "odd_set" (defArgs s_odd_set) (defBody s_odd_set) (defScope s_odd_set) .none kV1 dc1 pm1 an1 cd1 ct1), sl1⟩) (c1 : PySem.W.codeIn K cd1 "odd_set" = true) (k1 : PySem.W.keepIn K (.ref f1) = true)
    (a2 : PySem.W.nsIn K mainGlobals "measured" = some (some (.ref f2))) (l2 : K.lookup f2 = some ⟨oc2, od2, .func (PySem.W.fnOf "measured" "measured" (defArgs s_measured) (defBody s_measured) (defScope s_measured) .none kV2 dc2 pm2 an2 cd2 ct2), sl2⟩) (c2 : PySem.W.codeIn K cd2 "measured" = true) (k2 : PySem.W.keepIn K (.ref f2) = true)
    (a3 : PySem.W.nsIn K mainGlobals "sum_of" = some (some (.ref f3))) (l3 : K.lookup f3 = some ⟨oc3, od3, .func (PySem.W.fnOf "sum_of" "sum_of" (defArgs s_sum_of) (defBody s_sum_of) (defScope s_sum_of) .none kV3 dc3 pm3 an3 cd3 ct3), sl3⟩) (c3 : PySem.W.codeIn K cd3 "sum_of" = true) (k3 : PySem.W.keepIn K (.ref f3) = true)
    (a4 : PySem.W.nsIn K mainGlobals "is_less_heavy" = some (some (.ref f4))) (l4 : K.lookup f4 = some ⟨oc4, od4, .func (PySem.W.fnOf "is_less_heavy" "is_less_heavy" (defArgs s_is_less_heavy) (defBody s_is_less_heavy) (defScope s_is_less_heavy) .none kV4 dc4 pm4 an4 cd4 ct4), sl4⟩) (c4 : PySem.W.codeIn K cd4 "is_less_heavy" = true) (k4 : PySem.W.keepIn K (.ref f4) = true)
    (a5 : PySem.W.nsIn K mainGlobals "_law_state" = some (some (.ref f5))) (l5 : K.lookup f5 = some ⟨oc5, od5, .func (PySem.W.fnOf "_law_state" "_law_state" (defArgs s__law_state) (defBody s__law_state) (defScope s__law_state) .none kV5 dc5 pm5 an5 cd5 ct5), sl5⟩) (c5 : PySem.W.codeIn K cd5 "_law_state" = true) (k5 : PySem.W.keepIn K (.ref f5) = true)
    (a6 : PySem.W.nsIn K mainGlobals "_law_draw" = some (some (.ref f6))) (l6 : K.lookup f6 = some ⟨oc6, od6, .func (PySem.W.fnOf "_law_draw" "_law_draw" (defArgs s__law_draw) (defBody s__law_draw) (defScope s__law_draw) .none kV6 dc6 pm6 an6 cd6 ct6), sl6⟩) (c6 : PySem.W.codeIn K cd6 "_law_draw" = true) (k6 : PySem.W.keepIn K (.ref f6) = true)
    (a7 : PySem.W.nsIn K mainGlobals "_law_graph" = some (some (.ref f7))) (l7 : K.lookup f7 = some ⟨oc7, od7, .func (PySem.W.fnOf "_law_graph" "_law_graph" (defArgs s__law_graph) (defBody s__law_graph) (defScope s__law_graph) .none kV7 dc7 pm7 an7 cd7 ct7), sl7⟩) (c7 : PySem.W.codeIn K cd7 "_law_graph" = true) (k7 : PySem.W.keepIn K (.ref f7) = true)
    (a8 : PySem.W.nsIn K mainGlobals "_law_path" = some (some (.ref f8))) (l8 : K.lookup f8 = some ⟨oc8, od8, .func (PySem.W.fnOf "_law_path" "_law_path" (defArgs s__law_path) (defBody s__law_path) (defScope s__law_path) .none kV8 dc8 pm8 an8 cd8 ct8), sl8⟩) (c8 : PySem.W.codeIn K cd8 "_law_path" = true) (k8 : PySem.W.keepIn K (.ref f8) = true)
    (a9 : PySem.W.nsIn K mainGlobals "_law_near" = some (some (.ref f9))) (l9 : K.lookup f9 = some ⟨oc9, od9, .func (PySem.W.fnOf "_law_near" "_law_near" (defArgs s__law_near) (defBody s__law_near) (defScope s__law_near) .none kV9 dc9 pm9 an9 cd9 ct9), sl9⟩) (c9 : PySem.W.codeIn K cd9 "_law_near" = true) (k9 : PySem.W.keepIn K (.ref f9) = true)
    (a10 : PySem.W.nsIn K mainGlobals "_law_odd" = some (some (.ref f10))) (l10 : K.lookup f10 = some ⟨oc10, od10, .func (PySem.W.fnOf "_law_odd" "_law_odd" (defArgs s__law_odd) (defBody s__law_odd) (defScope s__law_odd) .none kV10 dc10 pm10 an10 cd10 ct10), sl10⟩) (c10 : PySem.W.codeIn K cd10 "_law_odd" = true) (k10 : PySem.W.keepIn K (.ref f10) = true)
    (a11 : PySem.W.nsIn K mainGlobals "law" = some (some (.ref f11))) (l11 : K.lookup f11 = some ⟨oc11, od11, .func (PySem.W.fnOf "law" "law" (defArgs s_law) (defBody s_law) (defScope s_law) .none kV11 dc11 pm11 an11 cd11 ct11), sl11⟩) (c11 : PySem.W.codeIn K cd11 "law" = true) (k11 : PySem.W.keepIn K (.ref f11) = true)
    (z0 : PySem.W.nsIn K mainGlobals "abs" = some none)
    (z1 : PySem.W.nsIn K mainGlobals "bool" = some none)
    (z2 : PySem.W.nsIn K mainGlobals "int" = some none)
    (z3 : PySem.W.nsIn K mainGlobals "isinstance" = some none)
    (z4 : PySem.W.nsIn K mainGlobals "len" = some none)
    (z5 : PySem.W.nsIn K mainGlobals "range" = some none)
    (z6 : PySem.W.nsIn K mainGlobals "sorted" = some none)
    (z7 : PySem.W.nsIn K mainGlobals "tuple" = some none) : Txt K mg where
  a_neighbours := f0
  d_neighbours := PySem.W.fnOf "neighbours" "neighbours" (defArgs s_neighbours) (defBody s_neighbours) (defScope s_neighbours) .none kV0 dc0 pm0 an0 cd0 ct0
  F_neighbours := fun_mk (st := s_neighbours) l0 c0 k0
  g_neighbours := PySem.W.mg_of X G a0
  k_neighbours := k0
  b_neighbours := (fun_mk (x := "neighbours") (qual := "neighbours") (st := s_neighbours) l0 c0 k0).binds (ps := ["graph", "vertex"]) fun _ _ _ _ _ _ us hl => match us, hl with | [_, _], _ => rfl
  a_odd_set := f1
  d_odd_set := PySem.W.fnOf "odd_set" "odd_set" (defArgs s_odd_set) (defBody s_odd_set) (defScope s_odd_set) .none kV1 dc1 pm1 an1 cd1 ct1
  F_odd_set := fun_mk (st := s_odd_set) l1 c1 k1
  g_odd_set := PySem.W.mg_of X G a1
  k_odd_set := k1
  b_odd_set := (fun_mk (x := "odd_set") (qual := "odd_set") (st := s_odd_set) l1 c1 k1).binds (ps := ["graph", "some"]) fun _ _ _ _ _ _ us hl => match us, hl with | [_, _], _ => rfl
  a_measured := f2
  d_measured := PySem.W.fnOf "measured" "measured" (defArgs s_measured) (defBody s_measured) (defScope s_measured) .none kV2 dc2 pm2 an2 cd2 ct2
  F_measured := fun_mk (st := s_measured) l2 c2 k2
  g_measured := PySem.W.mg_of X G a2
  k_measured := k2
  b_measured := (fun_mk (x := "measured") (qual := "measured") (st := s_measured) l2 c2 k2).binds (ps := ["graph"]) fun _ _ _ _ _ _ us hl => match us, hl with | [_], _ => rfl
  a_sum_of := f3
  d_sum_of := PySem.W.fnOf "sum_of" "sum_of" (defArgs s_sum_of) (defBody s_sum_of) (defScope s_sum_of) .none kV3 dc3 pm3 an3 cd3 ct3
  F_sum_of := fun_mk (st := s_sum_of) l3 c3 k3
  g_sum_of := PySem.W.mg_of X G a3
  k_sum_of := k3
  b_sum_of := (fun_mk (x := "sum_of") (qual := "sum_of") (st := s_sum_of) l3 c3 k3).binds (ps := ["one", "other"]) fun _ _ _ _ _ _ us hl => match us, hl with | [_, _], _ => rfl
  a_is_less_heavy := f4
  d_is_less_heavy := PySem.W.fnOf "is_less_heavy" "is_less_heavy" (defArgs s_is_less_heavy) (defBody s_is_less_heavy) (defScope s_is_less_heavy) .none kV4 dc4 pm4 an4 cd4 ct4
  F_is_less_heavy := fun_mk (st := s_is_less_heavy) l4 c4 k4
  g_is_less_heavy := PySem.W.mg_of X G a4
  k_is_less_heavy := k4
  b_is_less_heavy := (fun_mk (x := "is_less_heavy") (qual := "is_less_heavy") (st := s_is_less_heavy) l4 c4 k4).binds (ps := ["one", "other"]) fun _ _ _ _ _ _ us hl => match us, hl with | [_, _], _ => rfl
  a__law_state := f5
  d__law_state := PySem.W.fnOf "_law_state" "_law_state" (defArgs s__law_state) (defBody s__law_state) (defScope s__law_state) .none kV5 dc5 pm5 an5 cd5 ct5
  F__law_state := fun_mk (st := s__law_state) l5 c5 k5
  g__law_state := PySem.W.mg_of X G a5
  k__law_state := k5
  b__law_state := (fun_mk (x := "_law_state") (qual := "_law_state") (st := s__law_state) l5 c5 k5).binds (ps := ["script"]) fun _ _ _ _ _ _ us hl => match us, hl with | [_], _ => rfl
  a__law_draw := f6
  d__law_draw := PySem.W.fnOf "_law_draw" "_law_draw" (defArgs s__law_draw) (defBody s__law_draw) (defScope s__law_draw) .none kV6 dc6 pm6 an6 cd6 ct6
  F__law_draw := fun_mk (st := s__law_draw) l6 c6 k6
  g__law_draw := PySem.W.mg_of X G a6
  k__law_draw := k6
  b__law_draw := (fun_mk (x := "_law_draw") (qual := "_law_draw") (st := s__law_draw) l6 c6 k6).binds (ps := ["state", "many"]) fun _ _ _ _ _ _ us hl => match us, hl with | [_, _], _ => rfl
  a__law_graph := f7
  d__law_graph := PySem.W.fnOf "_law_graph" "_law_graph" (defArgs s__law_graph) (defBody s__law_graph) (defScope s__law_graph) .none kV7 dc7 pm7 an7 cd7 ct7
  F__law_graph := fun_mk (st := s__law_graph) l7 c7 k7
  g__law_graph := PySem.W.mg_of X G a7
  k__law_graph := k7
  b__law_graph := (fun_mk (x := "_law_graph") (qual := "_law_graph") (st := s__law_graph) l7 c7 k7).binds (ps := ["state", "most", "all_planes"]) fun _ _ _ _ _ _ us hl => match us, hl with | [_, _, _], _ => rfl
  a__law_path := f8
  d__law_path := PySem.W.fnOf "_law_path" "_law_path" (defArgs s__law_path) (defBody s__law_path) (defScope s__law_path) .none kV8 dc8 pm8 an8 cd8 ct8
  F__law_path := fun_mk (st := s__law_path) l8 c8 k8
  g__law_path := PySem.W.mg_of X G a8
  k__law_path := k8
  b__law_path := (fun_mk (x := "_law_path") (qual := "_law_path") (st := s__law_path) l8 c8 k8).binds (ps := ["state", "most"]) fun _ _ _ _ _ _ us hl => match us, hl with | [_, _], _ => rfl
  a__law_near := f9
  d__law_near := PySem.W.fnOf "_law_near" "_law_near" (defArgs s__law_near) (defBody s__law_near) (defScope s__law_near) .none kV9 dc9 pm9 an9 cd9 ct9
  F__law_near := fun_mk (st := s__law_near) l9 c9 k9
  g__law_near := PySem.W.mg_of X G a9
  k__law_near := k9
  b__law_near := (fun_mk (x := "_law_near") (qual := "_law_near") (st := s__law_near) l9 c9 k9).binds (ps := ["graph", "vertex"]) fun _ _ _ _ _ _ us hl => match us, hl with | [_, _], _ => rfl
  a__law_odd := f10
  d__law_odd := PySem.W.fnOf "_law_odd" "_law_odd" (defArgs s__law_odd) (defBody s__law_odd) (defScope s__law_odd) .none kV10 dc10 pm10 an10 cd10 ct10
  F__law_odd := fun_mk (st := s__law_odd) l10 c10 k10
  g__law_odd := PySem.W.mg_of X G a10
  k__law_odd := k10
  b__law_odd := (fun_mk (x := "_law_odd") (qual := "_law_odd") (st := s__law_odd) l10 c10 k10).binds (ps := ["graph", "some"]) fun _ _ _ _ _ _ us hl => match us, hl with | [_, _], _ => rfl
  a_law := f11
  d_law := PySem.W.fnOf "law" "law" (defArgs s_law) (defBody s_law) (defScope s_law) .none kV11 dc11 pm11 an11 cd11 ct11
  F_law := fun_mk (st := s_law) l11 c11 k11
  g_law := PySem.W.mg_of X G a11
  k_law := k11
  b_law := (fun_mk (x := "law") (qual := "law") (st := s_law) l11 c11 k11).binds (ps := ["script"]) fun _ _ _ _ _ _ us hl => match us, hl with | [_], _ => rfl
  n_abs := PySem.W.mg_none_of X G z0
  n_bool := PySem.W.mg_none_of X G z1
  n_int := PySem.W.mg_none_of X G z2
  n_isinstance := PySem.W.mg_none_of X G z3
  n_len := PySem.W.mg_none_of X G z4
  n_range := PySem.W.mg_none_of X G z5
  n_sorted := PySem.W.mg_none_of X G z6
  n_tuple := PySem.W.mg_none_of X G z7
theorem all_mk {l : PySem.W.OpenLaw} {w : World} {K : PySem.W.Frag} {h : Heap} {mg : Str → Option Value} {fa : Addr} {f0 : Addr} {od0 an0 : Option Addr} {sl0 : Array (Option Value)} {oc0 kV0 dc0 pm0 cd0 ct0 : Value} {f1 : Addr} {od1 an1 : Option Addr} {sl1 : Array (Option Value)} {oc1 kV1 dc1 pm1 cd1 ct1 : Value} {f2 : Addr} {od2 an2 : Option Addr} {sl2 : Array (Option Value)} {oc2 kV2 dc2 pm2 cd2 ct2 : Value} {f3 : Addr} {od3 an3 : Option Addr} {sl3 : Array (Option Value)} {oc3 kV3 dc3 pm3 cd3 ct3 : Value} {f4 : Addr} {od4 an4 : Option Addr} {sl4 : Array (Option Value)} {oc4 kV4 dc4 pm4 cd4 ct4 : Value} {f5 : Addr} {od5 an5 : Option Addr} {sl5 : Array (Option Value)} {oc5 kV5 dc5 pm5 cd5 ct5 : Value} {f6 : Addr} {od6 an6 : Option Addr} {sl6 : Array (Option Value)} {oc6 kV6 dc6 pm6 cd6 ct6 : Value} {f7 : Addr} {od7 an7 : Option Addr} {sl7 : Array (Option Value)} {oc7 kV7 dc7 pm7 cd7 ct7 : Value} {f8 : Addr} {od8 an8 : Option Addr} {sl8 : Array (Option Value)} {oc8 kV8 dc8 pm8 cd8 ct8 : Value} {f9 : Addr} {od9 an9 : Option Addr} {sl9 : Array (Option Value)} {oc9 kV9 dc9 pm9 cd9 ct9 : Value} {f10 : Addr} {od10 an10 : Option Addr} {sl10 : Array (Option Value)} {oc10 kV10 dc10 pm10 cd10 ct10 : Value} {f11 : Addr} {od11 an11 : Option Addr} {sl11 : Array (Option Value)} {oc11 kV11 dc11 pm11 cd11 ct11 : Value} (X : K.In h) (G : h.Ns mainGlobals mg) (hfa : mg "law" = some (.ref fa))
    (a0 : PySem.W.nsIn K mainGlobals "neighbours" = some (some (.ref f0))) (l0 : K.lookup f0 = some ⟨oc0, od0, .func (PySem.W.fnOf "neighbours" "neighbours" (defArgs s_neighbours) (defBody s_neighbours) (defScope s_neighbours) .none kV0 dc0 pm0 an0 cd0 ct0), sl0⟩) (c0 : PySem.W.codeIn K cd0 "neighbours" = true) (k0 : PySem.W.keepIn K (.ref f0) = true)
    (a1 : PySem.W.nsIn K mainGlobals "odd_set" = some (some (.ref f1))) (l1 : K.lookup f1 = some ⟨oc1, od1, .func (PySem.W.fnOf "odd_set" "odd_set" (defArgs s_odd_set) (defBody s_odd_set) (defScope s_odd_set) .none kV1 dc1 pm1 an1 cd1 ct1), sl1⟩) (c1 : PySem.W.codeIn K cd1 "odd_set" = true) (k1 : PySem.W.keepIn K (.ref f1) = true)
    (a2 : PySem.W.nsIn K mainGlobals "measured" = some (some (.ref f2))) (l2 : K.lookup f2 = some ⟨oc2, od2, .func (PySem.W.fnOf "measured" "measured" (defArgs s_measured) (defBody s_measured) (defScope s_measured) .none kV2 dc2 pm2 an2 cd2 ct2), sl2⟩) (c2 : PySem.W.codeIn K cd2 "measured" = true) (k2 : PySem.W.keepIn K (.ref f2) = true)
    (a3 : PySem.W.nsIn K mainGlobals "sum_of" = some (some (.ref f3))) (l3 : K.lookup f3 = some ⟨oc3, od3, .func (PySem.W.fnOf "sum_of" "sum_of" (defArgs s_sum_of) (defBody s_sum_of) (defScope s_sum_of) .none kV3 dc3 pm3 an3 cd3 ct3), sl3⟩) (c3 : PySem.W.codeIn K cd3 "sum_of" = true) (k3 : PySem.W.keepIn K (.ref f3) = true)
    (a4 : PySem.W.nsIn K mainGlobals "is_less_heavy" = some (some (.ref f4))) (l4 : K.lookup f4 = some ⟨oc4, od4, .func (PySem.W.fnOf "is_less_heavy" "is_less_heavy" (defArgs s_is_less_heavy) (defBody s_is_less_heavy) (defScope s_is_less_heavy) .none kV4 dc4 pm4 an4 cd4 ct4), sl4⟩) (c4 : PySem.W.codeIn K cd4 "is_less_heavy" = true) (k4 : PySem.W.keepIn K (.ref f4) = true)
    (a5 : PySem.W.nsIn K mainGlobals "_law_state" = some (some (.ref f5))) (l5 : K.lookup f5 = some ⟨oc5, od5, .func (PySem.W.fnOf "_law_state" "_law_state" (defArgs s__law_state) (defBody s__law_state) (defScope s__law_state) .none kV5 dc5 pm5 an5 cd5 ct5), sl5⟩) (c5 : PySem.W.codeIn K cd5 "_law_state" = true) (k5 : PySem.W.keepIn K (.ref f5) = true)
    (a6 : PySem.W.nsIn K mainGlobals "_law_draw" = some (some (.ref f6))) (l6 : K.lookup f6 = some ⟨oc6, od6, .func (PySem.W.fnOf "_law_draw" "_law_draw" (defArgs s__law_draw) (defBody s__law_draw) (defScope s__law_draw) .none kV6 dc6 pm6 an6 cd6 ct6), sl6⟩) (c6 : PySem.W.codeIn K cd6 "_law_draw" = true) (k6 : PySem.W.keepIn K (.ref f6) = true)
    (a7 : PySem.W.nsIn K mainGlobals "_law_graph" = some (some (.ref f7))) (l7 : K.lookup f7 = some ⟨oc7, od7, .func (PySem.W.fnOf "_law_graph" "_law_graph" (defArgs s__law_graph) (defBody s__law_graph) (defScope s__law_graph) .none kV7 dc7 pm7 an7 cd7 ct7), sl7⟩) (c7 : PySem.W.codeIn K cd7 "_law_graph" = true) (k7 : PySem.W.keepIn K (.ref f7) = true)
    (a8 : PySem.W.nsIn K mainGlobals "_law_path" = some (some (.ref f8))) (l8 : K.lookup f8 = some ⟨oc8, od8, .func (PySem.W.fnOf "_law_path" "_law_path" (defArgs s__law_path) (defBody s__law_path) (defScope s__law_path) .none kV8 dc8 pm8 an8 cd8 ct8), sl8⟩) (c8 : PySem.W.codeIn K cd8 "_law_path" = true) (k8 : PySem.W.keepIn K (.ref f8) = true)
    (a9 : PySem.W.nsIn K mainGlobals "_law_near" = some (some (.ref f9))) (l9 : K.lookup f9 = some ⟨oc9, od9, .func (PySem.W.fnOf "_law_near" "_law_near" (defArgs s__law_near) (defBody s__law_near) (defScope s__law_near) .none kV9 dc9 pm9 an9 cd9 ct9), sl9⟩) (c9 : PySem.W.codeIn K cd9 "_law_near" = true) (k9 : PySem.W.keepIn K (.ref f9) = true)
    (a10 : PySem.W.nsIn K mainGlobals "_law_odd" = some (some (.ref f10))) (l10 : K.lookup f10 = some ⟨oc10, od10, .func (PySem.W.fnOf "_law_odd" "_law_odd" (defArgs s__law_odd) (defBody s__law_odd) (defScope s__law_odd) .none kV10 dc10 pm10 an10 cd10 ct10), sl10⟩) (c10 : PySem.W.codeIn K cd10 "_law_odd" = true) (k10 : PySem.W.keepIn K (.ref f10) = true)
    (a11 : PySem.W.nsIn K mainGlobals "law" = some (some (.ref f11))) (l11 : K.lookup f11 = some ⟨oc11, od11, .func (PySem.W.fnOf "law" "law" (defArgs s_law) (defBody s_law) (defScope s_law) .none kV11 dc11 pm11 an11 cd11 ct11), sl11⟩) (c11 : PySem.W.codeIn K cd11 "law" = true) (k11 : PySem.W.keepIn K (.ref f11) = true)
    (z0 : PySem.W.nsIn K mainGlobals "abs" = some none)
    (z1 : PySem.W.nsIn K mainGlobals "bool" = some none)
    (z2 : PySem.W.nsIn K mainGlobals "int" = some none)
    (z3 : PySem.W.nsIn K mainGlobals "isinstance" = some none)
    (z4 : PySem.W.nsIn K mainGlobals "len" = some none)
    (z5 : PySem.W.nsIn K mainGlobals "range" = some none)
    (z6 : PySem.W.nsIn K mainGlobals "sorted" = some none)
    (z7 : PySem.W.nsIn K mainGlobals "tuple" = some none) :
    ∃ fd : FuncData, (∀ (s : Shared) (v : Value), BindsTo s fd ⟨[v], []⟩ [("script", v)]) ∧ ∀ base : Heap, K.In base → base.Ns mainGlobals mg → FnOk l.prog w K mg base CX0 3 fa fd ["script"] (spLaw K m_law) := by
  have T : (t : Txt K mg) ×' (t.a_law = f11) := ⟨txt_mk X G a0 l0 c0 k0 a1 l1 c1 k1 a2 l2 c2 k2 a3 l3 c3 k3 a4 l4 c4 k4 a5 l5 c5 k5 a6 l6 c6 k6 a7 l7 c7 k7 a8 l8 c8 k8 a9 l9 c9 k9 a10 l10 c10 k10 a11 l11 c11 k11 z0 z1 z2 z3 z4 z5 z6 z7, rfl⟩
  have e := hfa.symm.trans (PySem.W.mg_of X G a11)
  cases e
  exact ⟨_, fun s v => .of_eq rfl, fun base _ _ => ok_law (txt_mk X G a0 l0 c0 k0 a1 l1 c1 k1 a2 l2 c2 k2 a3 l3 c3 k3 a4 l4 c4 k4 a5 l5 c5 k5 a6 l6 c6 k6 a7 l7 c7 k7 a8 l8 c8 k8 a9 l9 c9 k9 a10 l10 c10 k10 a11 l11 c11 k11 z0 z1 z2 z3 z4 z5 z6 z7)⟩
end K02
open PySem PySem.W PyProof.Rows
set_option maxHeartbeats 0 in
theorem PySem.Challenge.cw_allbranches_k02_odd_sets_holds : PySem.Challenge.rw_allbranches_k02_odd_sets.Holds := by
  w_on; o_law; k_head; (case hw => w_witness2)
  k_fill
  refine L2.walk_of (l := PySem.Challenge.rw_allbranches_k02_odd_sets) (n := 63) (k := 3) (x := "script") (CX := fun _ => L2.CX0) (sp := fun w => Ab.spLaw _ K02.m_law) rfl (by decide) rfl ⟨rfl, by decide, by decide⟩ (fun w h Y => PySem.W.kIn_of Y) ?F (fun _ _ a ns hl _ hS => ⟨a, ns, rfl, hS, hl, K02.law_true ns hl, fun _ => rfl⟩) (fun _ _ _ _ _ h => h)
  case F =>
    intro w mg fa h KX G hmg
    refine' K02.all_mk KX G hmg ?a0 ?l0 ?c0 ?k0 ?a1 ?l1 ?c1 ?k1 ?a2 ?l2 ?c2 ?k2 ?a3 ?l3 ?c3 ?k3 ?a4 ?l4 ?c4 ?k4 ?a5 ?l5 ?c5 ?k5 ?a6 ?l6 ?c6 ?k6 ?a7 ?l7 ?c7 ?k7 ?a8 ?l8 ?c8 ?k8 ?a9 ?l9 ?c9 ?k9 ?a10 ?l10 ?c10 ?k10 ?a11 ?l11 ?c11 ?k11 ?z0 ?z1 ?z2 ?z3 ?z4 ?z5 ?z6 ?z7
    (case a0 => k_is)
    (case l0 => k_is)
    (case c0 => k_is)
    (case k0 => k_is)
    (case a1 => k_is)
    (case l1 => k_is)
    (case c1 => k_is)
    (case k1 => k_is)
    (case a2 => k_is)
    (case l2 => k_is)
    (case c2 => k_is)
    (case k2 => k_is)
    (case a3 => k_is)
    (case l3 => k_is)
    (case c3 => k_is)
    (case k3 => k_is)
    (case a4 => k_is)
    (case l4 => k_is)
    (case c4 => k_is)
    (case k4 => k_is)
    (case a5 => k_is)
    (case l5 => k_is)
    (case c5 => k_is)
    (case k5 => k_is)
    (case a6 => k_is)
    (case l6 => k_is)
    (case c6 => k_is)
    (case k6 => k_is)
    (case a7 => k_is)
    (case l7 => k_is)
    (case c7 => k_is)
    (case k7 => k_is)
    (case a8 => k_is)
    (case l8 => k_is)
    (case c8 => k_is)
    (case k8 => k_is)
    (case a9 => k_is)
    (case l9 => k_is)
    (case c9 => k_is)
    (case k9 => k_is)
    (case a10 => k_is)
    (case l10 => k_is)
    (case c10 => k_is)
    (case k10 => k_is)
    (case a11 => k_is)
    (case l11 => k_is)
    (case c11 => k_is)
    (case k11 => k_is)
    (case z0 => k_is)
    (case z1 => k_is)
    (case z2 => k_is)
    (case z3 => k_is)
    (case z4 => k_is)
    (case z5 => k_is)
    (case z6 => k_is)
    (case z7 => k_is)
