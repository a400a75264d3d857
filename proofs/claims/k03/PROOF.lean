import PyProof.Rows.All
import Wide.All
import OpenK.AllK
import Wide.FinOn
import HandS.ForMost
import HandS.SortInts
import HandS.IsInst
import HandS.TupAny
import HandS.Flow
import HandS.Deep
import HandS.EndBits
import HandS.WideBits
import HandS.WordsDict
import HandS.Text
import PySem.Challenge.RW_allbranches_k03_equations_of_two
set_option Elab.async false
set_option linter.all false
set_option maxRecDepth 100000
set_option autoImplicit false
set_option relaxedAutoImplicit false
namespace Ab
open PySem PySem.Spec PyProof.Rows L2
abbrev D := PyData
abbrev KF := PySem.W.Frag
abbrev Line : Nat := 16777216
theorem le_line {n : Nat} (h : n ≤ Line) : n ≤ sizeLine := by rw [sizeLine_eq]; exact h
theorem lt_line {n : Nat} (h : n < Line) : n < sizeLine := by rw [sizeLine_eq]; exact h
theorem of_line {n : Nat} (h : n ≤ sizeLine) : n ≤ Line := by rw [sizeLine_eq] at h; exact h
/-! ### values as data, in a part Hf of the heap that is never written -/
def keyD : Key → D
  | .inl i => .int i
  | .inr x => .str x
mutual
inductive Rp (K : KF) (H : Hp) : V → D → Prop
  | non : Rp K H .non .none
  | bl (b : Bool) : Rp K H (.bl b) (.bool b)
  | int (i : Int) : Rp K H (.int i) (.int i)
  | str (x : Str) (ok : PySem.PyData.strOk x = true) : Rp K H (.str x) (.str x)
  | lst {a : Addr} {xs : List V} {ds : List D} : Rd H a (.lst xs) → xs.length ≤ Line → RpAll K H xs ds → Rp K H (.ref a) (.list ds)
  | tup {a : Addr} {xs : List V} {ds : List D} : SqT K H a xs → xs.length ≤ Line → RpAll K H xs ds → Rp K H (.ref a) (.tuple ds)
  | dct {a : Addr} {ws : List (Key × V)} {kvs : List (D × D)} : Rd H a (.dK ws) → RpKv K H ws kvs → Rp K H (.ref a) (.dict kvs)
inductive RpAll (K : KF) (H : Hp) : List V → List D → Prop
  | nil : RpAll K H [] []
  | cons {v : V} {vs : List V} {d : D} {ds : List D} : Rp K H v d → RpAll K H vs ds → RpAll K H (v :: vs) (d :: ds)
inductive RpKv (K : KF) (H : Hp) : List (Key × V) → List (D × D) → Prop
  | nil : RpKv K H [] []
  | cons {k : Key} {v : V} {ws : List (Key × V)} {e : D} {kvs : List (D × D)} : Rp K H v e → RpKv K H ws kvs → RpKv K H ((k, v) :: ws) ((keyD k, e) :: kvs)
end
/-- what is tracked in Hf is so in H -/
def Sub (Hf H : Hp) : Prop := ∀ a o, Hf a = some o → H a = some o
theorem Sub.refl (H : Hp) : Sub H H := fun _ _ h => h
theorem Sub.trans {A B C : Hp} (h : Sub A B) (k : Sub B C) : Sub A C := fun a o e => k a o (h a o e)
theorem Sub.seq {K : KF} {H H' : Hp} {a : Addr} {xs : List V} (e : Sub H H') (h : SqL K H a xs) : SqL K H' a xs := by
  rcases h with (h | ⟨o, h⟩) | h
  · exact .inl (.inl (e _ _ h))
  · exact .inl (.inr ⟨o, e _ _ h⟩)
  · exact .inr h
theorem Sub.rd {H H' : Hp} {a : Addr} {u : HO} (e : Sub H H') (h : Rd H a u) : Rd H' a u := by
  rcases h with h | ⟨o, h⟩
  · exact .inl (e _ _ h)
  · exact .inr ⟨o, e _ _ h⟩
theorem Sub.tup {K : KF} {H H' : Hp} {a : Addr} {xs : List V} (e : Sub H H') (h : SqT K H a xs) : SqT K H' a xs := by
  rcases h with (h | ⟨o, h⟩) | h
  · exact .inl (.inl (e _ _ h))
  · exact .inl (.inr ⟨o, e _ _ h⟩)
  · exact .inr h
mutual
theorem Rp.up {K : KF} {H H' : Hp} {v : V} {d : D} (h : Rp K H v d) (e : Sub H H') : Rp K H' v d :=
  match h with
  | .non => .non
  | .bl b => .bl b
  | .int i => .int i
  | .str x ok => .str x ok
  | .lst s z r => .lst (e.rd s) z (RpAll.up r e)
  | .tup s z r => .tup (e.tup s) z (RpAll.up r e)
  | .dct s r => .dct (e.rd s) (RpKv.up r e)
theorem RpAll.up {K : KF} {H H' : Hp} {vs : List V} {ds : List D} (h : RpAll K H vs ds) (e : Sub H H') : RpAll K H' vs ds :=
  match h with
  | .nil => .nil
  | .cons r t => .cons (Rp.up r e) (RpAll.up t e)
theorem RpKv.up {K : KF} {H H' : Hp} {vs : List (Key × V)} {ds : List (D × D)} (h : RpKv K H vs ds) (e : Sub H H') : RpKv K H' vs ds :=
  match h with
  | .nil => .nil
  | .cons r t => .cons (Rp.up r e) (RpKv.up t e)
end
mutual
/-- data without dicts -/
def noD : D → Bool
  | .none => true
  | .bool _ => true
  | .int _ => true
  | .str _ => true
  | .list ds => noDs ds
  | .tuple ds => noDs ds
  | .dict _ => false
def noDs : List D → Bool
  | [] => true
  | d :: ds => noD d && noDs ds
end
mutual
theorem Rp.dp {K : KF} {H : Hp} : ∀ (d : D) (v : V), noD d = true → Rp K H v d → Dp K H v d ∧ d.canLay0 = true
  | .none, _, _, h => by cases h; exact ⟨.non, rfl⟩
  | .bool b, _, _, h => by cases h; exact ⟨.bl b, rfl⟩
  | .int i, _, _, h => by cases h; exact ⟨.int i, rfl⟩
  | .str x, _, _, h => by cases h with | str _ ok => exact ⟨.str x, ok⟩
  | .list ds, _, f, h => by
    cases h with | lst s z r =>
    have q := RpAll.dp ds _ f r
    exact ⟨.lst (.inl s) q.1, q.2⟩
  | .tuple ds, _, f, h => by
    cases h with | tup s z r =>
    have q := RpAll.dp ds _ f r
    exact ⟨.tup s q.1, q.2⟩
  | .dict _, _, f, h => by cases f
theorem RpAll.dp {K : KF} {H : Hp} : ∀ (ds : List D) (vs : List V), noDs ds = true → RpAll K H vs ds → DpAll K H vs ds ∧ PyData.canLayAll0 ds = true
  | [], _, _, h => by cases h; exact ⟨.nil, rfl⟩
  | d :: ds, _, f, h => by
    have f1 : (noD d && noDs ds) = true := f
    rw [Bool.and_eq_true] at f1
    cases h with | cons r t =>
    have q1 := Rp.dp d _ f1.1 r
    have q2 := RpAll.dp ds _ f1.2 t
    exact ⟨.cons q1.1 q2.1, by show (d.canLay0 && PyData.canLayAll0 ds) = true; rw [q1.2, q2.2]; rfl⟩
end
theorem RpAll.len {K : KF} {H : Hp} : ∀ {vs : List V} {ds : List D}, RpAll K H vs ds → vs.length = ds.length
  | _, [], h => by cases h; rfl
  | _, _ :: ds, h => by cases h with | cons _ t => exact congrArg (· + 1) (RpAll.len t)
theorem RpAll.get {K : KF} {H : Hp} : ∀ {vs : List V} {ds : List D} {i : Nat} {d : D}, RpAll K H vs ds → ds[i]? = some d → ∃ v, vs[i]? = some v ∧ Rp K H v d
  | _, [], _, _, _, e => by simp at e
  | _, _ :: ds, 0, d, h, e => by
    cases h with | cons r t =>
    simp at e
    subst e
    exact ⟨_, rfl, r⟩
  | _, _ :: ds, i + 1, d, h, e => by
    cases h with | cons r t =>
    obtain ⟨v, h1, h2⟩ := RpAll.get (i := i) (d := d) t (by simpa using e)
    exact ⟨v, by simpa using h1, h2⟩
theorem RpAll.getV {K : KF} {H : Hp} {vs : List V} {ds : List D} {i : Nat} {v : V} (h : RpAll K H vs ds) (e : vs[i]? = some v) : ∃ d, ds[i]? = some d ∧ Rp K H v d := by
  obtain ⟨hi, _⟩ := List.getElem?_eq_some_iff.mp e
  have hj : i < ds.length := by rw [← h.len]; exact hi
  obtain ⟨w, h1, h2⟩ := h.get (List.getElem?_eq_getElem hj)
  rw [e] at h1
  cases h1
  exact ⟨_, List.getElem?_eq_getElem hj, h2⟩
theorem RpAll.append {K : KF} {H : Hp} : ∀ {vs ws : List V} {ds es : List D}, RpAll K H vs ds → RpAll K H ws es → RpAll K H (vs ++ ws) (ds ++ es)
  | _, _, [], _, h, k => by cases h; exact k
  | _, _, _ :: ds, _, h, k => by cases h with | cons r t => exact .cons r (RpAll.append t k)
theorem RpAll.one {K : KF} {H : Hp} {v : V} {d : D} (h : Rp K H v d) : RpAll K H [v] [d] := .cons h .nil
theorem RpAll.take {K : KF} {H : Hp} : ∀ (n : Nat) {vs : List V} {ds : List D}, RpAll K H vs ds → RpAll K H (vs.take n) (ds.take n)
  | 0, _, _, _ => by simp; exact .nil
  | n + 1, _, [], h => by cases h; exact .nil
  | n + 1, _, _ :: _, h => by cases h with | cons r t => exact .cons r (RpAll.take n t)
theorem RpAll.drop {K : KF} {H : Hp} : ∀ (n : Nat) {vs : List V} {ds : List D}, RpAll K H vs ds → RpAll K H (vs.drop n) (ds.drop n)
  | 0, _, _, h => h
  | n + 1, _, [], h => by cases h; exact .nil
  | n + 1, _, _ :: _, h => by cases h with | cons r t => exact RpAll.drop n t
theorem RpAll.set {K : KF} {H : Hp} {v : V} {d : D} (r : Rp K H v d) : ∀ (i : Nat) {vs : List V} {ds : List D}, RpAll K H vs ds → RpAll K H (vs.set i v) (ds.set i d)
  | _, _, [], h => by cases h; exact .nil
  | 0, _, _ :: _, h => by cases h with | cons _ t => exact .cons r t
  | i + 1, _, _ :: _, h => by cases h with | cons q t => exact .cons q (RpAll.set r i t)
theorem RpAll.ints {K : KF} {H : Hp} : ∀ {ns : List Int} {vs : List V}, RpAll K H vs (ns.map PyData.int) → vs = ns.map V.int
  | [], _, h => by cases h; rfl
  | n :: ns, _, h => by
    cases h with | cons r t =>
    cases r
    rw [RpAll.ints t]
    rfl
theorem RpAll.ofInts {K : KF} {H : Hp} : ∀ (ns : List Int), RpAll K H (ns.map V.int) (ns.map PyData.int)
  | [] => .nil
  | n :: ns => .cons (.int n) (RpAll.ofInts ns)
/-! ### what a slot holds: data, or an object of one's own -/
inductive Tr where
  | imm (d : D)
  | lst (ds : List D)
  | rnd (cells : List Int) (seed : Int)
  | dct (kvs : List (Key × D))
  | dcT (kvs : List (List Key × D))
  | scr (ns : List Int)
def KvRp {κ : Type} (K : KF) (H : Hp) : List (κ × V) → List (κ × D) → Prop := Paired fun p q => p.1 = q.1 ∧ Rp K H p.2 q.2
/-- v is T; the addresses of one's own at as -/
def Holds (K : KF) (Hf H : Hp) (v : V) (T : Tr) (as : List Addr) : Prop :=
  match T with
  | .imm d => as = [] ∧ Rp K Hf v d
  | .lst ds => ∃ a xs, v = .ref a ∧ as = [a] ∧ H a = some (.lst xs) ∧ xs.length ≤ Line ∧ RpAll K Hf xs ds
  | .rnd cs n => ∃ a b, v = .ref a ∧ as = [a, b] ∧ a ≠ b ∧ H a = some (.lst [.ref b, .int n]) ∧ H b = some (.lst (cs.map V.int)) ∧ cs.length ≤ Line
  | .dct kvs => ∃ a ws, v = .ref a ∧ as = [a] ∧ H a = some (.dK ws) ∧ KvRp K Hf ws kvs
  | .dcT kvs => ∃ a ws, v = .ref a ∧ as = [a] ∧ H a = some (.dT ws) ∧ KvRp K Hf ws kvs
  | .scr ns => as = [] ∧ ∃ a, v = .ref a ∧ SqL K Hf a (ns.map V.int) ∧ ns.length ≤ Line
theorem KvRp.up {κ : Type} {K : KF} {H H' : Hp} {ws : List (κ × V)} {kvs : List (κ × D)} (h : KvRp K H ws kvs) (e : Sub H H') : KvRp K H' ws kvs :=
  Paired.mapP h fun _ _ q => ⟨q.1, q.2.up e⟩
/-- kept where Hf grows and the own objects stand -/
theorem Holds.up {K : KF} {Hf H Hf' H' : Hp} {v : V} {T : Tr} {as : List Addr} (h : Holds K Hf H v T as) (e : Sub Hf Hf') (k : ∀ a ∈ as, ∀ o, H a = some o → H' a = some o) : Holds K Hf' H' v T as := by
  cases T with
  | imm d => exact ⟨h.1, h.2.up e⟩
  | lst ds => obtain ⟨a, xs, rfl, rfl, h1, z, h2⟩ := h; exact ⟨a, xs, rfl, rfl, k a (by simp) _ h1, z, h2.up e⟩
  | rnd cs n => obtain ⟨a, b, rfl, rfl, ne, h1, h2, z⟩ := h; exact ⟨a, b, rfl, rfl, ne, k a (by simp) _ h1, k b (by simp) _ h2, z⟩
  | dct kvs => obtain ⟨a, xs, rfl, rfl, h1, h2⟩ := h; exact ⟨a, xs, rfl, rfl, k a (by simp) _ h1, h2.up e⟩
  | dcT kvs => obtain ⟨a, xs, rfl, rfl, h1, h2⟩ := h; exact ⟨a, xs, rfl, rfl, k a (by simp) _ h1, h2.up e⟩
  | scr ns => obtain ⟨rfl, a, rfl, h1, h2⟩ := h; exact ⟨rfl, a, rfl, e.seq h1, h2⟩
theorem Holds.there {K : KF} {Hf H : Hp} {v : V} {T : Tr} {as : List Addr} (h : Holds K Hf H v T as) {a : Addr} (ha : a ∈ as) : H a ≠ none := by
  cases T with
  | imm d => obtain ⟨rfl, _⟩ := h; simp at ha
  | lst ds => obtain ⟨b, xs, rfl, rfl, h1, h2⟩ := h; simp at ha; subst ha; rw [h1]; simp
  | rnd cs n =>
    obtain ⟨b, c, rfl, rfl, ne, h1, h2, z⟩ := h
    simp at ha
    rcases ha with rfl | rfl
    · rw [h1]; simp
    · rw [h2]; simp
  | dct kvs => obtain ⟨b, xs, rfl, rfl, h1, h2⟩ := h; simp at ha; subst ha; rw [h1]; simp
  | dcT kvs => obtain ⟨b, xs, rfl, rfl, h1, h2⟩ := h; simp at ha; subst ha; rw [h1]; simp
  | scr ns => obtain ⟨rfl, _⟩ := h; simp at ha
abbrev Dl := List (Nat × Option Tr)
def lk : Dl → Nat → Option Tr
  | [], _ => none
  | (j, T) :: r, i => match Nat.beq i j with | true => T | false => lk r i
theorem lk_self (j : Nat) (T : Option Tr) (r : Dl) : lk ((j, T) :: r) j = T := by
  show (match Nat.beq j j with | true => T | false => lk r j) = T
  rw [show Nat.beq j j = true from Nat.beq_refl j]
theorem lk_ne {i j : Nat} (h : i ≠ j) (T : Option Tr) (r : Dl) : lk ((j, T) :: r) i = lk r i := by
  show (match Nat.beq i j with | true => T | false => lk r i) = lk r i
  rw [show Nat.beq i j = false from by
    cases e : Nat.beq i j with
    | false => rfl
    | true => exact absurd (Nat.eq_of_beq_eq_true e) h]
/-- the frame's slots; A: the own addresses by slot -/
structure Sat (K : KF) (σ : L2.St) (H Hf : Hp) (Δ : Dl) (A : Nat → List Addr) : Prop where
  sub : Sub Hf H
  slot : ∀ i T, lk Δ i = some T → ∃ v, σ[i]? = some (some v) ∧ Holds K Hf H v T (A i)
  own : ∀ i a, a ∈ A i → Hf a = none ∧ H a ≠ none
  inj : ∀ i j a, a ∈ A i → a ∈ A j → i = j
/-- nothing that was tracked is written; Hf grows by new objects -/
structure Ext (H Hf H' Hf' : Hp) : Prop where
  keep : Sub H H'
  grow : Sub Hf Hf'
  news : ∀ a, Hf' a ≠ none → Hf a ≠ none ∨ H a = none
theorem Ext.refl (H Hf : Hp) : Ext H Hf H Hf := ⟨Sub.refl H, Sub.refl Hf, fun _ h => .inl h⟩
theorem Sub.non {Hf H : Hp} (h : Sub Hf H) {a : Addr} (n : H a = none) : Hf a = none := by
  cases e : Hf a with
  | none => rfl
  | some o => rw [h a o e] at n; cases n
theorem Ext.trans {H Hf H1 Hf1 H2 Hf2 : Hp} (a : Ext H Hf H1 Hf1) (b : Ext H1 Hf1 H2 Hf2) : Ext H Hf H2 Hf2 :=
  ⟨a.keep.trans b.keep, a.grow.trans b.grow, fun x h => by
    rcases b.news x h with q | q
    · exact a.news x q
    · exact .inr (a.keep.non q)⟩
/-- the same, but for the addresses at M -/
structure ExtB (M : List Addr) (H Hf H' Hf' : Hp) : Prop where
  keep : ∀ a o, a ∉ M → H a = some o → H' a = some o
  there : ∀ a, a ∈ M → H a ≠ none → H' a ≠ none
  grow : Sub Hf Hf'
  news : ∀ a, Hf' a ≠ none → Hf a ≠ none ∨ H a = none
theorem Ext.toB {M : List Addr} {H Hf H' Hf' : Hp} (e : Ext H Hf H' Hf') : ExtB M H Hf H' Hf' :=
  ⟨fun a o _ h => e.keep a o h, fun a _ h => by
    cases q : H a with
    | none => exact absurd q h
    | some o => rw [e.keep a o q]; simp, e.grow, e.news⟩
theorem ExtB.there' {M : List Addr} {H Hf H' Hf' : Hp} (e : ExtB M H Hf H' Hf') {a : Addr} (h : H a ≠ none) : H' a ≠ none := by
  by_cases m : a ∈ M
  · exact e.there a m h
  · cases q : H a with
    | none => exact absurd q h
    | some o => rw [e.keep a o m q]; simp
theorem ExtB.trans {M : List Addr} {H Hf H1 Hf1 H2 Hf2 : Hp} (a : ExtB M H Hf H1 Hf1) (b : ExtB M H1 Hf1 H2 Hf2) : ExtB M H Hf H2 Hf2 :=
  ⟨fun x o m h => b.keep x o m (a.keep x o m h), fun x m h => b.there x m (a.there x m h), a.grow.trans b.grow, fun x h => by
    rcases b.news x h with q | q
    · exact a.news x q
    · refine .inr ?_
      cases e : H x with
      | none => rfl
      | some o => exact absurd q (a.there' (by rw [e]; simp))⟩
theorem Sat.up {K : KF} {σ : L2.St} {H Hf H' Hf' : Hp} {Δ : Dl} {A : Nat → List Addr} (s : Sat K σ H Hf Δ A) (e : Ext H Hf H' Hf') (sub : Sub Hf' H') : Sat K σ H' Hf' Δ A where
  sub := sub
  slot := fun i T h => by
    obtain ⟨v, h1, h2⟩ := s.slot i T h
    exact ⟨v, h1, h2.up e.grow fun a _ o q => e.keep a o q⟩
  own := fun i a h => by
    obtain ⟨h1, h2⟩ := s.own i a h
    refine ⟨?_, ?_⟩
    · cases q : Hf' a with
      | none => rfl
      | some o =>
        rcases e.news a (by rw [q]; simp) with z | z
        · exact absurd h1 z
        · exact absurd z h2
    · cases q : H a with
      | none => exact absurd q h2
      | some o => rw [e.keep a o q]; simp
  inj := s.inj
/-- a new object at p, tracked in both -/
theorem Ext.new {H Hf : Hp} {p : Addr} {o : HO} (n : H p = none) (s : Sub Hf H) : Ext H Hf (upd H p o) (upd Hf p o) :=
  ⟨fun a u e => by rw [upd_ne (ne_of_none e n)]; exact e, fun a u e => by rw [upd_ne (ne_of_none e (s.non n))]; exact e, fun a h => by
    by_cases q : a = p
    · subst q; exact .inr n
    · rw [upd_ne q] at h; exact .inl h⟩
theorem Sub.new {H Hf : Hp} {p : Addr} {o : HO} (s : Sub Hf H) : Sub (upd Hf p o) (upd H p o) := fun a u e => by
  by_cases q : a = p
  · subst q; rw [upd_same] at e ⊢; exact e
  · rw [upd_ne q] at e ⊢; exact s a u e
/-- a new object at p, tracked in H alone -/
theorem Ext.newO {H Hf : Hp} {p : Addr} {o : HO} (n : H p = none) : Ext H Hf (upd H p o) Hf :=
  ⟨fun a u e => by rw [upd_ne (ne_of_none e n)]; exact e, Sub.refl _, fun a h => .inl h⟩
theorem Sub.newO {H Hf : Hp} {p : Addr} {o : HO} (n : H p = none) (s : Sub Hf H) : Sub Hf (upd H p o) := fun a u e => by
  rw [upd_ne (ne_of_none (s a u e) n)]; exact s a u e
/-! ### readings in their greatest form -/
def tE (X : Cx) (e : Expr) : TE := fun σ H Q => ∀ pins s, Inv X pins σ H s → wpAny (model X.prog X.w) X.A (eval e X.env) (EP X pins σ Q) X.xe s
theorem pE (X : Cx) (e : Expr) : PE X e (tE X e) := ⟨fun pins s _ _ _ I h => h pins s I⟩
theorem tE_of {X : Cx} {e : Expr} {t : TE} (p : PE X e t) {σ : L2.St} {H : Hp} {Q : VK} (h : t σ H Q) : tE X e σ H Q := fun pins s I => p.run pins s σ H Q I h
theorem tE_inv {X : Cx} {e : Expr} {σ : L2.St} {H : Hp} {Q : VK} (h : ∀ pins s, Inv X pins σ H s → tE X e σ H Q) : tE X e σ H Q := fun pins s I => h pins s I pins s I
def tT (X : Cx) (e : Expr) : TT := fun σ H Q => ∀ pins s, Inv X pins σ H s → wpAny (model X.prog X.w) X.A (isTrue e X.env (eval e X.env)) (TP X pins σ Q) X.xe s
theorem pT (X : Cx) (e : Expr) : PT X e (tT X e) := ⟨fun pins s _ _ _ I h => h pins s I⟩
theorem tT_of {X : Cx} {e : Expr} {t : TT} (p : PT X e t) {σ : L2.St} {H : Hp} {Q : Bool → Hp → Prop} (h : t σ H Q) : tT X e σ H Q := fun pins s I => p.run pins s σ H Q I h
def tA (X : Cx) (es : List Expr) : TA := fun σ H Q => ∀ (pos : Pos) pins s, Inv X pins σ H s → wpAny (model X.prog X.w) X.A (spliced (backTo pos (starEach es X.env))) (AP X pins σ Q) X.xe s
theorem pA (X : Cx) (es : List Expr) : PA X es (tA X es) := ⟨fun pos pins s _ _ _ I h => h pos pins s I⟩
theorem tA_of {X : Cx} {e : List Expr} {t : TA} (p : PA X e t) {σ : L2.St} {H : Hp} {Q : List V → Hp → Prop} (h : t σ H Q) : tA X e σ H Q := fun pos pins s I => p.run pos pins s σ H Q I h
def tS (X : Cx) (st : List Stmt) : TS := fun Dn σ H => ∀ pins s, Inv X pins σ H s → wpAny (model X.prog X.w) X.A (execs st X.env) (SP X pins Dn) X.xe s
theorem pS (X : Cx) (st : List Stmt) : PSs X st (tS X st) := ⟨fun pins s _ _ _ I h => h pins s I⟩
theorem tS_of {X : Cx} {st : List Stmt} {t : TS} (p : PSs X st t) {σ : L2.St} {H : Hp} {Dn : Ends} (h : t Dn σ H) : tS X st Dn σ H := fun pins s I => p.run pins s σ H Dn I h
theorem tS_inv {X : Cx} {st : List Stmt} {σ : L2.St} {H : Hp} {Dn : Ends} (h : ∀ pins s, Inv X pins σ H s → tS X st Dn σ H) : tS X st Dn σ H := fun pins s I => h pins s I pins s I
/-! ### the judgements -/
/-- e, in Δ, is E b where m = some b; nothing of one's own is touched -/
def EPu (X : Cx) (Δ : Dl) (e : Expr) {α : Type} (m : Option α) (E : α → D) : Prop :=
  ∀ b, m = some b → ∀ (σ : L2.St) (H Hf : Hp) (A : Nat → List Addr) (Q : VK), Sat X.K σ H Hf Δ A →
    (∀ v H' Hf', Sat X.K σ H' Hf' Δ A → Ext H Hf H' Hf' → Rp X.K Hf' v (E b) → Q v H') → tE X e σ H Q
/-- .. as a test -/
def TPu (X : Cx) (Δ : Dl) (e : Expr) (m : Option Bool) : Prop :=
  ∀ b, m = some b → ∀ (σ : L2.St) (H Hf : Hp) (A : Nat → List Addr) (Q : Bool → Hp → Prop), Sat X.K σ H Hf Δ A →
    (∀ H' Hf', Sat X.K σ H' Hf' Δ A → Ext H Hf H' Hf' → Q b H') → tT X e σ H Q
/-- arguments -/
def APu (X : Cx) (Δ : Dl) (es : List Expr) {α : Type} (m : Option α) (E : α → List D) : Prop :=
  ∀ b, m = some b → ∀ (σ : L2.St) (H Hf : Hp) (A : Nat → List Addr) (Q : List V → Hp → Prop), Sat X.K σ H Hf Δ A →
    (∀ vs H' Hf', Sat X.K σ H' Hf' Δ A → Ext H Hf H' Hf' → RpAll X.K Hf' vs (E b) → Q vs H') → tA X es σ H Q
end Ab
namespace Ab
open PySem PySem.Spec PyProof.Rows L2
/-! ### the state of a def: what it was handed to be changed, by slots -/
structure Io (S : Type) where
  ix : List Nat
  tr : S → Dl
  keys : ∀ s, (tr s).map (·.1) = ix
abbrev io0 : Io Unit := ⟨[], fun _ => [], fun _ => rfl⟩
/-- one of them, at slot i -/
abbrev io1 {S : Type} (rt : S → Tr) (i : Nat) : Io S := ⟨[i], fun s => [(i, some (rt s))], fun _ => rfl⟩
/-- nothing is written but one's own; Hf grows by new objects -/
structure ExtA (ix : List Nat) (A : Nat → List Addr) (H Hf H' Hf' : Hp) : Prop where
  keep : ∀ a o, (∀ i, i ∈ ix → a ∉ A i) → H a = some o → H' a = some o
  there : ∀ a, H a ≠ none → H' a ≠ none
  grow : Sub Hf Hf'
  news : ∀ a, Hf' a ≠ none → Hf a ≠ none ∨ H a = none
theorem not_none {H : Hp} {a : Addr} (h : H a ≠ none) : ∃ o, H a = some o := by
  cases e : H a with
  | none => exact absurd e h
  | some o => exact ⟨o, rfl⟩
theorem Ext.toA {ix : List Nat} {A : Nat → List Addr} {H Hf H' Hf' : Hp} (e : Ext H Hf H' Hf') : ExtA ix A H Hf H' Hf' :=
  ⟨fun a o _ h => e.keep a o h, fun a h => by obtain ⟨o, q⟩ := not_none h; rw [e.keep a o q]; simp, e.grow, e.news⟩
theorem ExtA.refl (ix : List Nat) (A : Nat → List Addr) (H Hf : Hp) : ExtA ix A H Hf H Hf := (Ext.refl H Hf).toA
theorem ExtA.trans {ix : List Nat} {A : Nat → List Addr} {H Hf H1 Hf1 H2 Hf2 : Hp} (a : ExtA ix A H Hf H1 Hf1) (b : ExtA ix A H1 Hf1 H2 Hf2) : ExtA ix A H Hf H2 Hf2 :=
  ⟨fun x o m h => b.keep x o m (a.keep x o m h), fun x h => b.there x (a.there x h), a.grow.trans b.grow, fun x h => by
    rcases b.news x h with q | q
    · exact a.news x q
    · refine .inr ?_
      cases e : H x with
      | none => rfl
      | some o => exact absurd q (a.there x (by rw [e]; simp))⟩
section
variable {X : Cx} {S : Type} {ι : Io S} {Δ : Dl} {s : S} {R : Type}
/-- e, in Δ and the state s: M tells what comes of it, E what the value is -/
def EX (X : Cx) {S : Type} (ι : Io S) (Δ : Dl) (s : S) (e : Expr) {α R : Type} (M : (α → S → Option R) → Option R) (E : α → D) : Prop :=
  ∀ k r, M k = some r → ∀ (σ : L2.St) (H Hf : Hp) (A : Nat → List Addr) (Q : VK), Sat X.K σ H Hf (ι.tr s ++ Δ) A →
    (∀ x s', k x s' = some r → ∀ v H' Hf', Sat X.K σ H' Hf' (ι.tr s' ++ Δ) A → ExtA ι.ix A H Hf H' Hf' → Rp X.K Hf' v (E x) → Q v H') → tE X e σ H Q
/-- a test -/
def TX (X : Cx) {S : Type} (ι : Io S) (Δ : Dl) (s : S) (e : Expr) {R : Type} (M : (Bool → S → Option R) → Option R) : Prop :=
  ∀ k r, M k = some r → ∀ (σ : L2.St) (H Hf : Hp) (A : Nat → List Addr) (Q : Bool → Hp → Prop), Sat X.K σ H Hf (ι.tr s ++ Δ) A →
    (∀ x s', k x s' = some r → ∀ H' Hf', Sat X.K σ H' Hf' (ι.tr s' ++ Δ) A → ExtA ι.ix A H Hf H' Hf' → Q x H') → tT X e σ H Q
/-- arguments -/
def AX (X : Cx) {S : Type} (ι : Io S) (Δ : Dl) (s : S) (es : List Expr) {α R : Type} (M : (α → S → Option R) → Option R) (E : α → List D) : Prop :=
  ∀ k r, M k = some r → ∀ (σ : L2.St) (H Hf : Hp) (A : Nat → List Addr) (Q : List V → Hp → Prop), Sat X.K σ H Hf (ι.tr s ++ Δ) A →
    (∀ x s', k x s' = some r → ∀ vs H' Hf', Sat X.K σ H' Hf' (ι.tr s' ++ Δ) A → ExtA ι.ix A H Hf H' Hf' → RpAll X.K Hf' vs (E x) → Q vs H') → tA X es σ H Q
/-! ### the words of the mirrors -/
@[reducible] def guardM {R : Type} (c : Prop) [Decidable c] (m : Option R) : Option R := if c then m else none
theorem guardM_some {R : Type} {c : Prop} [Decidable c] {m : Option R} {r : R} (h : guardM c m = some r) : c ∧ m = some r := by
  unfold guardM at h
  split at h
  · exact ⟨by assumption, h⟩
  · cases h
theorem guardM_pos {R : Type} {c : Prop} [Decidable c] {m : Option R} (h : c) : guardM c m = m := if_pos h
/-! ### leaves -/
theorem ex_c {e : Expr} {v : V} {α : Type} {x : α} {E : α → D} (hp : PE X e (tC v)) (r : ∀ Hf, Rp X.K Hf v (E x)) : EX X ι Δ s e (R := R) (fun k => k x s) E := by
  intro k r' hk σ H Hf A Q st h
  exact tE_of hp (h x s hk v H Hf st (ExtA.refl _ _ _ _) (r Hf))
theorem ex_int {i j pos} : EX X ι Δ s (.Constant (.int i) j pos) (R := R) (fun k => k i s) PyData.int := ex_c pe_int fun _ => .int i
theorem ex_bool {i j pos} : EX X ι Δ s (.Constant (.bool i) j pos) (R := R) (fun k => k i s) PyData.bool := ex_c pe_bl fun _ => .bl i
theorem ex_str {x : Str} {j pos} (ok : PySem.PyData.strOk x = true := by rfl) : EX X ι Δ s (.Constant (.str x) j pos) (R := R) (fun k => k x s) PyData.str := ex_c pe_str fun _ => .str x ok
theorem ex_none {j pos} : EX X ι Δ s (.Constant .none j pos) (R := R) (fun k => k () s) (fun _ => PyData.none) := ex_c pe_non fun _ => .non
/-- the data that slot i holds -/
theorem ex_var (i : Nat) {x : Str} {pos : Pos} {α : Type} {a : α} {E : α → D} (hl : lk (ι.tr s ++ Δ) i = some (.imm (E a))) (hN : X.N[i]? = some x := by rfl)
    (hv : Vis X.env.scope x := by first | exact Or.inl rfl | exact Or.inr (Or.inl rfl) | exact Or.inr (Or.inr rfl)) (hd : (x == ("__debug__" : Str)) = false := by decide)
    (hcd : (x == ("__classdict__" : Str)) = false := by decide) : EX X ι Δ s (.Name x pos) (R := R) (fun k => k a s) E := by
  intro k r hk σ H Hf A Q st h
  obtain ⟨v, h1, h2⟩ := st.slot i _ hl
  exact tE_of (pe_var hN hv hd hcd) ⟨v, h1, h a s hk v H Hf st (ExtA.refl _ _ _ _) h2.2⟩
/-! ### operators -/
/-- r gives, of data, the data that g says, where C holds -/
def OpD (K : KF) (r : R2) {α β γ : Type} (Ea : α → D) (Eb : β → D) (Ec : γ → D) (C : α → β → Prop) (g : α → β → γ) : Prop :=
  ∀ (x : α) (y : β) (v w : V) (H Hf : Hp) (Q : VK), C x y → Sub Hf H → Rp K Hf v (Ea x) → Rp K Hf w (Eb y) → (∀ u H' Hf', Ext H Hf H' Hf' → Sub Hf' H' → Rp K Hf' u (Ec (g x y)) → Q u H') → r v w H Q
/-- .. where nothing new is made -/
theorem opD_of {K : KF} {r : R2} {α β γ : Type} {Ea : α → D} {Eb : β → D} {Ec : γ → D} {C : α → β → Prop} {g : α → β → γ}
    (h : ∀ (x : α) (y : β) (v w : V) (H Hf : Hp) (Q : VK), C x y → Sub Hf H → Rp K Hf v (Ea x) → Rp K Hf w (Eb y) → ∃ u, Rp K Hf u (Ec (g x y)) ∧ (Q u H → r v w H Q)) : OpD K r Ea Eb Ec C g :=
  fun x y v w H Hf Q c sb rv rw' q => by
    obtain ⟨u, h1, h2⟩ := h x y v w H Hf Q c sb rv rw'
    exact h2 (q u H Hf (Ext.refl _ _) sb h1)
variable {α β γ : Type} {Ea : α → D} {Eb : β → D} {Ec : γ → D} {a b : Expr} {pos : Pos}
variable {Ma : (α → S → Option R) → Option R} {Mb : S → (β → S → Option R) → Option R}
theorem ex_binG {t : R2} {e : Expr} {C : α → β → Prop} {g : α → β → γ} [∀ x y, Decidable (C x y)] (he : PE X e (tOp t (tE X a) (tE X b))) (hg : OpD X.K t Ea Eb Ec C g)
    (ha : EX X ι Δ s a Ma Ea) (hb : ∀ s1, EX X ι Δ s1 b (Mb s1) Eb) : EX X ι Δ s e (fun k => Ma fun x s1 => Mb s1 fun y s2 => guardM (C x y) (k (g x y) s2)) Ec := by
  intro k r hk σ H Hf A Q st h
  refine tE_of he (ha _ r hk σ H Hf A _ st fun x s1 hx v H1 Hf1 st1 e1 r1 => ?_)
  refine hb s1 _ r hx σ H1 Hf1 A _ st1 fun y s2 hy w H2 Hf2 st2 e2 r2 => ?_
  obtain ⟨c, hy⟩ := guardM_some hy
  refine hg x y v w H2 Hf2 Q c st2.sub (r1.up e2.grow) r2 fun u H3 Hf3 e3 sb r3 => ?_
  exact h _ s2 hy u H3 Hf3 (st2.up e3 sb) ((e1.trans e2).trans e3.toA) r3
theorem ex_binT {t : R2} {e : Expr} {g : α → β → γ} (he : PE X e (tOp t (tE X a) (tE X b))) (hg : OpD X.K t Ea Eb Ec (fun _ _ => True) g)
    (ha : EX X ι Δ s a Ma Ea) (hb : ∀ s1, EX X ι Δ s1 b (Mb s1) Eb) : EX X ι Δ s e (fun k => Ma fun x s1 => Mb s1 fun y s2 => k (g x y) s2) Ec := by
  intro k r hk σ H Hf A Q st h
  refine tE_of he (ha _ r hk σ H Hf A _ st fun x s1 hx v H1 Hf1 st1 e1 r1 => ?_)
  refine hb s1 _ r hx σ H1 Hf1 A _ st1 fun y s2 hy w H2 Hf2 st2 e2 r2 => ?_
  refine hg x y v w H2 Hf2 Q trivial st2.sub (r1.up e2.grow) r2 fun u H3 Hf3 e3 sb r3 => ?_
  exact h _ s2 hy u H3 Hf3 (st2.up e3 sb) ((e1.trans e2).trans e3.toA) r3
/-- ints -/
theorem opD_i0 {K : KF} {g : Int → Int → Int} : OpD K (rI0 fun i j => .int (g i j)) PyData.int PyData.int PyData.int (fun _ _ => True) g :=
  opD_of fun x y v w H Hf Q _ _ rv rw' => ⟨.int (g x y), .int _, fun q => by cases rv; cases rw'; exact ⟨x, y, rfl, rfl, q⟩⟩
theorem opD_i {K : KF} {g : Int → Int → Int} {C : Int → Int → Prop} : OpD K (rI C fun i j => .int (g i j)) PyData.int PyData.int PyData.int C g :=
  opD_of fun x y v w H Hf Q c _ rv rw' => ⟨.int (g x y), .int _, fun q => by cases rv; cases rw'; exact ⟨x, y, rfl, rfl, c, q⟩⟩
theorem opD_b0 {K : KF} {g : Int → Int → Bool} : OpD K (rI0 fun i j => .bl (g i j)) PyData.int PyData.int PyData.bool (fun _ _ => True) g :=
  opD_of fun x y v w H Hf Q _ _ rv rw' => ⟨.bl (g x y), .bl _, fun q => by cases rv; cases rw'; exact ⟨x, y, rfl, rfl, q⟩⟩
instance CMul.dec (i j : Int) : Decidable (CMul i j) := by unfold CMul; infer_instance
instance CDivN.dec (i j : Int) : Decidable (CDivN i j) := by unfold CDivN; infer_instance
instance CPow.dec (i j : Int) : Decidable (CPow i j) := by unfold CPow; infer_instance
section
variable {Na : (Int → S → Option R) → Option R} {Nb : S → (Int → S → Option R) → Option R}
theorem ex_add (ha : EX X ι Δ s a Na PyData.int) (hb : ∀ s1, EX X ι Δ s1 b (Nb s1) PyData.int) : EX X ι Δ s (.BinOp a .Add b pos) (fun k => Na fun x s1 => Nb s1 fun y s2 => k (x + y) s2) PyData.int :=
  ex_binT (pe_op op_add (pE X a) (pE X b)) opD_i0 ha hb
theorem ex_sub (ha : EX X ι Δ s a Na PyData.int) (hb : ∀ s1, EX X ι Δ s1 b (Nb s1) PyData.int) : EX X ι Δ s (.BinOp a .Sub b pos) (fun k => Na fun x s1 => Nb s1 fun y s2 => k (x - y) s2) PyData.int :=
  ex_binT (pe_op op_sub (pE X a) (pE X b)) opD_i0 ha hb
theorem ex_mul (ha : EX X ι Δ s a Na PyData.int) (hb : ∀ s1, EX X ι Δ s1 b (Nb s1) PyData.int) : EX X ι Δ s (.BinOp a .Mult b pos) (fun k => Na fun x s1 => Nb s1 fun y s2 => guardM (CMul x y) (k (x * y) s2)) PyData.int :=
  ex_binG (pe_op op_mul (pE X a) (pE X b)) opD_i ha hb
theorem ex_mod (ha : EX X ι Δ s a Na PyData.int) (hb : ∀ s1, EX X ι Δ s1 b (Nb s1) PyData.int) : EX X ι Δ s (.BinOp a .Mod b pos) (fun k => Na fun x s1 => Nb s1 fun y s2 => guardM (y ≠ 0) (k (x.fmod y) s2)) PyData.int :=
  ex_binG (C := fun _ y => y ≠ 0) (pe_op op_modN (pE X a) (pE X b)) opD_i ha hb
theorem ex_fdiv (ha : EX X ι Δ s a Na PyData.int) (hb : ∀ s1, EX X ι Δ s1 b (Nb s1) PyData.int) : EX X ι Δ s (.BinOp a .FloorDiv b pos) (fun k => Na fun x s1 => Nb s1 fun y s2 => guardM (CDivN x y) (k (x.fdiv y) s2)) PyData.int :=
  ex_binG (pe_op op_fdivN (pE X a) (pE X b)) opD_i ha hb
theorem ex_xor (ha : EX X ι Δ s a Na PyData.int) (hb : ∀ s1, EX X ι Δ s1 b (Nb s1) PyData.int) : EX X ι Δ s (.BinOp a .BitXor b pos) (fun k => Na fun x s1 => Nb s1 fun y s2 => k (Builtin.bitXor x y) s2) PyData.int :=
  ex_binT (pe_op op_xor (pE X a) (pE X b)) opD_i0 ha hb
theorem ex_and2 (ha : EX X ι Δ s a Na PyData.int) (hb : ∀ s1, EX X ι Δ s1 b (Nb s1) PyData.int) : EX X ι Δ s (.BinOp a .BitAnd b pos) (fun k => Na fun x s1 => Nb s1 fun y s2 => k (Builtin.bitAnd x y) s2) PyData.int :=
  ex_binT (pe_op op_and (pE X a) (pE X b)) opD_i0 ha hb
theorem ex_or2 (ha : EX X ι Δ s a Na PyData.int) (hb : ∀ s1, EX X ι Δ s1 b (Nb s1) PyData.int) : EX X ι Δ s (.BinOp a .BitOr b pos) (fun k => Na fun x s1 => Nb s1 fun y s2 => k (Builtin.bitOr x y) s2) PyData.int :=
  ex_binT (pe_op op_or (pE X a) (pE X b)) opD_i0 ha hb
theorem ex_shl (ha : EX X ι Δ s a Na PyData.int) (hb : ∀ s1, EX X ι Δ s1 b (Nb s1) PyData.int) : EX X ι Δ s (.BinOp a .LShift b pos) (fun k => Na fun x s1 => Nb s1 fun y s2 => guardM (CPow x y) (k (x * 2 ^ y.toNat) s2)) PyData.int :=
  ex_binG (pe_op op_shl (pE X a) (pE X b)) opD_i ha hb
theorem ex_shr (ha : EX X ι Δ s a Na PyData.int) (hb : ∀ s1, EX X ι Δ s1 b (Nb s1) PyData.int) : EX X ι Δ s (.BinOp a .RShift b pos) (fun k => Na fun x s1 => Nb s1 fun y s2 => guardM (0 ≤ y) (k (x / 2 ^ y.toNat) s2)) PyData.int :=
  ex_binG (C := fun _ y => 0 ≤ y) (pe_op op_shr (pE X a) (pE X b)) opD_i ha hb
theorem ex_neg (ha : EX X ι Δ s a Na PyData.int) : EX X ι Δ s (.UnaryOp .USub a pos) (fun k => Na fun x s1 => k (-x) s1) PyData.int := by
  intro k r hk σ H Hf A Q st h
  refine tE_of (pe_un un_neg (pE X a)) (ha _ r hk σ H Hf A _ st fun x s1 hx v H1 Hf1 st1 e1 r1 => ?_)
  cases r1
  exact ⟨x, rfl, h _ s1 hx _ H1 Hf1 st1 e1 (.int _)⟩
end
/-! ### comparisons: what they give of data, as a value and as a test -/
/-- a test from a value that is a bool -/
theorem tx_of {e : Expr} {M : (Bool → S → Option R) → Option R} (he : PT X e (tTest (tE X e))) (h : EX X ι Δ s e M PyData.bool) : TX X ι Δ s e M := by
  intro k r hk σ H Hf A Q st q
  refine tT_of he (h k r hk σ H Hf A _ st fun x s1 hx v H1 Hf1 st1 e1 r1 => ?_)
  cases r1
  exact ⟨x, rfl, q x s1 hx H1 Hf1 st1 e1⟩
theorem ex_cmpT {op : CmpOp} {t : R2} {g : α → β → Bool} (ho : OpR X (compareOp op) t) (hg : OpD X.K t Ea Eb PyData.bool (fun _ _ => True) g)
    (ha : EX X ι Δ s a Ma Ea) (hb : ∀ s1, EX X ι Δ s1 b (Mb s1) Eb) (hm : behindInMarks op b = false) : EX X ι Δ s (.Compare a [op] [b] pos) (fun k => Ma fun x s1 => Mb s1 fun y s2 => k (g x y) s2) PyData.bool :=
  ex_binT (pe_cmpR ho (pE X a) (pE X b) hm) hg ha hb
theorem tx_cmpT {op : CmpOp} {t : R2} {g : α → β → Bool} (ho : OpR X (compareOp op) t) (hg : OpD X.K t Ea Eb PyData.bool (fun _ _ => True) g)
    (ha : EX X ι Δ s a Ma Ea) (hb : ∀ s1, EX X ι Δ s1 b (Mb s1) Eb) (hm : behindInMarks op b = false) : TX X ι Δ s (.Compare a [op] [b] pos) (fun k => Ma fun x s1 => Mb s1 fun y s2 => k (g x y) s2) := by
  intro k r hk σ H Hf A Q st h
  refine tT_of (pt_cmpR ho (pE X a) (pE X b) hm) (ha _ r hk σ H Hf A _ st fun x s1 hx v H1 Hf1 st1 e1 r1 => ?_)
  refine hb s1 _ r hx σ H1 Hf1 A _ st1 fun y s2 hy w H2 Hf2 st2 e2 r2 => ?_
  refine hg x y v w H2 Hf2 _ trivial st2.sub (r1.up e2.grow) r2 fun u H3 Hf3 e3 sb r3 => ?_
  cases r3
  exact ⟨_, rfl, h _ s2 hy H3 Hf3 (st2.up e3 sb) ((e1.trans e2).trans e3.toA)⟩
/-! ### what comparisons mean of data -/
/-- == of this kind of data is equality -/
def EqD {α : Type} [DecidableEq α] (E : α → D) : Prop := ∀ x y : α, PyData.eqv (E x) (E y) = decide (x = y)
/-- never deeper than n -/
def Dep {α : Type} (E : α → D) (n : Nat) : Prop := ∀ x : α, (E x).depth ≤ n ∧ noD (E x) = true
theorem opD_eq [DecidableEq α] {n : Nat} (e : EqD Ea) (d : Dep Ea n) (hn : n ≤ 64 := by decide) : OpD X.K (rEqD X.K) Ea Ea PyData.bool (fun _ _ => True) (fun x y => decide (x = y)) :=
  opD_of fun x y v w H Hf Q _ sb rv rw' => ⟨.bl (decide (x = y)), .bl _, fun q => by
    have h1 := Rp.dp _ _ (d x).2 (rv.up sb)
    have h2 := Rp.dp _ _ (d y).2 (rw'.up sb)
    refine ⟨_, _, h1.1, h2.1, ?_, ?_, ?_⟩
    · unfold SeqAt.shaped; rw [h1.2, decide_eq_true (Nat.le_trans (d x).1 hn)]; rfl
    · unfold SeqAt.shaped; rw [h2.2, decide_eq_true (Nat.le_trans (d y).1 hn)]; rfl
    · rw [e x y]; exact q⟩
theorem opD_ne [DecidableEq α] {n : Nat} (e : EqD Ea) (d : Dep Ea n) (hn : n ≤ 64 := by decide) : OpD X.K (rNeD X.K) Ea Ea PyData.bool (fun _ _ => True) (fun x y => !decide (x = y)) :=
  opD_of fun x y v w H Hf Q _ sb rv rw' => ⟨.bl (!decide (x = y)), .bl _, fun q => by
    have h1 := Rp.dp _ _ (d x).2 (rv.up sb)
    have h2 := Rp.dp _ _ (d y).2 (rw'.up sb)
    refine ⟨_, _, h1.1, h2.1, ?_, ?_, ?_⟩
    · unfold SeqAt.shaped; rw [h1.2, decide_eq_true (Nat.le_trans (d x).1 hn)]; rfl
    · unfold SeqAt.shaped; rw [h2.2, decide_eq_true (Nat.le_trans (d y).1 hn)]; rfl
    · rw [e x y]; exact q⟩
end
end Ab
namespace Ab
open PySem PySem.Spec PyProof.Rows L2
theorem ne_mem {i j : Nat} {l : List Nat} (h : i ∈ l) (n : j ∉ l) : i ≠ j := fun z => n (z ▸ h)
/-! ### steps of statements -/
structure Stp (ix : List Nat) (σ : L2.St) (A : Nat → List Addr) (H Hf : Hp) (σ' : L2.St) (A' : Nat → List Addr) (H' Hf' : Hp) : Prop where
  root : ∀ i, i ∈ ix → σ'[i]? = σ[i]?
  keep : ∀ a o, (∀ i, a ∉ A i) → H a = some o → H' a = some o
  there : ∀ a, H a ≠ none → H' a ≠ none
  grow : Sub Hf Hf'
  news : ∀ a, Hf' a ≠ none → Hf a ≠ none ∨ H a = none ∨ ∃ i, i ∉ ix ∧ a ∈ A i
  ownd : ∀ i a, a ∈ A' i → (∃ j, a ∈ A j ∧ (j ∈ ix → i = j)) ∨ H a = none
  stay : ∀ i, i ∈ ix → A' i = A i
theorem ExtA.stp {A : Nat → List Addr} {H Hf H' Hf' : Hp} {ix : List Nat} (e : ExtA ix A H Hf H' Hf') (ix' : List Nat) (σ : L2.St) : Stp ix' σ A H Hf σ A H' Hf' :=
  ⟨fun _ _ => rfl, fun a o m h => e.keep a o (fun i _ => m i) h, e.there, e.grow, fun a h => (e.news a h).elim .inl fun z => .inr (.inl z), fun i a h => .inl ⟨i, h, fun _ => rfl⟩, fun _ _ => rfl⟩
theorem Stp.refl (ix : List Nat) (σ : L2.St) (A : Nat → List Addr) (H Hf : Hp) : Stp ix σ A H Hf σ A H Hf := (ExtA.refl [] A H Hf).stp ix σ
theorem none_back {H H' : Hp} (t : ∀ a, H a ≠ none → H' a ≠ none) {a : Addr} (h : H' a = none) : H a = none := by
  cases e : H a with
  | none => rfl
  | some o => exact absurd h (t a (by rw [e]; simp))
theorem Stp.trans {ix : List Nat} {σ σ1 σ2 : L2.St} {A A1 A2 : Nat → List Addr} {H Hf H1 Hf1 H2 Hf2 : Hp} (a : Stp ix σ A H Hf σ1 A1 H1 Hf1) (b : Stp ix σ1 A1 H1 Hf1 σ2 A2 H2 Hf2) : Stp ix σ A H Hf σ2 A2 H2 Hf2 where
  root := fun i hi => (b.root i hi).trans (a.root i hi)
  keep := fun x o m h => b.keep x o (fun i hi => by
    rcases a.ownd i x hi with ⟨j, hj, _⟩ | n
    · exact m j hj
    · rw [n] at h; cases h) (a.keep x o m h)
  there := fun x h => b.there x (a.there x h)
  grow := a.grow.trans b.grow
  news := fun x h => by
    rcases b.news x h with q | q | ⟨i, hi, q⟩
    · exact a.news x q
    · exact .inr (.inl (none_back a.there q))
    · rcases a.ownd i x q with ⟨j, hj, k⟩ | n
      · exact .inr (.inr ⟨j, fun z => hi (k z ▸ z), hj⟩)
      · exact .inr (.inl n)
  ownd := fun i x h => by
    rcases b.ownd i x h with ⟨j, hj, k⟩ | n
    · rcases a.ownd j x hj with ⟨l, hl, k2⟩ | n
      · exact .inl ⟨l, hl, fun z => by have := k2 z; subst this; exact k z⟩
      · exact .inr n
    · exact .inr (none_back a.there n)
  stay := fun i hi => (b.stay i hi).trans (a.stay i hi)
/-! ### slots -/
theorem lk_append_out {i : Nat} : ∀ {P Δ : Dl}, i ∉ P.map (·.1) → lk (P ++ Δ) i = lk Δ i
  | [], _, _ => rfl
  | (j, T) :: P, Δ, h => by
    simp only [List.map_cons, List.mem_cons, not_or] at h
    show lk ((j, T) :: (P ++ Δ)) i = _
    rw [lk_ne h.1, lk_append_out h.2]
theorem lk_append_in {i : Nat} : ∀ {P Δ Δ' : Dl}, i ∈ P.map (·.1) → lk (P ++ Δ) i = lk (P ++ Δ') i
  | [], _, _, h => by simp at h
  | (j, T) :: P, Δ, Δ', h => by
    by_cases e : i = j
    · subst e
      show lk ((i, T) :: (P ++ Δ)) i = lk ((i, T) :: (P ++ Δ')) i
      rw [lk_self, lk_self]
    · have h' : i ∈ P.map (·.1) := by simpa [e] using h
      show lk ((j, T) :: (P ++ Δ)) i = lk ((j, T) :: (P ++ Δ')) i
      rw [lk_ne e, lk_ne e]
      exact lk_append_in h'
/-- the own addresses where slot i is forgotten -/
def cut (A : Nat → List Addr) (i : Nat) (as : List Addr) : Nat → List Addr := fun j => if j = i then as else A j
theorem cut_self (A : Nat → List Addr) (i : Nat) (as : List Addr) : cut A i as i = as := if_pos rfl
theorem cut_ne {A : Nat → List Addr} {i j : Nat} {as : List Addr} (h : j ≠ i) : cut A i as j = A j := if_neg h
section
variable {K : KF} {σ : L2.St} {H Hf : Hp} {Δ P : Dl} {A : Nat → List Addr}
/-- a slot is stored: T at as -/
theorem Sat.set (st : Sat K σ H Hf (P ++ Δ) A) {i : Nat} {v : V} {T : Tr} {as : List Addr} (hi : i < σ.length) (hP : i ∉ P.map (·.1)) (h : Holds K Hf H v T as) (own : ∀ a ∈ as, Hf a = none ∧ ∀ j, j ≠ i → a ∉ A j) :
    Sat K (σ.set i (some v)) H Hf (P ++ (i, some T) :: Δ) (cut A i as) where
  sub := st.sub
  slot := fun j U hj => by
    by_cases e : j = i
    · subst e
      rw [lk_append_out hP, lk_self] at hj
      cases hj
      exact ⟨v, by rw [List.getElem?_set_self hi], by rw [cut_self]; exact h⟩
    · have hj' : lk (P ++ Δ) j = some U := by
        by_cases m : j ∈ P.map (·.1)
        · rw [lk_append_in (Δ' := Δ) m] at hj; exact hj
        · rw [lk_append_out m, lk_ne e] at hj; rw [lk_append_out m]; exact hj
      obtain ⟨w, h1, h2⟩ := st.slot j U hj'
      exact ⟨w, by rw [List.getElem?_set_ne (Ne.symm e)]; exact h1, by rw [cut_ne e]; exact h2⟩
  own := fun j a ha => by
    by_cases e : j = i
    · subst e
      rw [cut_self] at ha
      exact ⟨(own a ha).1, h.there ha⟩
    · rw [cut_ne e] at ha
      exact st.own j a ha
  inj := fun j l a h1 h2 => by
    by_cases e : j = i
    · subst e
      rw [cut_self] at h1
      by_cases e2 : l = j
      · exact e2.symm
      · rw [cut_ne e2] at h2
        exact absurd h2 ((own a h1).2 l e2)
    · rw [cut_ne e] at h1
      by_cases e2 : l = i
      · subst e2
        rw [cut_self] at h2
        exact absurd h1 ((own a h2).2 j e)
      · rw [cut_ne e2] at h2
        exact st.inj j l a h1 h2
theorem Sat.imm (st : Sat K σ H Hf (P ++ Δ) A) {i : Nat} {v : V} {d : D} (hi : i < σ.length) (hP : i ∉ P.map (·.1)) (h : Rp K Hf v d) :
    Sat K (σ.set i (some v)) H Hf (P ++ (i, some (.imm d)) :: Δ) (cut A i []) := st.set hi hP ⟨rfl, h⟩ fun a ha => by simp at ha
theorem stp_cut {ix : List Nat} {σ : L2.St} {A : Nat → List Addr} {H Hf : Hp} {i : Nat} {v : Option V} (hi : i ∉ ix) : Stp ix σ A H Hf (σ.set i v) (cut A i []) H Hf where
  root := fun j hj => List.getElem?_set_ne (ne_mem hj hi).symm
  keep := fun _ _ _ h => h
  there := fun _ h => h
  grow := Sub.refl _
  news := fun _ h => .inl h
  ownd := fun j a h => by
    by_cases e : j = i
    · subst e; rw [cut_self] at h; simp at h
    · rw [cut_ne e] at h; exact .inl ⟨j, h, fun _ => rfl⟩
  stay := fun j hj => cut_ne fun e => hi (e ▸ hj)
/-- less is known -/
theorem Sat.weak {Δ' : Dl} (st : Sat K σ H Hf Δ A) (h : ∀ i T, lk Δ' i = some T → lk Δ i = some T) : Sat K σ H Hf Δ' A :=
  ⟨st.sub, fun i T e => st.slot i T (h i T e), st.own, st.inj⟩
end
/-- what Δ' knows, Δ knows -/
def Le (Δ' Δ : Dl) : Prop := ∀ i T, lk Δ' i = some T → lk Δ i = some T
theorem le_nil {Δ : Dl} : Le [] Δ := fun i T h => by cases h
theorem le_cons {i : Nat} {T : Tr} {r Δ : Dl} (h : lk Δ i = some T) (t : Le r Δ) : Le ((i, some T) :: r) Δ := fun j U e => by
  by_cases z : j = i
  · subst z; rw [lk_self] at e; cases e; exact h
  · rw [lk_ne z] at e; exact t j U e
theorem Le.app {P Δ' Δ : Dl} (h : Le Δ' Δ) : Le (P ++ Δ') (P ++ Δ) := fun i T e => by
  by_cases m : i ∈ P.map (·.1)
  · rw [lk_append_in (Δ' := Δ) m] at e; exact e
  · rw [lk_append_out m] at e ⊢; exact h i T e
/-! ### statements -/
inductive Out (S : Type) where
  | ret (d : D) (s : S)
  | next (Δ : Dl) (s : S)
  | brk (Δ : Dl) (s : S)
  | cont (Δ : Dl) (s : S)
/-- what a statement's end is to give -/
def Post (K : KF) {S : Type} (ι : Io S) (σ : L2.St) (A : Nat → List Addr) (H Hf : Hp) (Dn : Ends) : Out S → Prop
  | .ret d s => ∀ v σ' H' Hf' A', Sat K σ' H' Hf' (ι.tr s) A' → Stp ι.ix σ A H Hf σ' A' H' Hf' → Rp K Hf' v d → Dn.rt v H'
  | .next Δ s => ∀ σ' H' Hf' A', Sat K σ' H' Hf' (ι.tr s ++ Δ) A' → Stp ι.ix σ A H Hf σ' A' H' Hf' → Dn.nx σ' H'
  | .brk Δ s => ∀ σ' H' Hf' A', Sat K σ' H' Hf' (ι.tr s ++ Δ) A' → Stp ι.ix σ A H Hf σ' A' H' Hf' → Dn.bk σ' H'
  | .cont Δ s => ∀ σ' H' Hf' A', Sat K σ' H' Hf' (ι.tr s ++ Δ) A' → Stp ι.ix σ A H Hf σ' A' H' Hf' → Dn.ct σ' H'
theorem Post.step {K : KF} {S : Type} {ι : Io S} {σ σ1 : L2.St} {A A1 : Nat → List Addr} {H Hf H1 Hf1 : Hp} {Dn : Ends} {o : Out S} (p : Post K ι σ A H Hf Dn o) (st : Stp ι.ix σ A H Hf σ1 A1 H1 Hf1) : Post K ι σ1 A1 H1 Hf1 Dn o := by
  cases o with
  | ret d s => exact fun v σ' H' Hf' A' h1 h2 h3 => p v σ' H' Hf' A' h1 (st.trans h2) h3
  | next Δ s => exact fun σ' H' Hf' A' h1 h2 => p σ' H' Hf' A' h1 (st.trans h2)
  | brk Δ s => exact fun σ' H' Hf' A' h1 h2 => p σ' H' Hf' A' h1 (st.trans h2)
  | cont Δ s => exact fun σ' H' Hf' A' h1 h2 => p σ' H' Hf' A' h1 (st.trans h2)
def BX (X : Cx) {S : Type} (ι : Io S) (Δ : Dl) (s : S) (st : List Stmt) {R : Type} (m : Option R) (out : R → Out S) : Prop :=
  ∀ r, m = some r → ∀ (σ : L2.St) (H Hf : Hp) (A : Nat → List Addr) (Dn : Ends), Sat X.K σ H Hf (ι.tr s ++ Δ) A → Post X.K ι σ A H Hf Dn (out r) → tS X st Dn σ H
section
variable {X : Cx} {S : Type} {ι : Io S} {Δ : Dl} {s : S} {R : Type} {out : R → Out S} {rest : List Stmt} {pos : Pos}
theorem tS_cons {st : Stmt} {t : TS} {Dn : Ends} {σ : L2.St} {H : Hp} (h : PS X st t) (q : t { Dn with nx := fun σ' H' => tS X rest Dn σ' H' } σ H) : tS X (st :: rest) Dn σ H :=
  tS_of (pss_cons h (pS X rest)) q
theorem tS_end {st : Stmt} {t : TS} {Dn : Ends} {σ : L2.St} {H : Hp} (h : PS X st t) (q : t Dn σ H) : tS X [st] Dn σ H := tS_of (pss_one h) q
@[reducible] def letM {α R : Type} (a : α) (k : α → R) : R := k a
/-- nothing more: what stands must be what is promised -/
theorem bx_nil {Δ' : Dl} {r : R} (ho : out r = .next Δ' s) (hle : Le Δ' Δ) : BX X ι Δ s [] (some r) out := by
  intro r' hr σ H Hf A Dn st p
  cases hr
  rw [ho] at p
  exact tS_of pss_nil (p σ H Hf A (st.weak hle.app) (Stp.refl _ _ _ _ _))
theorem bx_ret {e : Expr} {α : Type} {M : (α → S → Option R) → Option R} {E : α → D} {k : α → S → R} (h : EX X ι Δ s e M E) (ho : ∀ x s', out (k x s') = .ret (E x) s') :
    BX X ι Δ s (.Return (some e) pos :: rest) (M fun x s' => some (k x s')) out := by
  intro r hr σ H Hf A Dn st p
  refine tS_of (pss_cons (ps_ret (pE X e)) (pS X rest)) (h _ r hr σ H Hf A _ st fun x s' hx v H' Hf' st' e' r' => ?_)
  cases hx
  rw [ho] at p
  exact p v σ H' Hf' A (st'.weak fun i T hi => by
    have m : i ∈ (ι.tr s').map (·.1) := by
      apply Classical.byContradiction
      intro m
      have q : lk (ι.tr s' ++ []) i = lk [] i := lk_append_out m
      rw [List.append_nil, hi] at q
      cases q
    have q := lk_append_in (Δ := []) (Δ' := Δ) m
    rw [List.append_nil] at q
    rw [← q]; exact hi) (e'.stp _ _) r'
/-- x = e -/
theorem bx_set (i : Nat) {x : Str} {e : Expr} {pos' : Pos} {α : Type} {M : (α → S → Option R) → Option R} {E : α → D} {k : α → S → Option R} (hN : X.N.Nodup) (h : EX X ι Δ s e M E)
    (q : ∀ a s', BX X ι ((i, some (.imm (E a))) :: Δ) s' rest (k a s') out) (hi : X.N[i]? = some x := by rfl) (hx : Loc X.env.scope x := by first | exact Or.inl rfl | exact Or.inr rfl)
    (hs : swapsWith e (some (.Name x pos')) pos.line X.env = pure false := by rfl) (hf : X.fn x = true ∨ X.env.scope.names.lookup x = some .local := by first | exact .inl rfl | exact .inr rfl) (hix : i ∉ ι.ix := by decide) :
    BX X ι Δ s (.Assign [.Name x pos'] e pos :: rest) (M k) out := by
  intro r hr σ H Hf A Dn st p
  refine tS_inv fun pins sh I => tS_cons (ps_set hN hi hx (pE X e) hs hf) (h _ r hr σ H Hf A _ st fun a s' ha v H' Hf' st' e' r' => ?_)
  have hlen : i < σ.length := by rw [I.len]; exact (List.getElem?_eq_some_iff.mp hi).1
  refine q a s' r ha _ H' Hf' _ _ (st'.imm (P := ι.tr s') hlen (by rw [ι.keys]; exact hix) r') (p.step ((e'.stp ι.ix σ).trans (stp_cut hix)))
/-! ### a def's promise -/
def argD : Nat → List D → Dl
  | _, [] => []
  | i, d :: ds => (i, some (.imm d)) :: argD (i + 1) ds
theorem lk_argD : ∀ (ds : List D) (j i : Nat) (T : Tr), lk (argD j ds) i = some T → j ≤ i ∧ ∃ d, ds[i - j]? = some d ∧ T = .imm d
  | [], j, i, T, h => by cases h
  | d :: ds, j, i, T, h => by
    by_cases e : i = j
    · subst e
      unfold argD at h
      rw [lk_self] at h
      cases h
      exact ⟨Nat.le_refl _, d, by simp, rfl⟩
    · unfold argD at h
      rw [lk_ne e] at h
      obtain ⟨h1, d', h2, h3⟩ := lk_argD ds (j + 1) i T h
      refine ⟨by omega, d', ?_, h3⟩
      rw [show i - j = (i - (j + 1)) + 1 by omega, List.getElem?_cons_succ]
      exact h2
/-- a def that changes nothing: f of its arguments -/
def spP (K : KF) {P C : Type} (argE : P → List D) (f : P → Option C) (E : C → D) : Sp := fun vs H Q _ =>
  ∃ (p : P) (c : C) (Hf : Hp), Sub Hf H ∧ RpAll K Hf vs (argE p) ∧ f p = some c ∧ ∀ v H' Hf', Sub Hf' H' → Ext H Hf H' Hf' → Rp K Hf' v (E c) → Q v H'
theorem start_sat {K : KF} {H Hf : Hp} {vs : List V} {ds : List D} {N : List Str} (sb : Sub Hf H) (r : RpAll K Hf vs ds) : Sat K (L2.start N vs) H Hf (argD 0 ds) (fun _ => []) where
  sub := sb
  slot := fun i T h => by
    obtain ⟨_, d, h1, rfl⟩ := lk_argD ds 0 i T h
    obtain ⟨v, h2, h3⟩ := r.get (i := i) h1
    refine ⟨v, ?_, rfl, h3⟩
    unfold L2.start
    have hi : i < vs.length := (List.getElem?_eq_some_iff.mp h2).1
    rw [List.getElem?_append_left (by simpa using hi), List.getElem?_map, h2]
    rfl
  own := fun i a h => by simp at h
  inj := fun i j a h => by simp at h
section
variable {Pg : Program} {w : World} {K : KF} {mg : Str → Option Value} {base : Heap}
/-- what a body's reading gives -/
theorem fn_pure {x qual : Str} {st : Stmt} {f : Addr} {fd : FuncData} {N ps : List Str} {k : Nat} {P C : Type} {argE : P → List D} {g : P → Option C} {E : C → D} (F : Fun K x qual st f fd) (S : FnScope N ps (defScope st))
    (len : ∀ p, (argE p).length = ps.length)
    (body : ∀ (p : P) (cdv : Value) (A : Around) (outer : List Env) (s : Shared) (H : Hp) (E' : XK), Room k (A.deeper (envOfC qual (defScope st) s.heap.objs.size f cdv)) →
      BX (cxOf CX0 Pg w K mg base N qual (defScope st) f cdv A outer s H E').nox io0 (argD 0 (argE p)) () (defBody st) (g p) (fun c => Out.ret (E c) ())) :
    FnOk Pg w K mg base CX0 (k + 1) f fd ps (spP K argE g E) := by
  refine F.ok S (fun vs H Q E' h => ?_) (fun cdv A outer s H vs Q E' hr h => ?_)
  · obtain ⟨p, c, Hf, _, r, _⟩ := h
    rw [r.len, len p]
  · obtain ⟨p, c, Hf, sb, r, hc, q⟩ := h
    refine ⟨_, pS _ _, ?_⟩
    refine body p cdv A outer s H E' hr c hc _ H Hf (fun _ => []) _ ?_ ?_
    · exact start_sat sb r
    · intro v σ' H' Hf' A' h1 h2 h3
      refine q v H' Hf' h1.sub ⟨fun a o e => h2.keep a o (fun i hi => by simp at hi) e, h2.grow, fun a ha => ?_⟩ h3
      rcases h2.news a ha with z | z | ⟨i, _, z⟩
      · exact .inl z
      · exact .inr z
      · simp at z
end
end
end Ab
namespace Ab
open PySem PySem.Spec PyProof.Rows L2
/-! ### what is walked -/
def tI (X : Cx) (tg iter : Expr) : TI := fun σ H Rr => ∀ pins s, Inv X pins σ H s → wpAny (model X.prog X.w) X.A (eval iter X.env) (fun v s1 => wpAny (model X.prog X.w) X.A (pyIter v) (PIE X pins σ tg Rr) X.xe s1) X.xe s
theorem pI (X : Cx) (tg iter : Expr) : PI X tg iter (tI X tg iter) := ⟨fun pins s _ _ _ I h => h pins s I⟩
theorem tI_of {X : Cx} {tg iter : Expr} {t : TI} (p : PI X tg iter t) {σ : L2.St} {H : Hp} {Q : It → Hp → Prop} (h : t σ H Q) : tI X tg iter σ H Q := fun pins s I => p.run pins s σ H Q I h
theorem tI_inv {X : Cx} {tg iter : Expr} {σ : L2.St} {H : Hp} {Q : It → Hp → Prop} (h : ∀ pins s, Inv X pins σ H s → tI X tg iter σ H Q) : tI X tg iter σ H Q := fun pins s I => h pins s I pins s I
/-- J walks xs, for as long as Hf stands -/
structure Walks (K : KF) (J : It) {α : Type} (xs : List α) (E : α → D) (Hf : Hp) : Prop where
  go : ∀ i H' Hf', Sub Hf Hf' → Sub Hf' H' → i < xs.length → J.go i H'
  stop : ∀ i H' Hf', Sub Hf Hf' → Sub Hf' H' → xs.length ≤ i → J.stop i H'
  yld : ∀ i x v H' H3 Hf', Sub Hf Hf' → Sub Hf' H' → xs[i]? = some x → J.yld i H' v H3 → ∃ Hf3, Ext H' Hf' H3 Hf3 ∧ Sub Hf3 H3 ∧ Rp K Hf3 v (E x)
  size : xs.length ≤ Line
def IX (X : Cx) {S : Type} (ι : Io S) (Δ : Dl) (s : S) (tg iter : Expr) {α R : Type} (M : (List α → S → Option R) → Option R) (E : α → D) : Prop :=
  ∀ k r, M k = some r → ∀ (σ : L2.St) (H Hf : Hp) (A : Nat → List Addr) (Rr : It → Hp → Prop), Sat X.K σ H Hf (ι.tr s ++ Δ) A →
    (∀ xs s', k xs s' = some r → ∀ J H' Hf', Sat X.K σ H' Hf' (ι.tr s' ++ Δ) A → ExtA ι.ix A H Hf H' Hf' → Walks X.K J xs E Hf' → Rr J H') → tI X tg iter σ H Rr
/-- lo, lo + 1, .. -/
def rangeL (lo : Int) (n : Nat) : List Int := (List.range n).map fun (i : Nat) => lo + (i : Int)
theorem rangeL_len (lo : Int) (n : Nat) : (rangeL lo n).length = n := by simp [rangeL]
theorem rangeL_get {lo : Int} {n i : Nat} {x : Int} (h : (rangeL lo n)[i]? = some x) : x = lo + i := by
  unfold rangeL at h
  rw [List.getElem?_map] at h
  cases e : (List.range n)[i]? with
  | none => rw [e] at h; cases h
  | some j =>
    rw [e] at h
    have := List.getElem?_eq_some_iff.mp e
    obtain ⟨h1, h2⟩ := this
    rw [List.getElem_range] at h2
    subst h2
    exact (Option.some.inj h).symm
theorem walks_list {K : KF} {a : Addr} {α : Type} {xs : List α} {E : α → D} {vs : List V} {Hf : Hp} (h' : Rd Hf a (.lst vs)) (r : RpAll K Hf vs (xs.map E)) (hz : xs.length ≤ Line) : Walks K (Itl K a) xs E Hf where
  go := fun i H' Hf' e1 e2 hi => ⟨vs, vs[i]'(by rw [r.len]; simpa using hi), .inl ((e1.trans e2).rd h'), by rw [List.getElem?_eq_getElem]⟩
  stop := fun i H' Hf' e1 e2 hi => ⟨vs, .inl ((e1.trans e2).rd h'), by rw [r.len]; simpa using hi⟩
  yld := fun i x v H' H3 Hf' e1 e2 hx hy => by
    obtain ⟨rfl, f⟩ := hy
    have hv := f vs (.inl ((e1.trans e2).rd h'))
    obtain ⟨d, hd, rd⟩ := r.getV hv
    rw [List.getElem?_map, hx] at hd
    cases hd
    exact ⟨Hf', Ext.refl _ _, e2, rd.up e1⟩
  size := hz
theorem walks_tup {K : KF} {a : Addr} {α : Type} {xs : List α} {E : α → D} {vs : List V} {Hf : Hp} (h : SqT K Hf a vs) (r : RpAll K Hf vs (xs.map E)) (hz : xs.length ≤ Line) : Walks K (Itt K a) xs E Hf where
  go := fun i H' Hf' e1 e2 hi => ⟨vs, vs[i]'(by rw [r.len]; simpa using hi), (e1.trans e2).tup h, by rw [List.getElem?_eq_getElem]⟩
  stop := fun i H' Hf' e1 e2 hi => ⟨vs, (e1.trans e2).tup h, by rw [r.len]; simpa using hi⟩
  yld := fun i x v H' H3 Hf' e1 e2 hx hy => by
    obtain ⟨rfl, f⟩ := hy
    have hv := f vs ((e1.trans e2).tup h)
    obtain ⟨d, hd, rd⟩ := r.getV hv
    rw [List.getElem?_map, hx] at hd
    cases hd
    exact ⟨Hf', Ext.refl _ _, e2, rd.up e1⟩
  size := hz
theorem walks_range {K : KF} {lo : Int} {n : Nat} {Hf : Hp} (hz : n ≤ Line) : Walks K (Itr lo n) (rangeL lo n) PyData.int Hf where
  go := fun i _ _ _ _ hi => by rw [rangeL_len] at hi; exact hi
  stop := fun i _ _ _ _ hi => by rw [rangeL_len] at hi; exact hi
  yld := fun i x v H' H3 Hf' _ e2 hx hy => by
    obtain ⟨rfl, rfl⟩ := hy
    rw [rangeL_get hx]
    exact ⟨Hf', Ext.refl _ _, e2, .int _⟩
  size := by rw [rangeL_len]; exact hz
section
variable {X : Cx} {S : Type} {ι : Io S} {Δ : Dl} {s : S} {R : Type} {tg e : Expr} {pos : Pos}
variable {α : Type} {E : α → D}
/-- over a list -/
theorem it_list {M : (List α → S → Option R) → Option R} (h : EX X ι Δ s e M (fun l => .list (l.map E))) : IX X ι Δ s tg e M E := by
  intro k r hk σ H Hf A Rr st q
  refine tI_of (pi_list (pE X e)) (h k r hk σ H Hf A _ st fun xs s1 hx v H1 Hf1 st1 e1 r1 => ?_)
  cases r1 with
  | @lst a vs _ hs hz ra =>
    refine ⟨a, rfl, ⟨vs, .inl (st1.sub.rd hs)⟩, q xs s1 hx _ H1 Hf1 st1 e1 (walks_list hs ra ?_)⟩
    have := ra.len
    rw [List.length_map] at this
    rw [← this]; exact hz
/-- over a tuple -/
theorem it_tup {M : (List α → S → Option R) → Option R} (h : EX X ι Δ s e M (fun l => .tuple (l.map E))) : IX X ι Δ s tg e M E := by
  intro k r hk σ H Hf A Rr st q
  refine tI_of (pi_tup (pE X e)) (h k r hk σ H Hf A _ st fun xs s1 hx v H1 Hf1 st1 e1 r1 => ?_)
  cases r1 with
  | @tup a vs _ hs hz ra =>
    refine ⟨a, rfl, ⟨vs, st1.sub.tup hs⟩, q xs s1 hx _ H1 Hf1 st1 e1 (walks_tup hs ra ?_)⟩
    have := ra.len
    rw [List.length_map] at this
    rw [← this]; exact hz
theorem one_arg {K : KF} {Hf : Hp} {vs : List V} {d : D} (r : RpAll K Hf vs [d]) : ∃ v, vs = [v] ∧ Rp K Hf v d := by
  cases r with | cons r t => cases t; exact ⟨_, rfl, r⟩
theorem two_args {K : KF} {Hf : Hp} {vs : List V} {d d' : D} (r : RpAll K Hf vs [d, d']) : ∃ v w, vs = [v, w] ∧ Rp K Hf v d ∧ Rp K Hf w d' := by
  cases r with | cons r t => cases t with | cons r' t => cases t; exact ⟨_, _, rfl, r, r'⟩
/-! arguments -/
theorem ax_nil : AX X ι Δ s [] (R := R) (fun k => k () s) (fun _ => []) := by
  intro k r hk σ H Hf A Q st q
  exact tA_of pa_nil (q () s hk [] H Hf st (ExtA.refl _ _ _ _) .nil)
theorem ax_cons {es : List Expr} {β : Type} {Ma : (α → S → Option R) → Option R} {Mb : S → (β → S → Option R) → Option R} {F : β → List D} (ha : EX X ι Δ s e Ma E) (hb : ∀ s1, AX X ι Δ s1 es (Mb s1) F)
    (hs : starEach (e :: es) X.env = (false, eval e X.env) :: starEach es X.env := by rfl) :
    AX X ι Δ s (e :: es) (fun k => Ma fun x s1 => Mb s1 fun y s2 => k (x, y) s2) (fun p => E p.1 :: F p.2) := by
  intro k r hk σ H Hf A Q st q
  refine tA_of (pa_cons (pE X e) (pA X es) hs) (ha _ r hk σ H Hf A _ st fun x s1 hx v H1 Hf1 st1 e1 r1 => ?_)
  refine hb s1 _ r hx σ H1 Hf1 A _ st1 fun y s2 hy vs H2 Hf2 st2 e2 r2 => ?_
  exact q (x, y) s2 hy (v :: vs) H2 Hf2 st2 (e1.trans e2) (.cons (r1.up e2.grow) r2)
/-- range(a), range(a, b): of so many turns at most as a list can have -/
theorem it_range1 {a : Expr} {p : Pos} {M : (Int → S → Option R) → Option R} (hm : X.mg "range" = none) (h : EX X ι Δ s a M PyData.int) (hg : Gl X "range" := by rfl) (hs : starEach [a] X.env = [(false, eval a X.env)] := by rfl) :
    IX X ι Δ s tg (.Call (.Name "range" p) [a] [] pos) (fun k => M fun n s1 => guardM (n.natAbs ≤ Line) (k (rangeL 0 n.toNat) s1)) PyData.int := by
  intro k r hk σ H Hf A Rr st q
  refine tI_of (pi_range1 hg hm (pA X [a]) hs) ?_
  refine ax_cons h (fun s1 => ax_nil) hs (fun p s' => guardM (p.1.natAbs ≤ Line) (k (rangeL 0 p.1.toNat) s')) r hk σ H Hf A _ st fun x s1 hx vs H1 Hf1 st1 e1 r1 => ?_
  obtain ⟨v, rfl, rv⟩ := one_arg r1
  obtain ⟨c, hx⟩ := guardM_some hx
  cases rv
  have c2 : x.1.natAbs ≤ 16777216 := c
  refine ⟨x.1, rfl, by omega, by omega, q _ s1 hx _ H1 Hf1 st1 e1 (walks_range (by show x.1.toNat ≤ 16777216; omega))⟩
theorem it_range2 {a b : Expr} {p : Pos} {M : (Int → S → Option R) → Option R} {Mb : S → (Int → S → Option R) → Option R} (hm : X.mg "range" = none) (h : EX X ι Δ s a M PyData.int) (hb : ∀ s1, EX X ι Δ s1 b (Mb s1) PyData.int) (hg : Gl X "range" := by rfl)
    (hs : starEach [a, b] X.env = [(false, eval a X.env), (false, eval b X.env)] := by rfl) (hs2 : starEach [b] X.env = [(false, eval b X.env)] := by rfl) :
    IX X ι Δ s tg (.Call (.Name "range" p) [a, b] [] pos) (fun k => M fun n s1 => Mb s1 fun m s2 => guardM (n.natAbs ≤ Line ∧ m.natAbs ≤ Line ∧ m - n ≤ (Line : Int)) (k (rangeL n (m - n).toNat) s2)) PyData.int := by
  intro k r hk σ H Hf A Rr st q
  refine tI_of (pi_range2 hg hm (pA X [a, b]) hs hs2) ?_
  have hq : AX X ι Δ s [a, b] (R := R) (fun k => M fun n s1 => Mb s1 fun m s2 => k (n, m, ()) s2) (fun p => [.int p.1, .int p.2.1]) := ax_cons h (fun s1 => ax_cons (hb s1) (fun s2 => ax_nil) hs2) (by rw [hs, hs2])
  refine hq (fun p s2 => guardM (p.1.natAbs ≤ Line ∧ p.2.1.natAbs ≤ Line ∧ p.2.1 - p.1 ≤ (Line : Int)) (k (rangeL p.1 (p.2.1 - p.1).toNat) s2)) r hk σ H Hf A _ st fun x s1 hx vs H1 Hf1 st1 e1 r1 => ?_
  obtain ⟨v, w', rfl, rv, rw'⟩ := two_args r1
  obtain ⟨c, hx⟩ := guardM_some hx
  cases rv
  cases rw'
  have c1 : x.1.natAbs ≤ 16777216 := c.1
  have c2 : x.2.1.natAbs ≤ 16777216 := c.2.1
  have c3 : x.2.1 - x.1 ≤ (16777216 : Nat) := c.2.2
  refine ⟨x.1, x.2.1, rfl, ⟨by omega, by omega, by omega, by omega⟩, q _ s1 hx _ H1 Hf1 st1 e1 (walks_range (by show (x.2.1 - x.1).toNat ≤ 16777216; omega))⟩
/-! ### targets -/
def tG (X : Cx) (tg : Expr) : TG := fun v σ H Q => ∀ pins s u, Inv X pins σ H s → RelV v u → wpAny (model X.prog X.w) X.A (assign tg X.env u) (fun _ s' => ∃ σ' H', Inv X pins σ' H' s' ∧ Q σ' H') X.xe s
theorem pG (X : Cx) (tg : Expr) : PG X tg (tG X tg) := ⟨fun pins s _ _ _ u _ I r h => h pins s u I r⟩
theorem tG_of {X : Cx} {tg : Expr} {t : TG} (p : PG X tg t) {v : V} {σ : L2.St} {H : Hp} {Q : L2.St → Hp → Prop} (h : t v σ H Q) : tG X tg v σ H Q := fun pins s u I r => p.run pins s σ H v u Q I r h
theorem tG_inv {X : Cx} {tg : Expr} {v : V} {σ : L2.St} {H : Hp} {Q : L2.St → Hp → Prop} (h : ∀ pins s, Inv X pins σ H s → tG X tg v σ H Q) : tG X tg v σ H Q := fun pins s u I r => h pins s I pins s u I r
/-- only the slots of ixs are stored -/
structure Only (ixs : List Nat) (σ σ' : L2.St) : Prop where
  len : σ'.length = σ.length
  out : ∀ j, j ∉ ixs → σ'[j]? = σ[j]?
def cutL (A : Nat → List Addr) (ixs : List Nat) : Nat → List Addr := fun j => if j ∈ ixs then [] else A j
theorem cutL_in {A : Nat → List Addr} {ixs : List Nat} {j : Nat} {a : Addr} (h : a ∈ cutL A ixs j) : a ∈ A j ∧ j ∉ ixs := by
  unfold cutL at h
  split at h
  · simp at h
  · exact ⟨h, by assumption⟩
theorem stp_cutL {ix ixs : List Nat} {σ σ' : L2.St} {A : Nat → List Addr} {H Hf : Hp} (hi : ∀ i ∈ ixs, i ∉ ix) (o : Only ixs σ σ') : Stp ix σ A H Hf σ' (cutL A ixs) H Hf where
  root := fun j hj => o.out j fun z => hi j z hj
  keep := fun _ _ _ h => h
  there := fun _ h => h
  grow := Sub.refl _
  news := fun _ h => .inl h
  ownd := fun j a h => .inl ⟨j, (cutL_in h).1, fun _ => rfl⟩
  stay := fun j hj => by
    unfold cutL
    rw [if_neg fun m => hi j m hj]
/-- a target takes data x: it binds ixs, as bind says -/
def GX (X : Cx) {S : Type} (ι : Io S) (tg : Expr) {α : Type} (ixs : List Nat) (bind : α → Dl) (E : α → D) : Prop :=
  ∀ (x : α) (v : V) (σ : L2.St) (H Hf : Hp) (Δ : Dl) (A : Nat → List Addr) (s : S) (Q : L2.St → Hp → Prop), Sat X.K σ H Hf (ι.tr s ++ Δ) A → Rp X.K Hf v (E x) →
    (∀ σ', Sat X.K σ' H Hf (ι.tr s ++ (bind x ++ Δ)) (cutL A ixs) → Only ixs σ σ' → Q σ' H) → tG X tg v σ H Q
theorem cut_cutL (A : Nat → List Addr) (i : Nat) : cut A i [] = cutL A [i] := by
  funext j
  unfold cut cutL
  by_cases e : j = i
  · rw [if_pos e, if_pos (by simp [e])]
  · rw [if_neg e, if_neg (by simp [e])]
theorem cutL_cutL (A : Nat → List Addr) (a b : List Nat) : cutL (cutL A a) b = cutL A (a ++ b) := by
  funext j
  unfold cutL
  by_cases e : j ∈ a <;> by_cases e2 : j ∈ b <;> simp [e, e2]
theorem gx_name (i : Nat) {x : Str} {p : Pos} (hN : X.N.Nodup) (hi : X.N[i]? = some x := by rfl) (hx : Loc X.env.scope x := by first | exact Or.inl rfl | exact Or.inr rfl)
    (hf : X.fn x = true ∨ X.env.scope.names.lookup x = some .local := by first | exact .inl rfl | exact .inr rfl) (hix : i ∉ ι.ix := by decide) : GX X ι (.Name x p) [i] (fun a => [(i, some (.imm (E a)))]) E := by
  intro a v σ H Hf Δ A s Q st r q
  refine tG_inv fun pins sh I => tG_of (pg_name hN hi hx hf) ?_
  have hlen : i < σ.length := by rw [I.len]; exact (List.getElem?_eq_some_iff.mp hi).1
  refine q _ ?_ ⟨by rw [List.length_set], fun j hj => by rw [List.getElem?_set_ne (by simpa using Ne.symm (fun e => hj (by simp [e])))]⟩
  have z := st.imm (P := ι.tr s) hlen (by rw [ι.keys]; exact hix) r
  rw [cut_cutL] at z
  exact z
/-- several targets -/
def tGs (X : Cx) (ts : List Expr) : TGs := fun vs σ H Q => ∀ pins s us, Inv X pins σ H s → Vals vs us → wpAny (model X.prog X.w) X.A (assignInOrder ((assignEach ts X.env).map (·.2)) us) (fun _ s' => ∃ σ' H', Inv X pins σ' H' s' ∧ Q σ' H') X.xe s
theorem pGs (X : Cx) (ts : List Expr) : PGs X ts (tGs X ts) := ⟨fun pins s _ _ _ us _ I r h => h pins s us I r⟩
theorem tGs_of {X : Cx} {ts : List Expr} {t : TGs} (p : PGs X ts t) {vs : List V} {σ : L2.St} {H : Hp} {Q : L2.St → Hp → Prop} (h : t vs σ H Q) : tGs X ts vs σ H Q := fun pins s us I r => p.run pins s σ H vs us Q I r h
def GXs (X : Cx) {S : Type} (ι : Io S) (ts : List Expr) {α : Type} (ixs : List Nat) (bind : α → Dl) (E : α → List D) : Prop :=
  ∀ (x : α) (vs : List V) (σ : L2.St) (H Hf : Hp) (Δ : Dl) (A : Nat → List Addr) (s : S) (Q : L2.St → Hp → Prop), Sat X.K σ H Hf (ι.tr s ++ Δ) A → RpAll X.K Hf vs (E x) →
    (∀ σ', Sat X.K σ' H Hf (ι.tr s ++ (bind x ++ Δ)) (cutL A ixs) → Only ixs σ σ' → Q σ' H) → tGs X ts vs σ H Q
theorem gxs_nil : GXs X ι [] (α := α) [] (fun _ => []) (fun _ => []) := by
  intro x vs σ H Hf Δ A s Q st r q
  cases r
  refine tGs_of pgs_nil ⟨rfl, q σ ?_ ⟨rfl, fun _ _ => rfl⟩⟩
  have : cutL A [] = A := by funext j; simp [cutL]
  rw [this]
  exact st
theorem gxs_cons {t : Expr} {ts : List Expr} {i1 i2 : List Nat} {b1 b2 : α → Dl} {F : α → List D} (h1 : GX X ι t i1 b1 E) (h2 : GXs X ι ts i2 b2 F)
    (hs : (assignEach (t :: ts) X.env).map (·.2) = assign t X.env :: (assignEach ts X.env).map (·.2) := by rfl) : GXs X ι (t :: ts) (i1 ++ i2) (fun x => b2 x ++ b1 x) (fun x => E x :: F x) := by
  intro x vs σ H Hf Δ A s Q st r q
  cases r with
  | cons r rs =>
    refine tGs_of (pgs_cons (pG X t) (pGs X ts) hs) ⟨_, _, rfl, ?_⟩
    refine h1 x _ σ H Hf Δ A s _ st r fun σ1 st1 o1 => ?_
    refine h2 x _ σ1 H Hf _ _ s _ st1 rs fun σ2 st2 o2 => ?_
    rw [cutL_cutL] at st2
    exact q σ2 (by simpa only [List.append_assoc] using st2) ⟨o2.len.trans o1.len, fun j hj => (o2.out j fun z => hj (List.mem_append_right _ z)).trans (o1.out j fun z => hj (List.mem_append_left _ z))⟩
/-- (a, b, ..) = data that is a tuple of so many parts -/
theorem gx_tup {ts : List Expr} {k : Nat} {ixs : List Nat} {b : α → Dl} {F : α → List D} (h : GXs X ι ts ixs b F) (he : ∀ x, E x = .tuple (F x)) (hl : ∀ x, (F x).length = (assignEach ts X.env).length) (hc : X.calm = true := by rfl)
    (hst : (assignEach ts X.env).findIdx? (·.1) = none := by rfl) : GX X ι (.Tuple ts k pos) ixs b E := by
  intro x v σ H Hf Δ A s Q st r q
  rw [he] at r
  cases r with
  | @tup a vs _ hs hz ra =>
    exact tG_of (pg_tup hc (pGs X ts) rfl hst) ⟨a, vs, rfl, st.sub.tup hs, ra.len.trans (hl x), h x vs σ H Hf Δ A s Q st ra q⟩
/-- the target through another view of the data -/
theorem GX.map {β : Type} {ixs : List Nat} {b : β → Dl} {F : β → D} (h : GX X ι tg ixs b F) (f : α → β) (he : ∀ x, E x = F (f x)) : GX X ι tg ixs (fun x => b (f x)) E := by
  intro x v σ H Hf Δ A s Q st r q
  rw [he] at r
  exact h (f x) v σ H Hf Δ A s Q st r q
/-! ### for -/
inductive Fl (W R : Type) where
  | next (w : W)
  | cont (w : W)
  | brk (w : W)
  | ret (r : R)
/-- the ways out of a body that do not come to its end -/
inductive Xt (W R : Type) where
  | cont (w : W)
  | brk (w : W)
  | ret (r : R)
def Xt.fl {W R : Type} : Xt W R → Fl W R
  | .cont w => .cont w
  | .brk w => .brk w
  | .ret r => .ret r
/-- a loop that may be left -/
def forE {α W R : Type} (f : W → α → Option (Fl W R)) : List α → W → Option (Fl W R)
  | [], w => some (.next w)
  | x :: xs, w => (f w x).bind fun o => match o with
    | .next w' => forE f xs w'
    | .cont w' => forE f xs w'
    | .brk w' => some (.next w')
    | .ret r => some (.ret r)
theorem foldlM_drop {α W : Type} {f : W → α → Option W} {xs : List α} {i : Nat} {x : α} {w w' : W} (hx : xs[i]? = some x) (h : (xs.drop i).foldlM f w = some w') : ∃ w1, f w x = some w1 ∧ (xs.drop (i + 1)).foldlM f w1 = some w' := by
  obtain ⟨hi, e⟩ := List.getElem?_eq_some_iff.mp hx
  rw [List.drop_eq_getElem_cons hi, e, List.foldlM_cons] at h
  cases q : f w x with
  | none => rw [q] at h; cases h
  | some w1 => rw [q] at h; exact ⟨w1, rfl, h⟩
theorem bind_some {α β : Type} {m : Option α} {k : α → Option β} {r : β} (h : m.bind k = some r) : ∃ a, m = some a ∧ k a = some r := by
  cases m with
  | none => cases h
  | some a => exact ⟨a, rfl, h⟩
end
section
variable {X : Cx} {S : Type} {ι : Io S} {Δ : Dl} {s : S} {R : Type} {out : R → Out S} {rest : List Stmt} {pos : Pos} {tg iter : Expr} {body : List Stmt} {α : Type} {E : α → D}
/-- for tg in iter: body, never left -/
theorem bx_for {W : Type} (Δw : W → Dl) (sw : W → S) {w0 : S → W} {Mi : (List α → S → Option R) → Option R} {ixs : List Nat} {b : α → Dl} {f : W → α → Option W} {K : W → Option R}
    (hi : IX X ι Δ s tg iter Mi E) (hg : GX X ι tg ixs b E) (h0 : ∀ s1, sw (w0 s1) = s1) (h0' : ∀ s1, Le (Δw (w0 s1)) Δ)
    (hb : ∀ w x, BX X ι (b x ++ Δw w) (sw w) body (f w x) (fun w' => .next (Δw w') (sw w')))
    (hk : ∀ w, BX X ι (Δw w) (sw w) rest (K w) out) (hp : PassesOwn (model X.prog X.w) X.A X.env X.xe := by exact PassesOwn.never) (hc : X.calm = true := by rfl)
    (hs : ∀ x, foldedSetIterable iter X.env x = pure x := by intro _; rfl) (hx : ∀ i ∈ ixs, i ∉ ι.ix := by decide) :
    BX X ι Δ s (.For tg iter body [] pos :: rest) (Mi fun xs s1 => (xs.foldlM f (w0 s1)).bind K) out := by
  intro r hr σ H Hf A Dn st p
  refine tS_cons (ps_for hp hc (pI X tg iter) (pG X tg) (pS X body) hs) (hi _ r hr σ H Hf A _ st fun xs s1 hx1 J H1 Hf1 st1 e1 wk => ?_)
  obtain ⟨wf, hf, hK⟩ := bind_some hx1
  refine ⟨fun i m σ' H' => m = xs.length - i ∧ i ≤ xs.length ∧ ∃ w Hf' A', Sat X.K σ' H' Hf' (ι.tr (sw w) ++ Δw w) A' ∧ Stp ι.ix σ A H Hf σ' A' H' Hf' ∧ Sub Hf1 Hf' ∧ (xs.drop i).foldlM f w = some wf,
    ⟨xs.length, by simp, Nat.zero_le _, w0 s1, Hf1, A, by rw [h0]; exact st1.weak (h0' s1).app, e1.stp _ _, Sub.refl _, hf⟩, ?_⟩
  rintro i m σ' H' ⟨rfl, hi', w, Hf', A', st', sp, sb, hw⟩
  by_cases hlt : i < xs.length
  · obtain ⟨x, hxi⟩ : ∃ x, xs[i]? = some x := ⟨_, List.getElem?_eq_getElem hlt⟩
    obtain ⟨w1, hw1, hw2⟩ := foldlM_drop hxi hw
    refine .inr ⟨wk.go i H' Hf' sb st'.sub hlt, fun σ2 H2 => ∃ Hf2 A2, Sat X.K σ2 H2 Hf2 (ι.tr (sw w1) ++ Δw w1) A2 ∧ Stp ι.ix σ A H Hf σ2 A2 H2 Hf2 ∧ Sub Hf1 Hf2, fun σ2 H2 ⟨Hf2, A2, q1, q2, q3⟩ => ⟨xs.length - (i + 1), by omega, rfl, hlt, w1, Hf2, A2, q1, q2, q3, hw2⟩, fun v H2 hy => ?_⟩
    obtain ⟨Hf2, e2, sb2, rv⟩ := wk.yld i x v H' H2 Hf' sb st'.sub hxi hy
    have st2 := st'.up e2 sb2
    refine hg x v σ' H2 Hf2 _ A' (sw w) _ st2 rv fun σ3 st3 o3 => ?_
    refine hb w x w1 hw1 σ3 H2 Hf2 _ _ st3 ?_
    have sp3 : Stp ι.ix σ A H Hf σ3 (cutL A' ixs) H2 Hf2 := (sp.trans ((e2.toA (ix := ι.ix)).stp _ _)).trans (stp_cutL hx o3)
    exact fun σ4 H4 Hf4 A4 q1 q2 => ⟨Hf4, A4, q1, sp3.trans q2, sb.trans (e2.grow.trans q2.grow)⟩
  · have ei : i = xs.length := by omega
    subst ei
    rw [List.drop_length] at hw
    have ew : w = wf := Option.some.inj hw
    subst ew
    refine .inl ⟨wk.stop _ H' Hf' sb st'.sub (Nat.le_refl _), ?_⟩
    exact hk w r hK σ' H' Hf' A' Dn st' (p.step sp)
end
end Ab
namespace Ab
open PySem PySem.Spec PyProof.Rows L2
theorem nin_ne {a p : Addr} {l : List Addr} (h : a ∈ l) (n : p ∉ l) : a ≠ p := fun z => n (z ▸ h)
/-! ### comprehensions -/
def compM {α β S : Type} (f : α → S → Option (Option β × S)) : List α → S → Option (List β × S)
  | [], s => some ([], s)
  | x :: xs, s => (f x s).bind fun p => (compM f xs p.2).bind fun q => some (match p.1 with | some y => y :: q.1 | none => q.1, q.2)
theorem compM_drop {α β S : Type} {f : α → S → Option (Option β × S)} {xs : List α} {i : Nat} {x : α} {s s' : S} {ys : List β} (hx : xs[i]? = some x) (h : compM f (xs.drop i) s = some (ys, s')) :
    ∃ o s1 zs, f x s = some (o, s1) ∧ compM f (xs.drop (i + 1)) s1 = some (zs, s') ∧ ys = (match o with | some y => y :: zs | none => zs) := by
  obtain ⟨hi, e⟩ := List.getElem?_eq_some_iff.mp hx
  rw [List.drop_eq_getElem_cons hi, e] at h
  obtain ⟨p, h1, h2⟩ := bind_some (show (f x s).bind _ = some (ys, s') from h)
  obtain ⟨q, h3, h4⟩ := bind_some h2
  have e2 := Option.some.inj h4
  injection e2 with e3 e4
  subst e4
  exact ⟨p.1, p.2, q.1, h1, h3, e3.symm⟩
/-- where no state is touched and nothing fails -/
theorem compM_total {α β S : Type} {f : α → S → Option (Option β × S)} {g : α → Option β} (h : ∀ x s, f x s = some (g x, s)) : ∀ (xs : List α) (s : S), compM f xs s = some (xs.filterMap g, s)
  | [], s => rfl
  | x :: xs, s => by
    show (f x s).bind _ = _
    rw [h x s]
    show (compM f xs s).bind _ = _
    rw [compM_total h xs s]
    show some _ = some _
    cases e : g x with
    | none => rw [List.filterMap_cons_none e]
    | some y => rw [List.filterMap_cons_some e]
section
variable {K : KF} {σ : L2.St} {H Hf : Hp} {Δ P : Dl} {A : Nat → List Addr}
theorem Sat.poke (st : Sat K σ H Hf Δ A) {p : Addr} {o : HO} (n : Hf p = none) (nA : ∀ i, p ∉ A i) : Sat K σ (upd H p o) Hf Δ A where
  sub := fun a u e => by rw [upd_ne (ne_of_none e n)]; exact st.sub a u e
  slot := fun i T h => by
    obtain ⟨v, h1, h2⟩ := st.slot i T h
    exact ⟨v, h1, h2.up (Sub.refl _) fun a ha u e => by rw [upd_ne (nin_ne ha (nA i))]; exact e⟩
  own := fun i a h => ⟨(st.own i a h).1, by rw [upd_ne (nin_ne h (nA i))]; exact (st.own i a h).2⟩
  inj := st.inj
theorem Sat.freeze (st : Sat K σ H Hf Δ A) {p : Addr} {o : HO} (e : H p = some o) (n : Hf p = none) (nA : ∀ i, p ∉ A i) : Sat K σ H (upd Hf p o) Δ A where
  sub := fun a u h => by
    by_cases q : a = p
    · subst q; rw [upd_same] at h; rw [e]; exact h
    · rw [upd_ne q] at h; exact st.sub a u h
  slot := fun i T h => by
    obtain ⟨v, h1, h2⟩ := st.slot i T h
    exact ⟨v, h1, h2.up (fun a u q => by rw [upd_ne (ne_of_none q n)]; exact q) fun a _ u q => q⟩
  own := fun i a h => ⟨by rw [upd_ne (nin_ne h (nA i))]; exact (st.own i a h).1, (st.own i a h).2⟩
  inj := st.inj
theorem mem_wipe_ne {vs : List Nat} {j : Nat} (h : j ∉ vs) : ∀ (σ : L2.St), (wipe σ vs)[j]? = σ[j]? := by
  intro σ
  induction vs with
  | nil => rfl
  | cons v vs ih =>
    simp only [List.mem_cons, not_or] at h
    show ((wipe σ vs).set v none)[j]? = _
    rw [List.getElem?_set_ne (Ne.symm h.1), ih h.2]
theorem wipe_eq {vs ixs : List Nat} {σ σ2 : L2.St} (o : Only ixs (wipe σ vs) σ2) (h : ∀ i ∈ ixs, i ∈ vs) : wipe σ2 vs = wipe σ vs := by
  apply List.ext_getElem?
  intro j
  by_cases m : j ∈ vs
  · have len : ∀ (τ : L2.St), (wipe τ vs)[j]? = if j < τ.length then some none else none := by
      intro τ
      clear h o
      induction vs with
      | nil => simp at m
      | cons v vs ih =>
        show ((wipe τ vs).set v none)[j]? = _
        by_cases e : v = j
        · subst e
          by_cases hl : v < (wipe τ vs).length
          · rw [List.getElem?_set_self hl, if_pos (by rw [wipe_length] at hl; exact hl)]
          · rw [List.getElem?_eq_none (by simpa using hl), if_neg (by rw [wipe_length] at hl; exact hl)]
        · rw [List.getElem?_set_ne e]
          exact ih (by simpa [Ne.symm e] using m)
    rw [len, len, o.len, wipe_length]
  · rw [mem_wipe_ne m, mem_wipe_ne m, o.out j (fun z => m (h j z)), mem_wipe_ne m]
def forget (vs : List Nat) : Dl := vs.map fun i => (i, none)
theorem forget_keys (vs : List Nat) : (forget vs).map (·.1) = vs := by simp [forget, Function.comp_def]
theorem lk_forget {vs : List Nat} {i : Nat} (h : i ∈ vs) (Δ : Dl) : lk (forget vs ++ Δ) i = none := by
  induction vs with
  | nil => simp at h
  | cons v vs ih =>
    show lk ((v, none) :: (forget vs ++ Δ)) i = none
    by_cases e : i = v
    · subst e; rw [lk_self]
    · rw [lk_ne e]; exact ih (by simpa [e] using h)
theorem Sat.wiped (st : Sat K σ H Hf (P ++ Δ) A) {vs : List Nat} (hP : ∀ i ∈ vs, i ∉ P.map (·.1)) : Sat K (wipe σ vs) H Hf (P ++ (forget vs ++ Δ)) (cutL A vs) where
  sub := st.sub
  slot := fun i T h => by
    by_cases m : i ∈ vs
    · rw [lk_append_out (hP i m), lk_forget m] at h; cases h
    · have h' : lk (P ++ Δ) i = some T := by
        by_cases k : i ∈ P.map (·.1)
        · rw [lk_append_in (Δ' := Δ) k] at h; exact h
        · rw [lk_append_out k, lk_append_out (by rw [forget_keys]; exact m)] at h; rw [lk_append_out k]; exact h
      obtain ⟨v, h1, h2⟩ := st.slot i T h'
      exact ⟨v, by rw [mem_wipe_ne m]; exact h1, by unfold cutL; rw [if_neg m]; exact h2⟩
  own := fun i a h => st.own i a (cutL_in h).1
  inj := fun i j a h1 h2 => st.inj i j a (cutL_in h1).1 (cutL_in h2).1
end
section
variable {X : Cx} {S : Type} {ι : Io S} {Δ : Dl} {s : S} {R : Type} {tg iter elt : Expr} {ifs : List Expr} {pos : Pos} {scope : Scope}
variable {α β : Type} {E : α → D} {F : β → D}
def tTs (X : Cx) (ifs : List Expr) : TT := fun σ H Q => ∀ pins s, Inv X pins σ H s →
    wpAny (model X.prog X.w) X.A (forIn ifs true fun c r => if r = true then do let ok ← isTrue c X.env (eval c X.env); pure (ForInStep.yield ok) else pure (ForInStep.yield r)) (TP X pins σ Q) X.xe s
theorem pTs (X : Cx) (ifs : List Expr) : PTs X ifs (tTs X ifs) := ⟨fun pins s _ _ _ I h => h pins s I⟩
theorem tTs_of {X : Cx} {ifs : List Expr} {t : TT} (p : PTs X ifs t) {σ : L2.St} {H : Hp} {Q : Bool → Hp → Prop} (h : t σ H Q) : tTs X ifs σ H Q := fun pins s I => p.run pins s σ H Q I h
/-- the tests of a comprehension -/
def CX (X : Cx) {S : Type} (ι : Io S) (Δ : Dl) (s : S) (ifs : List Expr) {R : Type} (M : (Bool → S → Option R) → Option R) : Prop :=
  ∀ k r, M k = some r → ∀ (σ : L2.St) (H Hf : Hp) (A : Nat → List Addr) (Q : Bool → Hp → Prop), Sat X.K σ H Hf (ι.tr s ++ Δ) A →
    (∀ x s', k x s' = some r → ∀ H' Hf', Sat X.K σ H' Hf' (ι.tr s' ++ Δ) A → ExtA ι.ix A H Hf H' Hf' → Q x H') → tTs X ifs σ H Q
theorem cx_nil : CX X ι Δ s [] (R := R) (fun k => k true s) := by
  intro k r hk σ H Hf A Q st q
  exact tTs_of pts_nil (q true s hk H Hf st (ExtA.refl _ _ _ _))
theorem cx_one {c : Expr} {M : (Bool → S → Option R) → Option R} (h : TX X ι Δ s c M) : CX X ι Δ s [c] M := by
  intro k r hk σ H Hf A Q st q
  exact tTs_of (pts_one (pT X c)) (h k r hk σ H Hf A Q st q)
/-- a new list, still one's own -/
def EO (X : Cx) {S : Type} (ι : Io S) (Δ : Dl) (s : S) (e : Expr) {α R : Type} (M : (List α → S → Option R) → Option R) (E : α → D) : Prop :=
  ∀ k r, M k = some r → ∀ (σ : L2.St) (H Hf : Hp) (A : Nat → List Addr) (Q : VK), Sat X.K σ H Hf (ι.tr s ++ Δ) A →
    (∀ xs s', k xs s' = some r → ∀ a vs H' Hf', Sat X.K σ H' Hf' (ι.tr s' ++ Δ) A → ExtA ι.ix A H Hf H' Hf' → H' a = some (.lst vs) → vs.length ≤ Line → RpAll X.K Hf' vs (xs.map E) → Hf' a = none → H a = none → Q (.ref a) H') → tE X e σ H Q
theorem EO.ex {e : Expr} {M : (List α → S → Option R) → Option R} (h : EO X ι Δ s e M E) : EX X ι Δ s e M (fun l => .list (l.map E)) := by
  intro k r hk σ H Hf A Q st q
  refine h k r hk σ H Hf A Q st fun xs s' hx a vs H' Hf' st' e' ha hz ra hn hf => ?_
  have nA : ∀ i, a ∉ A i := fun i m => (st.own i a m).2 hf
  refine q xs s' hx (.ref a) H' (upd Hf' a (.lst vs)) (st'.freeze ha hn nA) ⟨e'.keep, e'.there, fun b u h => ?_, fun b h => ?_⟩ (.lst (.inl upd_same) hz (ra.up fun b u h => ?_))
  · have := e'.grow b u h
    rw [upd_ne (ne_of_none this hn)]; exact this
  · by_cases z : b = a
    · subst z; exact .inr hf
    · rw [upd_ne z] at h; exact e'.news b h
  · rw [upd_ne (ne_of_none h hn)]; exact h
/-- one turn -/
@[reducible] def compF {α β S : Type} (Mc : α → S → (Bool → S → Option (Option β × S)) → Option (Option β × S)) (Me : α → S → (β → S → Option (Option β × S)) → Option (Option β × S)) : α → S → Option (Option β × S) :=
  fun x s1 => Mc x s1 fun c s2 => if c = true then Me x s2 fun y s3 => some (some y, s3) else some (none, s2)
def gB (X : Cx) (scope : Scope) (tg : Expr) : TG := fun v σ H Q => ∀ s0 H0 C cl fp, tG (X.blk s0 H0 scope (compEnvC scope cl C X.env) fp) tg v σ H Q
def ttB (X : Cx) (scope : Scope) (ifs : List Expr) : TT := fun σ H Q => ∀ s0 H0 C cl fp, tTs (X.blk s0 H0 scope (compEnvC scope cl C X.env) fp) ifs σ H Q
def teB (X : Cx) (scope : Scope) (elt : Expr) : TE := fun σ H Q => ∀ s0 H0 C cl fp, tE (X.blk s0 H0 scope (compEnvC scope cl C X.env) fp) elt σ H Q
/-- a comprehension, ahead of what is done with its list -/
structure LO (X : Cx) {S : Type} (ι : Io S) (Δ : Dl) (s : S) (elt tg iter : Expr) (ifs : List Expr) (scope : Scope) (own : List (Str × Nat)) {α R : Type} (M : (List α → S → Option R) → Option R) (E : α → D) : Prop where
  hN : X.N.Nodup
  ok : BlkOk X.N X.env.scope scope own
  hc : X.calm = true
  hs : ∀ x, foldedSetIterable iter X.env x = pure x
  read : ∀ k r, M k = some r → ∀ (σ : L2.St) (H Hf : Hp) (A : Nat → List Addr) (Q : VK), Sat X.K σ H Hf (ι.tr s ++ Δ) A →
    (∀ xs s', k xs s' = some r → ∀ a vs H' Hf', Sat X.K σ H' Hf' (ι.tr s' ++ Δ) A → ExtA ι.ix A H Hf H' Hf' → H' a = some (.lst vs) → vs.length ≤ Line → RpAll X.K Hf' vs (xs.map E) → Hf' a = none → H a = none → Q (.ref a) H') →
    tLc (tI X tg iter) (gB X scope tg) (ttB X scope ifs) (teB X scope elt) (own.map (·.2)) σ H Q
theorem LO.eo {own : List (Str × Nat)} {M : (List α → S → Option R) → Option R} (h : LO X ι Δ s elt tg iter ifs scope own M E) : EO X ι Δ s (.ListComp elt [⟨tg, iter, ifs, 0⟩] scope pos) M E := fun k r hk σ H Hf A Q st q =>
  tE_of (pe_lc h.hc h.hN (pI X tg iter) h.ok (fun s0 H0 C cl fp => ⟨fun pins s _ _ _ u _ I r h => h s0 H0 C cl fp pins s u I r⟩)
    (fun s0 H0 C cl fp => ⟨fun pins s _ _ _ I h => h s0 H0 C cl fp pins s I⟩) (fun s0 H0 C cl fp => ⟨fun pins s _ _ _ I h => h s0 H0 C cl fp pins s I⟩) h.hs) (h.read k r hk σ H Hf A Q st q)
theorem LO.congr {own : List (Str × Nat)} {M N : (List α → S → Option R) → Option R} (h : LO X ι Δ s elt tg iter ifs scope own M E) (eq : ∀ k, N k = M k) : LO X ι Δ s elt tg iter ifs scope own N E :=
  ⟨h.hN, h.ok, h.hc, h.hs, fun k r hk => h.read k r ((eq k).symm.trans hk)⟩
theorem lo_comp {own : List (Str × Nat)} {ixs : List Nat} {b : α → Dl} {Mi : (List α → S → Option R) → Option R}
    {Mc : α → S → (Bool → S → Option (Option β × S)) → Option (Option β × S)} {Me : α → S → (β → S → Option (Option β × S)) → Option (Option β × S)} (hN : X.N.Nodup)
    (hi : IX X ι Δ s tg iter Mi E)
    (hg : ∀ s0 H0 C cl fp, GX (X.blk s0 H0 scope (compEnvC scope cl C X.env) fp) ι tg ixs b E)
    (ht : ∀ s0 H0 C cl fp x s1, CX (X.blk s0 H0 scope (compEnvC scope cl C X.env) fp) ι (b x ++ (forget (own.map (·.2)) ++ Δ)) s1 ifs (Mc x s1))
    (he : ∀ s0 H0 C cl fp x s1, EX (X.blk s0 H0 scope (compEnvC scope cl C X.env) fp) ι (b x ++ (forget (own.map (·.2)) ++ Δ)) s1 elt (Me x s1) F)
    (ok : blkC X.N X.env.scope scope own = true := by kernel_rfl) (kx : List Nat := ixs) (hk1 : ∀ x, (b x).map (·.1) = kx := by intro _; rfl) (hk2 : ∀ i ∈ kx, i ∈ own.map (·.2) := by decide) (hk3 : ∀ i ∈ ixs, i ∈ own.map (·.2) := by decide)
    (hx : ∀ i ∈ own.map (·.2), i ∉ ι.ix := by decide) (hc : X.calm = true := by rfl) (hs : ∀ x, foldedSetIterable iter X.env x = pure x := by intro _; rfl) :
    LO X ι Δ s elt tg iter ifs scope own (fun k => Mi fun xs s1 => (compM (compF Mc Me) xs s1).bind fun p => k p.1 p.2) F := by
  refine ⟨hN, blkOk_by ok, hc, hs, ?_⟩
  intro k r hk σ H Hf A Q st q
  refine hi _ r hk σ H Hf A _ st fun xs s1 hx1 J H1 Hf1 st1 e1 wk => ?_
  obtain ⟨⟨ys, sf⟩, hf, hK⟩ := bind_some hx1
  intro Dd hD
  have hDA : ∀ i, Dd ∉ A i := fun i m => (st1.own i Dd m).2 hD
  have hxP : ∀ s', ∀ i ∈ own.map (·.2), i ∉ (ι.tr s').map (·.1) := fun s' i m => by rw [ι.keys]; exact hx i m
  refine ⟨fun i m H' => m = xs.length - i ∧ i ≤ xs.length ∧ ∃ si Hf' acc dn rs, Sat X.K σ H' Hf' (ι.tr si ++ Δ) A ∧ ExtA ι.ix A H1 Hf1 H' Hf' ∧ H' Dd = some (.lst acc) ∧ acc.length ≤ i ∧ RpAll X.K Hf' acc (dn.map F) ∧ Hf' Dd = none ∧
    compM (compF Mc Me) (xs.drop i) si = some (rs, sf) ∧ dn ++ rs = ys, ⟨xs.length, by simp, Nat.zero_le _, s1, Hf1, [], [], ys, st1.up (Ext.newO hD) (Sub.newO hD st1.sub), (Ext.newO hD).toA, upd_same, Nat.le_refl _, .nil, st1.sub.non hD, hf, rfl⟩, ?_⟩
  rintro i m H' ⟨rfl, hi', si, Hf', acc, dn, rs, st', ex', hDl, hal, hacc, hDf, hcm, hys⟩
  by_cases hlt : i < xs.length
  · obtain ⟨x, hxi⟩ : ∃ x, xs[i]? = some x := ⟨_, List.getElem?_eq_getElem hlt⟩
    obtain ⟨o, s2, zs, hfx, hcm2, ers⟩ := compM_drop hxi hcm
    refine .inr ⟨wk.go i H' Hf' ex'.grow st'.sub hlt, fun H2 => ∃ Hf2 acc2, Sat X.K σ H2 Hf2 (ι.tr s2 ++ Δ) A ∧ ExtA ι.ix A H1 Hf1 H2 Hf2 ∧ H2 Dd = some (.lst acc2) ∧ acc2.length ≤ i + 1 ∧ RpAll X.K Hf2 acc2 ((dn ++ o.toList).map F) ∧ Hf2 Dd = none,
      fun H2 ⟨Hf2, acc2, q1, q2, q3, q4, q5, q6⟩ => ⟨xs.length - (i + 1), by omega, rfl, hlt, s2, Hf2, acc2, dn ++ o.toList, zs, q1, q2, q3, q4, q5, q6, hcm2, by rw [← hys, ers]; cases o <;> simp⟩, fun v H2 hy => ?_⟩
    obtain ⟨Hf2, e2, sb2, rv⟩ := wk.yld i x v H' H2 Hf' ex'.grow st'.sub hxi hy
    have st2 := st'.up e2 sb2
    have hD2 : H2 Dd = some (.lst acc) := e2.keep _ _ hDl
    have hDf2 : Hf2 Dd = none := by
      cases z : Hf2 Dd with
      | none => rfl
      | some u =>
        rcases e2.news Dd (by rw [z]; simp) with w | w
        · exact absurd hDf w
        · rw [hDl] at w; cases w
    intro s0 H0 C cl fp
    refine hg s0 H0 C cl fp x v (wipe σ (own.map (·.2))) H2 Hf2 (forget (own.map (·.2)) ++ Δ) _ si _ (st2.wiped (hxP si)) rv fun σ3 st3 o3 => ?_
    refine ⟨wipe_eq o3 hk3, ?_⟩
    intro s0 H0 C cl fp
    -- what a turn ends with, from the block's state
    have back : ∀ {H4 Hf4 : Hp} {s4 : S}, Sat X.K σ3 H4 Hf4 (ι.tr s4 ++ (b x ++ (forget (own.map (·.2)) ++ Δ))) (cutL (cutL A (own.map (·.2))) ixs) → ExtA ι.ix (cutL (cutL A (own.map (·.2))) ixs) H2 Hf2 H4 Hf4 →
        Sat X.K σ H4 Hf4 (ι.tr s4 ++ Δ) A ∧ ExtA ι.ix A H1 Hf1 H4 Hf4 ∧ H4 Dd = some (.lst acc) ∧ Hf4 Dd = none := by
      intro H4 Hf4 s4 st4 e4
      have inA : ∀ {j a}, a ∈ cutL (cutL A (own.map (·.2))) ixs j → a ∈ A j ∧ j ∉ own.map (·.2) := fun h => ⟨(cutL_in (cutL_in h).1).1, (cutL_in (cutL_in h).1).2⟩
      refine ⟨⟨st4.sub, fun j T hj => ?_, fun j a ha => ?_, st2.inj⟩, ?_, ?_, ?_⟩
      · by_cases m : j ∈ own.map (·.2)
        · rw [lk_append_out (hxP s4 j m)] at hj
          have hj2 : lk (ι.tr si ++ Δ) j = some T := by rw [lk_append_out (hxP si j m)]; exact hj
          obtain ⟨w, w1, w2⟩ := st2.slot j T hj2
          refine ⟨w, w1, w2.up e4.grow fun a ha u hu => e4.keep a u (fun l _ hl => ?_) hu⟩
          have := st2.inj j l a ha (inA hl).1
          subst this
          exact (inA hl).2 m
        · have mk : j ∉ kx := fun z => m (hk2 j z)
          have hj2 : lk (ι.tr s4 ++ (b x ++ (forget (own.map (·.2)) ++ Δ))) j = some T := by
            by_cases k' : j ∈ (ι.tr s4).map (·.1)
            · rw [lk_append_in (Δ' := Δ) k']; exact hj
            · rw [lk_append_out k', lk_append_out (by rw [hk1]; exact mk), lk_append_out (by rw [forget_keys]; exact m)]
              rw [lk_append_out k'] at hj; exact hj
          obtain ⟨w, w1, w2⟩ := st4.slot j T hj2
          have ni : j ∉ ixs := fun z => m (hk3 j z)
          rw [o3.out j ni, mem_wipe_ne m] at w1
          refine ⟨w, w1, ?_⟩
          have ec : cutL (cutL A (own.map (·.2))) ixs j = A j := by unfold cutL; rw [if_neg ni, if_neg m]
          rw [ec] at w2
          exact w2
      · obtain ⟨n1, n2⟩ := st2.own j a ha
        refine ⟨?_, e4.there a n2⟩
        cases z : Hf4 a with
        | none => rfl
        | some u =>
          rcases e4.news a (by rw [z]; simp) with w | w
          · exact absurd n1 w
          · exact absurd w n2
      · have e5 : ExtA ι.ix A H2 Hf2 H4 Hf4 := ⟨fun a u m h => e4.keep a u (fun l hl0 hl => m l hl0 (inA hl).1) h, e4.there, e4.grow, e4.news⟩
        exact (ex'.trans e2.toA).trans e5
      · exact e4.keep _ _ (fun l _ hl => hDA l (inA hl).1) hD2
      · cases z : Hf4 Dd with
        | none => rfl
        | some u =>
          rcases e4.news Dd (by rw [z]; simp) with w | w
          · exact absurd hDf2 w
          · rw [hD2] at w; cases w
    refine ht s0 H0 C cl fp x si _ (o, s2) hfx σ3 H2 Hf2 _ _ st3 fun c s3 hc3 H3 Hf3 st4 e3 => ?_
    cases c with
    | false =>
      have hc3 : some ((none : Option β), s3) = some (o, s2) := hc3
      injection hc3 with hc3
      injection hc3 with h1 h2
      subst h1
      subst h2
      obtain ⟨q1, q2, q3, q4⟩ := back st4 e3
      rw [if_neg Bool.false_ne_true]
      exact ⟨Hf3, acc, q1, q2, q3, Nat.le_succ_of_le hal, by simpa using hacc.up (e2.grow.trans e3.grow), q4⟩
    | true =>
      rw [if_pos rfl]
      intro s0 H0 C cl fp
      refine he s0 H0 C cl fp x s3 _ (o, s2) hc3 σ3 H3 Hf3 _ _ st4 fun y s4 hy4 w H4 Hf4 st5 e4 r4 => ?_
      have hy4 : some (some y, s4) = some (o, s2) := hy4
      injection hy4 with hy4
      injection hy4 with h1 h2
      subst h1
      subst h2
      obtain ⟨q1, q2, q3, q4⟩ := back st5 (e3.trans e4)
      have hz := wk.size
      refine ⟨acc, q3, lt_line (by omega), Hf4, acc ++ [w], q1.poke q4 hDA, ⟨fun a u m h => ?_, fun a h => ?_, q2.grow, q2.news⟩, upd_same, by rw [List.length_append]; exact Nat.succ_le_succ hal, ?_, q4⟩
      · rw [upd_ne (ne_of_none h hD)]
        exact q2.keep a u m h
      · obtain ⟨u, hu⟩ := not_none h
        rw [upd_ne (ne_of_none hu hD)]
        exact q2.there a h
      · rw [List.map_append]
        exact (hacc.up (e2.grow.trans (e3.grow.trans e4.grow))).append (.one r4)
  · have ei : i = xs.length := by omega
    subst ei
    rw [List.drop_length] at hcm
    injection hcm with hcm
    injection hcm with h1 h2
    subst h1
    subst h2
    rw [List.append_nil] at hys
    subst hys
    refine .inl ⟨wk.stop _ H' Hf' ex'.grow st'.sub (Nat.le_refl _), ?_⟩
    have hz := wk.size
    have hD0 : H Dd = none := none_back e1.there hD
    exact q dn si hK Dd acc H' Hf' st' (e1.trans ex') hDl (by omega) hacc hDf hD0
/-- .. where nothing is touched and nothing fails -/
theorem EO.congr {e : Expr} {M N : (List α → S → Option R) → Option R} (h : EO X ι Δ s e M E) (eq : ∀ k, N k = M k) : EO X ι Δ s e N E := fun k r hk => h k r ((eq k).symm.trans hk)
theorem EX.congr {γ : Type} {e : Expr} {M N : (γ → S → Option R) → Option R} {G : γ → D} (h : EX X ι Δ s e M G) (eq : ∀ k, N k = M k) : EX X ι Δ s e N G := fun k r hk => h k r ((eq k).symm.trans hk)
end
end Ab
namespace Ab
open PySem PySem.Spec PyProof.Rows L2
/-! ### kinds of data -/
namespace Ty
abbrev int : Int → D := PyData.int
abbrev bool : Bool → D := PyData.bool
abbrev str : Str → D := PyData.str
abbrev none : Unit → D := fun _ => PyData.none
abbrev lst {α : Type} (E : α → D) : List α → D := fun l => .list (l.map E)
abbrev tup {α : Type} (E : α → D) : List α → D := fun l => .tuple (l.map E)
abbrev opt {α : Type} (E : α → D) : Option α → D := fun o => match o with | .none => PyData.none | .some a => E a
abbrev p1 {α : Type} (E : α → D) : α → D := fun x => .tuple [E x]
abbrev p2 {α β : Type} (E : α → D) (F : β → D) : α × β → D := fun p => .tuple [E p.1, F p.2]
abbrev p3 {α β γ : Type} (E : α → D) (F : β → D) (G : γ → D) : α × β × γ → D := fun p => .tuple [E p.1, F p.2.1, G p.2.2]
abbrev p4 {α β γ δ : Type} (E : α → D) (F : β → D) (G : γ → D) (I : δ → D) : α × β × γ × δ → D := fun p => .tuple [E p.1, F p.2.1, G p.2.2.1, I p.2.2.2]
abbrev p5 {α β γ δ ε : Type} (E : α → D) (F : β → D) (G : γ → D) (I : δ → D) (J : ε → D) : α × β × γ × δ × ε → D := fun p => .tuple [E p.1, F p.2.1, G p.2.2.1, I p.2.2.2.1, J p.2.2.2.2]
abbrev p6 {α β γ δ ε ζ : Type} (E : α → D) (F : β → D) (G : γ → D) (I : δ → D) (J : ε → D) (L : ζ → D) : α × β × γ × δ × ε × ζ → D := fun p => .tuple [E p.1, F p.2.1, G p.2.2.1, I p.2.2.2.1, J p.2.2.2.2.1, L p.2.2.2.2.2]
end Ty
/-- == is equality; never deeper than n -/
structure Eqn {α : Type} [DecidableEq α] (E : α → D) (n : Nat) : Prop where
  eq : EqD E
  dep : Dep E n
theorem eqvAll_map {α : Type} [DecidableEq α] {E : α → D} (h : EqD E) : ∀ xs ys : List α, PyData.eqvAll (xs.map E) (ys.map E) = decide (xs = ys)
  | [], [] => rfl
  | [], _ :: _ => rfl
  | _ :: _, [] => rfl
  | x :: xs, y :: ys => by
    show (PyData.eqv (E x) (E y) && PyData.eqvAll (xs.map E) (ys.map E)) = _
    rw [h x y, eqvAll_map h xs ys]
    by_cases e1 : x = y <;> by_cases e2 : xs = ys <;> simp [e1, e2]
theorem depthAll_map {α : Type} {E : α → D} {n : Nat} (h : Dep E n) : ∀ xs : List α, PyData.depthAll (xs.map E) ≤ n
  | [] => Nat.zero_le _
  | x :: xs => by
    show max (E x).depth (PyData.depthAll (xs.map E)) ≤ n
    exact Nat.max_le.mpr ⟨(h x).1, depthAll_map h xs⟩
theorem noDs_map {α : Type} {E : α → D} {n : Nat} (h : Dep E n) : ∀ xs : List α, noDs (xs.map E) = true
  | [] => rfl
  | x :: xs => by show (noD (E x) && noDs (xs.map E)) = true; rw [(h x).2, noDs_map h xs]; rfl
namespace Eqn
theorem int : Eqn Ty.int 0 := ⟨fun x y => by show (x == y) = _; exact Bool.beq_eq_decide_eq x y, fun _ => ⟨Nat.le_refl _, rfl⟩⟩
theorem bool : Eqn Ty.bool 0 := ⟨fun x y => by show (x == y) = _; exact Bool.beq_eq_decide_eq x y, fun _ => ⟨Nat.le_refl _, rfl⟩⟩
theorem str : Eqn Ty.str 0 := ⟨fun x y => by show (x == y) = _; exact Bool.beq_eq_decide_eq x y, fun _ => ⟨Nat.le_refl _, rfl⟩⟩
theorem none : Eqn Ty.none 0 := ⟨fun x y => by cases x; cases y; rfl, fun _ => ⟨Nat.le_refl _, rfl⟩⟩
variable {α β γ δ ε : Type} [DecidableEq α] [DecidableEq β] [DecidableEq γ] [DecidableEq δ] [DecidableEq ε] {E : α → D} {F : β → D} {G : γ → D} {I : δ → D} {J : ε → D} {m n o p q : Nat}
theorem lst (h : Eqn E n) : Eqn (Ty.lst E) (n + 1) := ⟨fun x y => eqvAll_map h.eq x y, fun x => ⟨by show PyData.depthAll (x.map E) + 1 ≤ n + 1; have := depthAll_map h.dep x; omega, noDs_map h.dep x⟩⟩
theorem tup (h : Eqn E n) : Eqn (Ty.tup E) (n + 1) := ⟨fun x y => eqvAll_map h.eq x y, fun x => ⟨by show PyData.depthAll (x.map E) + 1 ≤ n + 1; have := depthAll_map h.dep x; omega, noDs_map h.dep x⟩⟩
theorem p2 (h : Eqn E m) (k : Eqn F n) : Eqn (Ty.p2 E F) (m + n + 1) := ⟨fun x y => by
    obtain ⟨a, b⟩ := x
    obtain ⟨c, d⟩ := y
    show (PyData.eqv (E a) (E c) && (PyData.eqv (F b) (F d) && true)) = _
    rw [h.eq, k.eq]
    by_cases e1 : a = c <;> by_cases e2 : b = d <;> simp [e1, e2], fun x => by
    refine ⟨?_, ?_⟩
    · show max (E x.1).depth (max (F x.2).depth 0) + 1 ≤ _
      have h1 := (h.dep x.1).1
      have h2 := (k.dep x.2).1
      omega
    · show (noD (E x.1) && (noD (F x.2) && true)) = true
      rw [(h.dep x.1).2, (k.dep x.2).2]; rfl⟩
theorem p3 (h : Eqn E m) (k : Eqn F n) (l : Eqn G o) : Eqn (Ty.p3 E F G) (m + n + o + 1) := ⟨fun x y => by
    obtain ⟨a, b, c⟩ := x
    obtain ⟨a', b', c'⟩ := y
    show (PyData.eqv (E a) (E a') && (PyData.eqv (F b) (F b') && (PyData.eqv (G c) (G c') && true))) = _
    rw [h.eq, k.eq, l.eq]
    by_cases e1 : a = a' <;> by_cases e2 : b = b' <;> by_cases e3 : c = c' <;> simp [e1, e2, e3], fun x => by
    refine ⟨?_, ?_⟩
    · show max (E x.1).depth (max (F x.2.1).depth (max (G x.2.2).depth 0)) + 1 ≤ _
      have h1 := (h.dep x.1).1
      have h2 := (k.dep x.2.1).1
      have h3 := (l.dep x.2.2).1
      omega
    · show (noD (E x.1) && (noD (F x.2.1) && (noD (G x.2.2) && true))) = true
      rw [(h.dep x.1).2, (k.dep x.2.1).2, (l.dep x.2.2).2]; rfl⟩
theorem p4 (h : Eqn E m) (k : Eqn F n) (l : Eqn G o) (r : Eqn I p) : Eqn (Ty.p4 E F G I) (m + n + o + p + 1) := ⟨fun x y => by
    obtain ⟨a, b, c, d⟩ := x
    obtain ⟨a', b', c', d'⟩ := y
    show (PyData.eqv (E a) (E a') && (PyData.eqv (F b) (F b') && (PyData.eqv (G c) (G c') && (PyData.eqv (I d) (I d') && true)))) = _
    rw [h.eq, k.eq, l.eq, r.eq]
    by_cases e1 : a = a' <;> by_cases e2 : b = b' <;> by_cases e3 : c = c' <;> by_cases e4 : d = d' <;> simp [e1, e2, e3, e4], fun x => by
    refine ⟨?_, ?_⟩
    · show max (E x.1).depth (max (F x.2.1).depth (max (G x.2.2.1).depth (max (I x.2.2.2).depth 0))) + 1 ≤ _
      have h1 := (h.dep x.1).1
      have h2 := (k.dep x.2.1).1
      have h3 := (l.dep x.2.2.1).1
      have h4 := (r.dep x.2.2.2).1
      omega
    · show (noD (E x.1) && (noD (F x.2.1) && (noD (G x.2.2.1) && (noD (I x.2.2.2) && true)))) = true
      rw [(h.dep x.1).2, (k.dep x.2.1).2, (l.dep x.2.2.1).2, (r.dep x.2.2.2).2]; rfl⟩
theorem p5 (h : Eqn E m) (k : Eqn F n) (l : Eqn G o) (r : Eqn I p) (t : Eqn J q) : Eqn (Ty.p5 E F G I J) (m + n + o + p + q + 1) := ⟨fun x y => by
    obtain ⟨a, b, c, d, e⟩ := x
    obtain ⟨a', b', c', d', e'⟩ := y
    show (PyData.eqv (E a) (E a') && (PyData.eqv (F b) (F b') && (PyData.eqv (G c) (G c') && (PyData.eqv (I d) (I d') && (PyData.eqv (J e) (J e') && true))))) = _
    rw [h.eq, k.eq, l.eq, r.eq, t.eq]
    by_cases e1 : a = a' <;> by_cases e2 : b = b' <;> by_cases e3 : c = c' <;> by_cases e4 : d = d' <;> by_cases e5 : e = e' <;> simp [e1, e2, e3, e4, e5], fun x => by
    refine ⟨?_, ?_⟩
    · show max (E x.1).depth (max (F x.2.1).depth (max (G x.2.2.1).depth (max (I x.2.2.2.1).depth (max (J x.2.2.2.2).depth 0)))) + 1 ≤ _
      have h1 := (h.dep x.1).1
      have h2 := (k.dep x.2.1).1
      have h3 := (l.dep x.2.2.1).1
      have h4 := (r.dep x.2.2.2.1).1
      have h5 := (t.dep x.2.2.2.2).1
      omega
    · show (noD (E x.1) && (noD (F x.2.1) && (noD (G x.2.2.1) && (noD (I x.2.2.2.1) && (noD (J x.2.2.2.2) && true))))) = true
      rw [(h.dep x.1).2, (k.dep x.2.1).2, (l.dep x.2.2.1).2, (r.dep x.2.2.2.1).2, (t.dep x.2.2.2.2).2]; rfl⟩
/-- maybe something, which is never None itself -/
theorem opt (h : Eqn E n) (hz : ∀ x, PyData.eqv (E x) .none = false ∧ PyData.eqv .none (E x) = false) : Eqn (Ty.opt E) n := ⟨fun x y => by
    cases x with
    | none => cases y with
      | none => rfl
      | some b => show PyData.eqv .none (E b) = _; rw [(hz b).2]; simp
    | some a => cases y with
      | none => show PyData.eqv (E a) .none = _; rw [(hz a).1]; simp
      | some b => show PyData.eqv (E a) (E b) = _; rw [h.eq]; by_cases e : a = b <;> simp [e], fun x => by
    cases x with
    | none => exact ⟨Nat.zero_le _, rfl⟩
    | some a => exact h.dep a⟩
end Eqn
section
variable {X : Cx} {S : Type} {ι : Io S} {Δ : Dl} {s : S} {R : Type} {pos : Pos} {a b c e : Expr} {k : Nat}
variable {α β γ : Type} {Ea : α → D} {Eb : β → D} {Ec : γ → D}
variable {Ma : (α → S → Option R) → Option R} {Mb : S → (β → S → Option R) → Option R}
/-! ### comparisons -/
section
variable {Na : (Int → S → Option R) → Option R} {Nb : S → (Int → S → Option R) → Option R}
theorem ex_lt (ha : EX X ι Δ s a Na Ty.int) (hb : ∀ s1, EX X ι Δ s1 b (Nb s1) Ty.int) : EX X ι Δ s (.Compare a [.Lt] [b] pos) (fun k => Na fun x s1 => Nb s1 fun y s2 => k (decide (x < y)) s2) Ty.bool := ex_cmpT op_lt opD_b0 ha hb (nomark _)
theorem ex_le (ha : EX X ι Δ s a Na Ty.int) (hb : ∀ s1, EX X ι Δ s1 b (Nb s1) Ty.int) : EX X ι Δ s (.Compare a [.LtE] [b] pos) (fun k => Na fun x s1 => Nb s1 fun y s2 => k (decide (x ≤ y)) s2) Ty.bool := ex_cmpT op_le opD_b0 ha hb (nomark _)
theorem ex_gt (ha : EX X ι Δ s a Na Ty.int) (hb : ∀ s1, EX X ι Δ s1 b (Nb s1) Ty.int) : EX X ι Δ s (.Compare a [.Gt] [b] pos) (fun k => Na fun x s1 => Nb s1 fun y s2 => k (decide (y < x)) s2) Ty.bool := ex_cmpT op_gt opD_b0 ha hb (nomark _)
theorem ex_ge (ha : EX X ι Δ s a Na Ty.int) (hb : ∀ s1, EX X ι Δ s1 b (Nb s1) Ty.int) : EX X ι Δ s (.Compare a [.GtE] [b] pos) (fun k => Na fun x s1 => Nb s1 fun y s2 => k (decide (y ≤ x)) s2) Ty.bool := ex_cmpT op_ge opD_b0 ha hb (nomark _)
theorem tx_lt (ha : EX X ι Δ s a Na Ty.int) (hb : ∀ s1, EX X ι Δ s1 b (Nb s1) Ty.int) : TX X ι Δ s (.Compare a [.Lt] [b] pos) (fun k => Na fun x s1 => Nb s1 fun y s2 => k (decide (x < y)) s2) := tx_cmpT op_lt opD_b0 ha hb (nomark _)
theorem tx_le (ha : EX X ι Δ s a Na Ty.int) (hb : ∀ s1, EX X ι Δ s1 b (Nb s1) Ty.int) : TX X ι Δ s (.Compare a [.LtE] [b] pos) (fun k => Na fun x s1 => Nb s1 fun y s2 => k (decide (x ≤ y)) s2) := tx_cmpT op_le opD_b0 ha hb (nomark _)
theorem tx_gt (ha : EX X ι Δ s a Na Ty.int) (hb : ∀ s1, EX X ι Δ s1 b (Nb s1) Ty.int) : TX X ι Δ s (.Compare a [.Gt] [b] pos) (fun k => Na fun x s1 => Nb s1 fun y s2 => k (decide (y < x)) s2) := tx_cmpT op_gt opD_b0 ha hb (nomark _)
theorem tx_ge (ha : EX X ι Δ s a Na Ty.int) (hb : ∀ s1, EX X ι Δ s1 b (Nb s1) Ty.int) : TX X ι Δ s (.Compare a [.GtE] [b] pos) (fun k => Na fun x s1 => Nb s1 fun y s2 => k (decide (y ≤ x)) s2) := tx_cmpT op_ge opD_b0 ha hb (nomark _)
end
section
variable {Mb' : S → (α → S → Option R) → Option R} {n : Nat}
theorem ex_eq [DecidableEq α] (hr : Room k X.A) (q : Eqn Ea n) (ha : EX X ι Δ s a Ma Ea) (hb : ∀ s1, EX X ι Δ s1 b (Mb' s1) Ea) (hn : n ≤ 64 := by decide) :
    EX X ι Δ s (.Compare a [.Eq] [b] pos) (fun k => Ma fun x s1 => Mb' s1 fun y s2 => k (decide (x = y)) s2) Ty.bool := ex_cmpT (op_eqD hr.units) (opD_eq q.eq q.dep hn) ha hb (nomark _)
theorem tx_eq [DecidableEq α] (hr : Room k X.A) (q : Eqn Ea n) (ha : EX X ι Δ s a Ma Ea) (hb : ∀ s1, EX X ι Δ s1 b (Mb' s1) Ea) (hn : n ≤ 64 := by decide) :
    TX X ι Δ s (.Compare a [.Eq] [b] pos) (fun k => Ma fun x s1 => Mb' s1 fun y s2 => k (decide (x = y)) s2) := tx_cmpT (op_eqD hr.units) (opD_eq q.eq q.dep hn) ha hb (nomark _)
theorem ex_ne [DecidableEq α] (hr : Room k X.A) (q : Eqn Ea n) (ha : EX X ι Δ s a Ma Ea) (hb : ∀ s1, EX X ι Δ s1 b (Mb' s1) Ea) (hn : n ≤ 64 := by decide) :
    EX X ι Δ s (.Compare a [.NotEq] [b] pos) (fun k => Ma fun x s1 => Mb' s1 fun y s2 => k (!decide (x = y)) s2) Ty.bool := ex_cmpT (op_neD hr.units) (opD_ne q.eq q.dep hn) ha hb (nomark _)
theorem tx_ne [DecidableEq α] (hr : Room k X.A) (q : Eqn Ea n) (ha : EX X ι Δ s a Ma Ea) (hb : ∀ s1, EX X ι Δ s1 b (Mb' s1) Ea) (hn : n ≤ 64 := by decide) :
    TX X ι Δ s (.Compare a [.NotEq] [b] pos) (fun k => Ma fun x s1 => Mb' s1 fun y s2 => k (!decide (x = y)) s2) := tx_cmpT (op_neD hr.units) (opD_ne q.eq q.dep hn) ha hb (nomark _)
end
/-! in, not in -/
def rInR (K : KF) (neg : Bool) : R2 := fun x y H Q => ∃ d ds, Dp K H x d ∧ (Dp K H y (.list ds) ∨ Dp K H y (.tuple ds)) ∧ d.canLay0 = true ∧ PyData.canLayAll0 ds = true ∧ d.depth ≤ 64 ∧ Q (.bl (if neg then !(ds.any fun z => PyData.eqv z d) else ds.any fun z => PyData.eqv z d)) H
theorem op_inR (hr : Room k X.A) : OpR X (compareOp .In) (rInR X.K false) := by
  intro pins s σ H x y v u Q I rx ry h
  obtain ⟨d, ds, hd, he, ld, lds, dp, q⟩ := h
  obtain ⟨as, r1⟩ := Dp.reads I d x v hd rx
  have hu : X.A.units + 1 + min (PyData.depthAll ds) d.depth < cLine := by have := hr.un; omega
  rcases he with he | he
  · obtain ⟨bs, r2⟩ := Dp.reads I (.list ds) y u he ry
    exact SeqAt.in_list_reads r2 r1 lds ld hu ⟨.bl _, H, I, rfl, q⟩
  · obtain ⟨bs, r2⟩ := Dp.reads I (.tuple ds) y u he ry
    exact SeqAt.in_tuple_reads r2 r1 lds ld hu ⟨.bl _, H, I, rfl, q⟩
theorem op_notInR (hr : Room k X.A) : OpR X (compareOp .NotIn) (rInR X.K true) := by
  intro pins s σ H x y v u Q I rx ry h
  obtain ⟨d, ds, hd, he, ld, lds, dp, q⟩ := h
  obtain ⟨as, r1⟩ := Dp.reads I d x v hd rx
  have hu : X.A.units + 1 + min (PyData.depthAll ds) d.depth < cLine := by have := hr.un; omega
  rcases he with he | he
  · obtain ⟨bs, r2⟩ := Dp.reads I (.list ds) y u he ry
    exact SeqAt.notIn_list_reads r2 r1 lds ld hu ⟨.bl _, H, I, rfl, q⟩
  · obtain ⟨bs, r2⟩ := Dp.reads I (.tuple ds) y u he ry
    exact SeqAt.notIn_tuple_reads r2 r1 lds ld hu ⟨.bl _, H, I, rfl, q⟩
theorem any_eqv [DecidableEq α] (h : EqD Ea) (x : α) : ∀ xs : List α, ((xs.map Ea).any fun z => PyData.eqv z (Ea x)) = decide (x ∈ xs)
  | [] => by simp
  | y :: ys => by
    rw [List.map_cons, List.any_cons, any_eqv h x ys, h y x]
    by_cases e : y = x
    · subst e; simp
    · have e2 : ¬ x = y := fun z => e z.symm
      simp [e, e2]
theorem opD_in [DecidableEq α] {n : Nat} {K : KF} (q : Eqn Ea n) (hn : n ≤ 64) (G : List α → D) (hG : (∀ l, G l = .list (l.map Ea)) ∨ (∀ l, G l = .tuple (l.map Ea))) (neg : Bool) :
    OpD K (rInR K neg) Ea G Ty.bool (fun _ _ => True) (fun x xs => if neg then !decide (x ∈ xs) else decide (x ∈ xs)) :=
  opD_of fun x y v w H Hf Q _ sb rv rw' => ⟨.bl _, .bl _, fun qq => by
    have h1 := Rp.dp _ _ (q.dep x).2 (rv.up sb)
    rcases hG with hG | hG
    · rw [hG] at rw'
      have h2 := Rp.dp (.list (y.map Ea)) _ (noDs_map q.dep y) (rw'.up sb)
      refine ⟨_, _, h1.1, .inl h2.1, h1.2, h2.2, Nat.le_trans (q.dep x).1 hn, ?_⟩
      rw [any_eqv q.eq]
      exact qq
    · rw [hG] at rw'
      have h2 := Rp.dp (.tuple (y.map Ea)) _ (noDs_map q.dep y) (rw'.up sb)
      refine ⟨_, _, h1.1, .inr h2.1, h1.2, h2.2, Nat.le_trans (q.dep x).1 hn, ?_⟩
      rw [any_eqv q.eq]
      exact qq⟩
section
variable {Mb' : S → (List α → S → Option R) → Option R} {n : Nat}
theorem ex_inT [DecidableEq α] (hr : Room k X.A) (q : Eqn Ea n) (ha : EX X ι Δ s a Ma Ea) (hb : ∀ s1, EX X ι Δ s1 b (Mb' s1) (Ty.tup Ea)) (hn : n ≤ 64 := by decide) (hm : behindInMarks .In b = false := by with_unfolding_all rfl) :
    EX X ι Δ s (.Compare a [.In] [b] pos) (fun k => Ma fun x s1 => Mb' s1 fun y s2 => k (decide (x ∈ y)) s2) Ty.bool := ex_cmpT (op_inR hr) (opD_in q hn _ (.inr fun _ => rfl) false) ha hb hm
theorem tx_inT [DecidableEq α] (hr : Room k X.A) (q : Eqn Ea n) (ha : EX X ι Δ s a Ma Ea) (hb : ∀ s1, EX X ι Δ s1 b (Mb' s1) (Ty.tup Ea)) (hn : n ≤ 64 := by decide) (hm : behindInMarks .In b = false := by with_unfolding_all rfl) :
    TX X ι Δ s (.Compare a [.In] [b] pos) (fun k => Ma fun x s1 => Mb' s1 fun y s2 => k (decide (x ∈ y)) s2) := tx_cmpT (op_inR hr) (opD_in q hn _ (.inr fun _ => rfl) false) ha hb hm
theorem ex_notInT [DecidableEq α] (hr : Room k X.A) (q : Eqn Ea n) (ha : EX X ι Δ s a Ma Ea) (hb : ∀ s1, EX X ι Δ s1 b (Mb' s1) (Ty.tup Ea)) (hn : n ≤ 64 := by decide) (hm : behindInMarks .NotIn b = false := by with_unfolding_all rfl) :
    EX X ι Δ s (.Compare a [.NotIn] [b] pos) (fun k => Ma fun x s1 => Mb' s1 fun y s2 => k (!decide (x ∈ y)) s2) Ty.bool := ex_cmpT (op_notInR hr) (opD_in q hn _ (.inr fun _ => rfl) true) ha hb hm
theorem tx_notInT [DecidableEq α] (hr : Room k X.A) (q : Eqn Ea n) (ha : EX X ι Δ s a Ma Ea) (hb : ∀ s1, EX X ι Δ s1 b (Mb' s1) (Ty.tup Ea)) (hn : n ≤ 64 := by decide) (hm : behindInMarks .NotIn b = false := by with_unfolding_all rfl) :
    TX X ι Δ s (.Compare a [.NotIn] [b] pos) (fun k => Ma fun x s1 => Mb' s1 fun y s2 => k (!decide (x ∈ y)) s2) := tx_cmpT (op_notInR hr) (opD_in q hn _ (.inr fun _ => rfl) true) ha hb hm
theorem ex_inL [DecidableEq α] (hr : Room k X.A) (q : Eqn Ea n) (ha : EX X ι Δ s a Ma Ea) (hb : ∀ s1, EX X ι Δ s1 b (Mb' s1) (Ty.lst Ea)) (hn : n ≤ 64 := by decide) (hm : behindInMarks .In b = false := by with_unfolding_all rfl) :
    EX X ι Δ s (.Compare a [.In] [b] pos) (fun k => Ma fun x s1 => Mb' s1 fun y s2 => k (decide (x ∈ y)) s2) Ty.bool := ex_cmpT (op_inR hr) (opD_in q hn _ (.inl fun _ => rfl) false) ha hb hm
theorem tx_inL [DecidableEq α] (hr : Room k X.A) (q : Eqn Ea n) (ha : EX X ι Δ s a Ma Ea) (hb : ∀ s1, EX X ι Δ s1 b (Mb' s1) (Ty.lst Ea)) (hn : n ≤ 64 := by decide) (hm : behindInMarks .In b = false := by with_unfolding_all rfl) :
    TX X ι Δ s (.Compare a [.In] [b] pos) (fun k => Ma fun x s1 => Mb' s1 fun y s2 => k (decide (x ∈ y)) s2) := tx_cmpT (op_inR hr) (opD_in q hn _ (.inl fun _ => rfl) false) ha hb hm
theorem ex_notInL [DecidableEq α] (hr : Room k X.A) (q : Eqn Ea n) (ha : EX X ι Δ s a Ma Ea) (hb : ∀ s1, EX X ι Δ s1 b (Mb' s1) (Ty.lst Ea)) (hn : n ≤ 64 := by decide) (hm : behindInMarks .NotIn b = false := by with_unfolding_all rfl) :
    EX X ι Δ s (.Compare a [.NotIn] [b] pos) (fun k => Ma fun x s1 => Mb' s1 fun y s2 => k (!decide (x ∈ y)) s2) Ty.bool := ex_cmpT (op_notInR hr) (opD_in q hn _ (.inl fun _ => rfl) true) ha hb hm
theorem tx_notInL [DecidableEq α] (hr : Room k X.A) (q : Eqn Ea n) (ha : EX X ι Δ s a Ma Ea) (hb : ∀ s1, EX X ι Δ s1 b (Mb' s1) (Ty.lst Ea)) (hn : n ≤ 64 := by decide) (hm : behindInMarks .NotIn b = false := by with_unfolding_all rfl) :
    TX X ι Δ s (.Compare a [.NotIn] [b] pos) (fun k => Ma fun x s1 => Mb' s1 fun y s2 => k (!decide (x ∈ y)) s2) := tx_cmpT (op_notInR hr) (opD_in q hn _ (.inl fun _ => rfl) true) ha hb hm
end
/-! ### and, or, not -/
def tW (X : Cx) (e : Expr) : TT := fun σ H Q => ∀ whole pins s, Inv X pins σ H s → wpAny (model X.prog X.w) X.A (isTrue e X.env whole) (TP X pins σ Q) X.xe s
theorem pW (X : Cx) (e : Expr) : PW X e (tW X e) := ⟨fun wh pins s _ _ _ I h => h wh pins s I⟩
theorem tW_of {t : TT} (p : PW X e t) {σ : L2.St} {H : Hp} {Q : Bool → Hp → Prop} (h : t σ H Q) : tW X e σ H Q := fun wh pins s I => p.run wh pins s σ H Q I h
/-- a chain of and, or -/
def WX (X : Cx) {S : Type} (ι : Io S) (Δ : Dl) (s : S) (e : Expr) {R : Type} (M : (Bool → S → Option R) → Option R) : Prop :=
  ∀ k r, M k = some r → ∀ (σ : L2.St) (H Hf : Hp) (A : Nat → List Addr) (Q : Bool → Hp → Prop), Sat X.K σ H Hf (ι.tr s ++ Δ) A →
    (∀ x s', k x s' = some r → ∀ H' Hf', Sat X.K σ H' Hf' (ι.tr s' ++ Δ) A → ExtA ι.ix A H Hf H' Hf' → Q x H') → tW X e σ H Q
section
variable {Ta : (Bool → S → Option R) → Option R} {rest : List Expr}
theorem WX.tx {T : (Bool → S → Option R) → Option R} (h : WX X ι Δ s e T) : TX X ι Δ s e T := fun k r hk σ H Hf A Q st q => tT_of (pW X e).pt (h k r hk σ H Hf A Q st q)
theorem wx_and1 (h : TX X ι Δ s a Ta) : WX X ι Δ s (.BoolOp .And [a] pos) Ta := fun k r hk σ H Hf A Q st q => tW_of (pw_and1 (pT X a)) (h k r hk σ H Hf A Q st q)
theorem wx_or1 (h : TX X ι Δ s a Ta) : WX X ι Δ s (.BoolOp .Or [a] pos) Ta := fun k r hk σ H Hf A Q st q => tW_of (pw_or1 (pT X a)) (h k r hk σ H Hf A Q st q)
/-- the rest never fails and touches no state -/
theorem wx_andT {y : Bool} (ha : TX X ι Δ s a Ta) (hb : ∀ s1, WX X ι Δ s1 (.BoolOp .And (b :: rest) pos) (R := R) (fun k => k y s1)) : WX X ι Δ s (.BoolOp .And (a :: b :: rest) pos) (fun k => Ta fun x s1 => k (x && y) s1) := by
  intro k r hk σ H Hf A Q st q
  refine tW_of (pw_and (pT X a) (pW X _)) (ha _ r hk σ H Hf A _ st fun x s1 hx H1 Hf1 st1 e1 => ?_)
  cases x with
  | false => rw [if_neg Bool.false_ne_true]; exact q false s1 hx H1 Hf1 st1 e1
  | true =>
    rw [if_pos rfl]
    exact hb s1 k r hx σ H1 Hf1 A Q st1 fun y' s2 hy H2 Hf2 st2 e2 => q y' s2 hy H2 Hf2 st2 (e1.trans e2)
theorem wx_orT {y : Bool} (ha : TX X ι Δ s a Ta) (hb : ∀ s1, WX X ι Δ s1 (.BoolOp .Or (b :: rest) pos) (R := R) (fun k => k y s1)) : WX X ι Δ s (.BoolOp .Or (a :: b :: rest) pos) (fun k => Ta fun x s1 => k (x || y) s1) := by
  intro k r hk σ H Hf A Q st q
  refine tW_of (pw_or (pT X a) (pW X _)) (ha _ r hk σ H Hf A _ st fun x s1 hx H1 Hf1 st1 e1 => ?_)
  cases x with
  | true => rw [if_pos rfl]; exact q true s1 hx H1 Hf1 st1 e1
  | false =>
    rw [if_neg Bool.false_ne_true]
    exact hb s1 k r hx σ H1 Hf1 A Q st1 fun y' s2 hy H2 Hf2 st2 e2 => q y' s2 hy H2 Hf2 st2 (e1.trans e2)
/-- in general -/
theorem wx_and {Tb : S → (Bool → S → Option (Bool × S)) → Option (Bool × S)} (ha : TX X ι Δ s a Ta) (hb : ∀ s1, WX X ι Δ s1 (.BoolOp .And (b :: rest) pos) (Tb s1)) :
    WX X ι Δ s (.BoolOp .And (a :: b :: rest) pos) (fun k => Ta fun x s1 => (if x = true then Tb s1 fun y s2 => some (y, s2) else some (false, s1)).bind fun p => k p.1 p.2) := by
  intro k r hk σ H Hf A Q st q
  refine tW_of (pw_and (pT X a) (pW X _)) (ha _ r hk σ H Hf A _ st fun x s1 hx H1 Hf1 st1 e1 => ?_)
  obtain ⟨p, h1, h2⟩ := bind_some hx
  cases x with
  | false =>
    rw [if_neg Bool.false_ne_true] at h1 ⊢
    cases h1
    exact q false s1 h2 H1 Hf1 st1 e1
  | true =>
    rw [if_pos rfl] at h1 ⊢
    exact hb s1 _ p h1 σ H1 Hf1 A Q st1 fun y' s2 hy H2 Hf2 st2 e2 => by
      cases hy
      exact q _ _ h2 H2 Hf2 st2 (e1.trans e2)
theorem wx_or {Tb : S → (Bool → S → Option (Bool × S)) → Option (Bool × S)} (ha : TX X ι Δ s a Ta) (hb : ∀ s1, WX X ι Δ s1 (.BoolOp .Or (b :: rest) pos) (Tb s1)) :
    WX X ι Δ s (.BoolOp .Or (a :: b :: rest) pos) (fun k => Ta fun x s1 => (if x = true then some (true, s1) else Tb s1 fun y s2 => some (y, s2)).bind fun p => k p.1 p.2) := by
  intro k r hk σ H Hf A Q st q
  refine tW_of (pw_or (pT X a) (pW X _)) (ha _ r hk σ H Hf A _ st fun x s1 hx H1 Hf1 st1 e1 => ?_)
  obtain ⟨p, h1, h2⟩ := bind_some hx
  cases x with
  | true =>
    rw [if_pos rfl] at h1 ⊢
    cases h1
    exact q true s1 h2 H1 Hf1 st1 e1
  | false =>
    rw [if_neg Bool.false_ne_true] at h1 ⊢
    exact hb s1 _ p h1 σ H1 Hf1 A Q st1 fun y' s2 hy H2 Hf2 st2 e2 => by
      cases hy
      exact q _ _ h2 H2 Hf2 st2 (e1.trans e2)
theorem tx_not (ha : TX X ι Δ s a Ta) : TX X ι Δ s (.UnaryOp .Not a pos) (fun k => Ta fun x s1 => k (!x) s1) := by
  intro k r hk σ H Hf A Q st q
  exact tT_of (pt_not (pT X a)) (ha _ r hk σ H Hf A _ st fun x s1 hx H1 Hf1 st1 e1 => q (!x) s1 hx H1 Hf1 st1 e1)
/-- a value that is a bool, as a test -/
theorem tx_val (ha : EX X ι Δ s a Ta Ty.bool) (he : ∀ whole, isTrue a X.env whole = (do let v ← whole; standAt a.pos; holding [v] (truthy v)) := by intro _; rfl) : TX X ι Δ s a Ta :=
  tx_of (pt_val (pE X a) he) ha
/-- a list's, a tuple's truth -/
theorem tx_lst {Ma : (List α → S → Option R) → Option R} (ha : EX X ι Δ s a Ma (Ty.lst Ea)) (he : ∀ whole, isTrue a X.env whole = (do let v ← whole; standAt a.pos; holding [v] (truthy v)) := by intro _; rfl) :
    TX X ι Δ s a (fun k => Ma fun x s1 => k (!x.isEmpty) s1) := by
  intro k r hk σ H Hf A Q st q
  refine tT_of (pt_truth (pE X a) he) (ha _ r hk σ H Hf A _ st fun x s1 hx v H1 Hf1 st1 e1 r1 => ?_)
  cases r1 with
  | @lst p vs _ hs hz ra =>
    refine ⟨_, .inl ⟨vs, (.inl (st1.sub.rd hs)), rfl⟩, ?_⟩
    have hl := ra.len
    have : (!vs.isEmpty) = !x.isEmpty := by cases vs <;> cases x <;> simp at hl ⊢
    rw [this]
    exact q _ s1 hx H1 Hf1 st1 e1
theorem tx_tup {Ma : (List α → S → Option R) → Option R} (ha : EX X ι Δ s a Ma (Ty.tup Ea)) (he : ∀ whole, isTrue a X.env whole = (do let v ← whole; standAt a.pos; holding [v] (truthy v)) := by intro _; rfl) :
    TX X ι Δ s a (fun k => Ma fun x s1 => k (!x.isEmpty) s1) := by
  intro k r hk σ H Hf A Q st q
  refine tT_of (pt_truth (pE X a) he) (ha _ r hk σ H Hf A _ st fun x s1 hx v H1 Hf1 st1 e1 r1 => ?_)
  cases r1 with
  | @tup p vs _ hs hz ra =>
    refine ⟨_, .inr (.inl ⟨vs, st1.sub.tup hs, rfl⟩), ?_⟩
    have hl := ra.len
    have : (!vs.isEmpty) = !x.isEmpty := by cases vs <;> cases x <;> simp at hl ⊢
    rw [this]
    exact q _ s1 hx H1 Hf1 st1 e1
/-- as values -/
theorem ex_not (ha : EX X ι Δ s a Ta Ty.bool) : EX X ι Δ s (.UnaryOp .Not a pos) (fun k => Ta fun x s1 => k (!x) s1) Ty.bool := by
  intro k r hk σ H Hf A Q st q
  refine tE_of (pe_not (pE X a)) (ha _ r hk σ H Hf A _ st fun x s1 hx v H1 Hf1 st1 e1 r1 => ?_)
  cases r1
  exact ⟨x, rfl, q _ s1 hx _ H1 Hf1 st1 e1 (.bl _)⟩
theorem ex_one {op : BoolOp} {E : α → D} (ha : EX X ι Δ s a Ma E) : EX X ι Δ s (.BoolOp op [a] pos) Ma E := fun k r hk σ H Hf A Q st q => tE_of (pe_one (pE X a)) (ha k r hk σ H Hf A Q st q)
theorem ex_andT {y : Bool} (ha : EX X ι Δ s a Ta Ty.bool) (hb : ∀ s1, EX X ι Δ s1 (.BoolOp .And (b :: rest) pos) (R := R) (fun k => k y s1) Ty.bool) : EX X ι Δ s (.BoolOp .And (a :: b :: rest) pos) (fun k => Ta fun x s1 => k (x && y) s1) Ty.bool := by
  intro k r hk σ H Hf A Q st q
  refine tE_of (pe_and (pE X a) (pE X _)) (ha _ r hk σ H Hf A _ st fun x s1 hx v H1 Hf1 st1 e1 r1 => ?_)
  cases r1
  refine ⟨x, rfl, ?_⟩
  cases x with
  | false => rw [if_neg Bool.false_ne_true]; exact q false s1 hx _ H1 Hf1 st1 e1 (.bl _)
  | true =>
    rw [if_pos rfl]
    exact hb s1 k r hx σ H1 Hf1 A Q st1 fun y' s2 hy v H2 Hf2 st2 e2 r2 => q y' s2 hy v H2 Hf2 st2 (e1.trans e2) r2
theorem ex_orT {y : Bool} (ha : EX X ι Δ s a Ta Ty.bool) (hb : ∀ s1, EX X ι Δ s1 (.BoolOp .Or (b :: rest) pos) (R := R) (fun k => k y s1) Ty.bool) : EX X ι Δ s (.BoolOp .Or (a :: b :: rest) pos) (fun k => Ta fun x s1 => k (x || y) s1) Ty.bool := by
  intro k r hk σ H Hf A Q st q
  refine tE_of (pe_or (pE X a) (pE X _)) (ha _ r hk σ H Hf A _ st fun x s1 hx v H1 Hf1 st1 e1 r1 => ?_)
  cases r1
  refine ⟨x, rfl, ?_⟩
  cases x with
  | true => rw [if_pos rfl]; exact q true s1 hx _ H1 Hf1 st1 e1 (.bl _)
  | false =>
    rw [if_neg Bool.false_ne_true]
    exact hb s1 k r hx σ H1 Hf1 A Q st1 fun y' s2 hy v H2 Hf2 st2 e2 r2 => q y' s2 hy v H2 Hf2 st2 (e1.trans e2) r2
theorem ex_and {Tb : S → (Bool → S → Option (Bool × S)) → Option (Bool × S)} (ha : EX X ι Δ s a Ta Ty.bool) (hb : ∀ s1, EX X ι Δ s1 (.BoolOp .And (b :: rest) pos) (Tb s1) Ty.bool) :
    EX X ι Δ s (.BoolOp .And (a :: b :: rest) pos) (fun k => Ta fun x s1 => (if x = true then Tb s1 fun y s2 => some (y, s2) else some (false, s1)).bind fun p => k p.1 p.2) Ty.bool := by
  intro k r hk σ H Hf A Q st q
  refine tE_of (pe_and (pE X a) (pE X _)) (ha _ r hk σ H Hf A _ st fun x s1 hx v H1 Hf1 st1 e1 r1 => ?_)
  cases r1
  refine ⟨x, rfl, ?_⟩
  obtain ⟨p, h1, h2⟩ := bind_some hx
  cases x with
  | false =>
    rw [if_neg Bool.false_ne_true] at h1 ⊢
    cases h1
    exact q false s1 h2 _ H1 Hf1 st1 e1 (.bl _)
  | true =>
    rw [if_pos rfl] at h1 ⊢
    exact hb s1 _ p h1 σ H1 Hf1 A Q st1 fun y' s2 hy v H2 Hf2 st2 e2 r2 => by
      cases hy
      exact q _ _ h2 v H2 Hf2 st2 (e1.trans e2) r2
theorem ex_or {Tb : S → (Bool → S → Option (Bool × S)) → Option (Bool × S)} (ha : EX X ι Δ s a Ta Ty.bool) (hb : ∀ s1, EX X ι Δ s1 (.BoolOp .Or (b :: rest) pos) (Tb s1) Ty.bool) :
    EX X ι Δ s (.BoolOp .Or (a :: b :: rest) pos) (fun k => Ta fun x s1 => (if x = true then some (true, s1) else Tb s1 fun y s2 => some (y, s2)).bind fun p => k p.1 p.2) Ty.bool := by
  intro k r hk σ H Hf A Q st q
  refine tE_of (pe_or (pE X a) (pE X _)) (ha _ r hk σ H Hf A _ st fun x s1 hx v H1 Hf1 st1 e1 r1 => ?_)
  cases r1
  refine ⟨x, rfl, ?_⟩
  obtain ⟨p, h1, h2⟩ := bind_some hx
  cases x with
  | true =>
    rw [if_pos rfl] at h1 ⊢
    cases h1
    exact q true s1 h2 _ H1 Hf1 st1 e1 (.bl _)
  | false =>
    rw [if_neg Bool.false_ne_true] at h1 ⊢
    exact hb s1 _ p h1 σ H1 Hf1 A Q st1 fun y' s2 hy v H2 Hf2 st2 e2 r2 => by
      cases hy
      exact q _ _ h2 v H2 Hf2 st2 (e1.trans e2) r2
/-- a if c else b -/
theorem ex_ifT {E : α → D} {x y : α} (hc : TX X ι Δ s c Ta) (ha : ∀ s1, EX X ι Δ s1 a (R := R) (fun k => k x s1) E) (hb : ∀ s1, EX X ι Δ s1 b (R := R) (fun k => k y s1) E) :
    EX X ι Δ s (.IfExp c a b pos) (fun k => Ta fun z s1 => k (if z = true then x else y) s1) E := by
  intro k r hk σ H Hf A Q st q
  refine tE_of (pe_ifExp (pT X c) (pE X a) (pE X b)) (hc _ r hk σ H Hf A _ st fun z s1 hz H1 Hf1 st1 e1 => ?_)
  cases z with
  | true =>
    rw [if_pos rfl] at hz ⊢
    exact ha s1 k r hz σ H1 Hf1 A Q st1 fun y' s2 hy v H2 Hf2 st2 e2 r2 => q y' s2 hy v H2 Hf2 st2 (e1.trans e2) r2
  | false =>
    rw [if_neg Bool.false_ne_true] at hz ⊢
    exact hb s1 k r hz σ H1 Hf1 A Q st1 fun y' s2 hy v H2 Hf2 st2 e2 r2 => q y' s2 hy v H2 Hf2 st2 (e1.trans e2) r2
theorem ex_if {E : α → D} {Pa Pb : S → (α → S → Option (α × S)) → Option (α × S)} (hc : TX X ι Δ s c Ta) (ha : ∀ s1, EX X ι Δ s1 a (Pa s1) E) (hb : ∀ s1, EX X ι Δ s1 b (Pb s1) E) :
    EX X ι Δ s (.IfExp c a b pos) (fun k => Ta fun z s1 => (if z = true then Pa s1 fun x s2 => some (x, s2) else Pb s1 fun x s2 => some (x, s2)).bind fun p => k p.1 p.2) E := by
  intro k r hk σ H Hf A Q st q
  refine tE_of (pe_ifExp (pT X c) (pE X a) (pE X b)) (hc _ r hk σ H Hf A _ st fun z s1 hz H1 Hf1 st1 e1 => ?_)
  obtain ⟨p, h1, h2⟩ := bind_some hz
  cases z with
  | true =>
    rw [if_pos rfl] at h1 ⊢
    exact ha s1 _ p h1 σ H1 Hf1 A Q st1 fun y' s2 hy v H2 Hf2 st2 e2 r2 => by
      cases hy
      exact q _ _ h2 v H2 Hf2 st2 (e1.trans e2) r2
  | false =>
    rw [if_neg Bool.false_ne_true] at h1 ⊢
    exact hb s1 _ p h1 σ H1 Hf1 A Q st1 fun y' s2 hy v H2 Hf2 st2 e2 r2 => by
      cases hy
      exact q _ _ h2 v H2 Hf2 st2 (e1.trans e2) r2
end
end
end Ab
namespace Ab
open PySem PySem.Spec PyProof.Rows L2
namespace Bo
theorem len : bootBuiltins "len" = some (.builtin "len") := by decide +kernel
theorem sorted : bootBuiltins "sorted" = some (.builtin "sorted") := by decide +kernel
theorem isinstance : bootBuiltins "isinstance" = some (.builtin "isinstance") := by decide +kernel
theorem sum : bootBuiltins "sum" = some (.builtin "sum") := by decide +kernel
theorem abs : bootBuiltins "abs" = some (.builtin "abs") := by decide +kernel
theorem max : bootBuiltins "max" = some (.builtin "max") := by decide +kernel
theorem min : bootBuiltins "min" = some (.builtin "min") := by decide +kernel
theorem any : bootBuiltins "any" = some (.builtin "any") := by decide +kernel
theorem all : bootBuiltins "all" = some (.builtin "all") := by decide +kernel
theorem int : bootBuiltins "int" = some (.type "int") := by decide +kernel
theorem bool : bootBuiltins "bool" = some (.type "bool") := by decide +kernel
theorem str : bootBuiltins "str" = some (.type "str") := by decide +kernel
theorem list : bootBuiltins "list" = some (.type "list") := by decide +kernel
theorem tuple : bootBuiltins "tuple" = some (.type "tuple") := by decide +kernel
end Bo
section
variable {X : Cx} {S : Type} {ι : Io S} {Δ : Dl} {s : S} {R : Type} {pos p : Pos} {a b c e : Expr} {k : Nat}
variable {α β γ : Type} {Ea : α → D} {Eb : β → D} {Ec : γ → D}
variable {Ma : (α → S → Option R) → Option R} {Mb : S → (β → S → Option R) → Option R}
/-! ### places -/
theorem atI_map {f : α → β} {xs : List α} {i : Int} {x : α} (h : atI xs i = some x) : atI (xs.map f) i = some (f x) := by
  unfold atI at h ⊢
  rw [List.length_map]
  cases e : ixN xs.length i with
  | none => rw [e] at h; cases h
  | some j =>
    rw [e] at h
    show (xs.map f)[j]? = _
    rw [List.getElem?_map, show xs[j]? = some x from h]
    rfl
theorem atI_rp {K : KF} {Hf : Hp} {vs : List V} {ds : List D} {i : Int} {d : D} (r : RpAll K Hf vs ds) (h : atI ds i = some d) : ∃ v, atI vs i = some v ∧ Rp K Hf v d := by
  unfold atI at h ⊢
  rw [r.len]
  cases e : ixN ds.length i with
  | none => rw [e] at h; cases h
  | some j =>
    rw [e] at h
    exact r.get (show ds[j]? = some d from h)
theorem ex_bindB {e : Expr} {t : R2} {G : α → β → Option γ} (he : PE X e (tOp t (tE X a) (tE X b))) (hg : ∀ (x : α) (y : β) (z : γ) (v w : V) (H Hf : Hp) (Q : VK), G x y = some z → Sub Hf H → Rp X.K Hf v (Ea x) → Rp X.K Hf w (Eb y) → (∀ u, Rp X.K Hf u (Ec z) → Q u H) → t v w H Q)
    (ha : EX X ι Δ s a Ma Ea) (hb : ∀ s1, EX X ι Δ s1 b (Mb s1) Eb) : EX X ι Δ s e (fun k => Ma fun x s1 => Mb s1 fun y s2 => (G x y).bind fun z => k z s2) Ec := by
  intro k r hk σ H Hf A Q st h
  refine tE_of he (ha _ r hk σ H Hf A _ st fun x s1 hx v H1 Hf1 st1 e1 r1 => ?_)
  refine hb s1 _ r hx σ H1 Hf1 A _ st1 fun y s2 hy w H2 Hf2 st2 e2 r2 => ?_
  obtain ⟨z, h1, h2⟩ := bind_some hy
  exact hg x y z v w H2 Hf2 Q h1 st2.sub (r1.up e2.grow) r2 fun u ru => h z s2 h2 u H2 Hf2 st2 (e1.trans e2) ru
/-- xs[i] of a list, of a tuple -/
theorem ex_ixL {Ml : (List α → S → Option R) → Option R} {Mi : S → (Int → S → Option R) → Option R} (ha : EX X ι Δ s a Ml (Ty.lst Ea)) (hb : ∀ s1, EX X ι Δ s1 b (Mi s1) Ty.int) (hs : PlainIx b := by exact fun _ _ => rfl) :
    EX X ι Δ s (.Subscript a b pos) (fun k => Ml fun x s1 => Mi s1 fun y s2 => (atI x y).bind fun z => k z s2) Ea := by
  refine ex_bindB (pe_ix L2.ix_list (pE X a) (pE X b) hs) (fun x y z v w H Hf Q hz sb rv rw' q => ?_) ha hb
  cases rw'
  cases rv with
  | @lst p vs _ hs hl ra =>
    obtain ⟨u, h1, h2⟩ := atI_rp ra (atI_map hz)
    exact ⟨p, vs, y, u, rfl, rfl, (.inl (sb.rd hs)), h1, q u h2⟩
theorem ex_ixT {Ml : (List α → S → Option R) → Option R} {Mi : S → (Int → S → Option R) → Option R} (ha : EX X ι Δ s a Ml (Ty.tup Ea)) (hb : ∀ s1, EX X ι Δ s1 b (Mi s1) Ty.int) (hs : PlainIx b := by exact fun _ _ => rfl) :
    EX X ι Δ s (.Subscript a b pos) (fun k => Ml fun x s1 => Mi s1 fun y s2 => (atI x y).bind fun z => k z s2) Ea := by
  refine ex_bindB (pe_ix L2.ix_tup (pE X a) (pE X b) hs) (fun x y z v w H Hf Q hz sb rv rw' q => ?_) ha hb
  cases rw'
  cases rv with
  | @tup p vs _ hs hl ra =>
    obtain ⟨u, h1, h2⟩ := atI_rp ra (atI_map hz)
    exact ⟨p, vs, y, u, rfl, rfl, sb.tup hs, h1, q u h2⟩
/-- the part of a tuple at a written place -/
theorem ex_prj {i : Int} (f : α → β) {F : α → List D} (hE : ∀ x, Ea x = .tuple (F x)) (hf : ∀ x, atI (F x) i = some (Eb (f x))) {j : Nat} {p' : Pos} (ha : EX X ι Δ s a Ma Ea) (hs : PlainIx (.Constant (.int i) j p') := by exact fun _ _ => rfl) :
    EX X ι Δ s (.Subscript a (.Constant (.int i) j p') pos) (fun k => Ma fun x s1 => k (f x) s1) Eb := by
  intro k r hk σ H Hf A Q st h
  refine tE_of (pe_ix L2.ix_tup (pE X a) pe_int hs) (ha _ r hk σ H Hf A _ st fun x s1 hx v H1 Hf1 st1 e1 r1 => ?_)
  rw [hE] at r1
  cases r1 with
  | @tup p vs _ hs hl ra =>
    obtain ⟨u, h1, h2⟩ := atI_rp ra (hf x)
    exact ⟨p, vs, i, u, rfl, rfl, st1.sub.tup hs, h1, h _ s1 hx u H1 Hf1 st1 e1 h2⟩
/-! slices -/
def sliceL {α : Type} (xs : List α) (lo hi : Option Int) : List α := (xs.drop (HT.sIx xs.length 0 lo)).take (HT.sIx xs.length xs.length hi - HT.sIx xs.length 0 lo)
theorem sliceL_rp {K : KF} {Hf : Hp} {vs : List V} {xs : List α} (lo hi : Option Int) (r : RpAll K Hf vs (xs.map Ea)) : RpAll K Hf (cutV vs lo hi) ((sliceL xs lo hi).map Ea) := by
  have hl := r.len
  rw [List.length_map] at hl
  unfold cutV sliceL
  rw [hl, List.map_take, List.map_drop]
  exact (r.drop _).take _
def tO (X : Cx) (e : Option Expr) : TO := fun σ H Q => ∀ pins s, Inv X pins σ H s → wpAny (model X.prog X.w) X.A (evalPart e X.env) (fun v s' => ∃ o H', Inv X pins σ H' s' ∧ IsPart v o ∧ Q o H') X.xe s
/-- a slice's bound -/
def OX (X : Cx) {S : Type} (ι : Io S) (Δ : Dl) (s : S) (e : Option Expr) {R : Type} (M : (Option Int → S → Option R) → Option R) : Prop :=
  ∀ k r, M k = some r → ∀ (σ : L2.St) (H Hf : Hp) (A : Nat → List Addr) (Q : Option Int → Hp → Prop), Sat X.K σ H Hf (ι.tr s ++ Δ) A →
    (∀ x s', k x s' = some r → ∀ H' Hf', Sat X.K σ H' Hf' (ι.tr s' ++ Δ) A → ExtA ι.ix A H Hf H' Hf' → Q x H') → ∃ t : TO, PO X e t ∧ t σ H Q
theorem ox_none : OX X ι Δ s none (R := R) (fun k => k none s) := fun k r hk σ H Hf A Q st q => ⟨_, po_none, q none s hk H Hf st (ExtA.refl _ _ _ _)⟩
theorem ox_some {M : (Int → S → Option R) → Option R} (h : EX X ι Δ s e M Ty.int) : OX X ι Δ s (some e) (fun k => M fun i s1 => k (some i) s1) := fun k r hk σ H Hf A Q st q =>
  ⟨_, po_some (pE X e), h _ r hk σ H Hf A _ st fun x s1 hx v H1 Hf1 st1 e1 r1 => by cases r1; exact ⟨x, rfl, q _ s1 hx H1 Hf1 st1 e1⟩⟩
end
section
variable {X : Cx} {S : Type} {ι : Io S} {Δ : Dl} {s : S} {R : Type} {pos p p2 : Pos} {a b c e : Expr} {k : Nat}
variable {α β γ : Type} {Ea : α → D} {Eb : β → D} {Ec : γ → D}
variable {Ma : (α → S → Option R) → Option R} {Mb : S → (β → S → Option R) → Option R}
/-- a bound is none, or an int -/
inductive Bd (X : Cx) {S : Type} (ι : Io S) (Δ : Dl) {R : Type} : Option Expr → (S → (Option Int → S → Option R) → Option R) → Prop
  | no : Bd X ι Δ none (fun s k => k none s)
  | is {e : Expr} {M : S → (Int → S → Option R) → Option R} (h : ∀ s, EX X ι Δ s e (M s) Ty.int) : Bd X ι Δ (some e) (fun s k => M s fun i s1 => k (some i) s1)
theorem Bd.po {o : Option Expr} {M : S → (Option Int → S → Option R) → Option R} (h : Bd X ι Δ o M) : ∃ t : TO, PO X o t ∧ ∀ (s : S) k r, M s k = some r → ∀ (σ : L2.St) (H Hf : Hp) (A : Nat → List Addr) (Q : Option Int → Hp → Prop), Sat X.K σ H Hf (ι.tr s ++ Δ) A →
    (∀ x s', k x s' = some r → ∀ H' Hf', Sat X.K σ H' Hf' (ι.tr s' ++ Δ) A → ExtA ι.ix A H Hf H' Hf' → Q x H') → t σ H Q := by
  cases h with
  | no => exact ⟨_, po_none, fun s k r hk σ H Hf A Q st q => q none s hk H Hf st (ExtA.refl _ _ _ _)⟩
  | is h => exact ⟨_, po_some (pE X _), fun s k r hk σ H Hf A Q st q => h s _ r hk σ H Hf A _ st fun x s1 hx v H1 Hf1 st1 e1 r1 => by cases r1; exact ⟨x, rfl, q _ s1 hx H1 Hf1 st1 e1⟩⟩
theorem ex_slL {lo hi : Option Expr} {Ml : (List α → S → Option R) → Option R} {Mlo Mhi : S → (Option Int → S → Option R) → Option R} (ha : EX X ι Δ s a Ml (Ty.lst Ea)) (hl : Bd X ι Δ lo Mlo) (hh : Bd X ι Δ hi Mhi) :
    EX X ι Δ s (.Subscript a (.Slice lo hi none p2) pos) (fun k => Ml fun x s1 => Mlo s1 fun i s2 => Mhi s2 fun j s3 => k (sliceL x i j) s3) (Ty.lst Ea) := by
  obtain ⟨tl, pl, ql⟩ := hl.po
  obtain ⟨th, ph, qh⟩ := hh.po
  intro k r hk σ H Hf A Q st h
  refine tE_of (pe_slice sl_list (pE X a) pl ph) (ha _ r hk σ H Hf A _ st fun x s1 hx v H1 Hf1 st1 e1 r1 => ?_)
  refine ql s1 _ r hx σ H1 Hf1 A _ st1 fun i s2 hx2 H2 Hf2 st2 e2 => ?_
  refine qh s2 _ r hx2 σ H2 Hf2 A _ st2 fun j s3 hx3 H3 Hf3 st3 e3 => ?_
  have r3 := r1.up (e2.grow.trans e3.grow)
  cases r3 with
  | @lst p vs _ hs hz ra =>
    refine ⟨p, vs, rfl, (.inl (st3.sub.rd hs)), fun q nq => ?_⟩
    have ex := Ext.new (o := .lst (cutV vs i j)) nq st3.sub
    exact h _ s3 hx3 _ _ _ (st3.up ex (Sub.new st3.sub)) ((e1.trans (e2.trans e3)).trans ex.toA) (.lst (.inl upd_same) (Nat.le_trans (cutV_length _ _ _) hz) ((sliceL_rp i j ra).up ex.grow))
theorem ex_slT {lo hi : Option Expr} {Ml : (List α → S → Option R) → Option R} {Mlo Mhi : S → (Option Int → S → Option R) → Option R} (ha : EX X ι Δ s a Ml (Ty.tup Ea)) (hl : Bd X ι Δ lo Mlo) (hh : Bd X ι Δ hi Mhi) :
    EX X ι Δ s (.Subscript a (.Slice lo hi none p2) pos) (fun k => Ml fun x s1 => Mlo s1 fun i s2 => Mhi s2 fun j s3 => k (sliceL x i j) s3) (Ty.tup Ea) := by
  obtain ⟨tl, pl, ql⟩ := hl.po
  obtain ⟨th, ph, qh⟩ := hh.po
  intro k r hk σ H Hf A Q st h
  refine tE_of (pe_slice sl_tupA (pE X a) pl ph) (ha _ r hk σ H Hf A _ st fun x s1 hx v H1 Hf1 st1 e1 r1 => ?_)
  refine ql s1 _ r hx σ H1 Hf1 A _ st1 fun i s2 hx2 H2 Hf2 st2 e2 => ?_
  refine qh s2 _ r hx2 σ H2 Hf2 A _ st2 fun j s3 hx3 H3 Hf3 st3 e3 => ?_
  have r3 := r1.up (e2.grow.trans e3.grow)
  cases r3 with
  | @tup p vs _ hs hz ra =>
    refine ⟨p, vs, rfl, st3.sub.tup hs, fun w => ?_, fun _ q nq => ?_⟩
    · refine h _ s3 hx3 _ H3 Hf3 st3 (e1.trans (e2.trans e3)) ?_
      have hl := ra.len
      rw [List.length_map] at hl
      have e : sliceL x i j = x := by
        unfold sliceL
        rw [← hl, w.1, w.2, List.drop_zero, Nat.sub_zero, hl, List.take_length]
      rw [e]
      exact .tup hs hz ra
    · have ex := Ext.new (o := .tup (cutV vs i j)) nq st3.sub
      exact h _ s3 hx3 _ _ _ (st3.up ex (Sub.new st3.sub)) ((e1.trans (e2.trans e3)).trans ex.toA) (.tup (.inl (.inl upd_same)) (Nat.le_trans (cutV_length _ _ _) hz) ((sliceL_rp i j ra).up ex.grow))
/-- a slice of a tuple of unlike parts, told through a list of its parts -/
theorem ex_slP {lo hi : Option Int} {jl jh : Nat} {pl ph : Pos} {olo ohi : Option Expr} (f : α → β) {F : α → List D} (hE : ∀ x, Ea x = .tuple (F x)) (hf : ∀ x, Eb (f x) = .tuple (sliceL (F x) lo hi))
    (hl : PO X olo (fun _ H Q => Q lo H)) (hh : PO X ohi (fun _ H Q => Q hi H)) (ha : EX X ι Δ s a Ma Ea) : EX X ι Δ s (.Subscript a (.Slice olo ohi none p2) pos) (fun k => Ma fun x s1 => k (f x) s1) Eb := by
  intro k r hk σ H Hf A Q st h
  refine tE_of (pe_slice sl_tupA (pE X a) hl hh) (ha _ r hk σ H Hf A _ st fun x s1 hx v H1 Hf1 st1 e1 r1 => ?_)
  rw [hE] at r1
  cases r1 with
  | @tup p vs _ hs hz ra =>
    have e : RpAll X.K Hf1 (cutV vs lo hi) (sliceL (F x) lo hi) := by
      unfold cutV sliceL
      rw [ra.len]
      exact (ra.drop _).take _
    refine ⟨p, vs, rfl, st1.sub.tup hs, fun w => ?_, fun _ q nq => ?_⟩
    · refine h _ s1 hx _ H1 Hf1 st1 e1 ?_
      rw [hf]
      have hl := ra.len
      have e2 : sliceL (F x) lo hi = F x := by
        unfold sliceL
        rw [← hl, w.1, w.2, List.drop_zero, Nat.sub_zero, hl, List.take_length]
      rw [e2]
      exact .tup hs hz ra
    · have ex := Ext.new (o := .tup (cutV vs lo hi)) nq st1.sub
      refine h _ s1 hx _ _ _ (st1.up ex (Sub.new st1.sub)) (e1.trans ex.toA) ?_
      rw [hf]
      exact .tup (.inl (.inl upd_same)) (Nat.le_trans (cutV_length _ _ _) hz) (e.up ex.grow)
/-! ### displays -/
theorem ex_tupD {es : List Expr} {x1 : Nat} {M : (α → S → Option R) → Option R} {F : α → List D} (f : α → β) (hf : ∀ x, Eb (f x) = .tuple (F x)) (hn : ∀ x, (F x).length ≤ Line) (h : AX X ι Δ s es M F) : EX X ι Δ s (.Tuple es x1 pos) (fun k => M fun x s1 => k (f x) s1) Eb := by
  intro k r hk σ H Hf A Q st q
  refine tE_of (pe_tup (pA X es)) (h _ r hk σ H Hf A _ st fun x s1 hx vs H1 Hf1 st1 e1 r1 => ⟨le_line (r1.len ▸ hn x), fun p np => ?_⟩)
  have ex := Ext.new (o := .tup vs) np st1.sub
  refine q _ s1 hx _ _ _ (st1.up ex (Sub.new st1.sub)) (e1.trans ex.toA) ?_
  rw [hf]
  exact .tup (.inl (.inl upd_same)) (r1.len ▸ hn x) (r1.up ex.grow)
theorem ex_lstD {es : List Expr} {M : (α → S → Option R) → Option R} {F : α → List D} (f : α → List β) (hf : ∀ x, (f x).map Eb = F x) (hn : ∀ x, (F x).length ≤ Line) (h : AX X ι Δ s es M F) : EX X ι Δ s (.List es pos) (fun k => M fun x s1 => k (f x) s1) (Ty.lst Eb) := by
  intro k r hk σ H Hf A Q st q
  refine tE_of (pe_lst (pA X es)) (h _ r hk σ H Hf A _ st fun x s1 hx vs H1 Hf1 st1 e1 r1 => ⟨le_line (r1.len ▸ hn x), fun p np => ?_⟩)
  have ex := Ext.new (o := .lst vs) np st1.sub
  refine q _ s1 hx _ _ _ (st1.up ex (Sub.new st1.sub)) (e1.trans ex.toA) ?_
  show Rp X.K _ _ (.list ((f x).map Eb))
  rw [hf]
  exact .lst (.inl upd_same) (r1.len ▸ hn x) (r1.up ex.grow)
/-! ### built-ins -/
theorem ex_callB1 {id x : Str} {id' : String} {rr : List V → Hp → VK → Prop} {C : α → Prop} [∀ x, Decidable (C x)] {g : α → β} (hc : CallR X (.builtin id') rr) (hm : X.mg x = none) (hv : bootBuiltins x = some (.builtin id'))
    (hg : ∀ (y : α) (v : V) (H Hf : Hp) (Q : VK), C y → Sub Hf H → Rp X.K Hf v (Ea y) → (∀ u H' Hf', Ext H Hf H' Hf' → Sub Hf' H' → Rp X.K Hf' u (Eb (g y)) → Q u H') → rr [v] H Q) (ha : EX X ι Δ s a Ma Ea)
    (hgl : Gl X x := by rfl) (hn : x ≠ "__name__" := by decide) (hdb : (x == ("__debug__" : Str)) = false := by decide) (he : starEach [a] X.env = (false, eval a X.env) :: starEach [] X.env := by rfl) (hpl : (backTo pos (starEach [] X.env)).any (·.1) = false := by rfl) :
    EX X ι Δ s (.Call (.Name x p) [a] [] pos) (fun k => Ma fun y s1 => guardM (C y) (k (g y) s1)) Eb := by
  intro k r hk σ H Hf A Q st q
  refine tE_of (pe_callB hc hgl hm hv (pA X [a]) hn hdb he hpl) ?_
  refine ax_cons ha (fun s1 => ax_nil) he (fun pp s' => guardM (C pp.1) (k (g pp.1) s')) r hk σ H Hf A _ st fun y s1 hx vs H1 Hf1 st1 e1 r1 => ?_
  obtain ⟨v, rfl, rv⟩ := one_arg r1
  obtain ⟨c, hx⟩ := guardM_some hx
  exact hg y.1 v H1 Hf1 Q c st1.sub rv fun u H2 Hf2 e2 sb r2 => q _ s1 hx u H2 Hf2 (st1.up e2 sb) (e1.trans e2.toA) r2
theorem ex_callB1T {x : Str} {id' : String} {rr : List V → Hp → VK → Prop} {g : α → β} (hc : CallR X (.builtin id') rr) (hm : X.mg x = none) (hv : bootBuiltins x = some (.builtin id'))
    (hg : ∀ (y : α) (v : V) (H Hf : Hp) (Q : VK), Sub Hf H → Rp X.K Hf v (Ea y) → (∀ u H' Hf', Ext H Hf H' Hf' → Sub Hf' H' → Rp X.K Hf' u (Eb (g y)) → Q u H') → rr [v] H Q) (ha : EX X ι Δ s a Ma Ea)
    (hgl : Gl X x := by rfl) (hn : x ≠ "__name__" := by decide) (hdb : (x == ("__debug__" : Str)) = false := by decide) (he : starEach [a] X.env = (false, eval a X.env) :: starEach [] X.env := by rfl) (hpl : (backTo pos (starEach [] X.env)).any (·.1) = false := by rfl) :
    EX X ι Δ s (.Call (.Name x p) [a] [] pos) (fun k => Ma fun y s1 => k (g y) s1) Eb := by
  intro k r hk σ H Hf A Q st q
  refine tE_of (pe_callB hc hgl hm hv (pA X [a]) hn hdb he hpl) ?_
  refine ax_cons ha (fun s1 => ax_nil) he (fun pp s' => k (g pp.1) s') r hk σ H Hf A _ st fun y s1 hx vs H1 Hf1 st1 e1 r1 => ?_
  obtain ⟨v, rfl, rv⟩ := one_arg r1
  exact hg y.1 v H1 Hf1 Q st1.sub rv fun u H2 Hf2 e2 sb r2 => q _ s1 hx u H2 Hf2 (st1.up e2 sb) (e1.trans e2.toA) r2
theorem ex_callT1T {x : Str} {id' : String} {rr : List V → Hp → VK → Prop} {g : α → β} (hc : CallR X (.type id') rr) (hm : X.mg x = none) (hv : bootBuiltins x = some (.type id'))
    (hg : ∀ (y : α) (v : V) (H Hf : Hp) (Q : VK), Sub Hf H → Rp X.K Hf v (Ea y) → (∀ u H' Hf', Ext H Hf H' Hf' → Sub Hf' H' → Rp X.K Hf' u (Eb (g y)) → Q u H') → rr [v] H Q) (ha : EX X ι Δ s a Ma Ea)
    (hgl : Gl X x := by rfl) (hn : x ≠ "__name__" := by decide) (hdb : (x == ("__debug__" : Str)) = false := by decide) (he : starEach [a] X.env = (false, eval a X.env) :: starEach [] X.env := by rfl) (hpl : (backTo pos (starEach [] X.env)).any (·.1) = false := by rfl) :
    EX X ι Δ s (.Call (.Name x p) [a] [] pos) (fun k => Ma fun y s1 => k (g y) s1) Eb := by
  intro k r hk σ H Hf A Q st q
  refine tE_of (pe_callTy hc hgl hm hv (pA X [a]) hn hdb he hpl) ?_
  refine ax_cons ha (fun s1 => ax_nil) he (fun pp s' => k (g pp.1) s') r hk σ H Hf A _ st fun y s1 hx vs H1 Hf1 st1 e1 r1 => ?_
  obtain ⟨v, rfl, rv⟩ := one_arg r1
  exact hg y.1 v H1 Hf1 Q st1.sub rv fun u H2 Hf2 e2 sb r2 => q _ s1 hx u H2 Hf2 (st1.up e2 sb) (e1.trans e2.toA) r2
section
variable {Ml : (List α → S → Option R) → Option R} {Mi : (Int → S → Option R) → Option R} {Mbo : (Bool → S → Option R) → Option R}
variable (he : starEach [a] X.env = (false, eval a X.env) :: starEach [] X.env) (hgl : ∀ x : Str, Prop)
theorem ex_lenL (hm : X.mg "len" = none) (ha : EX X ι Δ s a Ml (Ty.lst Ea)) (hgl : Gl X "len" := by rfl) (he : starEach [a] X.env = (false, eval a X.env) :: starEach [] X.env := by rfl) :
    EX X ι Δ s (.Call (.Name "len" p) [a] [] pos) (fun k => Ml fun y s1 => k (y.length : Int) s1) Ty.int := by
  refine ex_callB1T call_len hm Bo.len (fun y v H Hf Q sb rv q => ?_) ha hgl (by decide) (by decide) he rfl
  cases rv with
  | @lst p vs _ hs hz ra =>
    have hl := ra.len
    rw [List.length_map] at hl
    exact ⟨_, y.length, rfl, .inl ⟨vs, (.inl (sb.rd hs)), hl.symm⟩, q _ H Hf (Ext.refl _ _) sb (.int _)⟩
theorem ex_lenT (hm : X.mg "len" = none) (ha : EX X ι Δ s a Ml (Ty.tup Ea)) (hgl : Gl X "len" := by rfl) (he : starEach [a] X.env = (false, eval a X.env) :: starEach [] X.env := by rfl) :
    EX X ι Δ s (.Call (.Name "len" p) [a] [] pos) (fun k => Ml fun y s1 => k (y.length : Int) s1) Ty.int := by
  refine ex_callB1T call_len hm Bo.len (fun y v H Hf Q sb rv q => ?_) ha hgl (by decide) (by decide) he rfl
  cases rv with
  | @tup p vs _ hs hz ra =>
    have hl := ra.len
    rw [List.length_map] at hl
    exact ⟨_, y.length, rfl, .inr ⟨vs, sb.tup hs, hl.symm⟩, q _ H Hf (Ext.refl _ _) sb (.int _)⟩
theorem ex_tupleL (hm : X.mg "tuple" = none) (ha : EX X ι Δ s a Ml (Ty.lst Ea)) (hgl : Gl X "tuple" := by rfl) (he : starEach [a] X.env = (false, eval a X.env) :: starEach [] X.env := by rfl) :
    EX X ι Δ s (.Call (.Name "tuple" p) [a] [] pos) (fun k => Ml fun y s1 => k y s1) (Ty.tup Ea) := by
  refine ex_callT1T (g := fun y => y) call_tuple_of hm Bo.tuple (fun y v H Hf Q sb rv q => ?_) ha hgl (by decide) (by decide) he rfl
  cases rv with
  | @lst p vs _ hs hz ra =>
    refine ⟨p, vs, rfl, .inl ⟨(.inl (sb.rd hs)), fun l nl => ?_⟩⟩
    have ex := Ext.new (o := .tup vs) nl sb
    exact q _ _ _ ex (Sub.new sb) (.tup (.inl (.inl upd_same)) hz (ra.up ex.grow))
theorem ex_tupleT (hm : X.mg "tuple" = none) (ha : EX X ι Δ s a Ml (Ty.tup Ea)) (hgl : Gl X "tuple" := by rfl) (he : starEach [a] X.env = (false, eval a X.env) :: starEach [] X.env := by rfl) :
    EX X ι Δ s (.Call (.Name "tuple" p) [a] [] pos) (fun k => Ml fun y s1 => k y s1) (Ty.tup Ea) := by
  refine ex_callT1T (g := fun y => y) call_tuple_of hm Bo.tuple (fun y v H Hf Q sb rv q => ?_) ha hgl (by decide) (by decide) he rfl
  cases rv with
  | @tup p vs _ hs hz ra =>
    exact ⟨p, vs, rfl, .inr ⟨sb.tup hs, q _ H Hf (Ext.refl _ _) sb (.tup hs hz ra)⟩⟩
theorem ex_listT (hm : X.mg "list" = none) (ha : EX X ι Δ s a Ml (Ty.tup Ea)) (hgl : Gl X "list" := by rfl) (he : starEach [a] X.env = (false, eval a X.env) :: starEach [] X.env := by rfl) :
    EX X ι Δ s (.Call (.Name "list" p) [a] [] pos) (fun k => Ml fun y s1 => k y s1) (Ty.lst Ea) := by
  refine ex_callT1T (g := fun y => y) call_list_of hm Bo.list (fun y v H Hf Q sb rv q => ?_) ha hgl (by decide) (by decide) he rfl
  cases rv with
  | @tup p vs _ hs hz ra =>
    refine ⟨p, vs, rfl, .inr (sb.tup hs), fun l nl => ?_⟩
    have ex := Ext.new (o := .lst vs) nl sb
    exact q _ _ _ ex (Sub.new sb) (.lst (.inl upd_same) hz (ra.up ex.grow))
theorem ex_listL (hm : X.mg "list" = none) (ha : EX X ι Δ s a Ml (Ty.lst Ea)) (hgl : Gl X "list" := by rfl) (he : starEach [a] X.env = (false, eval a X.env) :: starEach [] X.env := by rfl) :
    EX X ι Δ s (.Call (.Name "list" p) [a] [] pos) (fun k => Ml fun y s1 => k y s1) (Ty.lst Ea) := by
  refine ex_callT1T (g := fun y => y) call_list_of hm Bo.list (fun y v H Hf Q sb rv q => ?_) ha hgl (by decide) (by decide) he rfl
  cases rv with
  | @lst p vs _ hs hz ra =>
    refine ⟨p, vs, rfl, .inl ((.inl (sb.rd hs))), fun l nl => ?_⟩
    have ex := Ext.new (o := .lst vs) nl sb
    exact q _ _ _ ex (Sub.new sb) (.lst (.inl upd_same) hz (ra.up ex.grow))
def b2i (b : Bool) : Int := if b = true then 1 else 0
theorem ex_intB (hm : X.mg "int" = none) (ha : EX X ι Δ s a Mbo Ty.bool) (hgl : Gl X "int" := by rfl) (he : starEach [a] X.env = (false, eval a X.env) :: starEach [] X.env := by rfl) :
    EX X ι Δ s (.Call (.Name "int" p) [a] [] pos) (fun k => Mbo fun y s1 => k (b2i y) s1) Ty.int := by
  refine ex_callT1T (g := b2i) call_int1 hm Bo.int (fun y v H Hf Q sb rv q => ?_) ha hgl (by decide) (by decide) he rfl
  cases rv
  exact .inr ⟨y, rfl, q _ H Hf (Ext.refl _ _) sb (.int _)⟩
theorem ex_intI (hm : X.mg "int" = none) (ha : EX X ι Δ s a Mi Ty.int) (hgl : Gl X "int" := by rfl) (he : starEach [a] X.env = (false, eval a X.env) :: starEach [] X.env := by rfl) :
    EX X ι Δ s (.Call (.Name "int" p) [a] [] pos) (fun k => Mi fun y s1 => k y s1) Ty.int := by
  refine ex_callT1T (g := fun y => y) call_int1 hm Bo.int (fun y v H Hf Q sb rv q => ?_) ha hgl (by decide) (by decide) he rfl
  cases rv
  exact .inl ⟨y, rfl, q _ H Hf (Ext.refl _ _) sb (.int _)⟩
theorem ex_abs (hm : X.mg "abs" = none) (ha : EX X ι Δ s a Mi Ty.int) (hgl : Gl X "abs" := by rfl) (he : starEach [a] X.env = (false, eval a X.env) :: starEach [] X.env := by rfl) :
    EX X ι Δ s (.Call (.Name "abs" p) [a] [] pos) (fun k => Mi fun y s1 => k (y.natAbs : Int) s1) Ty.int := by
  refine ex_callB1T (g := fun y : Int => (y.natAbs : Int)) call_abs hm Bo.abs (fun y v H Hf Q sb rv q => ?_) ha hgl (by decide) (by decide) he rfl
  cases rv
  refine ⟨y, rfl, q _ H Hf (Ext.refl _ _) sb ?_⟩
  have e : (if y < 0 then -y else y) = (y.natAbs : Int) := by split <;> omega
  rw [e]
  exact .int _
/-- a list of ints, ascending -/
def insI (x : Int) : List Int → List Int
  | [] => [x]
  | y :: ys => if x ≤ y then x :: y :: ys else y :: insI x ys
def sortI : List Int → List Int
  | [] => []
  | x :: xs => insI x (sortI xs)
theorem insI_perm (x : Int) : ∀ ys, (insI x ys).Perm (x :: ys)
  | [] => .refl _
  | y :: ys => by
    unfold insI
    split
    · exact .refl _
    · exact ((insI_perm x ys).cons y).trans (.swap x y ys)
theorem sortI_perm : ∀ xs, (sortI xs).Perm xs
  | [] => .refl _
  | x :: xs => (insI_perm x _).trans ((sortI_perm xs).cons x)
theorem insI_sorted (x : Int) : ∀ ys : List Int, ys.Pairwise (· ≤ ·) → (insI x ys).Pairwise (· ≤ ·)
  | [], _ => by simp [insI]
  | y :: ys, h => by
    unfold insI
    obtain ⟨h1, h2⟩ := List.pairwise_cons.mp h
    split
    · rename_i hxy
      refine List.pairwise_cons.mpr ⟨fun z hz => ?_, h⟩
      rcases List.mem_cons.mp hz with rfl | hz
      · exact hxy
      · exact Int.le_trans hxy (h1 z hz)
    · rename_i hxy
      refine List.pairwise_cons.mpr ⟨fun z hz => ?_, insI_sorted x ys h2⟩
      rcases List.mem_cons.mp ((insI_perm x ys).mem_iff.mp hz) with rfl | hz
      · omega
      · exact h1 z hz
theorem sortI_sorted : ∀ xs, (sortI xs).Pairwise (· ≤ ·)
  | [] => .nil
  | x :: xs => insI_sorted x _ (sortI_sorted xs)
theorem sorted_unique : ∀ {xs ys : List Int}, xs.Perm ys → xs.Pairwise (· ≤ ·) → ys.Pairwise (· ≤ ·) → xs = ys
  | [], ys, h, _, _ => by rw [List.nil_perm] at h; exact h.symm
  | x :: xs, [], h, _, _ => by simp at h
  | x :: xs, y :: ys, h, h1, h2 => by
    obtain ⟨a1, a2⟩ := List.pairwise_cons.mp h1
    obtain ⟨b1, b2⟩ := List.pairwise_cons.mp h2
    have e : x = y := by
      have m1 : x ∈ y :: ys := h.mem_iff.mp List.mem_cons_self
      have m2 : y ∈ x :: xs := h.mem_iff.mpr List.mem_cons_self
      rcases List.mem_cons.mp m1 with e | m1
      · exact e
      · rcases List.mem_cons.mp m2 with e | m2
        · exact e.symm
        · have := b1 x m1
          have := a1 y m2
          omega
    subst e
    rw [sorted_unique (List.perm_cons x |>.mp h) a2 b2]
theorem ex_sortI (hm : X.mg "sorted" = none) {Mil : (List Int → S → Option R) → Option R} (ha : EX X ι Δ s a Mil (Ty.lst Ty.int)) (hgl : Gl X "sorted" := by rfl) (he : starEach [a] X.env = (false, eval a X.env) :: starEach [] X.env := by rfl) :
    EX X ι Δ s (.Call (.Name "sorted" p) [a] [] pos) (fun k => Mil fun y s1 => k (sortI y) s1) (Ty.lst Ty.int) := by
  refine ex_callB1T (g := sortI) cr_sortedI hm Bo.sorted (fun y v H Hf Q sb rv q => ?_) ha hgl (by decide) (by decide) he rfl
  cases rv with
  | @lst p vs _ hs hz ra =>
    have ev := ra.ints
    subst ev
    refine ⟨p, y, rfl, (.inl (sb.rd hs)), fun ns' l pm so nl => ?_⟩
    have e : ns' = sortI y := sorted_unique (pm.trans (sortI_perm y).symm) so (sortI_sorted y)
    subst e
    have ex := Ext.new (o := .lst ((sortI y).map V.int)) nl sb
    refine q _ _ _ ex (Sub.new sb) (.lst (.inl upd_same) ?_ (.ofInts _))
    rw [List.length_map] at hz ⊢
    rw [(sortI_perm y).length_eq]
    exact hz
theorem ex_sum (hc : X.calm = true) (hm : X.mg "sum" = none) {Mil : (List Int → S → Option R) → Option R} (ha : EX X ι Δ s a Mil (Ty.lst Ty.int)) (hgl : Gl X "sum" := by rfl) (he : starEach [a] X.env = (false, eval a X.env) :: starEach [] X.env := by rfl) :
    EX X ι Δ s (.Call (.Name "sum" p) [a] [] pos) (fun k => Mil fun y s1 => k y.sum s1) Ty.int := by
  refine ex_callB1T (g := List.sum) (cr_sum hc) hm Bo.sum (fun y v H Hf Q sb rv q => ?_) ha hgl (by decide) (by decide) he rfl
  cases rv with
  | @lst p vs _ hs hz ra =>
    have ev := ra.ints
    subst ev
    exact ⟨p, y, rfl, (.inl (sb.rd hs)), q _ H Hf (Ext.refl _ _) sb (.int _)⟩
end
/-! ### + of lists and tuples -/
def rCatS : R2 := fun x y H Q => ∃ l b xs zs, x = .ref l ∧ y = .ref b ∧ Rd H l (.lst xs) ∧ Rd H b (.lst zs) ∧ xs.length + zs.length ≤ sizeLine ∧ ∀ p, H p = none → Q (.ref p) (upd H p (.lst (xs ++ zs)))
theorem op_catS : OpR X (binaryOp .Add) rCatS := by
  intro pins s σ H x y v u Q I rx ry h
  obtain ⟨l, b, xs, zs, rfl, rfl, hH, hB, hz, q⟩ := h
  cases rx
  cases ry
  obtain ⟨z, its, n, r, e⟩ := hH.ok I.hok
  obtain ⟨z2, its2, n2, r2, e2⟩ := hB.ok I.hok
  refine PySem.P.add_list e e2 ?_ (by rw [List.size_toArray, List.size_toArray, ← r.length, ← r2.length]; exact hz)
  have ea : its.toArray ++ its2.toArray = (its ++ its2).toArray := by simp
  rw [ea]
  exact ⟨.ref _, _, I.lnew (t' := s.toks) (r.append r2) (by rw [List.length_append]; omega), rfl, q _ I.fresh⟩
section
variable {Ml : (List α → S → Option R) → Option R} {Ml2 : S → (List α → S → Option R) → Option R}
theorem ex_catL (ha : EX X ι Δ s a Ml (Ty.lst Ea)) (hb : ∀ s1, EX X ι Δ s1 b (Ml2 s1) (Ty.lst Ea)) : EX X ι Δ s (.BinOp a .Add b pos) (fun k => Ml fun x s1 => Ml2 s1 fun y s2 => guardM (x.length + y.length ≤ Line) (k (x ++ y) s2)) (Ty.lst Ea) := by
  refine ex_binG (C := fun x y : List α => x.length + y.length ≤ Line) (g := fun x y => x ++ y) (pe_op op_catS (pE X a) (pE X b)) (fun x y v w H Hf Q c sb rv rw' q => ?_) ha hb
  cases rv with
  | @lst p vs _ hs hz ra =>
    cases rw' with
    | @lst p2 vs2 _ hs2 hz2 ra2 =>
      have h1 := ra.len
      have h2 := ra2.len
      rw [List.length_map] at h1 h2
      refine ⟨p, p2, vs, vs2, rfl, rfl, sb.rd hs, sb.rd hs2, le_line (by rw [h1, h2]; exact c), fun l nl => ?_⟩
      have ex := Ext.new (o := .lst (vs ++ vs2)) nl sb
      refine q _ _ _ ex (Sub.new sb) (.lst (.inl upd_same) (by rw [List.length_append, h1, h2]; exact c) ?_)
      rw [List.map_append]
      exact (ra.append ra2).up ex.grow
theorem ex_catT (ha : EX X ι Δ s a Ml (Ty.tup Ea)) (hb : ∀ s1, EX X ι Δ s1 b (Ml2 s1) (Ty.tup Ea)) : EX X ι Δ s (.BinOp a .Add b pos) (fun k => Ml fun x s1 => Ml2 s1 fun y s2 => guardM (x.length + y.length ≤ Line) (k (x ++ y) s2)) (Ty.tup Ea) := by
  refine ex_binG (C := fun x y : List α => x.length + y.length ≤ Line) (g := fun x y => x ++ y) (pe_op op_catA (pE X a) (pE X b)) (fun x y v w H Hf Q c sb rv rw' q => ?_) ha hb
  cases rv with
  | @tup p vs _ hs hz ra =>
    cases rw' with
    | @tup p2 vs2 _ hs2 hz2 ra2 =>
      have h1 := ra.len
      have h2 := ra2.len
      rw [List.length_map] at h1 h2
      refine ⟨p, p2, vs, vs2, rfl, rfl, sb.tup hs, sb.tup hs2, le_line (by rw [h1, h2]; exact c), fun e => ?_, fun _ e => ?_, fun _ _ l nl => ?_⟩
      · subst e
        cases x with
        | nil => exact q _ H Hf (Ext.refl _ _) sb (.tup hs2 hz2 ra2)
        | cons x xs => simp at h1
      · subst e
        cases y with
        | nil =>
          refine q _ H Hf (Ext.refl _ _) sb ?_
          show Rp X.K Hf (V.ref p) (.tuple ((x ++ []).map Ea))
          rw [List.append_nil]
          exact .tup hs hz ra
        | cons y ys => simp at h2
      · have ex := Ext.new (o := .tup (vs ++ vs2)) nl sb
        refine q _ _ _ ex (Sub.new sb) (.tup (.inl (.inl upd_same)) (by rw [List.length_append, h1, h2]; exact c) ?_)
        rw [List.map_append]
        exact (ra.append ra2).up ex.grow
end
/-! ### calls of pure defs -/
theorem ex_call {x : Str} {f : Addr} {fd : FuncData} {ps : List Str} {P C : Type} {argE : P → List D} {g : P → Option C} {E : C → D} {es : List Expr} {M : (P → S → Option R) → Option R} {e1 : Expr}
    (F : FnOk X.prog X.w X.K X.mg X.base CX0 k f fd ps (spP X.K argE g E)) (hr : Room k X.A) (hm : X.mg x = some (.ref f)) (hk : PySem.W.keepIn X.K (.ref f) = true) (hb : Binds X.K fd ps [])
    (ha : AX X ι Δ s (e1 :: es) M argE) (hg : Gl X x := by rfl) (hdb : (x == ("__debug__" : Str)) = false := by decide) (he : starEach (e1 :: es) X.env = (false, eval e1 X.env) :: starEach es X.env := by rfl) (hpl : (backTo pos (starEach es X.env)).any (·.1) = false := by rfl) :
    EX X ι Δ s (.Call (.Name x p) (e1 :: es) [] pos) (fun k => M fun y s1 => (g y).bind fun z => k z s1) E := by
  intro k r hk' σ H Hf A Q st q
  refine tE_of (pe_call F hr hg hm hk hb .nil pass0 (pA X _) hdb he hpl) (ha _ r hk' σ H Hf A _ st fun y s1 hx vs H1 Hf1 st1 e1 r1 => ?_)
  obtain ⟨z, h1, h2⟩ := bind_some hx
  rw [List.append_nil]
  exact ⟨y, z, Hf1, st1.sub, r1, h1, fun v H2 Hf2 sb ex rv => q z s1 h2 v H2 Hf2 (st1.up ex sb) (e1.trans ex.toA) rv⟩
/-! ### isinstance -/
/-- what type data of this kind has -/
def TyD (E : α → D) (t : String) : Prop := ∀ (K : KF) (H : Hp) (v : V) (x : α), Rp K H v (E x) → TyX K H v (.type t)
theorem tyd_int : TyD Ty.int "int" := fun K H v x r => by cases r; exact .base (.int x)
theorem tyd_bool : TyD Ty.bool "bool" := fun K H v x r => by cases r; exact .base (.bl x)
theorem tyd_str : TyD Ty.str "str" := fun K H v x r => by cases r; exact .base (.str x)
theorem tyd_lst : TyD (Ty.lst Ea) "list" := fun K H v x r => by
  cases r with
  | @lst p vs _ hs hz ra =>
    rcases hs with hs | ⟨o, hs⟩
    · exact .base (.lst hs)
    · exact .base (.frz hs)
theorem tyd_tup (F : α → List D) (h : ∀ x, Ea x = .tuple (F x)) : TyD Ea "tuple" := fun K H v x r => by
  rw [h] at r
  cases r with
  | @tup p vs _ hs hz ra =>
    rcases hs with (hs | ⟨o, hs⟩) | ⟨o, its, n, hk, hc, _⟩
    · exact .base (.tup hs)
    · exact .fTuple hs
    · exact .kTuple hk hc
/-- isinstance(x, T), T a built-in type: known -/
theorem ex_isi {t T : String} {Tn : Str} {r0 : Bool} {pT : Pos} (hm : X.mg "isinstance" = none) (hmT : X.mg Tn = none) (hT : bootBuiltins Tn = some (.type T)) (ty : TyD Ea t) (ha : EX X ι Δ s a Ma Ea) (hk : kitB t T = some r0 := by decide +kernel) (hgl : Gl X "isinstance" := by rfl) (hglT : Gl X Tn := by rfl)
    (hnT : Tn ≠ "__name__" := by decide) (hdT : (Tn == ("__debug__" : Str)) = false := by decide)
    (he : starEach (a :: [.Name Tn pT]) X.env = (false, eval a X.env) :: starEach [.Name Tn pT] X.env := by rfl) (he2 : starEach [.Name Tn pT] X.env = (false, eval (.Name Tn pT) X.env) :: starEach [] X.env := by rfl) (hpl : (backTo pos (starEach [.Name Tn pT] X.env)).any (·.1) = false := by rfl) :
    EX X ι Δ s (.Call (.Name "isinstance" p) [a, .Name Tn pT] [] pos) (fun k => Ma fun y s1 => k r0 s1) Ty.bool := by
  intro k r hk' σ H Hf A Q st q
  refine tE_of (pe_callB call_isi hgl hm Bo.isinstance (pa_cons (pE X a) (pa_cons (pe_bltn (v := .ty T) hglT hmT hT rfl hnT hdT) pa_nil he2) he) (by decide) (by decide) he hpl) ?_
  refine ha _ r hk' σ H Hf A _ st fun y s1 hx v H1 Hf1 st1 e1 r1 => ?_
  exact ⟨v, .ty T, _, _, r0, rfl, .ty T, ty X.K H1 v y (r1.up st1.sub), kit_ty hk, q r0 s1 hx _ H1 Hf1 st1 e1 (.bl r0)⟩
end
end Ab
namespace Ab
open PySem PySem.Spec PyProof.Rows L2
section
variable {X : Cx} {S : Type} {ι : Io S} {Δ : Dl} {s : S} {R : Type} {tg iter elt a b c e : Expr} {ifs : List Expr} {pos p : Pos} {scope : Scope} {k : Nat}
variable {α β : Type} {E : α → D} {F : β → D}
/-! ### comprehensions that touch no state and do not fail -/
theorem compM_map {g : α → β} (xs : List α) (s : S) : compM (fun x s1 => some (some (g x), s1)) xs s = some (xs.map g, s) := by
  rw [compM_total (g := fun x => some (g x)) (fun _ _ => rfl)]
  simp
theorem compM_filter {q : α → Bool} {g : α → β} (xs : List α) (s : S) : compM (fun x s1 => if q x = true then some (some (g x), s1) else some (none, s1)) xs s = some ((xs.filter q).map g, s) := by
  rw [compM_total (g := fun x => if q x = true then some (g x) else none) (fun x s => by split <;> rfl)]
  congr 2
  induction xs with
  | nil => rfl
  | cons x xs ih => by_cases h : q x = true <;> simp [h, ih]
theorem lo_compM {own : List (Str × Nat)} {ixs : List Nat} {bd : α → Dl} {Mi : (List α → S → Option R) → Option R} {g : α → β} (hN : X.N.Nodup)
    (hi : IX X ι Δ s tg iter Mi E)
    (hg : ∀ s0 H0 C cl fp, GX (X.blk s0 H0 scope (compEnvC scope cl C X.env) fp) ι tg ixs bd E)
    (he : ∀ s0 H0 C cl fp x s1, EX (X.blk s0 H0 scope (compEnvC scope cl C X.env) fp) ι (bd x ++ (forget (own.map (·.2)) ++ Δ)) s1 elt (R := Option β × S) (fun k => k (g x) s1) F)
    (ok : blkC X.N X.env.scope scope own = true := by kernel_rfl) (kx : List Nat := ixs) (hk1 : ∀ x, (bd x).map (·.1) = kx := by intro _; rfl) (hk2 : ∀ i ∈ kx, i ∈ own.map (·.2) := by decide) (hk3 : ∀ i ∈ ixs, i ∈ own.map (·.2) := by decide)
    (hx : ∀ i ∈ own.map (·.2), i ∉ ι.ix := by decide) (hc : X.calm = true := by rfl) (hs : ∀ x, foldedSetIterable iter X.env x = pure x := by intro _; rfl) :
    LO X ι Δ s elt tg iter [] scope own (fun k => Mi fun xs s1 => k (xs.map g) s1) F :=
  (lo_comp (Mc := fun x s1 k => k true s1) (Me := fun x s1 k => k (g x) s1) hN hi hg (fun s0 H0 C cl fp x s1 => cx_nil) he ok kx hk1 hk2 hk3 hx hc hs).congr fun k => by
    congr 1; funext xs s1
    show k (xs.map g) s1 = (compM (fun x s1 => some (some (g x), s1)) xs s1).bind fun p => k p.1 p.2
    rw [compM_map]; rfl
theorem lo_compF {own : List (Str × Nat)} {ixs : List Nat} {bd : α → Dl} {Mi : (List α → S → Option R) → Option R} {g : α → β} {q : α → Bool} (hN : X.N.Nodup)
    (hi : IX X ι Δ s tg iter Mi E)
    (hg : ∀ s0 H0 C cl fp, GX (X.blk s0 H0 scope (compEnvC scope cl C X.env) fp) ι tg ixs bd E)
    (ht : ∀ s0 H0 C cl fp x s1, TX (X.blk s0 H0 scope (compEnvC scope cl C X.env) fp) ι (bd x ++ (forget (own.map (·.2)) ++ Δ)) s1 c (R := Option β × S) (fun k => k (q x) s1))
    (he : ∀ s0 H0 C cl fp x s1, EX (X.blk s0 H0 scope (compEnvC scope cl C X.env) fp) ι (bd x ++ (forget (own.map (·.2)) ++ Δ)) s1 elt (R := Option β × S) (fun k => k (g x) s1) F)
    (ok : blkC X.N X.env.scope scope own = true := by kernel_rfl) (kx : List Nat := ixs) (hk1 : ∀ x, (bd x).map (·.1) = kx := by intro _; rfl) (hk2 : ∀ i ∈ kx, i ∈ own.map (·.2) := by decide) (hk3 : ∀ i ∈ ixs, i ∈ own.map (·.2) := by decide)
    (hx : ∀ i ∈ own.map (·.2), i ∉ ι.ix := by decide) (hc : X.calm = true := by rfl) (hs : ∀ x, foldedSetIterable iter X.env x = pure x := by intro _; rfl) :
    LO X ι Δ s elt tg iter [c] scope own (fun k => Mi fun xs s1 => k ((xs.filter q).map g) s1) F :=
  (lo_comp (Mc := fun x s1 k => k (q x) s1) (Me := fun x s1 k => k (g x) s1) hN hi hg (fun s0 H0 C cl fp x s1 => cx_one (ht s0 H0 C cl fp x s1)) he ok kx hk1 hk2 hk3 hx hc hs).congr fun k => by
    congr 1; funext xs s1
    show k ((xs.filter q).map g) s1 = (compM (fun x s1 => if q x = true then some (some (g x), s1) else some (none, s1)) xs s1).bind fun p => k p.1 p.2
    rw [compM_filter]; rfl
/-- .. whose element is the item itself -/
theorem lo_compI {own : List (Str × Nat)} {ixs : List Nat} {bd : α → Dl} {Mi : (List α → S → Option R) → Option R} {q : α → Bool} (hN : X.N.Nodup)
    (hi : IX X ι Δ s tg iter Mi E)
    (hg : ∀ s0 H0 C cl fp, GX (X.blk s0 H0 scope (compEnvC scope cl C X.env) fp) ι tg ixs bd E)
    (ht : ∀ s0 H0 C cl fp x s1, TX (X.blk s0 H0 scope (compEnvC scope cl C X.env) fp) ι (bd x ++ (forget (own.map (·.2)) ++ Δ)) s1 c (R := Option α × S) (fun k => k (q x) s1))
    (he : ∀ s0 H0 C cl fp x s1, EX (X.blk s0 H0 scope (compEnvC scope cl C X.env) fp) ι (bd x ++ (forget (own.map (·.2)) ++ Δ)) s1 elt (R := Option α × S) (fun k => k x s1) E)
    (ok : blkC X.N X.env.scope scope own = true := by kernel_rfl) (kx : List Nat := ixs) (hk1 : ∀ x, (bd x).map (·.1) = kx := by intro _; rfl) (hk2 : ∀ i ∈ kx, i ∈ own.map (·.2) := by decide) (hk3 : ∀ i ∈ ixs, i ∈ own.map (·.2) := by decide)
    (hx : ∀ i ∈ own.map (·.2), i ∉ ι.ix := by decide) (hc : X.calm = true := by rfl) (hs : ∀ x, foldedSetIterable iter X.env x = pure x := by intro _; rfl) :
    LO X ι Δ s elt tg iter [c] scope own (fun k => Mi fun xs s1 => k (xs.filter q) s1) E :=
  (lo_compF (g := fun x => x) hN hi hg ht he ok kx hk1 hk2 hk3 hx hc hs).congr fun k => by
    congr 1; funext xs s1
    rw [List.map_id']
/-! ### new lists -/
theorem eo_lstD {es : List Expr} {M : (α → S → Option R) → Option R} {G : α → List D} (f : α → List β) (hf : ∀ x, (f x).map F = G x) (hn : ∀ x, (G x).length ≤ Line) (h : AX X ι Δ s es M G) : EO X ι Δ s (.List es pos) (fun k => M fun x s1 => k (f x) s1) F := by
  intro k r hk σ H Hf A Q st q
  refine tE_of (pe_lst (pA X es)) (h _ r hk σ H Hf A _ st fun x s1 hx vs H1 Hf1 st1 e1 r1 => ⟨le_line (r1.len ▸ hn x), fun l nl => ?_⟩)
  have ex := Ext.newO (o := .lst vs) (Hf := Hf1) nl
  exact q _ s1 hx l vs _ Hf1 (st1.up ex (Sub.newO nl st1.sub)) (e1.trans ex.toA) upd_same (r1.len ▸ hn x) (by rw [hf]; exact r1) (st1.sub.non nl) (none_back e1.there nl)
theorem eo_listG {Ml : (List α → S → Option R) → Option R} (G : List α → D) (hG : (∀ l, G l = .list (l.map E)) ∨ (∀ l, G l = .tuple (l.map E))) (hm : X.mg "list" = none) (ha : EX X ι Δ s a Ml G) (hgl : Gl X "list") (he : starEach [a] X.env = (false, eval a X.env) :: starEach [] X.env) :
    EO X ι Δ s (.Call (.Name "list" p) [a] [] pos) (fun k => Ml fun y s1 => k y s1) E := by
  intro k r hk σ H Hf A Q st q
  refine tE_of (pe_callTy call_list_of hgl hm Bo.list (pA X [a]) (by decide) (by decide) he rfl) ?_
  refine ax_cons ha (fun s1 => ax_nil) he (fun pp s' => k pp.1 s') r hk σ H Hf A _ st fun y s1 hx vs H1 Hf1 st1 e1 r1 => ?_
  obtain ⟨v, rfl, rv⟩ := one_arg r1
  rcases hG with hG | hG
  · rw [hG] at rv
    cases rv with
    | @lst p ws _ hs hz ra =>
      refine ⟨p, ws, rfl, .inl (.inl (st1.sub.rd hs)), fun l nl => ?_⟩
      have ex := Ext.newO (o := .lst ws) (Hf := Hf1) nl
      exact q _ s1 hx l ws _ Hf1 (st1.up ex (Sub.newO nl st1.sub)) (e1.trans ex.toA) upd_same hz ra (st1.sub.non nl) (none_back e1.there nl)
  · rw [hG] at rv
    cases rv with
    | @tup p ws _ hs hz ra =>
      refine ⟨p, ws, rfl, .inr (st1.sub.tup hs), fun l nl => ?_⟩
      have ex := Ext.newO (o := .lst ws) (Hf := Hf1) nl
      exact q _ s1 hx l ws _ Hf1 (st1.up ex (Sub.newO nl st1.sub)) (e1.trans ex.toA) upd_same hz ra (st1.sub.non nl) (none_back e1.there nl)
theorem eo_listL {Ml : (List α → S → Option R) → Option R} (hm : X.mg "list" = none) (ha : EX X ι Δ s a Ml (Ty.lst E)) (hgl : Gl X "list" := by rfl) (he : starEach [a] X.env = (false, eval a X.env) :: starEach [] X.env := by rfl) :
    EO X ι Δ s (.Call (.Name "list" p) [a] [] pos) (fun k => Ml fun y s1 => k y s1) E := eo_listG _ (.inl fun _ => rfl) hm ha hgl he
theorem eo_listT {Ml : (List α → S → Option R) → Option R} (hm : X.mg "list" = none) (ha : EX X ι Δ s a Ml (Ty.tup E)) (hgl : Gl X "list" := by rfl) (he : starEach [a] X.env = (false, eval a X.env) :: starEach [] X.env := by rfl) :
    EO X ι Δ s (.Call (.Name "list" p) [a] [] pos) (fun k => Ml fun y s1 => k y s1) E := eo_listG _ (.inr fun _ => rfl) hm ha hgl he
/-- [x] * n -/
theorem eo_rep {Ml : (List α → S → Option R) → Option R} {Mi : S → (Int → S → Option R) → Option R} (ha : EO X ι Δ s a Ml E) (hb : ∀ s1, EX X ι Δ s1 b (Mi s1) Ty.int) :
    EO X ι Δ s (.BinOp a .Mult b pos) (fun k => Ml fun xs s1 => Mi s1 fun n s2 => guardM (n.natAbs ≤ Line ∧ xs.length * n.toNat ≤ Line) (k (List.replicate n.toNat xs).flatten s2)) E := by
  intro k r hk σ H Hf A Q st q
  refine tE_of (pe_op op_rep (pE X a) (pE X b)) (ha _ r hk σ H Hf A _ st fun xs s1 hx l vs H1 Hf1 st1 e1 hl hz ra hn hf => ?_)
  have nA : ∀ i, l ∉ A i := fun i m => (st.own i l m).2 hf
  refine hb s1 _ r hx σ H1 Hf1 A _ st1 fun n s2 hy w H2 Hf2 st2 e2 r2 => ?_
  obtain ⟨c, hy⟩ := guardM_some hy
  have c1 : n.natAbs ≤ 16777216 := c.1
  have hlen := ra.len
  rw [List.length_map] at hlen
  cases r2
  refine ⟨l, n, vs, rfl, rfl, e2.keep _ _ (fun i _ => nA i) hl, by omega, by omega, le_line (by rw [hlen]; exact c.2), fun p np => ?_⟩
  have ex := Ext.newO (o := .lst (List.replicate n.toNat vs).flatten) (Hf := Hf2) np
  have rr : ∀ m, RpAll X.K Hf2 (List.replicate m vs).flatten ((List.replicate m xs).flatten.map E) := by
    intro m
    induction m with
    | zero => exact .nil
    | succ m ih =>
      rw [List.replicate_succ, List.replicate_succ, List.flatten_cons, List.flatten_cons, List.map_append]
      exact (ra.up e2.grow).append ih
  refine q _ s2 hy p _ _ Hf2 (st2.up ex (Sub.newO np st2.sub)) ((e1.trans e2).trans ex.toA) upd_same ?_ (rr _) (st2.sub.non np) (none_back (e1.trans e2).there np)
  rw [List.length_flatten, List.map_replicate, List.sum_replicate_nat, hlen, Nat.mul_comm]
  exact c.2
theorem lk_tail {i : Nat} {s1 : S} (hix : i ∉ ι.ix) : lk (ι.tr s ++ Δ) i = lk (ι.tr s1 ++ Δ) i := by
  rw [lk_append_out (by rw [ι.keys]; exact hix), lk_append_out (by rw [ι.keys]; exact hix)]
end
/-! ### statements -/
section
variable {X : Cx} {S : Type} {ι : Io S} {Δ : Dl} {s : S} {R : Type} {out : R → Out S} {rest : List Stmt} {pos pos' p : Pos} {α β : Type} {E : α → D} {F : β → D} {e c : Expr} {k : Nat}
/-- x = a new list -/
theorem bx_setO (i : Nat) {x : Str} {M : (List α → S → Option R) → Option R} {kk : List α → S → Option R} (hN : X.N.Nodup) (h : EO X ι Δ s e M E)
    (q : ∀ a s', BX X ι ((i, some (.lst (a.map E))) :: Δ) s' rest (kk a s') out) (hi : X.N[i]? = some x := by rfl) (hx : Loc X.env.scope x := by first | exact Or.inl rfl | exact Or.inr rfl)
    (hs : swapsWith e (some (.Name x pos')) pos.line X.env = pure false := by rfl) (hf : X.fn x = true ∨ X.env.scope.names.lookup x = some .local := by first | exact .inl rfl | exact .inr rfl) (hix : i ∉ ι.ix := by decide) :
    BX X ι Δ s (.Assign [.Name x pos'] e pos :: rest) (M kk) out := by
  intro r hr σ H Hf A Dn st p
  refine tS_inv fun pins sh I => tS_cons (ps_set hN hi hx (pE X e) hs hf) (h _ r hr σ H Hf A _ st fun a s' ha l vs H' Hf' st' e' hl hz ra hn hfr => ?_)
  have hlen : i < σ.length := by rw [I.len]; exact (List.getElem?_eq_some_iff.mp hi).1
  have nA : ∀ j, l ∉ A j := fun j m => (st.own j l m).2 hfr
  refine q a s' r ha _ H' Hf' _ _ (st'.set (P := ι.tr s') (as := [l]) hlen (by rw [ι.keys]; exact hix) ⟨l, vs, rfl, rfl, hl, hz, ra⟩ (fun b hb => by
    have : b = l := by simpa using hb
    subst this
    exact ⟨hn, fun j _ => nA j⟩)) (p.step ⟨fun j hj => List.getElem?_set_ne (ne_mem hj hix).symm, fun a o m h => e'.keep a o (fun i _ => m i) h, e'.there, e'.grow, fun b hb => (e'.news b hb).elim .inl fun z => .inr (.inl z), fun j b hb => ?_, fun j hj => cut_ne (ne_mem hj hix)⟩)
  by_cases z : j = i
  · subst z
    rw [cut_self] at hb
    have : b = l := by simpa using hb
    subst this
    exact .inr hfr
  · rw [cut_ne z] at hb
    exact .inl ⟨j, hb, fun _ => rfl⟩
/-- x = [.. for ..] on one line, x a local -/
theorem bx_setLcO (i : Nat) {x : Str} {elt tg iter : Expr} {ifs : List Expr} {scope : Scope} {own : List (Str × Nat)} {p2 : Pos} {M : (List α → S → Option R) → Option R} {kk : List α → S → Option R} (h : LO X ι Δ s elt tg iter ifs scope own M E)
    (q : ∀ a s', BX X ι ((i, some (.lst (a.map E))) :: Δ) s' rest (kk a s') out) (hi : X.N[i]? = some x := by rfl) (hyl : X.env.scope.names.lookup x = some .local := by rfl)
    (hsw : swapsWith (.ListComp elt [⟨tg, iter, ifs, 0⟩] scope p2) (some (.Name x pos')) pos.line X.env = pure true := by exact sw_true rfl rfl rfl (by decide +kernel)) (hix : i ∉ ι.ix := by decide) :
    BX X ι Δ s (.Assign [.Name x pos'] (.ListComp elt [⟨tg, iter, ifs, 0⟩] scope p2) pos :: rest) (M kk) out := by
  intro r hr σ H Hf A Dn st p
  refine tS_inv fun pins sh I => tS_cons (ps_setLc h.hc h.hN hi hyl hsw (pI X tg iter) h.ok (fun s0 H0 C cl fp => ⟨fun pins s _ _ _ u _ I r h => h s0 H0 C cl fp pins s u I r⟩)
    (fun s0 H0 C cl fp => ⟨fun pins s _ _ _ I h => h s0 H0 C cl fp pins s I⟩) (fun s0 H0 C cl fp => ⟨fun pins s _ _ _ I h => h s0 H0 C cl fp pins s I⟩) h.hs) (h.read _ r hr σ H Hf A _ st fun a s' ha l vs H' Hf' st' e' hl hz ra hn hfr => ?_)
  have hlen : i < σ.length := by rw [I.len]; exact (List.getElem?_eq_some_iff.mp hi).1
  have nA : ∀ j, l ∉ A j := fun j m => (st.own j l m).2 hfr
  refine q a s' r ha _ H' Hf' _ _ (st'.set (P := ι.tr s') (as := [l]) hlen (by rw [ι.keys]; exact hix) ⟨l, vs, rfl, rfl, hl, hz, ra⟩ (fun b hb => by
    have : b = l := by simpa using hb
    subst this
    exact ⟨hn, fun j _ => nA j⟩)) (p.step ⟨fun j hj => List.getElem?_set_ne (ne_mem hj hix).symm, fun a o m h => e'.keep a o (fun i _ => m i) h, e'.there, e'.grow, fun b hb => (e'.news b hb).elim .inl fun z => .inr (.inl z), fun j b hb => ?_, fun j hj => cut_ne (ne_mem hj hix)⟩)
  by_cases z : j = i
  · subst z
    rw [cut_self] at hb
    have : b = l := by simpa using hb
    subst this
    exact .inr hfr
  · rw [cut_ne z] at hb
    exact .inl ⟨j, hb, fun _ => rfl⟩
theorem bx_setLc (i : Nat) {x : Str} {elt tg iter : Expr} {ifs : List Expr} {scope : Scope} {own : List (Str × Nat)} {p2 : Pos} {M : (List α → S → Option R) → Option R} {kk : List α → S → Option R} (h : LO X ι Δ s elt tg iter ifs scope own M E)
    (q : ∀ a s', BX X ι ((i, some (.imm (Ty.lst E a))) :: Δ) s' rest (kk a s') out) (hi : X.N[i]? = some x := by rfl) (hyl : X.env.scope.names.lookup x = some .local := by rfl)
    (hsw : swapsWith (.ListComp elt [⟨tg, iter, ifs, 0⟩] scope p2) (some (.Name x pos')) pos.line X.env = pure true := by exact sw_true rfl rfl rfl (by decide +kernel)) (hix : i ∉ ι.ix := by decide) :
    BX X ι Δ s (.Assign [.Name x pos'] (.ListComp elt [⟨tg, iter, ifs, 0⟩] scope p2) pos :: rest) (M kk) out := by
  intro r hr σ H Hf A Dn st p
  refine tS_inv fun pins sh I => tS_cons (ps_setLc h.hc h.hN hi hyl hsw (pI X tg iter) h.ok (fun s0 H0 C cl fp => ⟨fun pins s _ _ _ u _ I r h => h s0 H0 C cl fp pins s u I r⟩)
    (fun s0 H0 C cl fp => ⟨fun pins s _ _ _ I h => h s0 H0 C cl fp pins s I⟩) (fun s0 H0 C cl fp => ⟨fun pins s _ _ _ I h => h s0 H0 C cl fp pins s I⟩) h.hs) (h.read _ r hr σ H Hf A _ st fun a s' ha l vs H' Hf' st' e' hl hz ra hn hfr => ?_)
  have hlen : i < σ.length := by rw [I.len]; exact (List.getElem?_eq_some_iff.mp hi).1
  have nA : ∀ j, l ∉ A j := fun j m => (st.own j l m).2 hfr
  have gr : Sub Hf' (upd Hf' l (.lst vs)) := fun b u h => by rw [upd_ne (ne_of_none h hn)]; exact h
  have st2 := (st'.freeze hl hn nA).imm (P := ι.tr s') (d := Ty.lst E a) hlen (by rw [ι.keys]; exact hix) (.lst (.inl upd_same) hz (ra.up gr))
  have e2 : ExtA ι.ix A H Hf H' (upd Hf' l (.lst vs)) := ⟨e'.keep, e'.there, e'.grow.trans gr, fun b h => by
    by_cases z : b = l
    · subst z; exact .inr hfr
    · rw [upd_ne z] at h; exact e'.news b h⟩
  exact q a s' r ha _ H' _ _ _ st2 (p.step ((e2.stp ι.ix σ).trans (stp_cut hix)))
/-- an expression for itself -/
theorem bx_expr {M : (α → S → Option R) → Option R} {kk : S → Option R} (h : EX X ι Δ s e M E) (q : ∀ s', BX X ι Δ s' rest (kk s') out) (hs : swapsWith e none pos.line X.env = pure false := by rfl) :
    BX X ι Δ s (.Expr e pos :: rest) (M fun _ s' => kk s') out := by
  intro r hr σ H Hf A Dn st p
  exact tS_cons (ps_expr (pE X e) hs) (h _ r hr σ H Hf A _ st fun a s' ha v H' Hf' st' e' r' => q s' r ha σ H' Hf' A Dn st' (p.step (e'.stp _ _)))
/-- the slot's list is another now -/
theorem Sat.relst {K : KF} {σ : L2.St} {H Hf : Hp} {P Δ : Dl} {A : Nat → List Addr} {i : Nat} {l : Addr} {vs : List V} {ds : List D} (st : Sat K σ H Hf (P ++ Δ) A) (hP : i ∉ P.map (·.1)) (hA : A i = [l]) (hσ : σ[i]? = some (some (.ref l)))
    (hz : vs.length ≤ Line) (ra : RpAll K Hf vs ds) : Sat K σ (upd H l (.lst vs)) Hf (P ++ (i, some (.lst ds)) :: Δ) A where
  sub := fun a u e => by
    have : a ≠ l := fun z => by
      have := (st.own i l (by rw [hA]; simp)).1
      rw [z, this] at e; cases e
    rw [upd_ne this]; exact st.sub a u e
  slot := fun j T hj => by
    by_cases e : j = i
    · subst e
      rw [lk_append_out hP, lk_self] at hj
      cases hj
      exact ⟨_, hσ, l, vs, rfl, hA, upd_same, hz, ra⟩
    · have hj' : lk (P ++ Δ) j = some T := by
        by_cases m : j ∈ P.map (·.1)
        · rw [lk_append_in (Δ' := Δ) m] at hj; exact hj
        · rw [lk_append_out m, lk_ne e] at hj; rw [lk_append_out m]; exact hj
      obtain ⟨w, h1, h2⟩ := st.slot j T hj'
      refine ⟨w, h1, h2.up (Sub.refl _) fun a ha u hu => ?_⟩
      have : a ≠ l := fun z => e (st.inj j i a ha (by rw [hA, z]; simp))
      rw [upd_ne this]; exact hu
  own := fun j a ha => by
    refine ⟨(st.own j a ha).1, ?_⟩
    by_cases z : a = l
    · subst z; rw [upd_same]; simp
    · rw [upd_ne z]; exact (st.own j a ha).2
  inj := st.inj
theorem stp_poke {ix : List Nat} {σ : L2.St} {A : Nat → List Addr} {H Hf : Hp} {i : Nat} {l : Addr} {o : HO} (hA : l ∈ A i) : Stp ix σ A H Hf σ A (upd H l o) Hf where
  root := fun _ _ => rfl
  keep := fun a u m h => by
    have ne : a ≠ l := fun z => m i (by rw [z]; exact hA)
    rw [upd_ne ne]; exact h
  there := fun a h => by
    by_cases z : a = l
    · subst z; rw [upd_same]; simp
    · rw [upd_ne z]; exact h
  grow := Sub.refl _
  news := fun a h => .inl h
  ownd := fun j a h => .inl ⟨j, h, fun _ => rfl⟩
  stay := fun _ _ => rfl
theorem Sat.lstAt {K : KF} {σ : L2.St} {H Hf : Hp} {Δ : Dl} {A : Nat → List Addr} {i : Nat} {ds : List D} (st : Sat K σ H Hf Δ A) (h : lk Δ i = some (.lst ds)) : ∃ l vs, σ[i]? = some (some (.ref l)) ∧ A i = [l] ∧ H l = some (.lst vs) ∧ vs.length ≤ Line ∧ RpAll K Hf vs ds := by
  obtain ⟨v, h1, a, xs, rfl, h2, h3, h4, h5⟩ := st.slot i _ h
  exact ⟨a, xs, h1, h2, h3, h4, h5⟩
/-- xs.append(e), xs one's own -/
theorem bx_append (i : Nat) {x : Str} {l : List α} {apos cpos : Pos} {p1 : Pos} {M : (α → S → Option R) → Option R} {kk : List α → S → Option R} (hl : lk (ι.tr s ++ Δ) i = some (.lst (l.map E))) (h : EX X ι Δ s e M E)
    (q : ∀ a s', BX X ι ((i, some (.lst (a.map E))) :: Δ) s' rest (kk a s') out) (hN : X.N[i]? = some x := by rfl)
    (hv : Vis X.env.scope x := by first | exact Or.inl rfl | exact Or.inr (Or.inl rfl) | exact Or.inr (Or.inr rfl)) (hd : (x == ("__debug__" : Str)) = false := by decide) (hcd : (x == ("__classdict__" : Str)) = false := by decide) (hix : i ∉ ι.ix := by decide)
    (he : starEach [e] X.env = (false, eval e X.env) :: starEach [] X.env := by rfl)
    (hpb : ∀ {t : TA} {to : TE}, PE X (.Name x p1) to → PA X [e] t → PE X (.Call (.Attribute (.Name x p1) "append" apos) [e] [] cpos) (tBM X.K "list" rAppend to t) := by
      intro _ _ ho ha; exact pe_bm PySem.F.plainAttrs_list PySem.F.slot_list_append PySem.F.type_list_append mt_append ho ha)
    (hs : swapsWith (.Call (.Attribute (.Name x p1) "append" apos) [e] [] cpos) none pos.line X.env = pure false := by rfl) :
    BX X ι Δ s (.Expr (.Call (.Attribute (.Name x p1) "append" apos) [e] [] cpos) pos :: rest) (M fun y s' => guardM (l.length < Line) (kk (l ++ [y]) s')) out := by
  intro r hr σ H Hf A Dn st p
  obtain ⟨a, vs, h1, h2, h3, h4, h5⟩ := st.lstAt hl
  refine tS_cons (ps_expr (hpb (pe_var hN hv hd hcd) (pA X [e])) hs) ?_
  refine ⟨_, h1, .inl ⟨rfl, _, .inl (.inl h3)⟩, ?_⟩
  refine ax_cons h (fun s1 => ax_nil) he (fun pp s' => guardM (l.length < Line) (kk (l ++ [pp.1]) s')) r hr σ H Hf A _ st fun y s1 hx ws H1 Hf1 st1 e1 r1 => ?_
  obtain ⟨v, rfl, rv⟩ := one_arg r1
  obtain ⟨c, hx⟩ := guardM_some hx
  rw [lk_tail (s1 := s1) hix] at hl
  obtain ⟨a', vs', g1, g2, g3, g4, g5⟩ := st1.lstAt hl
  rw [h1] at g1
  cases g1
  have hlen := g5.len
  rw [List.length_map] at hlen
  refine ⟨a, vs', v, rfl, rfl, g3, lt_line (by rw [hlen]; exact c), ?_⟩
  refine q _ s1 r hx σ _ Hf1 A Dn (st1.relst (P := ι.tr s1) (by rw [ι.keys]; exact hix) g2 h1 (by rw [List.length_append, hlen]; exact c) ?_) (p.step ((e1.stp _ _).trans (stp_poke (i := i) (by rw [g2]; simp))))
  rw [List.map_append]
  exact g5.append (.one rv)
/-- if: the first way never falls through -/
theorem bx_ifR {A : List Stmt} {Mc : (Bool → S → Option R) → Option R} {mA mB : S → Option R} (hc : TX X ι Δ s c Mc) (hA : ∀ s1, BX X ι Δ s1 A (mA s1) out) (hB : ∀ s1, BX X ι Δ s1 rest (mB s1) out)
    (hn : ∀ r Δ' s', out r ≠ .next Δ' s' := by intro _ _ _ h; nomatch h) : BX X ι Δ s (.If c A [] pos :: rest) (Mc fun z s1 => if z = true then mA s1 else mB s1) out := by
  intro r hr σ H Hf As Dn st p
  refine tS_cons (ps_if (pT X c) (pS X A) (pS X [])) (hc _ r hr σ H Hf As _ st fun z s1 hz H1 Hf1 st1 e1 => ?_)
  cases z with
  | true =>
    rw [if_pos rfl] at hz ⊢
    refine hA s1 r hz σ H1 Hf1 As _ st1 ?_
    have p' := p.step (e1.stp ι.ix _)
    cases ho : out r with
    | next Δ' s' => exact absurd ho (hn r Δ' s')
    | ret d s' => rw [ho] at p'; exact p'
    | brk Δ' s' => rw [ho] at p'; exact p'
    | cont Δ' s' => rw [ho] at p'; exact p'
  | false =>
    rw [if_neg Bool.false_ne_true] at hz ⊢
    exact tS_of pss_nil (hB s1 r hz σ H1 Hf1 As Dn st1 (p.step (e1.stp _ _)))
/-- if .. else: neither way falls through -/
theorem bx_ifRR {A B : List Stmt} {Mc : (Bool → S → Option R) → Option R} {mA mB : S → Option R} (hc : TX X ι Δ s c Mc) (hA : ∀ s1, BX X ι Δ s1 A (mA s1) out) (hB : ∀ s1, BX X ι Δ s1 B (mB s1) out)
    (hn : ∀ r Δ' s', out r ≠ .next Δ' s' := by intro _ _ _ h; nomatch h) : BX X ι Δ s (.If c A B pos :: rest) (Mc fun z s1 => if z = true then mA s1 else mB s1) out := by
  intro r hr σ H Hf As Dn st p
  refine tS_cons (ps_if (pT X c) (pS X A) (pS X B)) (hc _ r hr σ H Hf As _ st fun z s1 hz H1 Hf1 st1 e1 => ?_)
  have p' := p.step (e1.stp ι.ix _)
  cases z with
  | true =>
    rw [if_pos rfl] at hz ⊢
    refine hA s1 r hz σ H1 Hf1 As _ st1 ?_
    cases ho : out r with
    | next Δ' s' => exact absurd ho (hn r Δ' s')
    | ret d s' => rw [ho] at p'; exact p'
    | brk Δ' s' => rw [ho] at p'; exact p'
    | cont Δ' s' => rw [ho] at p'; exact p'
  | false =>
    rw [if_neg Bool.false_ne_true] at hz ⊢
    refine hB s1 r hz σ H1 Hf1 As _ st1 ?_
    cases ho : out r with
    | next Δ' s' => exact absurd ho (hn r Δ' s')
    | ret d s' => rw [ho] at p'; exact p'
    | brk Δ' s' => rw [ho] at p'; exact p'
    | cont Δ' s' => rw [ho] at p'; exact p'
/-- if, both ways fall through: they meet in W -/
theorem bx_if {A B : List Stmt} {W : Type} (Δw : W → Dl) (sw : W → S) {Mc : (Bool → S → Option R) → Option R} {mA mB : S → Option W} {K : W → Option R} (hc : TX X ι Δ s c Mc)
    (hA : ∀ s1, BX X ι Δ s1 A (mA s1) (fun w => .next (Δw w) (sw w))) (hB : ∀ s1, BX X ι Δ s1 B (mB s1) (fun w => .next (Δw w) (sw w))) (hK : ∀ w, BX X ι (Δw w) (sw w) rest (K w) out) :
    BX X ι Δ s (.If c A B pos :: rest) (Mc fun z s1 => (if z = true then mA s1 else mB s1).bind K) out := by
  intro r hr σ H Hf As Dn st p
  refine tS_cons (ps_if (pT X c) (pS X A) (pS X B)) (hc _ r hr σ H Hf As _ st fun z s1 hz H1 Hf1 st1 e1 => ?_)
  obtain ⟨w, h1, h2⟩ := bind_some hz
  have p' := p.step (e1.stp ι.ix _)
  cases z with
  | true =>
    rw [if_pos rfl] at h1 ⊢
    exact hA s1 w h1 σ H1 Hf1 As _ st1 fun σ2 H2 Hf2 A2 q1 q2 => hK w r h2 σ2 H2 Hf2 A2 Dn q1 (p'.step q2)
  | false =>
    rw [if_neg Bool.false_ne_true] at h1 ⊢
    exact hB s1 w h1 σ H1 Hf1 As _ st1 fun σ2 H2 Hf2 A2 q1 q2 => hK w r h2 σ2 H2 Hf2 A2 Dn q1 (p'.step q2)
/-- .. and neither fails -/
theorem bx_ifT {A B : List Stmt} {W : Type} (Δw : W → Dl) (sw : W → S) {Mc : (Bool → S → Option R) → Option R} {wA wB : S → W} {K : W → Option R} (hc : TX X ι Δ s c Mc)
    (hA : ∀ s1, BX X ι Δ s1 A (some (wA s1)) (fun w => .next (Δw w) (sw w))) (hB : ∀ s1, BX X ι Δ s1 B (some (wB s1)) (fun w => .next (Δw w) (sw w))) (hK : ∀ w, BX X ι (Δw w) (sw w) rest (K w) out) :
    BX X ι Δ s (.If c A B pos :: rest) (Mc fun z s1 => letM (if z = true then wA s1 else wB s1) K) out := by
  have h := bx_if (pos := pos) (out := out) Δw sw hc hA hB hK
  intro r hr
  refine h r ?_
  rw [← hr]
  congr 1
  funext z s1
  cases z <;> rfl
end
end Ab
namespace Ab
open PySem PySem.Spec PyProof.Rows L2
/-! ### a def that is handed a state to change -/
def spS (K : KF) {S P C : Type} (n : Nat) (ι : Io S) (argE : P → List D) (f : P → S → Option (C × S)) (E : C → D) : Sp := fun vs H Q _ =>
  ∃ (p : P) (s : S) (c : C) (s' : S) (Hf : Hp) (A : Nat → List Addr), Sat K (vs.map some) H Hf (ι.tr s ++ argD n (argE p)) A ∧ vs.length = n + (argE p).length ∧ (∀ i, i ∉ ι.ix → A i = []) ∧ f p s = some (c, s') ∧
    ∀ v H' Hf', Sat K (vs.map some) H' Hf' (ι.tr s') A → ExtA ι.ix A H Hf H' Hf' → Rp K Hf' v (E c) → Q v H'
theorem lk_key : ∀ {P : Dl} {i : Nat} {T : Tr}, lk P i = some T → i ∈ P.map (·.1)
  | [], _, _, h => by cases h
  | (j, U) :: P, i, T, h => by
    by_cases e : i = j
    · subst e; simp
    · rw [lk_ne e] at h
      simp only [List.map_cons, List.mem_cons]
      exact .inr (lk_key h)
theorem start_at {N : List Str} {vs : List V} {i : Nat} {v : V} (h : (vs.map some)[i]? = some (some v)) : (L2.start N vs)[i]? = some (some v) := by
  have hi : i < (vs.map some).length := (List.getElem?_eq_some_iff.mp h).1
  unfold L2.start
  rw [List.getElem?_append_left hi]
  exact h
theorem start_of {N : List Str} {vs : List V} {i : Nat} {v : V} (h : (L2.start N vs)[i]? = some (some v)) : (vs.map some)[i]? = some (some v) := by
  unfold L2.start at h
  by_cases hi : i < (vs.map some).length
  · rw [List.getElem?_append_left hi] at h; exact h
  · rw [List.getElem?_append_right (by omega), List.getElem?_replicate] at h
    split at h <;> cases h
section
variable {Pg : Program} {w : World} {K : KF} {mg : Str → Option Value} {base : Heap}
theorem fn_state {x qual : Str} {st : Stmt} {f : Addr} {fd : FuncData} {N ps : List Str} {k n : Nat} {S P C : Type} {ι : Io S} {argE : P → List D} {g : P → S → Option (C × S)} {E : C → D} (F : Fun K x qual st f fd) (Sc : FnScope N ps (defScope st))
    (len : ∀ p, n + (argE p).length = ps.length)
    (body : ∀ (p : P) (s : S) (cdv : Value) (A : Around) (outer : List Env) (sh : Shared) (H : Hp) (E' : XK), Room k (A.deeper (envOfC qual (defScope st) sh.heap.objs.size f cdv)) →
      BX (cxOf CX0 Pg w K mg base N qual (defScope st) f cdv A outer sh H E').nox ι (argD n (argE p)) s (defBody st) (g p s) (fun c => Out.ret (E c.1) c.2)) :
    FnOk Pg w K mg base CX0 (k + 1) f fd ps (spS K n ι argE g E) := by
  refine F.ok Sc (fun vs H Q E' h => ?_) (fun cdv A outer s H vs Q E' hr h => ?_)
  · obtain ⟨p, s, c, s', Hf, As, _, hl, _⟩ := h
    rw [hl, len p]
  · obtain ⟨p, st0, c, s', Hf, As, sat, hl, hA, hf, q⟩ := h
    refine ⟨_, pS _ _, ?_⟩
    have sat2 : Sat K (L2.start N vs) H Hf (ι.tr st0 ++ argD n (argE p)) As := ⟨sat.sub, fun i T hi => by
      obtain ⟨v, h1, h2⟩ := sat.slot i T hi
      exact ⟨v, start_at h1, h2⟩, sat.own, sat.inj⟩
    refine body p st0 cdv A outer s H E' hr (c, s') hf _ H Hf As _ sat2 ?_
    intro v σ' H' Hf' A' h1 h2 h3
    refine q v H' Hf' ⟨h1.sub, fun i T hi => ?_, fun i a ha => ?_, sat.inj⟩ ⟨fun a o m h => h2.keep a o (fun i => by
        by_cases hk : i ∈ ι.ix
        · exact m i hk
        · rw [hA i hk]; simp) h, h2.there, h2.grow, fun a ha => ?_⟩ h3
    · have hk : i ∈ ι.ix := by rw [← ι.keys s']; exact lk_key hi
      obtain ⟨u, g1, g2⟩ := h1.slot i T hi
      rw [h2.root i hk] at g1
      rw [h2.stay i hk] at g2
      exact ⟨u, start_of g1, g2⟩
    · by_cases hk : i ∈ ι.ix
      · exact h1.own i a (by rw [h2.stay i hk]; exact ha)
      · rw [hA i hk] at ha; simp at ha
    · rcases h2.news a ha with z | z | ⟨i, hi, z⟩
      · exact .inl z
      · exact .inr z
      · rw [hA i hi] at z; simp at z
end
theorem ext_keep_in {A : Nat → List Addr} {H Hf H' Hf' : Hp} {i0 : Nat} (inj : ∀ i j a, a ∈ A i → a ∈ A j → i = j) (e : ExtA [0] (fun j => if j = 0 then A i0 else []) H Hf H' Hf') {a : Addr} {o : HO} {j : Nat} (ha : a ∈ A j) (hj : j ≠ i0) (h : H a = some o) : H' a = some o :=
  e.keep a o (fun i _ hi => by
    by_cases z : i = 0
    · subst z
      have hi' : a ∈ A i0 := by simpa using hi
      exact hj (inj j i0 a ha hi')
    · simp [z] at hi) h
section
variable {X : Cx} {S : Type} {rt : S → Tr} {i0 : Nat} {Δ : Dl} {s : S} {R : Type} {pos p : Pos} {k : Nat}
/-- f(state, ..): the state is the frame's own, or what it was handed itself -/
theorem ex_callS {x x0 : Str} {p0 : Pos} {f : Addr} {fd : FuncData} {ps : List Str} {P C : Type} {argE : P → List D} {g : P → S → Option (C × S)} {E : C → D} {es : List Expr} {M : (P → S → Option R) → Option R}
    (F : FnOk X.prog X.w X.K X.mg X.base CX0 k f fd ps (spS X.K 1 (io1 rt 0) argE g E)) (hr : Room k X.A) (hm : X.mg x = some (.ref f)) (hk : PySem.W.keepIn X.K (.ref f) = true) (hb : Binds X.K fd ps [])
    (ha : AX X (io1 rt i0) Δ s es M argE) (hg : Gl X x := by rfl) (hdb : (x == ("__debug__" : Str)) = false := by decide)
    (hN : X.N[i0]? = some x0 := by rfl) (hv : Vis X.env.scope x0 := by first | exact Or.inl rfl | exact Or.inr (Or.inl rfl) | exact Or.inr (Or.inr rfl)) (hd : (x0 == ("__debug__" : Str)) = false := by decide) (hcd : (x0 == ("__classdict__" : Str)) = false := by decide)
    (he : starEach (.Name x0 p0 :: es) X.env = (false, eval (.Name x0 p0) X.env) :: starEach es X.env := by rfl) (hpl : (backTo pos (starEach es X.env)).any (·.1) = false := by rfl) :
    EX X (io1 rt i0) Δ s (.Call (.Name x p) (.Name x0 p0 :: es) [] pos) (fun k => M fun y s1 => (g y s1).bind fun z => k z.1 z.2) E := by
  intro kk r hk' σ H Hf A Q st q
  refine tE_of (pe_call F hr hg hm hk hb .nil pass0 (pa_cons (pe_var hN hv hd hcd) (pA X es) he) hdb he hpl) ?_
  obtain ⟨w0, hw0, hh0⟩ := st.slot i0 (rt s) (by show lk ((i0, some (rt s)) :: Δ) i0 = _; rw [lk_self])
  refine ⟨w0, hw0, ?_⟩
  refine ha _ r hk' σ H Hf A _ st fun y s1 hx vs H1 Hf1 st1 e1 r1 => ?_
  obtain ⟨⟨c, s2⟩, h1, h2⟩ := bind_some hx
  rw [List.append_nil]
  obtain ⟨w1, hw1, hh1⟩ := st1.slot i0 (rt s1) (by show lk ((i0, some (rt s1)) :: Δ) i0 = _; rw [lk_self])
  rw [hw0] at hw1
  cases hw1
  refine ⟨y, s1, c, s2, Hf1, fun j => if j = 0 then A i0 else [], ⟨st1.sub, fun j T hj => ?_, fun j a ha => ?_, fun i j a hi hj => ?_⟩, ?_, fun i hi => ?_, h1, fun v H2 Hf2 sat ex rv => ?_⟩
  · by_cases z : j = 0
    · subst z
      have hj' : lk ((0, some (rt s1)) :: argD 1 (argE y)) 0 = some T := hj
      rw [lk_self] at hj'
      cases hj'
      exact ⟨w0, rfl, by simpa using hh1⟩
    · have hj' : lk ((0, some (rt s1)) :: argD 1 (argE y)) j = some T := hj
      rw [lk_ne z] at hj'
      obtain ⟨hle, d, hd', rfl⟩ := lk_argD _ 1 j T hj'
      obtain ⟨u, hu1, hu2⟩ := r1.get hd'
      refine ⟨u, ?_, ?_⟩
      · have e : j = (j - 1) + 1 := by omega
        rw [e, List.map_cons, List.getElem?_cons_succ, List.getElem?_map, hu1]
        rfl
      · rw [if_neg z]; exact ⟨rfl, hu2⟩
  · by_cases z : j = 0
    · subst z
      exact st1.own i0 a (by simpa using ha)
    · simp [z] at ha
  · by_cases z : i = 0 <;> by_cases z2 : j = 0
    · rw [z, z2]
    · simp [z2] at hj
    · simp [z] at hi
    · simp [z] at hi
  · rw [List.length_cons, r1.len, Nat.add_comm]
  · have : i ≠ 0 := by simpa using hi
    simp [this]
  · have ex' : ExtA [i0] A H1 Hf1 H2 Hf2 := ⟨fun a u m h => ex.keep a u (fun i _ hi => by
      by_cases z : i = 0
      · subst z; exact m i0 (by simp) (by simpa using hi)
      · simp [z] at hi) h, ex.there, ex.grow, ex.news⟩
    refine q c s2 h2 v H2 Hf2 ⟨sat.sub, fun j T hj => ?_, fun j a ha => ?_, st1.inj⟩ (e1.trans ex') rv
    · by_cases z : j = i0
      · subst z
        have hj' : lk ((j, some (rt s2)) :: Δ) j = some T := hj
        rw [lk_self] at hj'
        cases hj'
        obtain ⟨u, g1, g2⟩ := sat.slot 0 (rt s2) (by show lk [(0, some (rt s2))] 0 = _; rw [lk_self])
        have g1' : some (some w0) = some (some u) := g1
        cases g1'
        exact ⟨w0, hw0, by simpa using g2⟩
      · have hj' : lk ((i0, some (rt s2)) :: Δ) j = some T := hj
        rw [lk_ne z] at hj'
        obtain ⟨u, g1, g2⟩ := st1.slot j T (by show lk ((i0, some (rt s1)) :: Δ) j = _; rw [lk_ne z]; exact hj')
        exact ⟨u, g1, g2.up ex.grow fun a ha u hu => ext_keep_in st1.inj ex ha z hu⟩
    · obtain ⟨n1, n2⟩ := st1.own j a ha
      refine ⟨?_, ex.there a n2⟩
      cases z : Hf2 a with
      | none => rfl
      | some u =>
        rcases ex.news a (by rw [z]; simp) with y | y
        · exact absurd n1 y
        · exact absurd y n2
end
end Ab
namespace Ab
open PySem PySem.Spec PyProof.Rows L2
/-! ### drawing from a row of cells: what it gives -/
abbrev Rs := List Int × Int
abbrev rtR : Rs → Tr := fun s => .rnd s.1 s.2
def skip0 : List Int → List Int
  | [] => []
  | x :: xs => if x = 0 then skip0 xs else x :: xs
def mixR (seed : Int) : Int := (seed * 48271 + 12345).fmod 2147483647
def drawR (many : Int) (s : Rs) : Option (Int × Rs) :=
  guardM (many ≠ 0 ∧ many.natAbs < 1073741824 ∧ CMul s.2 48271) (match skip0 s.1 with
    | v :: r => some (v.fmod many, (v.fdiv many :: r, s.2))
    | [] => some (((mixR s.2).fdiv 64).fmod many, ([], mixR s.2)))
/-- how it is read -/
abbrev rLenC (K : KF) : List V → Hp → VK → Prop := fun xs H Q => ∃ x n, xs = [x] ∧ LenV K x H n ∧ Q (.int (n : Nat)) H
abbrev rInt1 : List V → Hp → VK → Prop := fun xs H Q => (∃ i, xs = [.int i] ∧ Q (.int i) H) ∨ ∃ k, xs = [.bl k] ∧ Q (.int (if k then 1 else 0)) H
abbrev oGt : R2 := rI0 fun i j => .bl (decide (j < i))
abbrev oMod : R2 := rI (fun _ j => j ≠ 0) fun i j => .int (i.fmod j)
abbrev oDiv : R2 := rI CDivN fun i j => .int (i.fdiv j)
abbrev oMul : R2 := rI CMul fun i j => .int (i * j)
abbrev oAdd : R2 := rI0 fun i j => .int (i + j)
def tDraw (K : KF) : TS :=
  tSeq (tAsg (tOp (rIxL K) (tVar 0) (tC (.int 0))) (gName 2))
  (tSeq (tWhile (tAnd (tTest (tOp oGt (tCB (rLenC K) (tCons (tVar 2) tNil)) (tC (.int 0)))) (tTest (tOp rEq (tOp (rIxL K) (tVar 2) (tC (.int 0))) (tC (.int 0))))) (tDrop (tBM K "list" rPopAt (tVar 2) (tCons (tC (.int 0)) tNil))))
  (tSeq (tIfS (tTest (tOp oGt (tCB (rLenC K) (tCons (tVar 2) tNil)) (tC (.int 0))))
      (tSeq (tAsg (tOp (rIxL K) (tVar 2) (tC (.int 0))) (gName 3))
      (tSeq (tAsg (tOp oDiv (tVar 3) (tVar 1)) (gSub (tVar 2) (tC (.int 0)) rSetL))
      (tRet (tOp oMod (tCB rInt1 (tCons (tVar 3) tNil)) (tVar 1))))) tNext)
  (tSeq (tAsg (tOp oMod (tCB rInt1 (tCons (tOp oAdd (tOp oMul (tOp (rIxL K) (tVar 0) (tC (.int 1))) (tC (.int 48271))) (tC (.int 12345))) tNil)) (tC (.int 2147483647))) (gName 4))
  (tSeq (tAsg (tVar 4) (gSub (tVar 0) (tC (.int 1)) rSetL))
  (tRet (tOp oMod (tCB rInt1 (tCons (tOp oDiv (tVar 4) (tC (.int 64))) tNil)) (tVar 1)))))))
theorem skip0_drop : ∀ (cs : List Int), ∃ n, skip0 cs = cs.drop n ∧ n ≤ cs.length ∧ (∀ i, i < n → cs[i]? = some 0) ∧ (∀ v, cs[n]? = some v → v ≠ 0)
  | [] => ⟨0, rfl, Nat.le_refl _, fun i h => by omega, fun v h => by simp at h⟩
  | x :: xs => by
    by_cases e : x = 0
    · obtain ⟨n, h1, h2, h3, h4⟩ := skip0_drop xs
      refine ⟨n + 1, by unfold skip0; rw [if_pos e, h1]; rfl, Nat.succ_le_succ h2, fun i hi => ?_, fun v hv => h4 v (by simpa using hv)⟩
      cases i with
      | zero => simp [e]
      | succ i => simpa using h3 i (by omega)
    · exact ⟨0, by unfold skip0; rw [if_neg e]; rfl, Nat.zero_le _, fun i h => by omega, fun v hv => by
        have : x = v := by simpa using hv
        rw [← this]; exact e⟩
theorem seqIdx0 {n : Nat} (h : 0 < n) : seqIndex? 0 n = some 0 := by
  have h2 : (decide ((0 : Int) ≤ 0) && decide ((0 : Int) < (n : Int))) = true := by
    rw [decide_eq_true (by omega : (0 : Int) < (n : Int))]; rfl
  show (if (decide ((0 : Int) ≤ 0) && decide ((0 : Int) < (n : Int))) = true then some (0 : Int).toNat else none) = some 0
  rw [if_pos h2]; rfl
theorem skip0_len (cs : List Int) : (skip0 cs).length ≤ cs.length := by
  obtain ⟨n, h1, _⟩ := skip0_drop cs
  rw [h1, List.length_drop]; omega
theorem draw_pure {K : KF} {vs : List V} {H : Hp} {Q : VK} {E' : XK} (h : spS K 1 (io1 rtR 0) (fun n : Int × Unit => [PyData.int n.1]) (fun n s => drawR n.1 s) Ty.int vs H Q E') :
    tDraw K { nx := fun _ H' => Q .non H', rt := Q } (L2.start ["state", "many", "cells", "value", "mixed"] vs) H := by
  obtain ⟨⟨m, _⟩, ⟨cs, seed⟩, c, ⟨cs', seed'⟩, Hf, A, st, hl, hA, hf, q⟩ := h
  obtain ⟨hg, hf⟩ := guardM_some hf
  obtain ⟨hm0, hmb, hmul⟩ := hg
  -- the arguments
  obtain ⟨v0, g0, hh⟩ := st.slot 0 (.rnd cs seed) rfl
  obtain ⟨a, b, rfl, hA0, hab, hHa, hHb, hz⟩ := hh
  obtain ⟨v1, g1, hi1⟩ := st.slot 1 (.imm (.int m)) rfl
  have ev : vs = [.ref a, v1] := by
    match vs, hl, g0, g1 with
    | [x, y], _, h0, h1 =>
      have e0 : x = .ref a := by simpa using h0
      have e1 : y = v1 := by simpa using h1
      rw [e0, e1]
  subst ev
  have e1 : v1 = .int m := by cases hi1.2; rfl
  subst e1
  obtain ⟨n, hs, hn, hz0, hnz⟩ := skip0_drop cs
  -- what stands behind a change of the cells and the seed
  have fin : ∀ {cs2 : List Int} {n2 : Int} {H' : Hp}, cs2.length ≤ Line → H' a = some (.lst [.ref b, .int n2]) → H' b = some (.lst (cs2.map V.int)) → (∀ x, x ≠ a → x ≠ b → H' x = H x) → cs2 = cs' → n2 = seed' → Q (.int c) H' := by
    intro cs2 n2 H' hz2 ha hb hk e1 e2
    subst e1 e2
    have own := st.own
    refine q (.int c) H' Hf ⟨fun x o hx => ?_, fun i T hi => ?_, fun i x hx => ?_, st.inj⟩ ⟨fun x o hx ho => ?_, fun x hx => ?_, Sub.refl _, fun x hx => .inl hx⟩ (.int c)
    · have na : x ≠ a := fun z => by have := (own 0 a (by rw [hA0]; simp)).1; rw [z, this] at hx; cases hx
      have nb : x ≠ b := fun z => by have := (own 0 b (by rw [hA0]; simp)).1; rw [z, this] at hx; cases hx
      rw [hk x na nb]; exact st.sub x o hx
    · have hi0 : i = 0 := by
        have := lk_key hi
        simpa using this
      subst hi0
      have : T = .rnd cs2 n2 := by
        have h' : lk [(0, some (Tr.rnd cs2 n2))] 0 = some T := hi
        rw [lk_self] at h'
        exact (Option.some.inj h').symm
      subst this
      exact ⟨.ref a, rfl, a, b, rfl, hA0, hab, ha, hb, hz2⟩
    · refine ⟨(own i x hx).1, ?_⟩
      by_cases za : x = a
      · subst za; rw [ha]; simp
      · by_cases zb : x = b
        · subst zb; rw [hb]; simp
        · rw [hk x za zb]; exact (own i x hx).2
    · have na : x ≠ a := fun z => hx 0 (by simp) (by rw [hA0, z]; simp)
      have nb : x ≠ b := fun z => hx 0 (by simp) (by rw [hA0, z]; simp)
      rw [hk x na nb]; exact ho
    · by_cases za : x = a
      · subst za; rw [ha]; simp
      · by_cases zb : x = b
        · subst zb; rw [hb]; simp
        · rw [hk x za zb]; exact hx
  show tDraw K _ [some (.ref a), some (.int m), none, none, none] H
  -- cells = state[0]
  refine ⟨_, rfl, a, [.ref b, .int seed], 0, .ref b, rfl, rfl, SqL.of hHa, rfl, ?_⟩
  -- the loop
  refine ⟨fun k σ H' => ∃ i, i ≤ n ∧ k = n - i ∧ σ = [some (.ref a), some (.int m), some (.ref b), none, none] ∧ H' b = some (.lst ((cs.drop i).map V.int)) ∧ ∀ x, x ≠ b → H' x = H x, ⟨n, 0, Nat.zero_le _, rfl, rfl, hHb, fun _ _ => rfl⟩, ?_⟩
  rintro k σ H1 ⟨i, hi, rfl, rfl, hb1, hk1⟩
  have hlen : (((cs.drop i).map V.int).length : Int) = ((cs.length - i : Nat) : Int) := by simp
  refine ⟨_, rfl, .ref b, _, rfl, .inl ⟨_, SqL.of hb1, rfl⟩, _, _, rfl, rfl, _, rfl, ?_⟩
  by_cases hlt : i < cs.length
  · have hpos : decide ((0 : Int) < ((((cs.drop i).map V.int).length : Nat) : Int)) = true := decide_eq_true (by rw [hlen]; omega)
    rw [hpos]
    refine iteT ?_
    obtain ⟨w, hw⟩ : ∃ w, cs[i]? = some w := ⟨_, List.getElem?_eq_getElem hlt⟩
    have hat : atI ((cs.drop i).map V.int) 0 = some (.int w) := atI_nat (j := 0) (by rw [List.getElem?_map, List.getElem?_drop, Nat.add_zero, hw]; rfl)
    refine ⟨_, rfl, b, _, 0, .int w, rfl, rfl, SqL.of hb1, hat, rfl, _, rfl, ?_⟩
    by_cases hin : i < n
    · have hw0 : w = 0 := by rw [hz0 i hin] at hw; exact (Option.some.inj hw).symm
      subst hw0
      rw [show decide (V.int 0 = V.int 0) = true from decide_eq_true rfl]
      refine iteT ?_
      refine ⟨fun σ' H' => ∃ j, j = i + 1 ∧ σ' = [some (.ref a), some (.int m), some (.ref b), none, none] ∧ H' b = some (.lst ((cs.drop j).map V.int)) ∧ ∀ x, x ≠ b → H' x = H x, fun σ' H' ⟨j, e, h1, h2, h3⟩ => ⟨n - (i + 1), by omega, i + 1, hin, rfl, h1, by rw [← e]; exact h2, h3⟩, ?_⟩
      refine ⟨_, rfl, .inl ⟨rfl, _, .inl (.inl hb1)⟩, b, _, 0, 0, .int 0, rfl, rfl, hb1, by decide, by decide, ?_, ?_, ?_⟩
      · rw [List.length_map, List.length_drop]
        exact seqIdx0 (by omega)
      · rw [List.getElem?_map, List.getElem?_drop, Nat.add_zero, hw]; rfl
      · refine ⟨i + 1, rfl, rfl, ?_, fun x hx => by rw [upd_ne hx]; exact hk1 x hx⟩
        rw [upd_same]
        congr 2
        rw [List.drop_eq_getElem_cons hlt, List.map_cons, List.eraseIdx_cons_zero]
    · have hin' : i = n := by omega
      subst hin'
      have hw0 : w ≠ 0 := hnz w hw
      rw [show decide (V.int w = V.int 0) = false from decide_eq_false (fun z => hw0 (V.int.inj z))]
      refine iteF ?_
      -- if len(cells) > 0
      refine ⟨_, rfl, .ref b, _, rfl, .inl ⟨_, SqL.of hb1, rfl⟩, _, _, rfl, rfl, _, rfl, ?_⟩
      rw [hpos]
      refine iteT ?_
      have hsk : skip0 cs = w :: cs.drop (i + 1) := by
        rw [hs, List.drop_eq_getElem_cons hlt]
        congr 1
        have := List.getElem?_eq_getElem hlt
        rw [this] at hw
        exact Option.some.inj hw
      rw [hsk] at hf
      injection hf with hf
      injection hf with hf1 hf2
      injection hf2 with hf3 hf4
      have hf1' : c = w.fmod m := hf1.symm
      subst hf1'
      refine ⟨_, rfl, b, _, 0, .int w, rfl, rfl, SqL.of hb1, hat, ?_⟩
      refine ⟨_, rfl, _, rfl, w, m, rfl, rfl, ⟨hm0, hmb⟩, _, rfl, b, _, 0, 0, rfl, rfl, hb1, ?_, ?_⟩
      · rw [List.length_map, List.length_drop]
        unfold ixN
        rw [if_pos (Int.le_refl _), if_pos (by omega)]
        rfl
      · refine ⟨_, rfl, .inl ⟨w, rfl, _, rfl, w, m, rfl, rfl, hm0, ?_⟩⟩
        refine fin (cs2 := w.fdiv m :: cs.drop (i + 1)) (n2 := seed) ?_ ?_ ?_ (fun x xa xb => by rw [upd_ne xb]; exact hk1 x xb) hf3 hf4
        · rw [List.length_cons, List.length_drop]
          have : cs.length ≤ 16777216 := hz
          show _ ≤ 16777216
          omega
        · rw [upd_ne hab, hk1 a hab]; exact hHa
        · rw [upd_same, List.drop_eq_getElem_cons hlt]
          rfl
  · have hneg : decide ((0 : Int) < ((((cs.drop i).map V.int).length : Nat) : Int)) = false := decide_eq_false (by rw [hlen]; omega)
    rw [hneg]
    refine iteF ?_
    refine ⟨_, rfl, .ref b, _, rfl, .inl ⟨_, SqL.of hb1, rfl⟩, _, _, rfl, rfl, _, rfl, ?_⟩
    rw [hneg]
    refine iteF ?_
    have hsk : skip0 cs = [] := by
      rw [hs]
      exact List.drop_eq_nil_of_le (by omega)
    rw [hsk] at hf
    injection hf with hf
    injection hf with hf1 hf2
    injection hf2 with hf3 hf4
    have hf1' : c = ((mixR seed).fdiv 64).fmod m := hf1.symm
    subst hf1'
    have hHa1 : H1 a = some (.lst [.ref b, .int seed]) := by rw [hk1 a hab]; exact hHa
    refine ⟨_, rfl, a, _, 1, .int seed, rfl, rfl, SqL.of hHa1, rfl, _, _, rfl, rfl, hmul, _, _, rfl, rfl, .inl ⟨_, rfl, _, _, rfl, rfl, (by show (2147483647 : Int) ≠ 0; decide), ?_⟩⟩
    -- state[1] = mixed
    refine ⟨_, rfl, _, rfl, a, [.ref b, .int seed], 1, 1, rfl, rfl, hHa1, rfl, ?_⟩
    refine ⟨_, rfl, _, _, rfl, rfl, ⟨by decide, by decide⟩, .inl ⟨_, rfl, _, rfl, _, m, rfl, rfl, hm0, ?_⟩⟩
    refine fin (cs2 := []) (n2 := mixR seed) (Nat.zero_le _) ?_ ?_ (fun x xa xb => by rw [upd_ne xa]; exact hk1 x xb) hf3 hf4
    · rw [upd_same]; rfl
    · rw [upd_ne hab.symm, hb1, List.drop_eq_nil_of_le (by omega)]
end Ab
namespace Ab
open PySem PySem.Spec PyProof.Rows L2
/-! ### the state that a law makes of its script -/
def seedR (ns : List Int) : Int := ns.foldl (fun s c => (s * 31 + c).fmod 1000003) 7
def stateR (ns : List Int) : Rs := (ns.map fun c => (c.natAbs : Int), seedR ns + 1)
abbrev rAbsC : List V → Hp → VK → Prop := fun xs H Q => ∃ i, xs = [.int i] ∧ Q (.int (if i < 0 then -i else i)) H
def tState (K : KF) : TS :=
  tSeq (tAsg (tC (.int 7)) (gName 1))
  (tSeq (tFor (iList K (tVar 0)) (gName 2) (tAsg (tOp oMod (tCB rInt1 (tCons (tOp oAdd (tOp oMul (tVar 1) (tC (.int 31))) (tVar 2)) tNil)) (tC (.int 1000003))) (gName 1)))
  (tRet (tLst (tCons (tLc (iList K (tVar 0)) (gName 2) tYes (tCB rAbsC (tCons (tVar 2) tNil)) [2]) (tCons (tOp oAdd (tVar 1) (tC (.int 1))) tNil)))))
def spSt (K : KF) : Sp := fun vs H Q _ => ∃ (a : Addr) (ns : List Int), vs = [.ref a] ∧ SqL K H a (ns.map V.int) ∧ ns.length ≤ 63 ∧
  ∀ H' p q, Sub H H' → H p = none → H q = none → p ≠ q → H' p = some (.lst [.ref q, .int (stateR ns).2]) → H' q = some (.lst ((stateR ns).1.map V.int)) → Q (.ref p) H'
theorem seedR_take {ns : List Int} {i : Nat} {x : Int} (h : ns[i]? = some x) : seedR (ns.take (i + 1)) = (seedR (ns.take i) * 31 + x).fmod 1000003 := by
  unfold seedR
  rw [List.take_add_one, h, List.foldl_append]
  rfl
theorem seedR_lo (ns : List Int) : 0 ≤ seedR ns ∧ seedR ns < 1000003 := by
  have h : ∀ (l : List Int) (s : Int), 0 ≤ s → s < 1000003 → 0 ≤ l.foldl (fun s c => (s * 31 + c).fmod 1000003) s ∧ l.foldl (fun s c => (s * 31 + c).fmod 1000003) s < 1000003 := by
    intro l
    induction l with
    | nil => exact fun s h1 h2 => ⟨h1, h2⟩
    | cons x l ih =>
      intro s h1 h2
      refine ih _ ?_ ?_
      · show 0 ≤ (s * 31 + x).fmod 1000003
        rw [Int.fmod_eq_emod_of_nonneg _ (by decide)]; exact Int.emod_nonneg _ (by decide)
      · show (s * 31 + x).fmod 1000003 < 1000003
        rw [Int.fmod_eq_emod_of_nonneg _ (by decide)]; exact Int.emod_lt_of_pos _ (by decide)
  exact h ns 7 (by decide) (by decide)
theorem state_pure {K : KF} {vs : List V} {H : Hp} {Q : VK} {E' : XK} (h : spSt K vs H Q E') : tState K { nx := fun _ H' => Q .non H', rt := Q } (L2.start ["script", "seed", "cell"] vs) H := by
  obtain ⟨a, ns, rfl, hS, hlen, q⟩ := h
  refine ⟨_, rfl, a, rfl, ⟨_, hS⟩, for_list (K := K) (a := a) (xs := ns.map V.int) (fun i σ H' => H' = H ∧ ∃ v, σ = [some (.ref a), some (.int (seedR (ns.take i))), v]) ⟨rfl, none, rfl⟩ (fun i σ H' _ hp => by rw [hp.1]; exact hS) ?_ ?_⟩
  · rintro i x σ H' hx ⟨rfl, v, rfl⟩
    rw [List.getElem?_map] at hx
    cases e : ns[i]? with
    | none => rw [e] at hx; cases hx
    | some y =>
      rw [e] at hx
      cases hx
      have hb := seedR_lo (ns.take i)
      refine ⟨_, rfl, _, _, rfl, rfl, .inl ⟨by omega, by omega⟩, _, rfl, _, _, rfl, rfl, .inl ⟨_, rfl, _, _, rfl, rfl, (by show (1000003 : Int) ≠ 0; decide), rfl, some (.int y), ?_⟩⟩
      rw [seedR_take e]
      rfl
  · rintro σ H' ⟨rfl, v, rfl⟩
    rw [List.length_map, List.take_length]
    refine ⟨_, rfl, a, rfl, ⟨_, hS⟩, fun Dd hD => ?_⟩
    have ne : ∀ {b o}, H' b = some o → b ≠ Dd := fun h => ne_of_none h hD
    have hS2 : ∀ l, SqL K (upd H' Dd (.lst l)) a (ns.map V.int) := fun l => (Ext.newO (Hf := H') hD).keep.seq hS
    refine lc_list (K := K) (a := a) (xs := ns.map V.int) (fun i H2 => H2 = upd H' Dd (.lst ((ns.take i).map fun c => V.int (c.natAbs : Int)))) rfl (fun i H2 _ hp => by rw [hp]; exact hS2 _) ?_ ?_
    · rintro i x H2 hx rfl
      rw [List.getElem?_map] at hx
      cases e : ns[i]? with
      | none => rw [e] at hx; cases hx
      | some y =>
        rw [e] at hx
        cases hx
        refine ⟨rfl, ?_⟩
        rw [tYes]
        refine iteT ?_
        refine ⟨_, rfl, y, rfl, _, upd_same, lt_line ?_, ?_⟩
        · rw [List.length_map, List.length_take]
          show _ < 16777216
          omega
        · rw [upd_upd, List.take_add_one, e, List.map_append]
          have : (if y < 0 then -y else y) = (y.natAbs : Int) := by split <;> omega
          rw [this]
          rfl
    · rintro H2 rfl
      rw [List.length_map, List.take_length]
      refine ⟨_, rfl, _, _, rfl, rfl, (by show 2 ≤ sizeLine; decide), fun p np => ?_⟩
      have hpD : p ≠ Dd := fun z => by rw [z, upd_same] at np; cases np
      refine q _ p Dd (fun b o e => ?_) ?_ hD hpD upd_same ?_
      · have h1 : upd H' Dd (.lst (ns.map fun c => V.int (c.natAbs : Int))) b = some o := by rw [upd_ne (ne e)]; exact e
        rw [upd_ne (ne_of_none h1 np)]; exact h1
      · cases z : H' p with
        | none => rfl
        | some o => rw [upd_ne hpD, z] at np; cases np
      · rw [upd_ne hpD.symm, upd_same]
        unfold stateR
        rw [List.map_map]
        rfl
/-! ### the law -/
def spLaw (K : KF) (m : Rs → Option (Bool × Rs)) : Sp := fun vs H Q _ => ∃ (a : Addr) (ns : List Int), vs = [.ref a] ∧ SqL K H a (ns.map V.int) ∧ ns.length ≤ 63 ∧ (∃ s', m (stateR ns) = some (true, s')) ∧ ∀ H', Q (.bl true) H'
section
variable {Pg : Program} {w : World} {K : KF} {mg : Str → Option Value} {base : Heap}
theorem fn_law {st : Stmt} {f fS : Addr} {fd fdS : FuncData} {N : List Str} {k : Nat} {m : Rs → Option (Bool × Rs)} {rest : List Stmt} {p1 p2 p3 p4 p5 : Pos} (F : Fun K "law" "law" st f fd) (Sc : FnScope N ["script"] (defScope st))
    (FS : FnOk Pg w K mg base CX0 k fS fdS ["script"] (spSt K)) (gS : mg "_law_state" = some (.ref fS)) (kS : PySem.W.keepIn K (.ref fS) = true) (bS : Binds K fdS ["script"] [])
    (hb : defBody st = .Assign [.Name "state" p1] (.Call (.Name "_law_state" p2) [.Name "script" p3] [] p4) p5 :: rest) (h0 : N[0]? = some ("script" : Str)) (h1 : N[1]? = some ("state" : Str)) (hl1 : L2.Loc (defScope st) "state") (hl0 : Vis (defScope st) "script") (hgl : (defScope st).names.lookup ("_law_state" : Str) = some NameKind.globalImplicit)
    (body : ∀ (s : Rs) (cdv : Value) (A : Around) (outer : List Env) (sh : Shared) (H : Hp) (E' : XK), Room k (A.deeper (envOfC "law" (defScope st) sh.heap.objs.size f cdv)) →
      BX (cxOf CX0 Pg w K mg base N "law" (defScope st) f cdv A outer sh H E').nox (io1 rtR 1) [] s rest (m s) (fun c => Out.ret (.bool c.1) c.2)) :
    FnOk Pg w K mg base CX0 (k + 1) f fd ["script"] (spLaw K m) := by
  refine F.ok Sc (fun vs H Q E' h => ?_) (fun cdv A outer s H vs Q E' hr h => ?_)
  · obtain ⟨a, ns, rfl, _⟩ := h
    rfl
  · obtain ⟨a, ns, rfl, hS, hlen, ⟨s', hm⟩, q⟩ := h
    refine ⟨_, pS _ _, ?_⟩
    rw [hb]
    refine tS_inv fun pins sh I => tS_cons (ps_set (i := 1) Sc.nd h1 hl1 (pe_call FS hr hgl gS kS bS .nil pass0 (pa_cons (pe_var (i := 0) h0 hl0) pa_nil)) (by rfl) (.inl rfl)) ?_
    have hlN : 1 < N.length := (List.getElem?_eq_some_iff.mp h1).1
    refine ⟨.ref a, rfl, a, ns, rfl, hS, hlen, fun H' p0 q0 sb np nq hpq hp hq => ?_⟩
    have hσ : (L2.start N [V.ref a]).length = N.length := by
      unfold L2.start
      simp only [List.length_append, List.length_map, List.length_replicate, List.length_cons, List.length_nil]
      omega
    refine body (stateR ns) cdv A outer s H E' hr (true, s') hm _ H' H (fun j => if j = 1 then [p0, q0] else []) _ ⟨sb, fun i T hi => ?_, fun i x hx => ?_, fun i j x hi hj => ?_⟩ ?_
    · have hi1 : i = 1 := by simpa using lk_key hi
      subst hi1
      have : T = rtR (stateR ns) := by
        have h' : lk [(1, some (rtR (stateR ns)))] 1 = some T := hi
        rw [lk_self] at h'
        exact (Option.some.inj h').symm
      subst this
      refine ⟨.ref p0, by rw [List.getElem?_set_self (by rw [hσ]; exact hlN)], p0, q0, rfl, rfl, hpq, hp, hq, ?_⟩
      show (stateR ns).1.length ≤ 16777216
      unfold stateR
      rw [List.length_map]
      omega
    · by_cases z : i = 1
      · subst z
        have hx' : x = p0 ∨ x = q0 := by simpa using hx
        rcases hx' with rfl | rfl
        · exact ⟨np, by rw [hp]; simp⟩
        · exact ⟨nq, by rw [hq]; simp⟩
      · simp [z] at hx
    · by_cases z : i = 1 <;> by_cases z2 : j = 1
      · rw [z, z2]
      · simp [z2] at hj
      · simp [z] at hi
      · simp [z] at hi
    · intro v σ' H2 Hf2 A2 g1 g2 g3
      have : v = .bl true := by cases g3; rfl
      subst this
      exact q H2
end
end Ab
namespace Ab
open PySem PySem.Spec PyProof.Rows L2
abbrev iv {α : Type} (i : Nat) (E : α → D) (a : α) : Nat × Option Tr := (i, some (.imm (E a)))
abbrev ov {α : Type} (i : Nat) (E : α → D) (l : List α) : Nat × Option Tr := (i, some (.lst (l.map E)))
section
variable {X : Cx} {S : Type} {ι : Io S} {Δ : Dl} {s : S} {R : Type} {pos p : Pos} {a b c e : Expr} {k : Nat}
variable {α β γ : Type} {E : α → D} {F : β → D}
theorem BX_to {st : List Stmt} {m m' : Option R} {out : R → Out S} (h : BX X ι Δ s st m out) (e : m = m') : BX X ι Δ s st m' out := e ▸ h
/-! ### arguments without an end -/
theorem ax_one {Ma : (α → S → Option R) → Option R} (ha : EX X ι Δ s e Ma E) (hs : starEach (e :: []) X.env = (false, eval e X.env) :: starEach [] X.env := by rfl) :
    AX X ι Δ s [e] Ma (fun x => [E x]) := by
  intro k r hk σ H Hf A Q st q
  refine tA_of (pa_cons (pE X e) pa_nil hs) (ha _ r hk σ H Hf A _ st fun x s1 hx v H1 Hf1 st1 e1 r1 => ?_)
  exact q x s1 hx [v] H1 Hf1 st1 e1 (.one r1)
/-- items of one kind -/
theorem axl_nil : AX X ι Δ s [] (R := R) (fun k => k ([] : List α) s) (fun l => l.map E) := by
  intro k r hk σ H Hf A Q st q
  exact tA_of pa_nil (q [] s hk [] H Hf st (ExtA.refl _ _ _ _) .nil)
theorem axl_cons {es : List Expr} {Ma : (α → S → Option R) → Option R} {Mb : S → (List α → S → Option R) → Option R} (ha : EX X ι Δ s e Ma E) (hb : ∀ s1, AX X ι Δ s1 es (Mb s1) (fun l => l.map E))
    (hs : starEach (e :: es) X.env = (false, eval e X.env) :: starEach es X.env := by rfl) :
    AX X ι Δ s (e :: es) (fun k => Ma fun x s1 => Mb s1 fun l s2 => k (x :: l) s2) (fun l => l.map E) := by
  intro k r hk σ H Hf A Q st q
  refine tA_of (pa_cons (pE X e) (pA X es) hs) (ha _ r hk σ H Hf A _ st fun x s1 hx v H1 Hf1 st1 e1 r1 => ?_)
  refine hb s1 _ r hx σ H1 Hf1 A _ st1 fun y s2 hy vs H2 Hf2 st2 e2 r2 => ?_
  exact q (x :: y) s2 hy (v :: vs) H2 Hf2 st2 (e1.trans e2) (.cons (r1.up e2.grow) r2)
/-- a tuple display -/
theorem ex_tup {es : List Expr} {x1 : Nat} {M : (α → S → Option R) → Option R} {G : α → List D} (h : AX X ι Δ s es M G) (hE : ∀ x, E x = .tuple (G x)) (hn : ∀ x, (G x).length ≤ Line := by intro _; decide) : EX X ι Δ s (.Tuple es x1 pos) M E := by
  intro k r hk σ H Hf A Q st q
  refine tE_of (pe_tup (pA X es)) (h _ r hk σ H Hf A _ st fun x s1 hx vs H1 Hf1 st1 e1 r1 => ⟨le_line (r1.len ▸ hn x), fun p np => ?_⟩)
  have ex := Ext.new (o := .tup vs) np st1.sub
  refine q _ s1 hx _ _ _ (st1.up ex (Sub.new st1.sub)) (e1.trans ex.toA) ?_
  rw [hE]
  exact .tup (.inl (.inl upd_same)) (r1.len ▸ hn x) (r1.up ex.grow)
end
section
variable {X : Cx} {S : Type} {ι : Io S} {Δ : Dl} {s : S} {R : Type} {pos p : Pos} {a b c e : Expr} {k : Nat}
variable {α β γ : Type} {E : α → D} {F : β → D}
/-- items of one kind, so many of them -/
def AL (X : Cx) {S : Type} (ι : Io S) (Δ : Dl) (s : S) (es : List Expr) (n : Nat) {α R : Type} (M : (List α → S → Option R) → Option R) (E : α → D) : Prop :=
  ∀ k r, M k = some r → ∀ (σ : L2.St) (H Hf : Hp) (A : Nat → List Addr) (Q : List V → Hp → Prop), Sat X.K σ H Hf (ι.tr s ++ Δ) A →
    (∀ x s', k x s' = some r → x.length = n → ∀ vs H' Hf', Sat X.K σ H' Hf' (ι.tr s' ++ Δ) A → ExtA ι.ix A H Hf H' Hf' → RpAll X.K Hf' vs (x.map E) → Q vs H') → tA X es σ H Q
theorem al_nil : AL X ι Δ s [] 0 (R := R) (fun k => k ([] : List α) s) E := by
  intro k r hk σ H Hf A Q st q
  exact tA_of pa_nil (q [] s hk rfl [] H Hf st (ExtA.refl _ _ _ _) .nil)
theorem al_cons {es : List Expr} {n : Nat} {Ma : (α → S → Option R) → Option R} {Mb : S → (List α → S → Option R) → Option R} (ha : EX X ι Δ s e Ma E) (hb : ∀ s1, AL X ι Δ s1 es n (Mb s1) E)
    (hs : starEach (e :: es) X.env = (false, eval e X.env) :: starEach es X.env := by rfl) :
    AL X ι Δ s (e :: es) (n + 1) (fun k => Ma fun x s1 => Mb s1 fun l s2 => k (x :: l) s2) E := by
  intro k r hk σ H Hf A Q st q
  refine tA_of (pa_cons (pE X e) (pA X es) hs) (ha _ r hk σ H Hf A _ st fun x s1 hx v H1 Hf1 st1 e1 r1 => ?_)
  refine hb s1 _ r hx σ H1 Hf1 A _ st1 fun y s2 hy hn vs H2 Hf2 st2 e2 r2 => ?_
  exact q (x :: y) s2 hy (congrArg (· + 1) hn) (v :: vs) H2 Hf2 st2 (e1.trans e2) (.cons (r1.up e2.grow) r2)
theorem eo_lst {es : List Expr} {n : Nat} {M : (List α → S → Option R) → Option R} (h : AL X ι Δ s es n M E) (hn : n ≤ Line := by decide) : EO X ι Δ s (.List es pos) M E := by
  intro k r hk σ H Hf A Q st q
  refine tE_of (pe_lst (pA X es)) (h _ r hk σ H Hf A _ st fun x s1 hx hl vs H1 Hf1 st1 e1 r1 => ?_)
  have hvl : vs.length ≤ Line := by rw [r1.len, List.length_map, hl]; exact hn
  refine ⟨le_line hvl, fun l nl => ?_⟩
  have ex := Ext.newO (o := .lst vs) (Hf := Hf1) nl
  exact q _ s1 hx l vs _ Hf1 (st1.up ex (Sub.newO nl st1.sub)) (e1.trans ex.toA) upd_same hvl r1 (st1.sub.non nl) (none_back e1.there nl)
theorem ex_tupL {es : List Expr} {n x1 : Nat} {M : (List α → S → Option R) → Option R} (h : AL X ι Δ s es n M E) (hn : n ≤ Line := by decide) : EX X ι Δ s (.Tuple es x1 pos) M (Ty.tup E) := by
  intro k r hk σ H Hf A Q st q
  refine tE_of (pe_tup (pA X es)) (h _ r hk σ H Hf A _ st fun x s1 hx hl vs H1 Hf1 st1 e1 r1 => ?_)
  have hvl : vs.length ≤ Line := by rw [r1.len, List.length_map, hl]; exact hn
  refine ⟨le_line hvl, fun l nl => ?_⟩
  have ex := Ext.new (o := .tup vs) nl st1.sub
  exact q _ s1 hx _ _ _ (st1.up ex (Sub.new st1.sub)) (e1.trans ex.toA) (.tup (.inl (.inl upd_same)) hvl (r1.up ex.grow))
/-- an int's truth -/
theorem tx_int {Ma : (Int → S → Option R) → Option R} (ha : EX X ι Δ s a Ma Ty.int) (he : ∀ whole, isTrue a X.env whole = (do let v ← whole; standAt a.pos; holding [v] (truthy v)) := by intro _; rfl) :
    TX X ι Δ s a (fun k => Ma fun x s1 => k (!decide (x = 0)) s1) := by
  intro k r hk σ H Hf A Q st q
  refine tT_of (pt_truth (pE X a) he) (ha _ r hk σ H Hf A _ st fun x s1 hx v H1 Hf1 st1 e1 r1 => ?_)
  cases r1
  refine ⟨_, rfl, ?_⟩
  have : (x != 0) = !decide (x = 0) := by rw [bne, Bool.beq_eq_decide_eq]
  rw [this]
  exact q _ s1 hx H1 Hf1 st1 e1
/-! a op b op' c -/
section
variable {Ma : (Int → S → Option R) → Option R} {Mb Mc Md : S → (Int → S → Option R) → Option R} {op op' op'' : CmpOp} {g g' g'' : Int → Int → Bool} {d : Expr}
theorem EX.congrT {e : Expr} {M N : (Bool → S → Option R) → Option R} (h : TX X ι Δ s e M) (eq : ∀ k, N k = M k) : TX X ι Δ s e N := fun k r hk => h k r ((eq k).symm.trans hk)
theorem ex_chain (ho : OpR X (compareOp op) (rI0 fun i j => .bl (g i j))) (ho' : OpR X (compareOp op') (rI0 fun i j => .bl (g' i j)))
    (ha : EX X ι Δ s a Ma Ty.int) (hb : ∀ s1, EX X ι Δ s1 b (Mb s1) Ty.int) (hc : ∀ s1, EX X ι Δ s1 c (Mc s1) Ty.int) (hm : lastMarks [op, op'] [b, c] = false := by with_unfolding_all rfl) :
    EX X ι Δ s (.Compare a [op, op'] [b, c] pos) (fun k => Ma fun x s1 => Mb s1 fun y s2 => if g x y = true then Mc s2 fun z s3 => k (g' y z) s3 else k false s2) Ty.bool := by
  intro k r hk σ H Hf A Q st q
  refine tE_of (pe_chain ho ho' (pE X a) (pE X b) (pE X c) hm) ?_
  refine ha _ r hk σ H Hf A _ st fun x s1 hx v H1 Hf1 st1 e1 r1 => ?_
  refine hb s1 _ r hx σ H1 Hf1 A _ st1 fun y s2 hy v2 H2 Hf2 st2 e2 r2 => ?_
  cases r1
  cases r2
  refine ⟨x, y, rfl, rfl, g x y, rfl, ?_⟩
  cases hg : g x y with
  | false =>
    rw [hg, if_neg Bool.false_ne_true] at hy
    rw [if_neg Bool.false_ne_true]
    exact q false s2 hy _ H2 Hf2 st2 (e1.trans e2) (.bl _)
  | true =>
    rw [hg, if_pos rfl] at hy
    rw [if_pos rfl]
    refine hc s2 _ r hy σ H2 Hf2 A _ st2 fun z s3 hz v3 H3 Hf3 st3 e3 r3 => ?_
    cases r3
    exact ⟨y, z, rfl, rfl, q _ s3 hz _ H3 Hf3 st3 ((e1.trans e2).trans e3) (.bl _)⟩
theorem tx_chain (ho : OpR X (compareOp op) (rI0 fun i j => .bl (g i j))) (ho' : OpR X (compareOp op') (rI0 fun i j => .bl (g' i j)))
    (ha : EX X ι Δ s a Ma Ty.int) (hb : ∀ s1, EX X ι Δ s1 b (Mb s1) Ty.int) (hc : ∀ s1, EX X ι Δ s1 c (Mc s1) Ty.int) (hm : lastMarks [op, op'] [b, c] = false := by with_unfolding_all rfl) :
    TX X ι Δ s (.Compare a [op, op'] [b, c] pos) (fun k => Ma fun x s1 => Mb s1 fun y s2 => if g x y = true then Mc s2 fun z s3 => k (g' y z) s3 else k false s2) := by
  intro k r hk σ H Hf A Q st q
  refine tT_of (pt_chain ho ho' (pE X a) (pE X b) (pE X c) hm) ?_
  refine ha _ r hk σ H Hf A _ st fun x s1 hx v H1 Hf1 st1 e1 r1 => ?_
  refine hb s1 _ r hx σ H1 Hf1 A _ st1 fun y s2 hy v2 H2 Hf2 st2 e2 r2 => ?_
  cases r1
  cases r2
  refine ⟨x, y, rfl, rfl, g x y, rfl, ?_⟩
  cases hg : g x y with
  | false =>
    rw [hg, if_neg Bool.false_ne_true] at hy
    rw [if_neg Bool.false_ne_true]
    exact ⟨false, rfl, q false s2 hy H2 Hf2 st2 (e1.trans e2)⟩
  | true =>
    rw [hg, if_pos rfl] at hy
    rw [if_pos rfl]
    refine hc s2 _ r hy σ H2 Hf2 A _ st2 fun z s3 hz v3 H3 Hf3 st3 e3 r3 => ?_
    cases r3
    exact ⟨y, z, rfl, rfl, _, rfl, q _ s3 hz H3 Hf3 st3 ((e1.trans e2).trans e3)⟩
/-- .. where nothing fails and no state is touched -/
theorem ex_chainT {y z : Int} (ho : OpR X (compareOp op) (rI0 fun i j => .bl (g i j))) (ho' : OpR X (compareOp op') (rI0 fun i j => .bl (g' i j)))
    (ha : EX X ι Δ s a Ma Ty.int) (hb : ∀ s1, EX X ι Δ s1 b (R := R) (fun k => k y s1) Ty.int) (hc : ∀ s1, EX X ι Δ s1 c (R := R) (fun k => k z s1) Ty.int) (hm : lastMarks [op, op'] [b, c] = false := by with_unfolding_all rfl) :
    EX X ι Δ s (.Compare a [op, op'] [b, c] pos) (fun k => Ma fun x s1 => k (g x y && g' y z) s1) Ty.bool :=
  (ex_chain ho ho' ha hb hc hm).congr fun k => by refine congrArg Ma (funext fun x => funext fun s1 => ?_); show k (g x y && g' y z) s1 = (if g x y = true then k (g' y z) s1 else k false s1); cases g x y <;> rfl
theorem tx_chainT {y z : Int} (ho : OpR X (compareOp op) (rI0 fun i j => .bl (g i j))) (ho' : OpR X (compareOp op') (rI0 fun i j => .bl (g' i j)))
    (ha : EX X ι Δ s a Ma Ty.int) (hb : ∀ s1, EX X ι Δ s1 b (R := R) (fun k => k y s1) Ty.int) (hc : ∀ s1, EX X ι Δ s1 c (R := R) (fun k => k z s1) Ty.int) (hm : lastMarks [op, op'] [b, c] = false := by with_unfolding_all rfl) :
    TX X ι Δ s (.Compare a [op, op'] [b, c] pos) (fun k => Ma fun x s1 => k (g x y && g' y z) s1) :=
  EX.congrT (tx_chain ho ho' ha hb hc hm) fun k => by refine congrArg Ma (funext fun x => funext fun s1 => ?_); show k (g x y && g' y z) s1 = (if g x y = true then k (g' y z) s1 else k false s1); cases g x y <;> rfl
/-- a op b op' c op'' d -/
theorem pe_chain3 {r r' r'' : R2} {ta tb tc td : TE} (ho : OpR X (compareOp op) r) (ho' : OpR X (compareOp op') r') (ho'' : OpR X (compareOp op'') r'') (ha : PE X a ta) (hb : PE X b tb) (hc : PE X c tc) (hd : PE X d td)
    (hm : lastMarks [op, op', op''] [b, c, d] = false := by with_unfolding_all rfl) : PE X (.Compare a [op, op', op''] [b, c, d] pos) (fun σ H Q => ta σ H fun x H1 => tb σ H1 fun y H2 => r x y H2 fun z H3 => ∃ k, z = .bl k ∧
      (if k = true then tc σ H3 fun w' H4 => r' y w' H4 fun z2 H5 => ∃ k2, z2 = .bl k2 ∧ (if k2 = true then td σ H5 fun w2 H6 => r'' w' w2 H6 Q else Q (.bl false) H5) else Q (.bl false) H3)) := by
  refine ⟨fun pins s σ H Q I h => ?_⟩
  refine Compare_chain (thn (ha.run pins s σ H _ I h) fun v s1 ⟨x, H1, I1, r1, q1⟩ => chain_link (thn (hb.run pins s1 σ H1 _ I1 q1) fun u s2 ⟨y, H2, I2, r2, q2⟩ =>
    thn (ho pins s2 σ H2 x y v u _ I2 r1 r2 q2) fun d s3 ⟨z, H3, I3, r3, k, e, q3⟩ => ?_)) hm
  subst e
  cases r3
  refine wpAny_truthy_bool ?_
  cases k with
  | false => exact ite_ff ⟨.bl false, H3, I3, rfl, q3⟩
  | true =>
    refine ite_tt (chain_link (thn (hc.run pins s3 σ H3 _ I3 q3) fun w' s4 ⟨z', H4, I4, r4, q4⟩ => thn (ho' pins s4 σ H4 y z' u w' _ I4 r2 r4 q4) fun d' s5 ⟨z2, H5, I5, r5, k2, e2, q5⟩ => ?_))
    subst e2
    cases r5
    refine wpAny_truthy_bool ?_
    cases k2 with
    | false => exact ite_ff ⟨.bl false, H5, I5, rfl, q5⟩
    | true => exact ite_tt (chain_last (thn (hd.run pins s5 σ H5 _ I5 q5) fun w2 s6 ⟨z6, H6, I6, r6, q6⟩ => ho'' pins s6 σ H6 z' z6 w' w2 Q I6 r4 r6 q6))
theorem ex_chain3T {y z u : Int} (ho : OpR X (compareOp op) (rI0 fun i j => .bl (g i j))) (ho' : OpR X (compareOp op') (rI0 fun i j => .bl (g' i j))) (ho'' : OpR X (compareOp op'') (rI0 fun i j => .bl (g'' i j)))
    (ha : EX X ι Δ s a Ma Ty.int) (hb : ∀ s1, EX X ι Δ s1 b (R := R) (fun k => k y s1) Ty.int) (hc : ∀ s1, EX X ι Δ s1 c (R := R) (fun k => k z s1) Ty.int) (hd : ∀ s1, EX X ι Δ s1 d (R := R) (fun k => k u s1) Ty.int)
    (hm : lastMarks [op, op', op''] [b, c, d] = false := by with_unfolding_all rfl) : EX X ι Δ s (.Compare a [op, op', op''] [b, c, d] pos) (fun k => Ma fun x s1 => k (g x y && (g' y z && g'' z u)) s1) Ty.bool := by
  have gen : EX X ι Δ s (.Compare a [op, op', op''] [b, c, d] pos) (fun k => Ma fun x s1 => if g x y = true then (if g' y z = true then k (g'' z u) s1 else k false s1) else k false s1) Ty.bool := by
    intro k r hk σ H Hf A Q st q
    refine tE_of (pe_chain3 ho ho' ho'' (pE X a) (pE X b) (pE X c) (pE X d) hm) ?_
    refine ha _ r hk σ H Hf A _ st fun x s1 hx v H1 Hf1 st1 e1 r1 => ?_
    cases r1
    refine hb s1 (fun y' s2 => if g x y' = true then (if g' y' z = true then k (g'' z u) s2 else k false s2) else k false s2) r hx σ H1 Hf1 A _ st1 fun y' s2 hy v2 H2 Hf2 st2 e2 r2 => ?_
    cases r2
    refine ⟨x, y', rfl, rfl, g x y', rfl, ?_⟩
    cases hg : g x y' with
    | false =>
      rw [hg, if_neg Bool.false_ne_true] at hy
      rw [if_neg Bool.false_ne_true]
      exact q false s2 hy _ H2 Hf2 st2 (e1.trans e2) (.bl _)
    | true =>
      rw [hg, if_pos rfl] at hy
      rw [if_pos rfl]
      refine hc s2 (fun z' s3 => if g' y' z' = true then k (g'' z' u) s3 else k false s3) r hy σ H2 Hf2 A _ st2 fun z' s3 hz v3 H3 Hf3 st3 e3 r3 => ?_
      cases r3
      refine ⟨y', z', rfl, rfl, g' y' z', rfl, ?_⟩
      cases hg' : g' y' z' with
      | false =>
        rw [hg', if_neg Bool.false_ne_true] at hz
        rw [if_neg Bool.false_ne_true]
        exact q false s3 hz _ H3 Hf3 st3 ((e1.trans e2).trans e3) (.bl _)
      | true =>
        rw [hg', if_pos rfl] at hz
        rw [if_pos rfl]
        refine hd s3 (fun u' s4 => k (g'' z' u') s4) r hz σ H3 Hf3 A _ st3 fun u' s4 hu v4 H4 Hf4 st4 e4 r4 => ?_
        cases r4
        exact ⟨z', u', rfl, rfl, q _ s4 hu _ H4 Hf4 st4 (((e1.trans e2).trans e3).trans e4) (.bl _)⟩
  exact gen.congr fun k => by refine congrArg Ma (funext fun x => funext fun s1 => ?_); show k (g x y && (g' y z && g'' z u)) s1 = (if g x y = true then (if g' y z = true then k (g'' z u) s1 else k false s1) else k false s1); cases g x y <;> cases g' y z <;> rfl
end
/-! ### statements, further -/
section
variable {out : R → Out S} {rest : List Stmt} {pos' : Pos} {tg : Expr}
/-- with the value named -/
theorem bx_setL (i : Nat) {x : Str} {M : (α → S → Option R) → Option R} {kk : α → S → Option R} (hN : X.N.Nodup) (h : EX X ι Δ s e M E)
    (q : ∀ a s', BX X ι (iv i E a :: Δ) s' rest (kk a s') out) (hi : X.N[i]? = some x := by rfl) (hx : Loc X.env.scope x := by first | exact Or.inl rfl | exact Or.inr rfl)
    (hs : swapsWith e (some (.Name x pos')) pos.line X.env = pure false := by rfl) (hf : X.fn x = true ∨ X.env.scope.names.lookup x = some .local := by first | exact .inl rfl | exact .inr rfl) (hix : i ∉ ι.ix := by decide) :
    BX X ι Δ s (.Assign [.Name x pos'] e pos :: rest) (M fun a s' => letM a fun a => kk a s') out := bx_set i hN h q hi hx hs hf hix
theorem bx_setOL (i : Nat) {x : Str} {M : (List α → S → Option R) → Option R} {kk : List α → S → Option R} (hN : X.N.Nodup) (h : EO X ι Δ s e M E)
    (q : ∀ a s', BX X ι (ov i E a :: Δ) s' rest (kk a s') out) (hi : X.N[i]? = some x := by rfl) (hx : Loc X.env.scope x := by first | exact Or.inl rfl | exact Or.inr rfl)
    (hs : swapsWith e (some (.Name x pos')) pos.line X.env = pure false := by rfl) (hf : X.fn x = true ∨ X.env.scope.names.lookup x = some .local := by first | exact .inl rfl | exact .inr rfl) (hix : i ∉ ι.ix := by decide) :
    BX X ι Δ s (.Assign [.Name x pos'] e pos :: rest) (M fun a s' => letM a fun a => kk a s') out := bx_setO i hN h q hi hx hs hf hix
theorem bx_setLcL (i : Nat) {x : Str} {elt tg iter : Expr} {ifs : List Expr} {scope : Scope} {own : List (Str × Nat)} {p2 : Pos} {M : (List α → S → Option R) → Option R} {kk : List α → S → Option R} (h : LO X ι Δ s elt tg iter ifs scope own M E)
    (q : ∀ a s', BX X ι (iv i (Ty.lst E) a :: Δ) s' rest (kk a s') out) (hi : X.N[i]? = some x := by rfl) (hyl : X.env.scope.names.lookup x = some .local := by rfl)
    (hsw : swapsWith (.ListComp elt [⟨tg, iter, ifs, 0⟩] scope p2) (some (.Name x pos')) pos.line X.env = pure true := by exact sw_true rfl rfl rfl (by decide +kernel)) (hix : i ∉ ι.ix := by decide) :
    BX X ι Δ s (.Assign [.Name x pos'] (.ListComp elt [⟨tg, iter, ifs, 0⟩] scope p2) pos :: rest) (M fun a s' => letM a fun a => kk a s') out := bx_setLc i h q hi hyl hsw hix
theorem bx_setLcOL (i : Nat) {x : Str} {elt tg iter : Expr} {ifs : List Expr} {scope : Scope} {own : List (Str × Nat)} {p2 : Pos} {M : (List α → S → Option R) → Option R} {kk : List α → S → Option R} (h : LO X ι Δ s elt tg iter ifs scope own M E)
    (q : ∀ a s', BX X ι (ov i E a :: Δ) s' rest (kk a s') out) (hi : X.N[i]? = some x := by rfl) (hyl : X.env.scope.names.lookup x = some .local := by rfl)
    (hsw : swapsWith (.ListComp elt [⟨tg, iter, ifs, 0⟩] scope p2) (some (.Name x pos')) pos.line X.env = pure true := by exact sw_true rfl rfl rfl (by decide +kernel)) (hix : i ∉ ι.ix := by decide) :
    BX X ι Δ s (.Assign [.Name x pos'] (.ListComp elt [⟨tg, iter, ifs, 0⟩] scope p2) pos :: rest) (M fun a s' => letM a fun a => kk a s') out := bx_setLcO i h q hi hyl hsw hix
/-- a, b, .. = e -/
theorem bx_unp {M : (α → S → Option R) → Option R} {ixs : List Nat} {b : α → Dl} {kk : α → S → Option R} (h : EX X ι Δ s e M E) (hg : GX X ι tg ixs b E)
    (q : ∀ x s', BX X ι (b x ++ Δ) s' rest (kk x s') out) (hx : ∀ i ∈ ixs, i ∉ ι.ix := by decide) (hs : swapsWithSole [tg] e pos.line X.env = pure false := by rfl) (hw : swappedStores [tg] e X.env = pure none := by rfl)
    (h1 : (assignEach [tg] X.env).map (·.2) = [assign tg X.env] := by rfl) : BX X ι Δ s (.Assign [tg] e pos :: rest) (M fun a s' => letM a fun a => kk a s') out := by
  intro r hr σ H Hf A Dn st p
  refine tS_cons (ps_asg (pE X e) (pG X tg) hs hw h1) (h _ r hr σ H Hf A _ st fun x s' hx' v H' Hf' st' e' r' => ?_)
  refine hg x v σ H' Hf' Δ A s' _ st' r' fun σ2 st2 o2 => ?_
  exact q x s' r hx' σ2 H' Hf' _ Dn st2 (p.step ((e'.stp ι.ix σ).trans (stp_cutL hx o2)))
/-- a, b = x, y: plain local names -/
theorem bx_par {i j : Nat} {x y : Str} {es1 es2 : Expr} {px py pt : Pos} {kt k2 : Nat} {pt2 : Pos} {M : (α × β → S → Option R) → Option R} {kk : α × β → S → Option R} (hN : X.N.Nodup) (h : AX X ι Δ s [es1, es2] M (fun p => [E p.1, F p.2]))
    (q : ∀ a s', BX X ι (iv j F a.2 :: iv i E a.1 :: Δ) s' rest (kk a s') out) (hc : X.calm = true := by rfl) (hi : X.N[i]? = some x := by rfl) (hj : X.N[j]? = some y := by rfl) (hij : i ≠ j := by decide)
    (hx : X.env.scope.names.lookup x = some .local := by rfl) (hy : X.env.scope.names.lookup y = some .local := by rfl) (hix : i ∉ ι.ix := by decide) (hjx : j ∉ ι.ix := by decide)
    (hw : swappedStores [.Tuple [.Name x px, .Name y py] kt pt] (.Tuple [es1, es2] k2 pt2) X.env = pure (some [x, y]) := by rfl)
    (hs : swapsWithSole [.Tuple [.Name x px, .Name y py] kt pt] (.Tuple [es1, es2] k2 pt2) pos.line X.env = pure false := by rfl) :
    BX X ι Δ s (.Assign [.Tuple [.Name x px, .Name y py] kt pt] (.Tuple [es1, es2] k2 pt2) pos :: rest) (M fun a s' => letM a fun a => kk a s') out := by
  intro r hr σ H Hf A Dn st p
  refine tS_inv fun pins sh I => tS_cons (ps_par hc hN hi hj hij hx hy (pA X _) hw hs) (h _ r hr σ H Hf A _ st fun a s' ha vs H' Hf' st' e' r' => ?_)
  obtain ⟨v, w, rfl, rv, rw'⟩ := two_args r'
  have hlen : i < σ.length := by rw [I.len]; exact (List.getElem?_eq_some_iff.mp hi).1
  have hlen2 : j < (σ.set i (some v)).length := by rw [List.length_set, I.len]; exact (List.getElem?_eq_some_iff.mp hj).1
  have st1 := st'.imm (P := ι.tr s') hlen (by rw [ι.keys]; exact hix) rv
  have st2 := st1.imm (P := ι.tr s') hlen2 (by rw [ι.keys]; exact hjx) rw'
  exact ⟨v, w, rfl, q a s' r ha _ H' Hf' _ Dn st2 (p.step (((e'.stp ι.ix σ).trans (stp_cut hix)).trans (stp_cut hjx)))⟩
theorem bx_brk {w : R} {Δ' : Dl} (ho : out w = .brk Δ' s) (hle : Le Δ' Δ) : BX X ι Δ s (.Break pos :: rest) (some w) out := by
  intro r hr σ H Hf A Dn st p
  cases hr
  rw [ho] at p
  exact tS_of (pss_cons ps_break (pS X rest)) (p σ H Hf A (st.weak hle.app) (Stp.refl _ _ _ _ _))
theorem bx_cont {w : R} {Δ' : Dl} (ho : out w = .cont Δ' s) (hle : Le Δ' Δ) : BX X ι Δ s (.Continue pos :: rest) (some w) out := by
  intro r hr σ H Hf A Dn st p
  cases hr
  rw [ho] at p
  exact tS_of (pss_cons ps_continue (pS X rest)) (p σ H Hf A (st.weak hle.app) (Stp.refl _ _ _ _ _))
theorem bx_pass {m : Option R} (h : BX X ι Δ s rest m out) : BX X ι Δ s (.Pass pos :: rest) m out := fun r hr σ H Hf A Dn st p => tS_cons ps_pass (h r hr σ H Hf A Dn st p)
/-- how a body's ways out are told -/
@[reducible] def outF {W Rr : Type} (Δw : W → Dl) (sw : W → S) (rd : Rr → D) (rs : Rr → S) : Fl W Rr → Out S
  | .next w => .next (Δw w) (sw w)
  | .cont w => .cont (Δw w) (sw w)
  | .brk w => .brk (Δw w) (sw w)
  | .ret r => .ret (rd r) (rs r)
/-- what follows a loop that may be left by a return -/
def flK {W Rr : Type} (K : W → Option R) (kr : Rr → R) : Fl W Rr → Option R
  | .next w => K w
  | .cont w => K w
  | .brk w => K w
  | .ret r => some (kr r)
/-- for, with a body that may be left -/
theorem bx_forE {W Rr : Type} (Δw : W → Dl) (sw : W → S) (rd : Rr → D) (rs : Rr → S) {iter : Expr} {body : List Stmt} {w0 : S → W} {Mi : (List α → S → Option R) → Option R} {ixs : List Nat} {b : α → Dl} {f : W → α → Option (Fl W Rr)} {K : W → Option R} {kr : Rr → R}
    (hi : IX X ι Δ s tg iter Mi E) (hg : GX X ι tg ixs b E) (h0 : ∀ s1, sw (w0 s1) = s1) (h0' : ∀ s1, Le (Δw (w0 s1)) Δ)
    (hb : ∀ w x, BX X ι (b x ++ Δw w) (sw w) body (f w x) (outF Δw sw rd rs))
    (hk : ∀ w, BX X ι (Δw w) (sw w) rest (K w) out) (hr : ∀ r, out (kr r) = .ret (rd r) (rs r)) (hp : PassesOwn (model X.prog X.w) X.A X.env X.xe := by exact PassesOwn.never) (hc : X.calm = true := by rfl)
    (hs : ∀ x, foldedSetIterable iter X.env x = pure x := by intro _; rfl) (hx : ∀ i ∈ ixs, i ∉ ι.ix := by decide) :
    BX X ι Δ s (.For tg iter body [] pos :: rest) (Mi fun xs s1 => (forE f xs (w0 s1)).bind (flK K kr)) out := by
  intro r hr' σ H Hf A Dn st p
  refine tS_cons (ps_for hp hc (pI X tg iter) (pG X tg) (pS X body) hs) (hi _ r hr' σ H Hf A _ st fun xs s1 hx1 J H1 Hf1 st1 e1 wk => ?_)
  obtain ⟨o, hf, hK⟩ := bind_some hx1
  refine ⟨fun i m σ' H' => m = xs.length - i ∧ i ≤ xs.length ∧ ∃ w Hf' A', Sat X.K σ' H' Hf' (ι.tr (sw w) ++ Δw w) A' ∧ Stp ι.ix σ A H Hf σ' A' H' Hf' ∧ Sub Hf1 Hf' ∧ forE f (xs.drop i) w = some o,
    ⟨xs.length, by simp, Nat.zero_le _, w0 s1, Hf1, A, by rw [h0]; exact st1.weak (h0' s1).app, e1.stp _ _, Sub.refl _, hf⟩, ?_⟩
  rintro i m σ' H' ⟨rfl, hi', w, Hf', A', st', sp, sb, hw⟩
  by_cases hlt : i < xs.length
  · have hd : xs.drop i = xs[i] :: xs.drop (i + 1) := List.drop_eq_getElem_cons hlt
    rw [hd] at hw
    obtain ⟨o1, hw1, hw2⟩ := bind_some (show (f w xs[i]).bind _ = some o from hw)
    refine .inr ⟨wk.go i H' Hf' sb st'.sub hlt, fun σ2 H2 => ∃ w1 Hf2 A2, Sat X.K σ2 H2 Hf2 (ι.tr (sw w1) ++ Δw w1) A2 ∧ Stp ι.ix σ A H Hf σ2 A2 H2 Hf2 ∧ Sub Hf1 Hf2 ∧ forE f (xs.drop (i + 1)) w1 = some o,
      fun σ2 H2 ⟨w1, Hf2, A2, q1, q2, q3, q4⟩ => ⟨xs.length - (i + 1), by omega, rfl, hlt, w1, Hf2, A2, q1, q2, q3, q4⟩, fun v H2 hy => ?_⟩
    obtain ⟨Hf2, e2, sb2, rv⟩ := wk.yld i xs[i] v H' H2 Hf' sb st'.sub (List.getElem?_eq_getElem hlt) hy
    have st2 := st'.up e2 sb2
    refine hg xs[i] v σ' H2 Hf2 _ A' (sw w) _ st2 rv fun σ3 st3 o3 => ?_
    have sp3 : Stp ι.ix σ A H Hf σ3 (cutL A' ixs) H2 Hf2 := (sp.trans ((e2.toA (ix := ι.ix)).stp _ _)).trans (stp_cutL hx o3)
    refine hb w xs[i] o1 hw1 σ3 H2 Hf2 _ _ st3 ?_
    have sbg : Sub Hf1 Hf2 := sb.trans e2.grow
    cases o1 with
    | next w1 => exact fun σ4 H4 Hf4 A4 q1 q2 => ⟨w1, Hf4, A4, q1, sp3.trans q2, sbg.trans q2.grow, hw2⟩
    | cont w1 => exact fun σ4 H4 Hf4 A4 q1 q2 => ⟨w1, Hf4, A4, q1, sp3.trans q2, sbg.trans q2.grow, hw2⟩
    | brk w1 =>
      have eo : Fl.next w1 = o := Option.some.inj hw2
      subst eo
      exact fun σ4 H4 Hf4 A4 q1 q2 => hk w1 r hK σ4 H4 Hf4 A4 Dn q1 (p.step (sp3.trans q2))
    | ret r1 =>
      have eo : Fl.ret r1 = o := Option.some.inj hw2
      subst eo
      have er : kr r1 = r := Option.some.inj hK
      subst er
      rw [hr] at p
      exact fun v σ4 H4 Hf4 A4 q1 q2 q3 => p v σ4 H4 Hf4 A4 q1 (sp3.trans q2) q3
  · have ei : i = xs.length := by omega
    subst ei
    rw [List.drop_length] at hw
    have eo : Fl.next w = o := Option.some.inj hw
    subst eo
    exact .inl ⟨wk.stop _ H' Hf' sb st'.sub (Nat.le_refl _), hk w r hK σ' H' Hf' A' Dn st' (p.step sp)⟩
/-- the first way does not fall through; it ends as P tells -/
theorem bx_ifX {P : Type} (emb : P → R) {A : List Stmt} {Mc : (Bool → S → Option R) → Option R} {mA : S → Option P} {mB : S → Option R} (hc : TX X ι Δ s c Mc) (hA : ∀ s1, BX X ι Δ s1 A (mA s1) (fun p => out (emb p))) (hB : ∀ s1, BX X ι Δ s1 rest (mB s1) out)
    (hn : ∀ p Δ' s', out (emb p) ≠ .next Δ' s' := by intro p _ _ h; cases p <;> nomatch h) : BX X ι Δ s (.If c A [] pos :: rest) (Mc fun z s1 => if z = true then (mA s1).map emb else mB s1) out := by
  intro r hr σ H Hf As Dn st p
  refine tS_cons (ps_if (pT X c) (pS X A) (pS X [])) (hc _ r hr σ H Hf As _ st fun z s1 hz H1 Hf1 st1 e1 => ?_)
  cases z with
  | true =>
    rw [if_pos rfl] at hz ⊢
    cases hm : mA s1 with
    | none => rw [hm] at hz; cases hz
    | some x =>
      rw [hm] at hz
      have er : emb x = r := Option.some.inj hz
      subst er
      refine hA s1 x hm σ H1 Hf1 As _ st1 ?_
      have p' := p.step (e1.stp ι.ix σ)
      show Post X.K ι σ As H1 Hf1 _ (out (emb x))
      cases ho : out (emb x) with
      | next Δ' s' => exact absurd ho (hn x Δ' s')
      | ret d s' => rw [ho] at p'; exact p'
      | brk Δ' s' => rw [ho] at p'; exact p'
      | cont Δ' s' => rw [ho] at p'; exact p'
  | false =>
    rw [if_neg Bool.false_ne_true] at hz ⊢
    exact tS_of pss_nil (hB s1 r hz σ H1 Hf1 As Dn st1 (p.step (e1.stp _ _)))
/-- either way may fall through, or end as P tells -/
inductive Jn (W P : Type) where
  | go (w : W)
  | ex (p : P)
@[reducible] def outJ {W P : Type} (Δw : W → Dl) (sw : W → S) (o : P → Out S) : Jn W P → Out S
  | .go w => .next (Δw w) (sw w)
  | .ex p => o p
def jnK {P W : Type} (K : W → Option R) (emb : P → R) : Jn W P → Option R
  | .go w => K w
  | .ex p => some (emb p)
theorem bx_ifJ {P W : Type} (emb : P → R) (Δw : W → Dl) (sw : W → S) {A B : List Stmt} {Mc : (Bool → S → Option R) → Option R} {mA mB : S → Option (Jn W P)} {K : W → Option R} (hc : TX X ι Δ s c Mc)
    (hA : ∀ s1, BX X ι Δ s1 A (mA s1) (outJ Δw sw fun p => out (emb p))) (hB : ∀ s1, BX X ι Δ s1 B (mB s1) (outJ Δw sw fun p => out (emb p))) (hK : ∀ w, BX X ι (Δw w) (sw w) rest (K w) out)
    (hn : ∀ p Δ' s', out (emb p) ≠ .next Δ' s' := by intro p _ _ h; cases p <;> nomatch h) :
    BX X ι Δ s (.If c A B pos :: rest) (Mc fun z s1 => (if z = true then mA s1 else mB s1).bind (jnK K emb)) out := by
  intro r hr σ H Hf As Dn st p
  refine tS_cons (ps_if (pT X c) (pS X A) (pS X B)) (hc _ r hr σ H Hf As _ st fun z s1 hz H1 Hf1 st1 e1 => ?_)
  obtain ⟨o, h1, h2⟩ := bind_some hz
  have p' := p.step (e1.stp ι.ix σ)
  have fin : Post X.K ι σ As H1 Hf1 { Dn with nx := fun σ' H' => tS X rest Dn σ' H' } (outJ Δw sw (fun p => out (emb p)) o) := by
    cases o with
    | go w => exact fun σ2 H2 Hf2 A2 q1 q2 => hK w r h2 σ2 H2 Hf2 A2 Dn q1 (p'.step q2)
    | ex x =>
      have er : emb x = r := Option.some.inj h2
      subst er
      show Post X.K ι σ As H1 Hf1 _ (out (emb x))
      cases ho : out (emb x) with
      | next Δ' s' => exact absurd ho (hn x Δ' s')
      | ret d s' => rw [ho] at p'; exact p'
      | brk Δ' s' => rw [ho] at p'; exact p'
      | cont Δ' s' => rw [ho] at p'; exact p'
  cases z with
  | true =>
    rw [if_pos rfl] at h1 ⊢
    exact hA s1 o h1 σ H1 Hf1 As _ st1 fin
  | false =>
    rw [if_neg Bool.false_ne_true] at h1 ⊢
    exact hB s1 o h1 σ H1 Hf1 As _ st1 fin
/-! while -/
def iterW {W Rr : Type} (f : W → Option (Fl W Rr)) : Nat → W → Option (Fl W Rr)
  | 0, _ => none
  | n + 1, w => (f w).bind fun o => match o with
    | .next w' => iterW f n w'
    | .cont w' => iterW f n w'
    | .brk w' => some (.next w')
    | .ret r => some (.ret r)
theorem iterW_mono {W Rr : Type} {f : W → Option (Fl W Rr)} : ∀ {n : Nat} {w : W} {o : Fl W Rr}, iterW f n w = some o → ∀ m, n ≤ m → iterW f m w = some o
  | 0, w, o, h, _, _ => by cases h
  | n + 1, w, o, h, m, hm => by
    obtain ⟨m', rfl⟩ : ∃ m', m = m' + 1 := ⟨m - 1, by omega⟩
    obtain ⟨x, h1, h2⟩ := bind_some (show (f w).bind _ = some o from h)
    show (f w).bind _ = some o
    rw [h1]
    cases x with
    | next w' => exact iterW_mono (n := n) h2 m' (by omega)
    | cont w' => exact iterW_mono (n := n) h2 m' (by omega)
    | brk w' => exact h2
    | ret r => exact h2
open Classical in
/-- a while loop: f tells one turn, .brk where its test is false -/
noncomputable def whileM {W Rr : Type} (f : W → Option (Fl W Rr)) (w : W) : Option (Fl W Rr) := if h : ∃ n, (iterW f n w).isSome = true then iterW f h.choose w else none
theorem whileM_iter {W Rr : Type} {f : W → Option (Fl W Rr)} {w : W} {o : Fl W Rr} (h : whileM f w = some o) : ∃ n, iterW f n w = some o := by
  unfold whileM at h
  split at h
  · exact ⟨_, h⟩
  · cases h
theorem whileM_of {W Rr : Type} {f : W → Option (Fl W Rr)} {w : W} {o : Fl W Rr} {n : Nat} (h : iterW f n w = some o) : whileM f w = some o := by
  unfold whileM
  have ex : ∃ n, (iterW f n w).isSome = true := ⟨n, by rw [h]; rfl⟩
  rw [dif_pos ex]
  obtain ⟨o', ho⟩ := Option.isSome_iff_exists.mp ex.choose_spec
  have h1 := iterW_mono h (max n ex.choose) (Nat.le_max_left _ _)
  have h2 := iterW_mono ho (max n ex.choose) (Nat.le_max_right _ _)
  rw [h1] at h2
  rw [ho]; exact h2.symm
theorem bx_while {W Rr : Type} (Δw : W → Dl) (sw : W → S) (rd : Rr → D) (rs : Rr → S) (ws : W → S → W) {body : List Stmt} {w0 : W} {Mc : W → (Bool → S → Option (Fl W Rr)) → Option (Fl W Rr)} {mb : W → S → Option (Fl W Rr)} {K : W → Option R} {kr : Rr → R}
    (h0 : sw w0 = s) (h0' : Le (Δw w0) Δ) (hs1 : ∀ w s1, Δw (ws w s1) = Δw w) (hs2 : ∀ w s1, sw (ws w s1) = s1)
    (hc : ∀ w, TX X ι (Δw w) (sw w) c (Mc w)) (hb : ∀ w s1, BX X ι (Δw w) s1 body (mb w s1) (outF Δw sw rd rs))
    (hk : ∀ w, BX X ι (Δw w) (sw w) rest (K w) out) (hr : ∀ r, out (kr r) = .ret (rd r) (rs r)) (hp : PassesOwn (model X.prog X.w) X.A X.env X.xe := by exact PassesOwn.never) :
    BX X ι Δ s (.While c body [] pos :: rest) ((whileM (fun w => Mc w fun z s1 => if z = true then mb w s1 else some (.brk (ws w s1))) w0).bind (flK K kr)) out := by
  intro r hr' σ H Hf A Dn st p
  obtain ⟨o, hf, hK⟩ := bind_some hr'
  obtain ⟨n, hn⟩ := whileM_iter hf
  refine tS_cons (ps_while hp (pT X c) (pS X body)) ?_
  refine ⟨fun m σ' H' => ∃ w Hf' A', Sat X.K σ' H' Hf' (ι.tr (sw w) ++ Δw w) A' ∧ Stp ι.ix σ A H Hf σ' A' H' Hf' ∧ iterW (fun w => Mc w fun z s1 => if z = true then mb w s1 else some (.brk (ws w s1))) m w = some o,
    ⟨n, w0, Hf, A, by rw [h0]; exact st.weak h0'.app, Stp.refl _ _ _ _ _, hn⟩, ?_⟩
  rintro m σ' H' ⟨w, Hf', A', st', sp, hit⟩
  cases m with
  | zero => cases hit
  | succ m =>
    obtain ⟨o1, h1, h2⟩ := bind_some (show (Mc w _).bind _ = some o from hit)
    refine hc w _ o1 h1 σ' H' Hf' A' _ st' fun z s1 hz H1 Hf1 st1 e1 => ?_
    have sp1 := sp.trans (e1.stp ι.ix σ')
    cases z with
    | false =>
      rw [if_neg Bool.false_ne_true] at hz ⊢
      have eo : Fl.brk (ws w s1) = o1 := Option.some.inj hz
      subst eo
      have eo2 : Fl.next (ws w s1) = o := Option.some.inj h2
      subst eo2
      exact hk (ws w s1) r hK σ' H1 Hf1 A' Dn (by rw [hs1, hs2]; exact st1) (p.step sp1)
    | true =>
      rw [if_pos rfl] at hz ⊢
      refine ⟨fun σ2 H2 => ∃ w1 Hf2 A2, Sat X.K σ2 H2 Hf2 (ι.tr (sw w1) ++ Δw w1) A2 ∧ Stp ι.ix σ A H Hf σ2 A2 H2 Hf2 ∧ iterW (fun w => Mc w fun z s1 => if z = true then mb w s1 else some (.brk (ws w s1))) m w1 = some o,
        fun σ2 H2 ⟨w1, Hf2, A2, q1, q2, q3⟩ => ⟨m, Nat.lt_succ_self m, w1, Hf2, A2, q1, q2, q3⟩, ?_⟩
      refine hb w s1 o1 hz σ' H1 Hf1 A' _ st1 ?_
      cases o1 with
      | next w1 => exact fun σ4 H4 Hf4 A4 q1 q2 => ⟨w1, Hf4, A4, q1, sp1.trans q2, h2⟩
      | cont w1 => exact fun σ4 H4 Hf4 A4 q1 q2 => ⟨w1, Hf4, A4, q1, sp1.trans q2, h2⟩
      | brk w1 =>
        have eo : Fl.next w1 = o := Option.some.inj h2
        subst eo
        exact fun σ4 H4 Hf4 A4 q1 q2 => hk w1 r hK σ4 H4 Hf4 A4 Dn q1 (p.step (sp1.trans q2))
      | ret r1 =>
        have eo : Fl.ret r1 = o := Option.some.inj h2
        subst eo
        have er : kr r1 = r := Option.some.inj hK
        subst er
        rw [hr] at p
        exact fun v σ4 H4 Hf4 A4 q1 q2 q3 => p v σ4 H4 Hf4 A4 q1 (sp1.trans q2) q3
end
end
end Ab
namespace Ab
open PySem PySem.Spec PyProof.Rows L2
/-! ### a list of one's own is not written any more -/
theorem Sat.thaw {K : KF} {σ : L2.St} {H Hf : Hp} {P Δ : Dl} {A : Nat → List Addr} {i : Nat} {l : Addr} {vs : List V} {ds : List D} (st : Sat K σ H Hf (P ++ Δ) A) (hP : i ∉ P.map (·.1)) (hA : A i = [l]) (hσ : σ[i]? = some (some (.ref l)))
    (hl : H l = some (.lst vs)) (hz : vs.length ≤ Line) (ra : RpAll K Hf vs ds) : Sat K σ H (upd Hf l (.lst vs)) (P ++ (i, some (.imm (.list ds))) :: Δ) (cut A i []) := by
  have hn : Hf l = none := (st.own i l (by rw [hA]; simp)).1
  have gr : Sub Hf (upd Hf l (.lst vs)) := fun b u h => by rw [upd_ne (ne_of_none h hn)]; exact h
  have hin : ∀ j a, a ∈ cut A i [] j → a ∈ A j ∧ j ≠ i := fun j a h => by
    by_cases z : j = i
    · subst z; rw [cut_self] at h; simp at h
    · rw [cut_ne z] at h; exact ⟨h, z⟩
  refine ⟨fun a u h => ?_, fun j T h => ?_, fun j a h => ?_, fun j k a h1 h2 => st.inj j k a (hin j a h1).1 (hin k a h2).1⟩
  · by_cases q : a = l
    · subst q; rw [upd_same] at h; rw [hl]; exact h
    · rw [upd_ne q] at h; exact st.sub a u h
  · by_cases z : j = i
    · subst z
      rw [lk_append_out hP, lk_self] at h
      cases h
      exact ⟨_, hσ, by rw [cut_self], .lst (.inl upd_same) hz (ra.up gr)⟩
    · have h' : lk (P ++ Δ) j = some T := by
        by_cases m : j ∈ P.map (·.1)
        · rw [lk_append_in (Δ' := Δ) m] at h; exact h
        · rw [lk_append_out m] at h ⊢; rw [lk_ne z] at h; exact h
      obtain ⟨v, h1, h2⟩ := st.slot j T h'
      rw [cut_ne z]
      exact ⟨v, h1, h2.up gr fun a _ u q => q⟩
  · obtain ⟨m, z⟩ := hin j a h
    obtain ⟨n1, n2⟩ := st.own j a m
    refine ⟨?_, n2⟩
    by_cases q : a = l
    · subst q; exact absurd (st.inj j i a m (by rw [hA]; simp)) z
    · rw [upd_ne q]; exact n1
section
variable {X : Cx} {S : Type} {ι : Io S} {Δ : Dl} {s : S} {R : Type} {out : R → Out S} {st : List Stmt} {m : Option R} {pos : Pos}
variable {α β γ : Type} {E : α → D} {F : β → D}
theorem bx_freeze (i : Nat) {l : List α} (hl : lk (ι.tr s ++ Δ) i = some (.lst (l.map E))) (h : BX X ι (iv i (Ty.lst E) l :: Δ) s st m out) (hix : i ∉ ι.ix := by decide) : BX X ι Δ s st m out := by
  intro r hr σ H Hf A Dn sat p
  obtain ⟨a, vs, h1, h2, h3, h4, h5⟩ := sat.lstAt hl
  have hn : Hf a = none := (sat.own i a (by rw [h2]; simp)).1
  have gr : Sub Hf (upd Hf a (.lst vs)) := fun b u h => by rw [upd_ne (ne_of_none h hn)]; exact h
  have st2 := sat.thaw (P := ι.tr s) (by rw [ι.keys]; exact hix) h2 h1 h3 h4 h5
  refine h r hr σ H _ _ Dn st2 (p.step ⟨fun _ _ => rfl, fun _ _ _ h => h, fun _ h => h, gr, fun b hb => ?_, fun j b hb => ?_, fun j hj => cut_ne (ne_mem hj hix)⟩)
  · by_cases z : b = a
    · subst z; exact .inr (.inr ⟨i, hix, by rw [h2]; simp⟩)
    · rw [upd_ne z] at hb; exact .inl hb
  · by_cases z : j = i
    · subst z; rw [cut_self] at hb; simp at hb
    · rw [cut_ne z] at hb; exact .inl ⟨j, hb, fun _ => rfl⟩
/-! maybe something -/
theorem ex_some {e : Expr} {M : (α → S → Option R) → Option R} (h : EX X ι Δ s e M E) : EX X ι Δ s e (fun k => M fun x s1 => k (some x) s1) (Ty.opt E) := fun k r hk σ H Hf A Q st q => h _ r hk σ H Hf A Q st fun x s1 hx v H1 Hf1 st1 e1 r1 => q (some x) s1 hx v H1 Hf1 st1 e1 r1
theorem ex_non {e : Expr} {M : (Unit → S → Option R) → Option R} (h : EX X ι Δ s e M Ty.none) : EX X ι Δ s e (fun k => M fun _ s1 => k none s1) (Ty.opt E) := fun k r hk σ H Hf A Q st q => h _ r hk σ H Hf A Q st fun x s1 hx v H1 Hf1 st1 e1 r1 => q none s1 hx v H1 Hf1 st1 e1 r1
end
/-! ### a list of one's own, read where nothing of it stays -/
mutual
/-- data without lists -/
def flatD : D → Bool
  | .none => true
  | .bool _ => true
  | .int _ => true
  | .str _ => true
  | .list _ => false
  | .tuple ds => flatDs ds
  | .dict _ => false
def flatDs : List D → Bool
  | [] => true
  | d :: ds => flatD d && flatDs ds
end
def off (H : Hp) (l : Addr) : Hp := fun a => if a = l then none else H a
theorem off_ne {H : Hp} {a l : Addr} (h : a ≠ l) : off H l a = H a := if_neg h
theorem off_same {H : Hp} {l : Addr} : off H l l = none := if_pos rfl
theorem tup_off {K : KF} {H : Hp} {l a : Addr} {vs xs : List V} (hl : H l = some (.lst vs)) (h : SqT K H a xs) : SqT K (off H l) a xs := by
  rcases h with (h | ⟨o, h⟩) | h
  · exact .inl (.inl (by rw [off_ne (fun z => by rw [z, hl] at h; cases h)]; exact h))
  · exact .inl (.inr ⟨o, by rw [off_ne (fun z => by rw [z, hl] at h; cases h)]; exact h⟩)
  · exact .inr h
mutual
theorem Rp.off' {K : KF} {H : Hp} {l : Addr} {vs : List V} (hl : H l = some (.lst vs)) : ∀ (d : D) (v : V), flatD d = true → Rp K H v d → Rp K (off H l) v d
  | .none, _, _, h => by cases h; exact .non
  | .bool b, _, _, h => by cases h; exact .bl b
  | .int i, _, _, h => by cases h; exact .int i
  | .str x, _, _, h => by cases h with | str _ ok => exact .str x ok
  | .list ds, _, f, h => by cases f
  | .tuple ds, _, f, h => by cases h with | tup s z r => exact .tup (tup_off hl s) z (RpAll.off' hl ds _ f r)
  | .dict _, _, f, h => by cases f
theorem RpAll.off' {K : KF} {H : Hp} {l : Addr} {vs : List V} (hl : H l = some (.lst vs)) : ∀ (ds : List D) (ws : List V), flatDs ds = true → RpAll K H ws ds → RpAll K (off H l) ws ds
  | [], _, _, h => by cases h; exact .nil
  | d :: ds, _, f, h => by
    have f1 : (flatD d && flatDs ds) = true := f
    rw [Bool.and_eq_true] at f1
    cases h with | cons r t => exact .cons (Rp.off' hl d _ f1.1 r) (RpAll.off' hl ds _ f1.2 t)
end
/-- the state's slots do not lean on Hf -/
def Io.free {S : Type} (ι : Io S) : Prop := ∀ s i T, lk (ι.tr s) i = some T → ∀ (K : KF) (Hf Hf' H : Hp) v as, Holds K Hf H v T as → Holds K Hf' H v T as
theorem free0 : Io.free io0 := fun s i T h => by cases h
theorem freeR (i : Nat) : Io.free (io1 rtR i) := fun s j T h K Hf Hf' H v as q => by
  by_cases z : j = i
  · subst z
    have h' : lk [(j, some (rtR s))] j = some T := h
    rw [lk_self] at h'
    cases h'
    exact q
  · have h' : lk [(i, some (rtR s))] j = some T := h
    rw [lk_ne z] at h'
    cases h'
section
variable {X : Cx} {S : Type} {ι : Io S} {Δ : Dl} {s : S} {R : Type} {pos : Pos} {e : Expr}
variable {α β : Type} {E : α → D} {F : β → D}
theorem peek_back {K : KF} {σ : L2.St} {H Hf H' Hf' : Hp} {A : Nat → List Addr} {i : Nat} {a : Addr} {vs : List V} {ds : List D} {s' : S} (fr : ι.free) (st : Sat K σ H Hf (ι.tr s ++ Δ) A) (hix : i ∉ ι.ix) (h2 : A i = [a]) (h3 : H a = some (.lst vs))
    (st' : Sat K σ H' Hf' (ι.tr s' ++ (i, some (.imm (.list ds))) :: Δ) (cut A i [])) (e' : ExtA ι.ix (cut A i []) H (upd Hf a (.lst vs)) H' Hf') : Hf' a = some (.lst vs) ∧ Sat K σ H' (off Hf' a) (ι.tr s' ++ Δ) A ∧ ExtA ι.ix A H Hf H' (off Hf' a) := by
  have hn : Hf a = none := (st.own i a (by rw [h2]; simp)).1
  have hfa : Hf' a = some (.lst vs) := e'.grow _ _ upd_same
  have hsub : Sub Hf (off Hf' a) := fun b u h => by
    have ne : b ≠ a := ne_of_none h hn
    rw [off_ne ne]
    exact e'.grow _ _ (by rw [upd_ne ne]; exact h)
  have kp : ∀ j, j ∉ ι.ix → ∀ b ∈ A j, ∀ o, H b = some o → H' b = some o := fun j hj b hb o ho => e'.keep b o (fun j' hj' m => by
    by_cases z : j' = i
    · subst z; exact hix hj'
    · rw [cut_ne z] at m
      have := st.inj j j' b hb m
      subst this
      exact hj hj') ho
  refine ⟨hfa, ⟨fun b u h => ?_, fun j T hj => ?_, fun j b hb => ?_, st.inj⟩, ⟨fun b o m h => e'.keep b o (fun j hj hm => ?_) h, e'.there, hsub, fun b hb => ?_⟩⟩
  · by_cases z : b = a
    · subst z; rw [off_same] at h; cases h
    · rw [off_ne z] at h; exact st'.sub b u h
  · by_cases m : j ∈ ι.ix
    · have z : j ≠ i := fun z => hix (z ▸ m)
      have m1 : j ∈ (ι.tr s').map (·.1) := by rw [ι.keys]; exact m
      have hj2 : lk (ι.tr s' ++ (i, some (.imm (.list ds))) :: Δ) j = some T := by rw [lk_append_in (Δ' := Δ) m1]; exact hj
      obtain ⟨v, g1, g2⟩ := st'.slot j T hj2
      rw [cut_ne z] at g2
      have hj3 : lk (ι.tr s') j = some T := by
        have := lk_append_in (Δ := Δ) (Δ' := []) m1
        rw [List.append_nil] at this
        rw [← this]; exact hj
      exact ⟨v, g1, fr s' j T hj3 _ _ _ _ _ _ g2⟩
    · have m0 : j ∉ (ι.tr s).map (·.1) := by rw [ι.keys]; exact m
      have m1 : j ∉ (ι.tr s').map (·.1) := by rw [ι.keys]; exact m
      rw [lk_append_out m1] at hj
      obtain ⟨v, g1, g2⟩ := st.slot j T (by rw [lk_append_out m0]; exact hj)
      exact ⟨v, g1, g2.up hsub fun b hb o ho => kp j m b hb o ho⟩
  · refine ⟨?_, e'.there b (st.own j b hb).2⟩
    by_cases z : b = a
    · subst z; exact off_same
    · rw [off_ne z]
      by_cases zj : j = i
      · subst zj; rw [h2] at hb; exact absurd (by simpa using hb) z
      · exact (st'.own j b (by rw [cut_ne zj]; exact hb)).1
  · by_cases z : j = i
    · subst z; exact hix hj
    · rw [cut_ne z] at hm; exact m j hj hm
  · by_cases z : b = a
    · subst z; rw [off_same] at hb; exact absurd rfl hb
    · rw [off_ne z] at hb
      rcases e'.news b hb with q | q
      · rw [upd_ne z] at q; exact .inl q
      · exact .inr q
theorem ex_peek (i : Nat) {l : List α} (fr : ι.free) {M : (β → S → Option R) → Option R} (hl : lk (ι.tr s ++ Δ) i = some (.lst (l.map E))) (h : EX X ι (iv i (Ty.lst E) l :: Δ) s e M F) (hF : ∀ x, flatD (F x) = true) (hix : i ∉ ι.ix := by decide) : EX X ι Δ s e M F := by
  intro k r hk σ H Hf A Q st q
  obtain ⟨a, vs, h1, h2, h3, h4, h5⟩ := st.lstAt hl
  refine h k r hk σ H _ _ Q (st.thaw (P := ι.tr s) (by rw [ι.keys]; exact hix) h2 h1 h3 h4 h5) fun x s' hx v H' Hf' st' e' r' => ?_
  obtain ⟨hfa, st2, e2⟩ := peek_back fr st hix h2 h3 st' e'
  exact q x s' hx v H' _ st2 e2 (Rp.off' hfa _ _ (hF x) r')
theorem tx_peek (i : Nat) {l : List α} (fr : ι.free) {M : (Bool → S → Option R) → Option R} (hl : lk (ι.tr s ++ Δ) i = some (.lst (l.map E))) (h : TX X ι (iv i (Ty.lst E) l :: Δ) s e M) (hix : i ∉ ι.ix := by decide) : TX X ι Δ s e M := by
  intro k r hk σ H Hf A Q st q
  obtain ⟨a, vs, h1, h2, h3, h4, h5⟩ := st.lstAt hl
  refine h k r hk σ H _ _ Q (st.thaw (P := ι.tr s) (by rw [ι.keys]; exact hix) h2 h1 h3 h4 h5) fun x s' hx H' Hf' st' e' => ?_
  obtain ⟨hfa, st2, e2⟩ := peek_back fr st hix h2 h3 st' e'
  exact q x s' hx H' _ st2 e2
theorem flat_map (hF : ∀ x, flatD (F x) = true) : ∀ l : List β, flatDs (l.map F) = true
  | [] => rfl
  | x :: l => by show (flatD (F x) && flatDs (l.map F)) = true; rw [hF, flat_map hF l]; rfl
theorem eo_peek (i : Nat) {l : List α} (fr : ι.free) {M : (List β → S → Option R) → Option R} (hl : lk (ι.tr s ++ Δ) i = some (.lst (l.map E))) (h : EO X ι (iv i (Ty.lst E) l :: Δ) s e M F) (hF : ∀ x, flatD (F x) = true) (hix : i ∉ ι.ix := by decide) : EO X ι Δ s e M F := by
  intro k r hk σ H Hf A Q st q
  obtain ⟨a, vs, h1, h2, h3, h4, h5⟩ := st.lstAt hl
  refine h k r hk σ H _ _ Q (st.thaw (P := ι.tr s) (by rw [ι.keys]; exact hix) h2 h1 h3 h4 h5) fun x s' hx b ws H' Hf' st' e' hb hz r' hn hf => ?_
  obtain ⟨hfa, st2, e2⟩ := peek_back fr st hix h2 h3 st' e'
  refine q x s' hx b ws H' _ st2 e2 hb hz (RpAll.off' hfa _ _ (flat_map hF x) r') ?_ hf
  have : b ≠ a := fun z => by rw [z, h3] at hf; cases hf
  rw [off_ne this]; exact hn
theorem lo_peek (i : Nat) {l : List α} (fr : ι.free) {elt tg iter : Expr} {ifs : List Expr} {scope : Scope} {own : List (Str × Nat)} {M : (List β → S → Option R) → Option R} (hl : lk (ι.tr s ++ Δ) i = some (.lst (l.map E))) (h : LO X ι (iv i (Ty.lst E) l :: Δ) s elt tg iter ifs scope own M F) (hF : ∀ x, flatD (F x) = true) (hix : i ∉ ι.ix := by decide) : LO X ι Δ s elt tg iter ifs scope own M F := by
  refine ⟨h.hN, h.ok, h.hc, h.hs, ?_⟩
  intro k r hk σ H Hf A Q st q
  obtain ⟨a, vs, h1, h2, h3, h4, h5⟩ := st.lstAt hl
  refine h.read k r hk σ H _ _ Q (st.thaw (P := ι.tr s) (by rw [ι.keys]; exact hix) h2 h1 h3 h4 h5) fun x s' hx b ws H' Hf' st' e' hb hz r' hn hf => ?_
  obtain ⟨hfa, st2, e2⟩ := peek_back fr st hix h2 h3 st' e'
  refine q x s' hx b ws H' _ st2 e2 hb hz (RpAll.off' hfa _ _ (flat_map hF x) r') ?_ hf
  have : b ≠ a := fun z => by rw [z, h3] at hf; cases hf
  rw [off_ne this]; exact hn
/-- list(own): a new list of the same items -/
theorem eo_listO (i : Nat) {x : Str} {p px : Pos} {l : List α} (hl : lk (ι.tr s ++ Δ) i = some (.lst (l.map E))) (hm : X.mg "list" = none) (hN : X.N[i]? = some x := by rfl) (hgl : Gl X "list" := by rfl)
    (hv : Vis X.env.scope x := by first | exact Or.inl rfl | exact Or.inr (Or.inl rfl) | exact Or.inr (Or.inr rfl)) (hd : (x == ("__debug__" : Str)) = false := by decide) (hcd : (x == ("__classdict__" : Str)) = false := by decide)
    (he : starEach [.Name x px] X.env = (false, eval (.Name x px) X.env) :: starEach [] X.env := by rfl) : EO X ι Δ s (.Call (.Name "list" p) [.Name x px] [] pos) (R := R) (fun k => k l s) E := by
  intro k r hk σ H Hf A Q st q
  obtain ⟨a, vs, h1, h2, h3, h4, h5⟩ := st.lstAt hl
  refine tE_of (pe_callTy call_list_of hgl hm Bo.list (pa_cons (pe_var hN hv hd hcd) pa_nil he) (by decide) (by decide) he rfl) ?_
  refine ⟨_, h1, a, vs, rfl, .inl (.inl (.inl h3)), fun b nb => ?_⟩
  have ex := Ext.newO (o := .lst vs) (Hf := Hf) nb
  exact q l s hk b vs _ Hf (st.up ex (Sub.newO nb st.sub)) ex.toA upd_same h4 h5 (st.sub.non nb) nb
end
end Ab
namespace Ab
open PySem PySem.Spec PyProof.Rows L2
/-! ### what a mirror gives -/
def Y {α : Type} (m : Option α) (P : α → Prop) : Prop := ∃ a, m = some a ∧ P a
section
variable {α β γ W S R Rr : Type} {P : α → Prop} {Q : β → Prop}
theorem Y.ok {a : α} (h : P a) : Y (Option.some a) P := ⟨a, rfl, h⟩
theorem Y.mono {m : Option α} {P' : α → Prop} (h : Y m P) (k : ∀ a, P a → P' a) : Y m P' := by
  obtain ⟨a, h1, h2⟩ := h
  exact ⟨a, h1, k a h2⟩
theorem Y.bind {m : Option α} {f : α → Option β} (h : Y m P) (k : ∀ a, P a → Y (f a) Q) : Y (m.bind f) Q := by
  obtain ⟨a, h1, h2⟩ := h
  obtain ⟨b, h3, h4⟩ := k a h2
  exact ⟨b, by rw [h1]; exact h3, h4⟩
theorem Y.bindE {m : Option α} {f : α → Option β} {a : α} (h : m = some a) (k : Y (f a) Q) : Y (m.bind f) Q := by
  rw [h]; exact k
theorem Y.guard {c : Prop} [Decidable c] {m : Option α} (h : c) (k : Y m P) : Y (guardM c m) P := by
  rw [guardM_pos h]; exact k
theorem Y.lt {a : β} {k : β → Option α} (h : Y (k a) P) : Y (letM a k) P := h
theorem Y.ite {z : Bool} {A B : Option α} (h1 : z = true → Y A P) (h2 : z = false → Y B P) : Y (if z = true then A else B) P := by
  cases z with
  | true => rw [if_pos rfl]; exact h1 rfl
  | false => rw [if_neg Bool.false_ne_true]; exact h2 rfl
theorem Y.iteT {z : Bool} {A B : Option α} (h : z = true) (h1 : Y A P) : Y (if z = true then A else B) P := by rw [if_pos h]; exact h1
theorem Y.iteF {z : Bool} {A B : Option α} (h : z = false) (h1 : Y B P) : Y (if z = true then A else B) P := by rw [h, if_neg Bool.false_ne_true]; exact h1
theorem Y.of_eq {m : Option α} {a : α} (h : m = .some a) (p : P a) : Y m P := ⟨a, h, p⟩
theorem Y.foldlM {f : W → α → Option W} {I : List α → W → Prop} : ∀ (xs pre : List α) (w : W), I pre w → (∀ p x w, p ++ [x] <+: pre ++ xs → I p w → Y (f w x) (I (p ++ [x]))) → Y (xs.foldlM f w) (I (pre ++ xs))
  | [], pre, w, h, _ => by rw [List.append_nil]; exact ⟨w, rfl, h⟩
  | x :: xs, pre, w, h, k => by
    rw [List.foldlM_cons]
    refine Y.bind (k pre x w ⟨xs, by simp⟩ h) fun w1 h1 => ?_
    have := Y.foldlM (f := f) (I := I) xs (pre ++ [x]) w1 h1 (fun p y w2 hp => k p y w2 (by simpa using hp))
    simpa using this
/-- a walk with what holds ahead of each turn -/
theorem Y.fold {f : W → α → Option W} {xs : List α} {w : W} (I : List α → W → Prop) (h : I [] w) (k : ∀ p x w, p ++ [x] <+: xs → I p w → Y (f w x) (I (p ++ [x]))) : Y (xs.foldlM f w) (I xs) := Y.foldlM xs [] w h (by simpa using k)
theorem pre_mem {p xs : List α} {x : α} (h : p ++ [x] <+: xs) : x ∈ xs := by
  obtain ⟨t, rfl⟩ := h
  simp
theorem Y.foldI {f : W → α → Option W} {xs : List α} {w : W} (I : W → Prop) (h : I w) (k : ∀ x w, x ∈ xs → I w → Y (f w x) I) : Y (xs.foldlM f w) I :=
  Y.fold (fun _ => I) h fun p x w hp hw => k x w (pre_mem hp) hw
/-- a walk that is known -/
theorem foldlM_eq {f : W → α → Option W} {g : W → α → W} {xs : List α} (I : W → Prop) : ∀ (ys : List α) (w : W), I w → (∀ y ∈ ys, ∀ w, I w → f w y = .some (g w y) ∧ I (g w y)) → ys.foldlM f w = .some (ys.foldl g w) ∧ I (ys.foldl g w)
  | [], w, h, _ => ⟨rfl, h⟩
  | y :: ys, w, h, k => by
    obtain ⟨h1, h2⟩ := k y (by simp) w h
    rw [List.foldlM_cons, h1]
    exact foldlM_eq (xs := xs) I ys _ h2 fun z hz => k z (by simp [hz])
/-- a walk that may be left, and is not -/
theorem Y.forE {f : W → α → Option (Fl W Rr)} {I : List α → W → Prop} : ∀ (xs pre : List α) (w : W), I pre w → (∀ p x w, p ++ [x] <+: pre ++ xs → I p w → Y (f w x) (fun o => ∃ w', (o = .next w' ∨ o = .cont w') ∧ I (p ++ [x]) w')) → Y (forE f xs w) (fun o => ∃ w', o = .next w' ∧ I (pre ++ xs) w')
  | [], pre, w, h, _ => by rw [List.append_nil]; exact ⟨.next w, rfl, w, rfl, h⟩
  | x :: xs, pre, w, h, k => by
    obtain ⟨o, h1, w', h2, h3⟩ := k pre x w ⟨xs, by simp⟩ h
    have q := Y.forE (f := f) (I := I) xs (pre ++ [x]) w' h3 (fun p y w2 hp => k p y w2 (by simpa using hp))
    rw [show pre ++ [x] ++ xs = pre ++ x :: xs by simp] at q
    rcases h2 with rfl | rfl
    · obtain ⟨o, g1, g2⟩ := q
      exact ⟨o, by show (f w x).bind _ = _; rw [h1]; exact g1, g2⟩
    · obtain ⟨o, g1, g2⟩ := q
      exact ⟨o, by show (f w x).bind _ = _; rw [h1]; exact g1, g2⟩
/-- .. and what follows -/
theorem Y.for {f : W → α → Option (Fl W Rr)} {xs : List α} {w : W} {K : W → Option R} {kr : Rr → R} {P : R → Prop} (I : List α → W → Prop) (h : I [] w) (k : ∀ p x w, p ++ [x] <+: xs → I p w → Y (f w x) (fun o => ∃ w', (o = .next w' ∨ o = .cont w') ∧ I (p ++ [x]) w'))
    (q : ∀ w, I xs w → Y (K w) P) : Y ((Ab.forE f xs w).bind (flK K kr)) P := by
  refine Y.bind (Y.forE xs [] w h (by simpa using k)) fun o h => ?_
  obtain ⟨w', rfl, hi⟩ := h
  exact q w' (by simpa using hi)
theorem Y.forI {f : W → α → Option (Fl W Rr)} {xs : List α} {w : W} {K : W → Option R} {kr : Rr → R} {P : R → Prop} (I : W → Prop) (h : I w) (k : ∀ x w, x ∈ xs → I w → Y (f w x) (fun o => ∃ w', (o = .next w' ∨ o = .cont w') ∧ I w'))
    (q : ∀ w, I w → Y (K w) P) : Y ((Ab.forE f xs w).bind (flK K kr)) P := Y.for (fun _ => I) h (fun p x w hp hw => k x w (pre_mem hp) hw) q
theorem Y.next {w : W} {I : W → Prop} (h : I w) : Y (.some (Fl.next w : Fl W Rr)) (fun o => ∃ w', (o = .next w' ∨ o = .cont w') ∧ I w') := ⟨_, rfl, w, .inl rfl, h⟩
theorem Y.cont {w : W} {I : W → Prop} (h : I w) : Y (.some (Fl.cont w : Fl W Rr)) (fun o => ∃ w', (o = .next w' ∨ o = .cont w') ∧ I w') := ⟨_, rfl, w, .inr rfl, h⟩
/-- comprehensions -/
theorem Y.compM {f : α → S → Option (Option β × S)} {I : List α → List β → S → Prop} : ∀ (xs pre : List α) (acc : List β) (s : S), I pre acc s → (∀ p x acc s, p ++ [x] <+: pre ++ xs → I p acc s → Y (f x s) (fun o => I (p ++ [x]) (acc ++ o.1.toList) o.2)) → Y (compM f xs s) (fun o => I (pre ++ xs) (acc ++ o.1) o.2)
  | [], pre, acc, s, h, _ => ⟨([], s), rfl, by simpa using h⟩
  | x :: xs, pre, acc, s, h, k => by
    obtain ⟨⟨o, s1⟩, h1, h2⟩ := k pre x acc s ⟨xs, by simp⟩ h
    obtain ⟨⟨ys, s2⟩, h3, h4⟩ := Y.compM (f := f) (I := I) xs (pre ++ [x]) (acc ++ o.toList) s1 h2 (fun p y ac w2 hp => k p y ac w2 (by simpa using hp))
    refine ⟨(o.toList ++ ys, s2), ?_, by simpa using h4⟩
    show (f x s).bind _ = _
    rw [h1]
    show (Ab.compM f xs s1).bind _ = _
    rw [h3]
    cases o <;> rfl
/-- each item is taken, or left -/
theorem Y.pick {f : α → S → Option (Option α × S)} {xs : List α} {s : S} (k : ∀ x s, x ∈ xs → Y (f x s) (fun o => o.1 = none ∨ o.1 = .some x)) : Y (Ab.compM f xs s) (fun o => o.1.Sublist xs) := by
  have := Y.compM (f := f) (I := fun p acc _ => acc.Sublist p) xs [] [] s (List.Sublist.refl _) fun p x acc s hp h => (k x s (by simpa using pre_mem hp)).mono fun o ho => by
    rcases ho with ho | ho
    · rw [ho]; simpa using h.trans (List.sublist_append_left _ _)
    · rw [ho]; exact h.append (List.Sublist.refl _)
  simpa using this
/-- each item gives one -/
theorem Y.each {f : α → S → Option (Option β × S)} {xs : List α} {s : S} {P : β → Prop} (k : ∀ x s, x ∈ xs → Y (f x s) (fun o => ∃ y, o.1 = .some y ∧ P y)) : Y (Ab.compM f xs s) (fun o => o.1.length = xs.length ∧ ∀ y ∈ o.1, P y) := by
  have := Y.compM (f := f) (I := fun p acc _ => acc.length = p.length ∧ ∀ y ∈ acc, P y) xs [] [] s ⟨rfl, by simp⟩ fun p x acc s hp h => (k x s (by simpa using pre_mem hp)).mono fun o ho => by
    obtain ⟨y, hy, hp⟩ := ho
    rw [hy]
    refine ⟨by simp [h.1], fun z hz => ?_⟩
    have hz' : z ∈ acc ∨ z = y := by simpa using hz
    rcases hz' with hz | rfl
    · exact h.2 z hz
    · exact hp
  simpa using this
end
/-! ### drawing -/
theorem Y.draw {n : Int} {s : Rs} (h : 0 < n) (h2 : n < 1073741824) : Y (drawR n s) (fun p => 0 ≤ p.1 ∧ p.1 < n) := by
  unfold drawR
  refine Y.guard ⟨by omega, by omega, .inr ⟨by decide, by decide⟩⟩ ?_
  have m : ∀ v : Int, 0 ≤ v.fmod n ∧ v.fmod n < n := fun v => by
    rw [Int.fmod_eq_emod_of_nonneg _ (by omega)]
    exact ⟨Int.emod_nonneg _ (by omega), Int.emod_lt_of_pos _ h⟩
  split
  · exact Y.ok (m _)
  · exact Y.ok (m _)
theorem at_mem {α : Type} {P : α → Prop} {xs : List α} {i : Int} (h0 : 0 ≤ i) (h1 : i < xs.length) (h : ∀ x ∈ xs, P x) : Y (atI xs i) P := by
  have e : atI xs i = xs[i.toNat]? := by
    unfold atI
    have : ixN xs.length i = some i.toNat := by
      unfold ixN
      rw [if_pos h0, if_pos h1]
    rw [this]; rfl
  have hl : i.toNat < xs.length := by omega
  exact ⟨xs[i.toNat], by rw [e, List.getElem?_eq_getElem hl], h _ (List.getElem_mem hl)⟩
theorem at_zero {α : Type} {x : α} {l : List α} : atI (x :: l) 0 = some x := by
  unfold atI ixN
  rw [if_pos (by decide), if_pos (by simp)]
  rfl
/-! ### rows that rise -/
def SL (l : List Int) : Prop := l.Pairwise (· < ·)
theorem SL.nodup {l : List Int} (h : SL l) : l.Nodup := List.Pairwise.imp (fun h => by omega) h
theorem SL.ext {a b : List Int} (ha : SL a) (hb : SL b) (h : ∀ x, x ∈ a ↔ x ∈ b) : a = b :=
  sorted_unique ((List.perm_ext_iff_of_nodup ha.nodup hb.nodup).mpr h) (List.Pairwise.imp (fun h => by omega) ha) (List.Pairwise.imp (fun h => by omega) hb)
theorem SL.sub {a b : List Int} (hb : SL b) (h : a.Sublist b) : SL a := List.Pairwise.sublist h hb
theorem SL.filter {a : List Int} (h : SL a) (p : Int → Bool) : SL (a.filter p) := h.sub List.filter_sublist
theorem SL.nil : SL [] := List.Pairwise.nil
theorem sortI_SL {l : List Int} (h : l.Nodup) : SL (sortI l) := by
  have h1 := sortI_sorted l
  have h2 : (sortI l).Nodup := (sortI_perm l).nodup_iff.mpr h
  exact h1.imp₂ (fun a b h1 h2 => by omega) h2
theorem mem_sortI {l : List Int} {x : Int} : x ∈ sortI l ↔ x ∈ l := (sortI_perm l).mem_iff
theorem rangeL_SL (lo : Int) (n : Nat) : SL (rangeL lo n) := by
  unfold rangeL SL
  rw [List.pairwise_map]
  exact List.pairwise_lt_range.imp fun h => by omega
theorem mem_rangeL {lo x : Int} {n : Nat} : x ∈ rangeL lo n ↔ lo ≤ x ∧ x < lo + n := by
  unfold rangeL
  rw [List.mem_map]
  constructor
  · rintro ⟨i, hi, rfl⟩
    rw [List.mem_range] at hi
    omega
  · rintro ⟨h1, h2⟩
    exact ⟨(x - lo).toNat, by rw [List.mem_range]; omega, by omega⟩
theorem mem_range0 {x n : Int} : x ∈ rangeL 0 n.toNat ↔ 0 ≤ x ∧ x < n := by
  rw [mem_rangeL]; omega
/-- bounded: short -/
theorem SL.len {l : List Int} {n : Int} (h : SL l) (b : ∀ x ∈ l, 0 ≤ x ∧ x < n) : (l.length : Int) ≤ max n 0 := by
  have e : l = (rangeL 0 n.toNat).filter fun x => decide (x ∈ l) := SL.ext h ((rangeL_SL _ _).filter _) fun x => by
    rw [List.mem_filter, mem_range0]
    simp only [decide_eq_true_eq]
    exact ⟨fun hx => ⟨b x hx, hx⟩, fun hx => hx.2⟩
  have := List.length_filter_le (fun x => decide (x ∈ l)) (rangeL 0 n.toNat)
  rw [← e, rangeL_len] at this
  omega
/-- the sum of sets -/
def sumS (a b : List Int) : List Int := sortI (a.filter (fun v => !decide (v ∈ b)) ++ b.filter (fun v => !decide (v ∈ a)))
theorem sumS_nodup {a b : List Int} (ha : a.Nodup) (hb : b.Nodup) : (a.filter (fun v => !decide (v ∈ b)) ++ b.filter (fun v => !decide (v ∈ a))).Nodup := by
  rw [List.nodup_append]
  refine ⟨ha.sublist List.filter_sublist, hb.sublist List.filter_sublist, fun x hx y hy e => ?_⟩
  subst e
  rw [List.mem_filter] at hx hy
  simp at hx hy
  exact hx.2 hy.1
theorem sumS_SL {a b : List Int} (ha : SL a) (hb : SL b) : SL (sumS a b) := sortI_SL (sumS_nodup ha.nodup hb.nodup)
theorem mem_sumS {a b : List Int} {x : Int} : x ∈ sumS a b ↔ ((x ∈ a) ≠ (x ∈ b)) := by
  unfold sumS
  rw [mem_sortI, List.mem_append, List.mem_filter, List.mem_filter]
  by_cases h1 : x ∈ a <;> by_cases h2 : x ∈ b <;> simp [h1, h2]
/-- how many of a that are p, even or not -/
def par (p : Int → Bool) (l : List Int) : Bool := (l.filter p).length % 2 == 1
theorem filter_len_eq {a b : List Int} {p q : Int → Bool} (ha : a.Nodup) (hb : b.Nodup) (h : ∀ x, (x ∈ a ∧ p x = true) ↔ (x ∈ b ∧ q x = true)) : (a.filter p).length = (b.filter q).length :=
  ((List.perm_ext_iff_of_nodup (ha.sublist List.filter_sublist) (hb.sublist List.filter_sublist)).mpr fun x => by rw [List.mem_filter, List.mem_filter]; exact h x).length_eq
theorem len_split {α : Type} (q : α → Bool) (l : List α) : l.length = (l.filter q).length + (l.filter fun x => !q x).length := by
  rw [← List.length_append]; exact (List.filter_append_perm q l).length_eq.symm
theorem par_sum {a b c : List Int} {p : Int → Bool} (ha : a.Nodup) (hb : b.Nodup) (hc : c.Nodup) (h : ∀ x, x ∈ c ↔ ((x ∈ a) ≠ (x ∈ b))) : par p c = (par p a != par p b) := by
  have e1 := len_split (fun x => decide (x ∈ b)) (a.filter p)
  have e2 := len_split (fun x => decide (x ∈ a)) (b.filter p)
  have e3 := len_split (fun x => decide (x ∈ a)) (c.filter p)
  rw [List.filter_filter, List.filter_filter] at e1 e2 e3
  have f1 : (a.filter fun x => decide (x ∈ b) && p x).length = (b.filter fun x => decide (x ∈ a) && p x).length := filter_len_eq ha hb fun x => by
    by_cases h1 : x ∈ a <;> by_cases h2 : x ∈ b <;> simp [h1, h2]
  have f2 : (c.filter fun x => decide (x ∈ a) && p x).length = (a.filter fun x => !decide (x ∈ b) && p x).length := filter_len_eq hc ha fun x => by
    rw [h]
    by_cases h1 : x ∈ a <;> by_cases h2 : x ∈ b <;> simp [h1, h2]
  have f3 : (c.filter fun x => !decide (x ∈ a) && p x).length = (b.filter fun x => !decide (x ∈ a) && p x).length := filter_len_eq hc hb fun x => by
    rw [h]
    by_cases h1 : x ∈ a <;> by_cases h2 : x ∈ b <;> simp [h1, h2]
  unfold par
  rw [e3, f2, f3, e1, e2, f1]
  generalize (b.filter fun x => decide (x ∈ a) && p x).length = u
  generalize (a.filter fun x => !decide (x ∈ b) && p x).length = v
  generalize (b.filter fun x => !decide (x ∈ a) && p x).length = t
  rcases Nat.mod_two_eq_zero_or_one u with hu | hu <;> rcases Nat.mod_two_eq_zero_or_one v with hv | hv <;> rcases Nat.mod_two_eq_zero_or_one t with ht | ht <;> simp [Nat.add_mod, hu, hv, ht]
end Ab
namespace Ab
open PySem PySem.Spec PyProof.Rows L2
abbrev Gr := Int × List (Int × Int) × List Int × List Int × List Str
def nbr (g : Gr) (v : Int) : List Int := sortI ((g.2.1.filter fun e => decide (e.1 = v)).map (fun e => e.2) ++ (g.2.1.filter fun e => decide (e.2 = v)).map (fun e => e.1))
/-- vertices 0 .. n-1, edges told once, inputs and outputs rise -/
structure Good (g : Gr) : Prop where
  n0 : 0 ≤ g.1
  n1 : g.1 ≤ 64
  nd : g.2.1.Nodup
  eb : ∀ e ∈ g.2.1, 0 ≤ e.1 ∧ e.1 < e.2 ∧ e.2 < g.1
  el : g.2.1.length ≤ 4096
  ins : g.2.2.1.Sublist (rangeL 0 g.1.toNat)
  out : g.2.2.2.1.Sublist (rangeL 0 g.1.toNat)
theorem mem_nbr {g : Gr} {u v : Int} : u ∈ nbr g v ↔ ((v, u) ∈ g.2.1 ∨ (u, v) ∈ g.2.1) := by
  unfold nbr
  rw [mem_sortI, List.mem_append, List.mem_map, List.mem_map]
  constructor
  · rintro (⟨⟨a, b⟩, h, rfl⟩ | ⟨⟨a, b⟩, h, rfl⟩) <;> rw [List.mem_filter] at h <;> simp only [decide_eq_true_eq] at h
    · obtain ⟨h, rfl⟩ := h; exact .inl h
    · obtain ⟨h, rfl⟩ := h; exact .inr h
  · rintro (h | h)
    · exact .inl ⟨(v, u), by rw [List.mem_filter]; exact ⟨h, by simp⟩, rfl⟩
    · exact .inr ⟨(u, v), by rw [List.mem_filter]; exact ⟨h, by simp⟩, rfl⟩
theorem nodup_mapf {α : Type} {f : α → Int} {l : List α} (h : l.Nodup) (inj : ∀ x ∈ l, ∀ y ∈ l, f x = f y → x = y) : (l.map f).Nodup := by
  unfold List.Nodup
  rw [List.pairwise_map]
  exact List.Pairwise.imp_of_mem (fun {a b} ha hb hab e => hab (inj a ha b hb e)) h
theorem Good.nbr_SL {g : Gr} (G : Good g) (v : Int) : SL (nbr g v) := by
  refine sortI_SL ?_
  rw [List.nodup_append]
  refine ⟨nodup_mapf (G.nd.sublist List.filter_sublist) ?_, nodup_mapf (G.nd.sublist List.filter_sublist) ?_, ?_⟩
  · rintro ⟨a, b⟩ hx ⟨c, d⟩ hy e
    rw [List.mem_filter] at hx hy
    simp at hx hy e
    simp [hx.2, hy.2, e]
  · rintro ⟨a, b⟩ hx ⟨c, d⟩ hy e
    rw [List.mem_filter] at hx hy
    simp at hx hy e
    simp [hx.2, hy.2, e]
  · intro x hx y hy e
    subst e
    rw [List.mem_map] at hx hy
    obtain ⟨⟨a, b⟩, h1, rfl⟩ := hx
    obtain ⟨⟨c, d⟩, h2, e⟩ := hy
    rw [List.mem_filter] at h1 h2
    simp at h1 h2 e
    have q1 := G.eb _ h1.1
    have q2 := G.eb _ h2.1
    simp at q1 q2
    omega
theorem Good.nbr_in {g : Gr} (G : Good g) {u v : Int} (h : u ∈ nbr g v) : 0 ≤ u ∧ u < g.1 := by
  rw [mem_nbr] at h
  rcases h with h | h <;> have q := G.eb _ h <;> simp at q <;> omega
theorem nbr_sym {g : Gr} {u v : Int} : u ∈ nbr g v ↔ v ∈ nbr g u := by
  rw [mem_nbr, mem_nbr]; exact Or.comm
/-- the odd set -/
def oddS (g : Gr) (l : List Int) : List Int := l.foldl (fun t v => sumS t (nbr g v)) []
theorem odd_fold {g : Gr} (G : Good g) : ∀ (l t : List Int), SL t → SL (l.foldl (fun t v => sumS t (nbr g v)) t) ∧ ∀ x, x ∈ l.foldl (fun t v => sumS t (nbr g v)) t ↔ ((x ∈ t) ≠ (par (fun v => decide (x ∈ nbr g v)) l = true))
  | [], t, ht => ⟨ht, fun x => by simp [par]⟩
  | v :: l, t, ht => by
    obtain ⟨h1, h2⟩ := odd_fold G l (sumS t (nbr g v)) (sumS_SL ht (G.nbr_SL v))
    refine ⟨h1, fun x => ?_⟩
    rw [List.foldl_cons, h2, mem_sumS]
    have e : par (fun w => decide (x ∈ nbr g w)) (v :: l) = (decide (x ∈ nbr g v) != par (fun w => decide (x ∈ nbr g w)) l) := by
      unfold par
      by_cases h : x ∈ nbr g v
      · rw [List.filter_cons_of_pos (by simpa using h), List.length_cons, Nat.add_mod]
        rcases Nat.mod_two_eq_zero_or_one (l.filter fun w => decide (x ∈ nbr g w)).length with q | q <;> simp [q, h]
      · rw [List.filter_cons_of_neg (by simpa using h)]
        simp [h]
    rw [e]
    by_cases q1 : x ∈ t <;> by_cases q2 : x ∈ nbr g v <;> cases par (fun w => decide (x ∈ nbr g w)) l <;> simp [q1, q2]
theorem Good.odd_SL {g : Gr} (G : Good g) (l : List Int) : SL (oddS g l) := (odd_fold G l [] SL.nil).1
theorem Good.mem_odd {g : Gr} (G : Good g) {l : List Int} {x : Int} : x ∈ oddS g l ↔ par (fun v => decide (x ∈ nbr g v)) l = true := by
  have := (odd_fold G l [] SL.nil).2 x
  unfold oddS
  rw [this]
  simp
theorem par_pos {p : Int → Bool} {l : List Int} (h : par p l = true) : ∃ v ∈ l, p v = true := by
  unfold par at h
  cases e : l.filter p with
  | nil => rw [e] at h; simp at h
  | cons v t =>
    have : v ∈ l.filter p := by rw [e]; simp
    rw [List.mem_filter] at this
    exact ⟨v, this⟩
theorem Good.odd_in {g : Gr} (G : Good g) {l : List Int} {x : Int} (h : x ∈ oddS g l) : 0 ≤ x ∧ x < g.1 := by
  rw [G.mem_odd] at h
  obtain ⟨v, _, hv⟩ := par_pos h
  exact G.nbr_in (by simpa using hv)
/-- counted from the other end -/
theorem Good.odd_eq {g : Gr} (G : Good g) {l : List Int} (hl : l.Nodup) : oddS g l = (rangeL 0 g.1.toNat).filter fun x => par (fun v => decide (v ∈ l)) (nbr g x) := by
  refine SL.ext (G.odd_SL l) ((rangeL_SL _ _).filter _) fun x => ?_
  rw [List.mem_filter, mem_range0]
  have e : par (fun v => decide (x ∈ nbr g v)) l = par (fun v => decide (v ∈ l)) (nbr g x) := by
    unfold par
    rw [filter_len_eq hl (G.nbr_SL x).nodup fun y => ?_]
    simp only [decide_eq_true_eq]
    rw [nbr_sym (u := x)]
    exact And.comm
  constructor
  · intro h
    exact ⟨G.odd_in h, by rw [← e]; exact G.mem_odd.mp h⟩
  · rintro ⟨_, h⟩
    rw [G.mem_odd, e]; exact h
theorem Good.odd_sum {g : Gr} (G : Good g) {a b c : List Int} (ha : a.Nodup) (hb : b.Nodup) (hc : c.Nodup) (h : ∀ x, x ∈ c ↔ ((x ∈ a) ≠ (x ∈ b))) : sumS (oddS g a) (oddS g b) = oddS g c := by
  refine SL.ext (sumS_SL (G.odd_SL a) (G.odd_SL b)) (G.odd_SL c) fun x => ?_
  rw [mem_sumS, G.mem_odd, G.mem_odd, G.mem_odd, par_sum ha hb hc h]
  cases par (fun v => decide (x ∈ nbr g v)) a <;> cases par (fun v => decide (x ∈ nbr g v)) b <;> simp
theorem Good.len {g : Gr} (G : Good g) {l : List Int} (h : SL l) (b : ∀ x ∈ l, 0 ≤ x ∧ x < g.1) : l.length ≤ 64 := by
  have := h.len b
  have := G.n1
  have := G.n0
  omega
theorem Good.nbr_len {g : Gr} (G : Good g) (v : Int) : (nbr g v).length ≤ 64 := G.len (G.nbr_SL v) fun x hx => G.nbr_in hx
theorem Good.odd_len {g : Gr} (G : Good g) (l : List Int) : (oddS g l).length ≤ 64 := G.len (G.odd_SL l) fun x hx => G.odd_in hx
/-- the first of the sum of sets -/
def lessS (a b : List Int) : Bool := match sumS a b with | [] => false | x :: _ => decide (x ∈ b)
/-- all pairs -/
def pairsL (n : Int) : List (Int × Int) := (rangeL 0 n.toNat).flatMap fun i => (rangeL (i + 1) (n - (i + 1)).toNat).map fun j => (i, j)
theorem mem_pairs {n : Int} {e : Int × Int} : e ∈ pairsL n ↔ 0 ≤ e.1 ∧ e.1 < e.2 ∧ e.2 < n := by
  unfold pairsL
  rw [List.mem_flatMap]
  constructor
  · rintro ⟨i, hi, h⟩
    rw [List.mem_map] at h
    obtain ⟨j, hj, rfl⟩ := h
    rw [mem_range0] at hi
    rw [mem_rangeL] at hj
    simp only
    omega
  · rintro ⟨h1, h2, h3⟩
    exact ⟨e.1, by rw [mem_range0]; omega, by rw [List.mem_map]; exact ⟨e.2, by rw [mem_rangeL]; omega, rfl⟩⟩
theorem nodup_flat {f : Int → List (Int × Int)} : ∀ {l : List Int}, l.Nodup → (∀ i ∈ l, (f i).Nodup) → (∀ i ∈ l, ∀ e ∈ f i, e.1 = i) → (l.flatMap f).Nodup
  | [], _, _, _ => by simp
  | x :: l, h, h1, h2 => by
    rw [List.flatMap_cons, List.nodup_append]
    rw [List.nodup_cons] at h
    refine ⟨h1 x (by simp), nodup_flat h.2 (fun i hi => h1 i (by simp [hi])) (fun i hi => h2 i (by simp [hi])), fun a ha b hb e => ?_⟩
    subst e
    rw [List.mem_flatMap] at hb
    obtain ⟨i, hi, hb⟩ := hb
    have e1 := h2 x (by simp) a ha
    have e2 := h2 i (by simp [hi]) a hb
    rw [e1] at e2
    subst e2
    exact h.1 hi
theorem pairs_nodup (n : Int) : (pairsL n).Nodup := by
  refine nodup_flat (rangeL_SL _ _).nodup (fun i _ => ?_) (fun i _ e he => ?_)
  · unfold List.Nodup
    rw [List.pairwise_map]
    exact List.Pairwise.imp (fun {a b} h e => by simp at e; omega) (rangeL_SL (i + 1) (n - (i + 1)).toNat)
  · rw [List.mem_map] at he
    obtain ⟨j, _, rfl⟩ := he
    rfl
theorem pairs_len (n : Int) (h : n ≤ 64) : (pairsL n).length ≤ 4096 := by
  have gen : ∀ (l : List Int), (l.flatMap fun i => (rangeL (i + 1) (n - (i + 1)).toNat).map fun j => (i, j)).length ≤ l.length * 64 + l.foldl (fun s i => s + (0 - i).toNat) 0 := by
    intro l
    induction l with
    | nil => simp
    | cons x l ih =>
      have hf : ∀ (l : List Int) (s : Nat), l.foldl (fun s i => s + (0 - i).toNat) s = s + l.foldl (fun s i => s + (0 - i).toNat) 0 := by
        intro l
        induction l with
        | nil => simp
        | cons y l ih2 => intro s; rw [List.foldl_cons, List.foldl_cons, ih2, ih2 (0 + _)]; omega
      rw [List.flatMap_cons, List.length_append, List.length_map, rangeL_len, List.length_cons, List.foldl_cons, hf]
      have : (n - (x + 1)).toNat ≤ 64 + (0 - x).toNat := by omega
      have : (l.length + 1) * 64 = l.length * 64 + 64 := by omega
      omega
  have h2 : ∀ (l : List Int), (∀ x ∈ l, 0 ≤ x) → l.foldl (fun s i => s + (0 - i).toNat) 0 = 0 := by
    intro l
    induction l with
    | nil => simp
    | cons x l ih =>
      intro h
      have := h x (by simp)
      rw [List.foldl_cons, show (0 : Nat) + (0 - x).toNat = 0 by omega]
      exact ih fun y hy => h y (by simp [hy])
  have q := gen (rangeL 0 n.toNat)
  rw [h2 _ (fun x hx => (mem_range0.mp hx).1), rangeL_len] at q
  unfold pairsL
  omega
theorem flatMap_pre {β : Type} {f : Int → List β} {p xs : List Int} (h : p <+: xs) : (p.flatMap f).Sublist (xs.flatMap f) := by
  obtain ⟨t, rfl⟩ := h
  rw [List.flatMap_append]
  exact List.sublist_append_left _ _
end Ab
namespace Ab
open PySem PySem.Spec PyProof.Rows L2
/-! ### dicts whose keys are ints, or texts -/
section
variable {κ α : Type} [DecidableEq κ]
def getI (l : List (κ × α)) (k : κ) : Option α := (l.find? fun p => decide (p.1 = k)).map (·.2)
def putI (l : List (κ × α)) (k : κ) (v : α) : List (κ × α) := if (l.any fun p => decide (p.1 = k)) = true then l.map (fun p => if p.1 = k then (p.1, v) else p) else l ++ [(k, v)]
end
abbrev kI : Int → Key := Sum.inl
abbrev kS : Str → Key := Sum.inr
abbrev dtr {κ α : Type} (kf : κ → Key) (E : α → D) (l : List (κ × α)) : Tr := .dct (l.map fun p => (kf p.1, E p.2))
abbrev dv {κ α : Type} (i : Nat) (kf : κ → Key) (E : α → D) (l : List (κ × α)) : Nat × Option Tr := (i, some (dtr kf E l))
namespace Ty
abbrev dct {κ α : Type} (kf : κ → Key) (E : α → D) : List (κ × α) → D := fun l => .dict (l.map fun p => (keyD (kf p.1), E p.2))
end Ty
/-- a key is its data -/
structure Kf {κ : Type} [DecidableEq κ] (kf : κ → Key) (Ek : κ → D) : Prop where
  inj : ∀ x y, kf x = kf y → x = y
  dat : ∀ (K : KF) (H : Hp) (v : V) x, Rp K H v (Ek x) → v = kV (kf x)
theorem kf_int : Kf kI Ty.int := ⟨fun x y h => Sum.inl.inj h, fun K H v x r => by cases r; rfl⟩
theorem kf_str : Kf kS Ty.str := ⟨fun x y h => Sum.inr.inj h, fun K H v x r => by cases r; rfl⟩
section
variable {κ α : Type} [DecidableEq κ] {kf : κ → Key} {Ek : κ → D} {E : α → D}
theorem RpKv.val {K : KF} {H : Hp} (hk : Kf kf Ek) (x : κ) : ∀ {l : List (κ × α)} {ws : List (Key × V)}, RpKv K H ws (l.map fun p => (keyD (kf p.1), E p.2)) → (∀ k : Key, ∀ p ∈ l, keyD k = keyD (kf p.1) → k = kf p.1) →
    (match getI l x with | some a => ∃ v, valV ws (kf x) = some v ∧ Rp K H v (E a) | none => valV ws (kf x) = none)
  | [], ws, h, _ => by cases h; rfl
  | (k, a) :: l, ws, h, hi => by
    generalize hg : (keyD (kf k), E a) = q at h
    have hg' : ((k, a) :: l).map (fun p => (keyD (kf p.1), E p.2)) = q :: l.map fun p => (keyD (kf p.1), E p.2) := by rw [← hg]; rfl
    rw [hg'] at h
    cases h with
    | @cons k' v ws e kvs r t =>
      have e1 := Prod.mk.inj hg
      have hk' : k' = kf k := hi k' (k, a) (by simp) e1.1.symm
      subst hk'
      have ea : Rp K H v (E a) := by rw [e1.2]; exact r
      by_cases z : k = x
      · subst z
        have : getI ((k, a) :: l) k = some a := by simp [getI]
        rw [this]
        exact ⟨v, valV_pos rfl, ea⟩
      · have : getI ((k, a) :: l) x = getI l x := by simp [getI, List.find?_cons, z]
        rw [this, valV_neg (p := (kf k, v)) fun h => z (hk.inj _ _ h)]
        exact RpKv.val hk x t fun k p hp => hi k p (by simp [hp])
theorem keyD_inj : ∀ {a b : Key}, keyD a = keyD b → a = b
  | .inl i, .inl j, h => by cases h; rfl
  | .inr i, .inr j, h => by cases h; rfl
  | .inl i, .inr j, h => by cases h
  | .inr i, .inl j, h => by cases h
theorem RpKv.len {K : KF} {H : Hp} : ∀ {ws : List (Key × V)} {ds : List (D × D)}, RpKv K H ws ds → ws.length = ds.length
  | _, _, .nil => rfl
  | _, _, .cons _ t => congrArg (· + 1) (RpKv.len t)
theorem RpKv.of {K : KF} {H : Hp} : ∀ {ws : List (Key × V)} {kvs : List (Key × D)}, KvRp K H ws kvs → RpKv K H ws (kvs.map fun p => (keyD p.1, p.2))
  | _, _, .nil => .nil
  | (k, v) :: ws, (k', d) :: kvs, .cons h t => by
    obtain ⟨h1, h2⟩ := h
    have h1' : k = k' := h1
    subst h1'
    exact .cons h2 (RpKv.of t)
theorem RpKv.ofI {K : KF} {H : Hp} {ws : List (Key × V)} {l : List (κ × α)} (h : KvRp K H ws (l.map fun p => (kf p.1, E p.2))) : RpKv K H ws (l.map fun p => (keyD (kf p.1), E p.2)) := by
  have := RpKv.of h
  rw [List.map_map] at this
  exact this
theorem get_data {K : KF} {Hf : Hp} {v : V} {l : List (κ × α)} {x : κ} {a : α} (hk : Kf kf Ek) (r : Rp K Hf v (Ty.dct kf E l)) (h : getI l x = some a) : ∃ p ws u, v = .ref p ∧ Rd Hf p (.dK ws) ∧ valV ws (kf x) = some u ∧ Rp K Hf u (E a) := by
  cases r with
  | @dct p ws _ hs ra =>
    have := RpKv.val hk x ra fun k p _ => keyD_inj
    rw [h] at this
    obtain ⟨u, h1, h2⟩ := this
    exact ⟨p, ws, u, rfl, hs, h1, h2⟩
theorem in_data {K : KF} {Hf : Hp} {v : V} {l : List (κ × α)} {x : κ} (hk : Kf kf Ek) (r : Rp K Hf v (Ty.dct kf E l)) : ∃ p ws, v = .ref p ∧ Rd Hf p (.dK ws) ∧ (valV ws (kf x)).isSome = (getI l x).isSome := by
  cases r with
  | @dct p ws _ hs ra =>
    have := RpKv.val hk x ra fun k p _ => keyD_inj
    refine ⟨p, ws, rfl, hs, ?_⟩
    cases e : getI l x with
    | none => rw [e] at this; rw [this]; rfl
    | some a => rw [e] at this; obtain ⟨u, h1, _⟩ := this; rw [h1]; rfl
end
section
variable {X : Cx} {S : Type} {ι : Io S} {Δ : Dl} {s : S} {R : Type} {pos p : Pos} {a b c e : Expr} {k : Nat}
variable {κ α β : Type} [DecidableEq κ] {kf : κ → Key} {Ek : κ → D} {E : α → D} {F : β → D}
variable {Md : (List (κ × α) → S → Option R) → Option R} {Mk : S → (κ → S → Option R) → Option R}
variable {Mk0 : (κ → S → Option R) → Option R} {Md1 : S → (List (κ × α) → S → Option R) → Option R}
/-- d[k] -/
theorem ex_getD (hr : Room k X.A) (hk : Kf kf Ek) (ha : EX X ι Δ s a Md (Ty.dct kf E)) (hb : ∀ s1, EX X ι Δ s1 b (Mk s1) Ek) (hs : NoSl b := by exact fun _ _ => rfl) :
    EX X ι Δ s (.Subscript a b pos) (fun k => Md fun l s1 => Mk s1 fun x s2 => (getI l x).bind fun z => k z s2) E := by
  intro kk r hk' σ H Hf A Q st q
  refine tE_of (pe_dget (by have := hr.units; omega) (pE X a) (pE X b) hs) (ha _ r hk' σ H Hf A _ st fun l s1 hx v H1 Hf1 st1 e1 r1 => ?_)
  refine hb s1 _ r hx σ H1 Hf1 A _ st1 fun x s2 hy w H2 Hf2 st2 e2 r2 => ?_
  obtain ⟨z, h1, h2⟩ := bind_some hy
  obtain ⟨p, ws, u, rfl, hd, hv, ru⟩ := get_data hk (r1.up e2.grow) h1
  exact ⟨p, u, rfl, .inl ⟨ws, kf x, st2.sub.rd hd, hk.dat _ _ _ _ r2, hv.symm⟩, q z s2 h2 u H2 Hf2 st2 (e1.trans e2) ru⟩
/-- k in d -/
theorem ex_inD (hr : Room k X.A) (hk : Kf kf Ek) (ha : EX X ι Δ s a Mk0 Ek) (hb : ∀ s1, EX X ι Δ s1 b (Md1 s1) (Ty.dct kf E)) (h1 : behindInMarks .In b = false := by with_unfolding_all rfl) :
    EX X ι Δ s (.Compare a [.In] [b] pos) (fun k => Mk0 fun x s1 => Md1 s1 fun l s2 => k ((getI l x).isSome) s2) Ty.bool := by
  intro kk r hk' σ H Hf A Q st q
  refine tE_of (pe_cmp (pc_din (by have := hr.units; omega) (pE X a) (pE X b)) h1) (ha _ r hk' σ H Hf A _ st fun x s1 hx v H1 Hf1 st1 e1 r1 => ?_)
  refine hb s1 _ r hx σ H1 Hf1 A _ st1 fun l s2 hy w H2 Hf2 st2 e2 r2 => ?_
  obtain ⟨p, ws, rfl, hd, hv⟩ := in_data (x := x) hk r2
  refine ⟨p, _, rfl, .inl ⟨ws, kf x, st2.sub.rd hd, hk.dat _ _ _ _ r1, rfl⟩, ?_⟩
  rw [hv]
  exact q _ s2 hy _ H2 Hf2 st2 (e1.trans e2) (.bl _)
theorem tx_inD (hr : Room k X.A) (hk : Kf kf Ek) (ha : EX X ι Δ s a Mk0 Ek) (hb : ∀ s1, EX X ι Δ s1 b (Md1 s1) (Ty.dct kf E)) (h1 : behindInMarks .In b = false := by with_unfolding_all rfl) :
    TX X ι Δ s (.Compare a [.In] [b] pos) (fun k => Mk0 fun x s1 => Md1 s1 fun l s2 => k ((getI l x).isSome) s2) := by
  intro kk r hk' σ H Hf A Q st q
  refine tT_of (pt_cmp (pc_din (by have := hr.units; omega) (pE X a) (pE X b)) h1) (ha _ r hk' σ H Hf A _ st fun x s1 hx v H1 Hf1 st1 e1 r1 => ?_)
  refine hb s1 _ r hx σ H1 Hf1 A _ st1 fun l s2 hy w H2 Hf2 st2 e2 r2 => ?_
  obtain ⟨p, ws, rfl, hd, hv⟩ := in_data (x := x) hk r2
  refine ⟨p, _, rfl, .inl ⟨ws, kf x, st2.sub.rd hd, hk.dat _ _ _ _ r1, rfl⟩, _, rfl, ?_⟩
  rw [hv]
  exact q _ s2 hy H2 Hf2 st2 (e1.trans e2)
theorem ex_notInD (hr : Room k X.A) (hk : Kf kf Ek) (ha : EX X ι Δ s a Mk0 Ek) (hb : ∀ s1, EX X ι Δ s1 b (Md1 s1) (Ty.dct kf E)) (h1 : behindInMarks .NotIn b = false := by with_unfolding_all rfl) :
    EX X ι Δ s (.Compare a [.NotIn] [b] pos) (fun k => Mk0 fun x s1 => Md1 s1 fun l s2 => k (!(getI l x).isSome) s2) Ty.bool := by
  intro kk r hk' σ H Hf A Q st q
  refine tE_of (pe_cmp (pc_dnotin (by have := hr.units; omega) (pE X a) (pE X b)) h1) (ha _ r hk' σ H Hf A _ st fun x s1 hx v H1 Hf1 st1 e1 r1 => ?_)
  refine hb s1 _ r hx σ H1 Hf1 A _ st1 fun l s2 hy w H2 Hf2 st2 e2 r2 => ?_
  obtain ⟨p, ws, rfl, hd, hv⟩ := in_data (x := x) hk r2
  refine ⟨p, _, rfl, .inl ⟨ws, kf x, st2.sub.rd hd, hk.dat _ _ _ _ r1, rfl⟩, ?_⟩
  rw [hv]
  exact q _ s2 hy _ H2 Hf2 st2 (e1.trans e2) (.bl _)
theorem tx_notInD (hr : Room k X.A) (hk : Kf kf Ek) (ha : EX X ι Δ s a Mk0 Ek) (hb : ∀ s1, EX X ι Δ s1 b (Md1 s1) (Ty.dct kf E)) (h1 : behindInMarks .NotIn b = false := by with_unfolding_all rfl) :
    TX X ι Δ s (.Compare a [.NotIn] [b] pos) (fun k => Mk0 fun x s1 => Md1 s1 fun l s2 => k (!(getI l x).isSome) s2) := by
  intro kk r hk' σ H Hf A Q st q
  refine tT_of (pt_cmp (pc_dnotin (by have := hr.units; omega) (pE X a) (pE X b)) h1) (ha _ r hk' σ H Hf A _ st fun x s1 hx v H1 Hf1 st1 e1 r1 => ?_)
  refine hb s1 _ r hx σ H1 Hf1 A _ st1 fun l s2 hy w H2 Hf2 st2 e2 r2 => ?_
  obtain ⟨p, ws, rfl, hd, hv⟩ := in_data (x := x) hk r2
  refine ⟨p, _, rfl, .inl ⟨ws, kf x, st2.sub.rd hd, hk.dat _ _ _ _ r1, rfl⟩, _, rfl, ?_⟩
  rw [hv]
  exact q _ s2 hy H2 Hf2 st2 (e1.trans e2)
theorem call_lenDR : CallR X (.builtin "len") (fun xs H Q => ∃ a kvs, xs = [V.ref a] ∧ Rd H a (.dK kvs) ∧ Q (.int kvs.length) H) := by
  intro pins s σ H xs us Q I r h
  obtain ⟨a, kvs, rfl, ha, q⟩ := h
  obtain ⟨u, rfl, ru⟩ := vals1 r
  cases ru
  exact d_len I ha fun t s' I' => ⟨.int kvs.length, H, I', ⟨t, rfl⟩, q⟩
theorem ex_lenD (hm : X.mg "len" = none) (ha : EX X ι Δ s a Md (Ty.dct kf E)) (hgl : Gl X "len" := by rfl) (he : starEach [a] X.env = (false, eval a X.env) :: starEach [] X.env := by rfl) :
    EX X ι Δ s (.Call (.Name "len" p) [a] [] pos) (fun k => Md fun y s1 => k (y.length : Int) s1) Ty.int := by
  refine ex_callB1T (g := fun y : List (κ × α) => (y.length : Int)) call_lenDR hm Bo.len (fun y v H Hf Q sb rv q => ?_) ha hgl (by decide) (by decide) he rfl
  cases rv with
  | @dct p ws _ hs ra =>
    have hl := ra.len
    rw [List.length_map] at hl
    refine ⟨p, ws, rfl, sb.rd hs, ?_⟩
    rw [hl]
    exact q _ H Hf (Ext.refl _ _) sb (.int _)
/-- x.bit_length() -/
theorem ex_bits {Mi : (Int → S → Option R) → Option R} {apos : Pos} (ha : EX X ι Δ s a Mi Ty.int) (hbase : attributeBase a "bit_length" X.env (eval a X.env) = eval a X.env := by rfl) (hline : (apos.endLine == pos.line) = true := by rfl) :
    EX X ι Δ s (.Call (.Attribute a "bit_length" apos) [] [] pos) (fun k => Mi fun x s1 => k (Builtin.Int.intBits x : Int) s1) Ty.int := by
  intro kk r hk' σ H Hf A Q st q
  refine tE_of (pe_bits (pE X a) hbase hline) (ha _ r hk' σ H Hf A _ st fun x s1 hx v H1 Hf1 st1 e1 r1 => ?_)
  cases r1
  exact ⟨x, rfl, q _ s1 hx _ H1 Hf1 st1 e1 (.int _)⟩
/-- x is None, of something that may be -/
theorem non_of {K : KF} {H : Hp} {v : V} {o : Option α} (hz : ∀ x, E x ≠ .none) (r : Rp K H v (Ty.opt E o)) : decide (v = .non) = o.isNone := by
  cases o with
  | none => cases r; rfl
  | some a =>
    refine decide_eq_false fun e => ?_
    subst e
    have r' : Rp K H .non (E a) := r
    generalize hd : E a = d at r'
    cases r'
    exact hz a hd
variable {Mo : (Option α → S → Option R) → Option R}
theorem ex_isN {j : Nat} {pc : Pos} (hz : ∀ x, E x ≠ .none) (ha : EX X ι Δ s a Mo (Ty.opt E)) (h1 : behindInMarks .Is (.Constant .none j pc) = false := by rfl) : EX X ι Δ s (.Compare a [.Is] [.Constant .none j pc] pos) (fun k => Mo fun o s1 => k o.isNone s1) Ty.bool := by
  intro kk r hk' σ H Hf A Q st q
  refine tE_of (pe_cmp (pc_isN (pE X a)) h1) (ha _ r hk' σ H Hf A _ st fun o s1 hx v H1 Hf1 st1 e1 r1 => ?_)
  rw [non_of hz r1]
  exact q _ s1 hx _ H1 Hf1 st1 e1 (.bl _)
theorem tx_isN {j : Nat} {pc : Pos} (hz : ∀ x, E x ≠ .none) (ha : EX X ι Δ s a Mo (Ty.opt E)) (h1 : behindInMarks .Is (.Constant .none j pc) = false := by rfl) : TX X ι Δ s (.Compare a [.Is] [.Constant .none j pc] pos) (fun k => Mo fun o s1 => k o.isNone s1) := by
  intro kk r hk' σ H Hf A Q st q
  refine tT_of (pt_cmp (pc_isN (pE X a)) h1) (ha _ r hk' σ H Hf A _ st fun o s1 hx v H1 Hf1 st1 e1 r1 => ?_)
  rw [non_of hz r1]
  exact ⟨_, rfl, q _ s1 hx H1 Hf1 st1 e1⟩
theorem ex_notN {j : Nat} {pc : Pos} (hz : ∀ x, E x ≠ .none) (ha : EX X ι Δ s a Mo (Ty.opt E)) (h1 : behindInMarks .IsNot (.Constant .none j pc) = false := by rfl) : EX X ι Δ s (.Compare a [.IsNot] [.Constant .none j pc] pos) (fun k => Mo fun o s1 => k (!o.isNone) s1) Ty.bool := by
  intro kk r hk' σ H Hf A Q st q
  refine tE_of (pe_cmp (pc_notN (pE X a)) h1) (ha _ r hk' σ H Hf A _ st fun o s1 hx v H1 Hf1 st1 e1 r1 => ?_)
  rw [non_of hz r1]
  exact q _ s1 hx _ H1 Hf1 st1 e1 (.bl _)
theorem tx_notN {j : Nat} {pc : Pos} (hz : ∀ x, E x ≠ .none) (ha : EX X ι Δ s a Mo (Ty.opt E)) (h1 : behindInMarks .IsNot (.Constant .none j pc) = false := by rfl) : TX X ι Δ s (.Compare a [.IsNot] [.Constant .none j pc] pos) (fun k => Mo fun o s1 => k (!o.isNone) s1) := by
  intro kk r hk' σ H Hf A Q st q
  refine tT_of (pt_cmp (pc_notN (pE X a)) h1) (ha _ r hk' σ H Hf A _ st fun o s1 hx v H1 Hf1 st1 e1 r1 => ?_)
  rw [non_of hz r1]
  exact ⟨_, rfl, q _ s1 hx H1 Hf1 st1 e1⟩
/-- isinstance of something that may be None -/
theorem ex_isiO {t T : String} {Tn : Str} {r0 : Bool} {pT : Pos} (hm : X.mg "isinstance" = none) (hmT : X.mg Tn = none) (hT : bootBuiltins Tn = some (.type T)) (ty : TyD E t) (ha : EX X ι Δ s a Mo (Ty.opt E)) (hk : kitB t T = some r0 := by decide +kernel) (hk0 : kitB "NoneType" T = some false := by decide +kernel) (hgl : Gl X "isinstance" := by rfl) (hglT : Gl X Tn := by rfl)
    (hnT : Tn ≠ "__name__" := by decide) (hdT : (Tn == ("__debug__" : Str)) = false := by decide)
    (he : starEach (a :: [.Name Tn pT]) X.env = (false, eval a X.env) :: starEach [.Name Tn pT] X.env := by rfl) (he2 : starEach [.Name Tn pT] X.env = (false, eval (.Name Tn pT) X.env) :: starEach [] X.env := by rfl) (hpl : (backTo pos (starEach [.Name Tn pT] X.env)).any (·.1) = false := by rfl) :
    EX X ι Δ s (.Call (.Name "isinstance" p) [a, .Name Tn pT] [] pos) (fun k => Mo fun y s1 => k (y.isSome && r0) s1) Ty.bool := by
  intro k r hk' σ H Hf A Q st q
  refine tE_of (pe_callB call_isi hgl hm Bo.isinstance (pa_cons (pE X a) (pa_cons (pe_bltn (v := .ty T) hglT hmT hT rfl hnT hdT) pa_nil he2) he) (by decide) (by decide) he hpl) ?_
  refine ha _ r hk' σ H Hf A _ st fun y s1 hx v H1 Hf1 st1 e1 r1 => ?_
  cases y with
  | none =>
    cases r1
    exact ⟨_, .ty T, _, _, false, rfl, .ty T, .base .non, kit_ty hk0, q _ s1 hx _ H1 Hf1 st1 e1 (.bl _)⟩
  | some y =>
    exact ⟨v, .ty T, _, _, r0, rfl, .ty T, ty X.K H1 v y (Rp.up r1 st1.sub), kit_ty hk, q _ s1 (by simpa using hx) _ H1 Hf1 st1 e1 (.bl _)⟩
end
end Ab
namespace Ab
open PySem PySem.Spec PyProof.Rows L2
/-! ### dicts of one's own -/
theorem mapD {κ α : Type} {kf : κ → Key} {E : α → D} {l : List (κ × α)} : ((l.map fun p => (kf p.1, E p.2)).map fun p => (keyD p.1, p.2)) = l.map fun p => (keyD (kf p.1), E p.2) := by rw [List.map_map]; rfl
theorem Sat.dctAt {K : KF} {σ : L2.St} {H Hf : Hp} {Δ : Dl} {A : Nat → List Addr} {i : Nat} {kvs : List (Key × D)} (st : Sat K σ H Hf Δ A) (h : lk Δ i = some (.dct kvs)) : ∃ l vs, σ[i]? = some (some (.ref l)) ∧ A i = [l] ∧ H l = some (.dK vs) ∧ KvRp K Hf vs kvs := by
  obtain ⟨v, h1, a, xs, rfl, h2, h3, h4⟩ := st.slot i _ h
  exact ⟨a, xs, h1, h2, h3, h4⟩
theorem Sat.thawD {K : KF} {σ : L2.St} {H Hf : Hp} {P Δ : Dl} {A : Nat → List Addr} {i : Nat} {l : Addr} {vs : List (Key × V)} {kvs : List (Key × D)} (st : Sat K σ H Hf (P ++ Δ) A) (hP : i ∉ P.map (·.1)) (hA : A i = [l]) (hσ : σ[i]? = some (some (.ref l)))
    (hl : H l = some (.dK vs)) (ra : KvRp K Hf vs kvs) : Sat K σ H (upd Hf l (.dK vs)) (P ++ (i, some (.imm (.dict (kvs.map fun p => (keyD p.1, p.2))))) :: Δ) (cut A i []) := by
  have hn : Hf l = none := (st.own i l (by rw [hA]; simp)).1
  have gr : Sub Hf (upd Hf l (.dK vs)) := fun b u h => by rw [upd_ne (ne_of_none h hn)]; exact h
  have hin : ∀ j a, a ∈ cut A i [] j → a ∈ A j ∧ j ≠ i := fun j a h => by
    by_cases z : j = i
    · subst z; rw [cut_self] at h; simp at h
    · rw [cut_ne z] at h; exact ⟨h, z⟩
  refine ⟨fun a u h => ?_, fun j T h => ?_, fun j a h => ?_, fun j k a h1 h2 => st.inj j k a (hin j a h1).1 (hin k a h2).1⟩
  · by_cases q : a = l
    · subst q; rw [upd_same] at h; rw [hl]; exact h
    · rw [upd_ne q] at h; exact st.sub a u h
  · by_cases z : j = i
    · subst z
      rw [lk_append_out hP, lk_self] at h
      cases h
      exact ⟨_, hσ, by rw [cut_self], .dct (.inl upd_same) (RpKv.of (KvRp.up ra gr))⟩
    · have h' : lk (P ++ Δ) j = some T := by
        by_cases m : j ∈ P.map (·.1)
        · rw [lk_append_in (Δ' := Δ) m] at h; exact h
        · rw [lk_append_out m] at h ⊢; rw [lk_ne z] at h; exact h
      obtain ⟨v, h1, h2⟩ := st.slot j T h'
      rw [cut_ne z]
      exact ⟨v, h1, h2.up gr fun a _ u q => q⟩
  · obtain ⟨m, z⟩ := hin j a h
    obtain ⟨n1, n2⟩ := st.own j a m
    refine ⟨?_, n2⟩
    by_cases q : a = l
    · subst q; exact absurd (st.inj j i a m (by rw [hA]; simp)) z
    · rw [upd_ne q]; exact n1
theorem tup_offD {K : KF} {H : Hp} {l a : Addr} {vs : List (Key × V)} {xs : List V} (hl : H l = some (.dK vs)) (h : SqT K H a xs) : SqT K (off H l) a xs := by
  rcases h with (h | ⟨o, h⟩) | h
  · exact .inl (.inl (by rw [off_ne (fun z => by rw [z, hl] at h; cases h)]; exact h))
  · exact .inl (.inr ⟨o, by rw [off_ne (fun z => by rw [z, hl] at h; cases h)]; exact h⟩)
  · exact .inr h
mutual
theorem Rp.offD {K : KF} {H : Hp} {l : Addr} {vs : List (Key × V)} (hl : H l = some (.dK vs)) : ∀ (d : D) (v : V), flatD d = true → Rp K H v d → Rp K (off H l) v d
  | .none, _, _, h => by cases h; exact .non
  | .bool b, _, _, h => by cases h; exact .bl b
  | .int i, _, _, h => by cases h; exact .int i
  | .str x, _, _, h => by cases h with | str _ ok => exact .str x ok
  | .list ds, _, f, h => by cases f
  | .tuple ds, _, f, h => by cases h with | tup s z r => exact .tup (tup_offD hl s) z (RpAll.offD hl ds _ f r)
  | .dict _, _, f, h => by cases f
theorem RpAll.offD {K : KF} {H : Hp} {l : Addr} {vs : List (Key × V)} (hl : H l = some (.dK vs)) : ∀ (ds : List D) (ws : List V), flatDs ds = true → RpAll K H ws ds → RpAll K (off H l) ws ds
  | [], _, _, h => by cases h; exact .nil
  | d :: ds, _, f, h => by
    have f1 : (flatD d && flatDs ds) = true := f
    rw [Bool.and_eq_true] at f1
    cases h with | cons r t => exact .cons (Rp.offD hl d _ f1.1 r) (RpAll.offD hl ds _ f1.2 t)
end
section
variable {X : Cx} {S : Type} {ι : Io S} {Δ : Dl} {s : S} {R : Type} {out : R → Out S} {st : List Stmt} {m : Option R} {pos : Pos} {e : Expr}
variable {κ α β : Type} [DecidableEq κ] {kf : κ → Key} {E : α → D} {F : β → D}
theorem bx_freezeD (i : Nat) {l : List (κ × α)} (hl : lk (ι.tr s ++ Δ) i = some (dtr kf E l)) (h : BX X ι (iv i (Ty.dct kf E) l :: Δ) s st m out) (hix : i ∉ ι.ix := by decide) : BX X ι Δ s st m out := by
  intro r hr σ H Hf A Dn sat p
  obtain ⟨a, vs, h1, h2, h3, h5⟩ := sat.dctAt hl
  have hn : Hf a = none := (sat.own i a (by rw [h2]; simp)).1
  have gr : Sub Hf (upd Hf a (.dK vs)) := fun b u h => by rw [upd_ne (ne_of_none h hn)]; exact h
  have st2 := sat.thawD (P := ι.tr s) (by rw [ι.keys]; exact hix) h2 h1 h3 h5
  rw [mapD] at st2
  refine h r hr σ H _ _ Dn st2 (p.step ⟨fun _ _ => rfl, fun _ _ _ h => h, fun _ h => h, gr, fun b hb => ?_, fun j b hb => ?_, fun j hj => cut_ne (ne_mem hj hix)⟩)
  · by_cases z : b = a
    · subst z; exact .inr (.inr ⟨i, hix, by rw [h2]; simp⟩)
    · rw [upd_ne z] at hb; exact .inl hb
  · by_cases z : j = i
    · subst z; rw [cut_self] at hb; simp at hb
    · rw [cut_ne z] at hb; exact .inl ⟨j, hb, fun _ => rfl⟩
theorem peek_backD {K : KF} {σ : L2.St} {H Hf H' Hf' : Hp} {A : Nat → List Addr} {i : Nat} {a : Addr} {vs : List (Key × V)} {d0 : D} {s' : S} (fr : ι.free) (st : Sat K σ H Hf (ι.tr s ++ Δ) A) (hix : i ∉ ι.ix) (h2 : A i = [a]) (h3 : H a = some (.dK vs))
    (st' : Sat K σ H' Hf' (ι.tr s' ++ (i, some (.imm d0)) :: Δ) (cut A i [])) (e' : ExtA ι.ix (cut A i []) H (upd Hf a (.dK vs)) H' Hf') : Hf' a = some (.dK vs) ∧ Sat K σ H' (off Hf' a) (ι.tr s' ++ Δ) A ∧ ExtA ι.ix A H Hf H' (off Hf' a) := by
  have hn : Hf a = none := (st.own i a (by rw [h2]; simp)).1
  have hfa : Hf' a = some (.dK vs) := e'.grow _ _ upd_same
  have hsub : Sub Hf (off Hf' a) := fun b u h => by
    have ne : b ≠ a := ne_of_none h hn
    rw [off_ne ne]
    exact e'.grow _ _ (by rw [upd_ne ne]; exact h)
  have kp : ∀ j, j ∉ ι.ix → ∀ b ∈ A j, ∀ o, H b = some o → H' b = some o := fun j hj b hb o ho => e'.keep b o (fun j' hj' m => by
    by_cases z : j' = i
    · subst z; exact hix hj'
    · rw [cut_ne z] at m
      have := st.inj j j' b hb m
      subst this
      exact hj hj') ho
  refine ⟨hfa, ⟨fun b u h => ?_, fun j T hj => ?_, fun j b hb => ?_, st.inj⟩, ⟨fun b o m h => e'.keep b o (fun j hj hm => ?_) h, e'.there, hsub, fun b hb => ?_⟩⟩
  · by_cases z : b = a
    · subst z; rw [off_same] at h; cases h
    · rw [off_ne z] at h; exact st'.sub b u h
  · by_cases m : j ∈ ι.ix
    · have z : j ≠ i := fun z => hix (z ▸ m)
      have m1 : j ∈ (ι.tr s').map (·.1) := by rw [ι.keys]; exact m
      have hj2 : lk (ι.tr s' ++ (i, some (.imm d0)) :: Δ) j = some T := by rw [lk_append_in (Δ' := Δ) m1]; exact hj
      obtain ⟨v, g1, g2⟩ := st'.slot j T hj2
      rw [cut_ne z] at g2
      have hj3 : lk (ι.tr s') j = some T := by
        have := lk_append_in (Δ := Δ) (Δ' := []) m1
        rw [List.append_nil] at this
        rw [← this]; exact hj
      exact ⟨v, g1, fr s' j T hj3 _ _ _ _ _ _ g2⟩
    · have m0 : j ∉ (ι.tr s).map (·.1) := by rw [ι.keys]; exact m
      have m1 : j ∉ (ι.tr s').map (·.1) := by rw [ι.keys]; exact m
      rw [lk_append_out m1] at hj
      obtain ⟨v, g1, g2⟩ := st.slot j T (by rw [lk_append_out m0]; exact hj)
      exact ⟨v, g1, g2.up hsub fun b hb o ho => kp j m b hb o ho⟩
  · refine ⟨?_, e'.there b (st.own j b hb).2⟩
    by_cases z : b = a
    · subst z; exact off_same
    · rw [off_ne z]
      by_cases zj : j = i
      · subst zj; rw [h2] at hb; exact absurd (by simpa using hb) z
      · exact (st'.own j b (by rw [cut_ne zj]; exact hb)).1
  · by_cases z : j = i
    · subst z; exact hix hj
    · rw [cut_ne z] at hm; exact m j hj hm
  · by_cases z : b = a
    · subst z; rw [off_same] at hb; exact absurd rfl hb
    · rw [off_ne z] at hb
      rcases e'.news b hb with q | q
      · rw [upd_ne z] at q; exact .inl q
      · exact .inr q
theorem ex_peekD (i : Nat) {l : List (κ × α)} (fr : ι.free) {M : (β → S → Option R) → Option R} (hl : lk (ι.tr s ++ Δ) i = some (dtr kf E l)) (h : EX X ι (iv i (Ty.dct kf E) l :: Δ) s e M F) (hF : ∀ x, flatD (F x) = true) (hix : i ∉ ι.ix := by decide) : EX X ι Δ s e M F := by
  intro k r hk σ H Hf A Q st q
  obtain ⟨a, vs, h1, h2, h3, h5⟩ := st.dctAt hl
  refine h k r hk σ H _ _ Q (by have z := st.thawD (P := ι.tr s) (by rw [ι.keys]; exact hix) h2 h1 h3 h5; rw [mapD] at z; exact z) fun x s' hx v H' Hf' st' e' r' => ?_
  obtain ⟨hfa, st2, e2⟩ := peek_backD fr st hix h2 h3 st' e'
  exact q x s' hx v H' _ st2 e2 (Rp.offD hfa _ _ (hF x) r')
theorem tx_peekD (i : Nat) {l : List (κ × α)} (fr : ι.free) {M : (Bool → S → Option R) → Option R} (hl : lk (ι.tr s ++ Δ) i = some (dtr kf E l)) (h : TX X ι (iv i (Ty.dct kf E) l :: Δ) s e M) (hix : i ∉ ι.ix := by decide) : TX X ι Δ s e M := by
  intro k r hk σ H Hf A Q st q
  obtain ⟨a, vs, h1, h2, h3, h5⟩ := st.dctAt hl
  refine h k r hk σ H _ _ Q (by have z := st.thawD (P := ι.tr s) (by rw [ι.keys]; exact hix) h2 h1 h3 h5; rw [mapD] at z; exact z) fun x s' hx H' Hf' st' e' => ?_
  obtain ⟨hfa, st2, e2⟩ := peek_backD fr st hix h2 h3 st' e'
  exact q x s' hx H' _ st2 e2
theorem eo_peekD (i : Nat) {l : List (κ × α)} (fr : ι.free) {M : (List β → S → Option R) → Option R} (hl : lk (ι.tr s ++ Δ) i = some (dtr kf E l)) (h : EO X ι (iv i (Ty.dct kf E) l :: Δ) s e M F) (hF : ∀ x, flatD (F x) = true) (hix : i ∉ ι.ix := by decide) : EO X ι Δ s e M F := by
  intro k r hk σ H Hf A Q st q
  obtain ⟨a, vs, h1, h2, h3, h5⟩ := st.dctAt hl
  refine h k r hk σ H _ _ Q (by have z := st.thawD (P := ι.tr s) (by rw [ι.keys]; exact hix) h2 h1 h3 h5; rw [mapD] at z; exact z) fun x s' hx b ws H' Hf' st' e' hb hz r' hn hf => ?_
  obtain ⟨hfa, st2, e2⟩ := peek_backD fr st hix h2 h3 st' e'
  refine q x s' hx b ws H' _ st2 e2 hb hz (RpAll.offD hfa _ _ (flat_map hF x) r') ?_ hf
  have : b ≠ a := fun z => by rw [z, h3] at hf; cases hf
  rw [off_ne this]; exact hn
theorem lo_peekD (i : Nat) {l : List (κ × α)} (fr : ι.free) {elt tg iter : Expr} {ifs : List Expr} {scope : Scope} {own : List (Str × Nat)} {M : (List β → S → Option R) → Option R} (hl : lk (ι.tr s ++ Δ) i = some (dtr kf E l)) (h : LO X ι (iv i (Ty.dct kf E) l :: Δ) s elt tg iter ifs scope own M F) (hF : ∀ x, flatD (F x) = true) (hix : i ∉ ι.ix := by decide) : LO X ι Δ s elt tg iter ifs scope own M F := by
  refine ⟨h.hN, h.ok, h.hc, h.hs, ?_⟩
  intro k r hk σ H Hf A Q st q
  obtain ⟨a, vs, h1, h2, h3, h5⟩ := st.dctAt hl
  refine h.read k r hk σ H _ _ Q (by have z := st.thawD (P := ι.tr s) (by rw [ι.keys]; exact hix) h2 h1 h3 h5; rw [mapD] at z; exact z) fun x s' hx b ws H' Hf' st' e' hb hz r' hn hf => ?_
  obtain ⟨hfa, st2, e2⟩ := peek_backD fr st hix h2 h3 st' e'
  refine q x s' hx b ws H' _ st2 e2 hb hz (RpAll.offD hfa _ _ (flat_map hF x) r') ?_ hf
  have : b ≠ a := fun z => by rw [z, h3] at hf; cases hf
  rw [off_ne this]; exact hn
end
theorem Sat.redct {K : KF} {σ : L2.St} {H Hf : Hp} {P Δ : Dl} {A : Nat → List Addr} {i : Nat} {l : Addr} {vs : List (Key × V)} {kvs : List (Key × D)} (st : Sat K σ H Hf (P ++ Δ) A) (hP : i ∉ P.map (·.1)) (hA : A i = [l]) (hσ : σ[i]? = some (some (.ref l)))
    (ra : KvRp K Hf vs kvs) : Sat K σ (upd H l (.dK vs)) Hf (P ++ (i, some (.dct kvs)) :: Δ) A where
  sub := fun a u e => by
    have : a ≠ l := fun z => by
      have := (st.own i l (by rw [hA]; simp)).1
      rw [z, this] at e; cases e
    rw [upd_ne this]; exact st.sub a u e
  slot := fun j T hj => by
    by_cases e : j = i
    · subst e
      rw [lk_append_out hP, lk_self] at hj
      cases hj
      exact ⟨_, hσ, l, vs, rfl, hA, upd_same, ra⟩
    · have hj' : lk (P ++ Δ) j = some T := by
        by_cases m : j ∈ P.map (·.1)
        · rw [lk_append_in (Δ' := Δ) m] at hj; exact hj
        · rw [lk_append_out m, lk_ne e] at hj; rw [lk_append_out m]; exact hj
      obtain ⟨w, h1, h2⟩ := st.slot j T hj'
      refine ⟨w, h1, h2.up (Sub.refl _) fun a ha u hu => ?_⟩
      have : a ≠ l := fun z => e (st.inj j i a ha (by rw [hA, z]; simp))
      rw [upd_ne this]; exact hu
  own := fun j a ha => by
    refine ⟨(st.own j a ha).1, ?_⟩
    by_cases z : a = l
    · subst z; rw [upd_same]; simp
    · rw [upd_ne z]; exact (st.own j a ha).2
  inj := st.inj
/-! a dict's pairs, put in -/
theorem KvRp.any {K : KF} {Hf : Hp} {κ α : Type} [DecidableEq κ] {kf : κ → Key} (inj : ∀ x y, kf x = kf y → x = y) {E : α → D} (x : κ) : ∀ {l : List (κ × α)} {ws : List (Key × V)}, KvRp K Hf ws (l.map fun p => (kf p.1, E p.2)) → (ws.any fun kv => decide (kv.1 = kf x)) = l.any fun p => decide (p.1 = x)
  | [], _, .nil => rfl
  | (k, a) :: l, (k', v) :: ws, .cons h t => by
    obtain ⟨h1, _⟩ := h
    have h1' : k' = kf k := h1
    subst h1'
    rw [List.any_cons, List.any_cons, KvRp.any inj x t]
    have : decide (kf k = kf x) = decide (k = x) := by
      by_cases z : k = x
      · subst z; simp
      · simp [z]; exact fun q => z (inj _ _ q)
    show (decide (kf k = kf x) || _) = (decide (k = x) || _)
    rw [this]
theorem KvRp.mapx {K : KF} {Hf : Hp} {κ α : Type} [DecidableEq κ] {kf : κ → Key} (inj : ∀ x y, kf x = kf y → x = y) {E : α → D} {x : κ} {a : α} {v : V} (rv : Rp K Hf v (E a)) : ∀ {l : List (κ × α)} {ws : List (Key × V)}, KvRp K Hf ws (l.map fun p => (kf p.1, E p.2)) → KvRp K Hf (ws.map fun kv => if kv.1 = kf x then (kv.1, v) else kv) ((l.map fun p => if p.1 = x then (p.1, a) else p).map fun p => (kf p.1, E p.2))
  | [], _, .nil => .nil
  | (k, b) :: l, (k', u) :: ws, .cons h t => by
    obtain ⟨h1, h2⟩ := h
    have h1' : k' = kf k := h1
    subst h1'
    refine .cons ?_ (KvRp.mapx inj rv t)
    by_cases z : k = x
    · subst z; simp; exact rv
    · have : ¬ kf k = kf x := fun q => z (inj _ _ q)
      simp [z, this]; exact h2
theorem KvRp.snoc {K : KF} {Hf : Hp} {k : Key} {v : V} {d : D} (r : Rp K Hf v d) : ∀ {ws : List (Key × V)} {l : List (Key × D)}, KvRp K Hf ws l → KvRp K Hf (ws ++ [(k, v)]) (l ++ [(k, d)]) := fun h => Paired.snoc h ⟨rfl, r⟩
theorem KvRp.put {K : KF} {Hf : Hp} {κ α : Type} [DecidableEq κ] {kf : κ → Key} (inj : ∀ x y, kf x = kf y → x = y) {E : α → D} {x : κ} {a : α} {v : V} (rv : Rp K Hf v (E a)) {l : List (κ × α)} {ws : List (Key × V)} (h : KvRp K Hf ws (l.map fun p => (kf p.1, E p.2))) :
    KvRp K Hf (putK ws (kf x) v) ((putI l x a).map fun p => (kf p.1, E p.2)) := by
  unfold putK putI
  rw [KvRp.any inj x h]
  split
  · exact KvRp.mapx inj rv h
  · rw [List.map_append]
    exact KvRp.snoc rv h
theorem KvRp.len {K : KF} {H : Hp} {ws : List (Key × V)} {l : List (Key × D)} (h : KvRp K H ws l) : ws.length = l.length := Paired.length h
/-- xs[i] = v -/
def setI {α : Type} (l : List α) (i : Int) (v : α) : Option (List α) := (ixN l.length i).map fun j => l.set j v
section
variable {X : Cx} {S : Type} {ι : Io S} {Δ : Dl} {s : S} {R : Type} {out : R → Out S} {rest : List Stmt} {pos pos' po : Pos} {e b : Expr}
variable {κ α β : Type} [DecidableEq κ] {kf : κ → Key} {Ek : κ → D} {E : α → D} {k : Nat}
/-- x = {} -/
theorem bx_setD (i : Nat) {x : Str} {kk : S → Option R} (kf : κ → Key) (E : α → D) (hN : X.N.Nodup) (q : ∀ s', BX X ι (dv i kf E ([] : List (κ × α)) :: Δ) s' rest (kk s') out) (hi : X.N[i]? = some x := by rfl) (hx : Loc X.env.scope x := by first | exact Or.inl rfl | exact Or.inr rfl)
    (hs : swapsWith (.Dict [] [] po) (some (.Name x pos')) pos.line X.env = pure false := by rfl) (hf : X.fn x = true ∨ X.env.scope.names.lookup x = some .local := by first | exact .inl rfl | exact .inr rfl) (hix : i ∉ ι.ix := by decide) :
    BX X ι Δ s (.Assign [.Name x pos'] (.Dict [] [] po) pos :: rest) (kk s) out := by
  intro r hr σ H Hf A Dn st p
  refine tS_inv fun pins sh I => tS_cons (ps_set hN hi hx pe_dnewK hs hf) (fun l nl => ?_)
  have ex := Ext.newO (o := .dK []) (Hf := Hf) nl
  have st' := st.up ex (Sub.newO nl st.sub)
  have hn : Hf l = none := st.sub.non nl
  have hlen : i < σ.length := by rw [I.len]; exact (List.getElem?_eq_some_iff.mp hi).1
  have nA : ∀ j, l ∉ A j := fun j m => (st.own j l m).2 nl
  have e' := ex.toA (ix := ι.ix) (A := A)
  refine q s r hr _ _ Hf _ _ (st'.set (P := ι.tr s) (as := [l]) hlen (by rw [ι.keys]; exact hix) ⟨l, [], rfl, rfl, upd_same, .nil⟩ (fun b hb => by
    have : b = l := by simpa using hb
    subst this
    exact ⟨hn, fun j _ => nA j⟩)) (p.step ⟨fun j hj => List.getElem?_set_ne (ne_mem hj hix).symm, fun a o m h => e'.keep a o (fun i _ => m i) h, e'.there, e'.grow, fun b hb => (e'.news b hb).elim .inl fun z => .inr (.inl z), fun j b hb => ?_, fun j hj => cut_ne (ne_mem hj hix)⟩)
  by_cases z : j = i
  · subst z
    rw [cut_self] at hb
    have : b = l := by simpa using hb
    subst this
    exact .inr nl
  · rw [cut_ne z] at hb
    exact .inl ⟨j, hb, fun _ => rfl⟩
/-- d[k] = v, d one's own -/
theorem bx_putD (i : Nat) {x : Str} {px : Pos} {l : List (κ × α)} {Mv : (α → S → Option R) → Option R} {Mk : S → (κ → S → Option R) → Option R} {kk : List (κ × α) → S → Option R} (hr : Room k X.A) (hk : Kf kf Ek) (hl : lk (ι.tr s ++ Δ) i = some (dtr kf E l)) (hv : EX X ι Δ s e Mv E) (hb : ∀ s1, EX X ι Δ s1 b (Mk s1) Ek)
    (q : ∀ a s', BX X ι (dv i kf E a :: Δ) s' rest (kk a s') out) (hN : X.N[i]? = some x := by rfl)
    (hvis : Vis X.env.scope x := by first | exact Or.inl rfl | exact Or.inr (Or.inl rfl) | exact Or.inr (Or.inr rfl)) (hd : (x == ("__debug__" : Str)) = false := by decide) (hcd : (x == ("__classdict__" : Str)) = false := by decide) (hix : i ∉ ι.ix := by decide)
    (hs : swapsWith e (some (.Subscript (.Name x px) b pos')) pos.line X.env = pure false := by rfl) :
    BX X ι Δ s (.Assign [.Subscript (.Name x px) b pos'] e pos :: rest) (Mv fun v s1 => Mk s1 fun y s2 => guardM (l.length < Line) (letM (putI l y v) fun a => kk a s2)) out := by
  intro r hr' σ H Hf A Dn st p
  obtain ⟨a, vs, h1, h2, h3, h5⟩ := st.dctAt hl
  refine tS_cons (ps_dput (by have := hr.units; omega) (pe_var hN hvis hd hcd) (pE X b) (pE X e) hs) ?_
  refine hv _ r hr' σ H Hf A _ st fun v s1 hx w H1 Hf1 st1 e1 r1 => ?_
  refine ⟨_, h1, ?_⟩
  refine hb s1 _ r hx σ H1 Hf1 A _ st1 fun y s2 hy w2 H2 Hf2 st2 e2 r2 => ?_
  obtain ⟨c, hy⟩ := guardM_some hy
  have hl2 : lk (ι.tr s2 ++ Δ) i = some (dtr kf E l) := by rw [← lk_tail (s := s) hix]; exact hl
  obtain ⟨a', vs', g1, g2, g3, g5⟩ := st2.dctAt hl2
  rw [h1] at g1
  cases g1
  have hlen := g5.len
  rw [List.length_map] at hlen
  have key := hk.dat _ _ _ _ r2
  subst key
  refine ⟨a, _, rfl, DPut.k g3 (lt_line (by rw [hlen]; exact c)), ?_⟩
  refine q _ s2 r hy σ _ Hf2 A Dn (st2.redct (P := ι.tr s2) (by rw [ι.keys]; exact hix) g2 h1 (KvRp.put hk.inj (r1.up e2.grow) g5)) (p.step (((e1.trans e2).stp _ _).trans (stp_poke (i := i) (by rw [g2]; simp))))
/-- xs[i] = v, xs one's own -/
theorem bx_putL (i : Nat) {x : Str} {px : Pos} {l : List α} {Mv : (α → S → Option R) → Option R} {Mk : S → (Int → S → Option R) → Option R} {kk : List α → S → Option R} (hl : lk (ι.tr s ++ Δ) i = some (.lst (l.map E))) (hv : EX X ι Δ s e Mv E) (hb : ∀ s1, EX X ι Δ s1 b (Mk s1) Ty.int)
    (q : ∀ a s', BX X ι (ov i E a :: Δ) s' rest (kk a s') out) (hN : X.N[i]? = some x := by rfl)
    (hvis : Vis X.env.scope x := by first | exact Or.inl rfl | exact Or.inr (Or.inl rfl) | exact Or.inr (Or.inr rfl)) (hd : (x == ("__debug__" : Str)) = false := by decide) (hcd : (x == ("__classdict__" : Str)) = false := by decide) (hix : i ∉ ι.ix := by decide)
    (hs : swapsWithSole [.Subscript (.Name x px) b pos'] e pos.line X.env = pure false := by rfl) (hw : swappedStores [.Subscript (.Name x px) b pos'] e X.env = pure none := by rfl)
    (h1' : (assignEach [.Subscript (.Name x px) b pos'] X.env).map (·.2) = [assign (.Subscript (.Name x px) b pos') X.env] := by rfl)
    (ha : ∀ v, assign (.Subscript (.Name x px) b pos') X.env v = (do
      let ov ← holding [v] (eval (.Name x px) X.env)
      let iv ← holding [v, ov] (eval b X.env)
      standAt pos'
      holding [v, ov, iv] (setItem ov iv v)
      release [v, ov, iv] []) := by intro _; rfl) :
    BX X ι Δ s (.Assign [.Subscript (.Name x px) b pos'] e pos :: rest) (Mv fun v s1 => Mk s1 fun y s2 => (setI l y v).bind fun a => kk a s2) out := by
  intro r hr' σ H Hf A Dn st p
  obtain ⟨a, vs, h1, h2, h3, h4, h5⟩ := st.lstAt hl
  refine tS_cons (ps_asg (pE X e) (pg_sub (pe_var hN hvis hd hcd) (pE X b) set_list ha) hs hw h1') ?_
  refine hv _ r hr' σ H Hf A _ st fun v s1 hx w H1 Hf1 st1 e1 r1 => ?_
  refine ⟨_, h1, ?_⟩
  refine hb s1 _ r hx σ H1 Hf1 A _ st1 fun y s2 hy w2 H2 Hf2 st2 e2 r2 => ?_
  obtain ⟨l2, hs2, hy⟩ := bind_some hy
  have hl2 : lk (ι.tr s2 ++ Δ) i = some (.lst (l.map E)) := by rw [← lk_tail (s := s) hix]; exact hl
  obtain ⟨a', vs', g1, g2, g3, g4, g5⟩ := st2.lstAt hl2
  rw [h1] at g1
  cases g1
  have hlen := g5.len
  rw [List.length_map] at hlen
  cases r2
  unfold setI at hs2
  cases hj : ixN l.length y with
  | none => rw [hj] at hs2; cases hs2
  | some j =>
    rw [hj] at hs2
    cases hs2
    refine ⟨a, vs', y, j, rfl, rfl, g3, by rw [hlen]; exact hj, ?_⟩
    refine q _ s2 r hy σ _ Hf2 A Dn (st2.relst (P := ι.tr s2) (by rw [ι.keys]; exact hix) g2 h1 (by rw [List.length_set]; exact g4) ?_) (p.step (((e1.trans e2).stp _ _).trans (stp_poke (i := i) (by rw [g2]; simp))))
    rw [List.map_set]
    exact g5.set (r1.up e2.grow) j
/-- what may be None is something, from here on -/
theorem bx_narrow (i : Nat) {st : List Stmt} {o : Option α} {m : α → Option R} (hl : lk (ι.tr s ++ Δ) i = some (.imm (Ty.opt E o))) (h : ∀ a, BX X ι (iv i E a :: Δ) s st (m a) out) (hix : i ∉ ι.ix := by decide) : BX X ι Δ s st (o.bind m) out := by
  intro r hr σ H Hf A Dn sat p
  obtain ⟨a, rfl, h2⟩ := bind_some hr
  refine h a r h2 σ H Hf A Dn (sat.weak fun j T hj => ?_) p
  by_cases z : j = i
  · subst z
    rw [lk_append_out (by rw [ι.keys]; exact hix), lk_self] at hj
    cases hj
    exact hl
  · by_cases m : j ∈ (ι.tr s).map (·.1)
    · rw [lk_append_in (Δ' := Δ) m] at hj; exact hj
    · rw [lk_append_out m, lk_ne z] at hj
      rw [lk_append_out m]; exact hj
end
end Ab
namespace Ab
open PySem PySem.Spec PyProof.Rows L2
/-- a member -/
abbrev memB {α : Type} [DecidableEq α] (x : α) (l : List α) : Bool := decide (x ∈ l)
section
variable {α β γ δ ε : Type} {E : α → D} {F : β → D} {G : γ → D} {I : δ → D} {J : ε → D}
theorem fl_tup (h : ∀ x, flatD (E x) = true) : ∀ x, flatD (Ty.tup E x) = true := fun x => flat_map h x
theorem fl_opt (h : ∀ x, flatD (E x) = true) : ∀ x, flatD (Ty.opt E x) = true := fun x => by cases x with | none => rfl | some a => exact h a
theorem fl_p2 (h : ∀ x, flatD (E x) = true) (k : ∀ x, flatD (F x) = true) : ∀ x, flatD (Ty.p2 E F x) = true := fun x => by
  show (flatD (E x.1) && (flatD (F x.2) && true)) = true; rw [h, k]; rfl
theorem fl_p3 (h : ∀ x, flatD (E x) = true) (k : ∀ x, flatD (F x) = true) (l : ∀ x, flatD (G x) = true) : ∀ x, flatD (Ty.p3 E F G x) = true := fun x => by
  show (flatD (E x.1) && (flatD (F x.2.1) && (flatD (G x.2.2) && true))) = true; rw [h, k, l]; rfl
theorem fl_p4 (h : ∀ x, flatD (E x) = true) (k : ∀ x, flatD (F x) = true) (l : ∀ x, flatD (G x) = true) (m : ∀ x, flatD (I x) = true) : ∀ x, flatD (Ty.p4 E F G I x) = true := fun x => by
  show (flatD (E x.1) && (flatD (F x.2.1) && (flatD (G x.2.2.1) && (flatD (I x.2.2.2) && true)))) = true; rw [h, k, l, m]; rfl
theorem fl_p5 (h : ∀ x, flatD (E x) = true) (k : ∀ x, flatD (F x) = true) (l : ∀ x, flatD (G x) = true) (m : ∀ x, flatD (I x) = true) (n : ∀ x, flatD (J x) = true) : ∀ x, flatD (Ty.p5 E F G I J x) = true := fun x => by
  show (flatD (E x.1) && (flatD (F x.2.1) && (flatD (G x.2.2.1) && (flatD (I x.2.2.2.1) && (flatD (J x.2.2.2.2) && true))))) = true; rw [h, k, l, m, n]; rfl
end
end Ab
namespace Ab
open PySem PySem.Spec PyProof.Rows L2
/-! ### while loops that end -/
theorem Y.iter {W Rr : Type} {f : W → Option (Fl W Rr)} {P : W → Prop} (I : W → Prop) (μ : W → Nat) (k : ∀ w, I w → Y (f w) (fun o => (∃ w', o = .brk w' ∧ P w') ∨ ∃ w', (o = .next w' ∨ o = .cont w') ∧ I w' ∧ μ w' < μ w)) : ∀ (n : Nat) (w : W), μ w < n → I w → ∃ m w', iterW f m w = some (.next w') ∧ P w'
  | 0, w, h, _ => absurd h (Nat.not_lt_zero _)
  | n + 1, w, h, hi => by
    obtain ⟨o, h1, h2⟩ := k w hi
    rcases h2 with ⟨w', rfl, hp⟩ | ⟨w', h2, hi', hm⟩
    · exact ⟨1, w', by show (f w).bind _ = _; rw [h1]; rfl, hp⟩
    · obtain ⟨m, w2, h3, h4⟩ := Y.iter (f := f) I μ k n w' (by omega) hi'
      refine ⟨m + 1, w2, ?_, h4⟩
      show (f w).bind _ = _
      rw [h1]
      rcases h2 with rfl | rfl <;> exact h3
theorem Y.while {W Rr R : Type} {f : W → Option (Fl W Rr)} {K : W → Option R} {kr : Rr → R} {Q : R → Prop} {w : W} (P : W → Prop) (I : W → Prop) (μ : W → Nat) (hi : I w) (k : ∀ w, I w → Y (f w) (fun o => (∃ w', o = .brk w' ∧ P w') ∨ ∃ w', (o = .next w' ∨ o = .cont w') ∧ I w' ∧ μ w' < μ w))
    (q : ∀ w, P w → Y (K w) Q) : Y ((whileM f w).bind (flK K kr)) Q := by
  obtain ⟨m, w', h1, h2⟩ := Y.iter (f := f) I μ k _ w (Nat.lt_succ_self _) hi
  exact Y.bindE (whileM_of h1) (q w' h2)
/-! ### masks -/
theorem bits_nat (n : Nat) : Builtin.Int.intBits (n : Int) = if n = 0 then 0 else n.log2 + 1 := by
  unfold Builtin.Int.intBits
  by_cases h : n = 0
  · subst h; rfl
  · have : ((n : Int) == 0) = false := by simp; omega
    rw [this, if_neg h, if_neg Bool.false_ne_true]
    simp
theorem xor_nat (a b : Nat) : Builtin.bitXor (a : Int) (b : Int) = ((a ^^^ b : Nat) : Int) := by
  rw [Bits.bitXor_pp (Int.natCast_nonneg _) (Int.natCast_nonneg _)]; simp
theorem and_nat (a b : Nat) : Builtin.bitAnd (a : Int) (b : Int) = ((a &&& b : Nat) : Int) := by
  unfold Builtin.bitAnd
  rw [decide_eq_true (Int.natCast_nonneg a), decide_eq_true (Int.natCast_nonneg b)]
  simp
theorem xor_top {s n : Nat} (hs : s ≠ 0) (hn : n ≠ 0) (h : n.log2 = s.log2) : s ^^^ n < 2 ^ s.log2 := by
  refine Nat.lt_pow_two_of_testBit _ fun i hi => ?_
  rw [Nat.testBit_xor]
  by_cases e : i = s.log2
  · subst e
    rw [Nat.testBit_log2 hs, ← h, Nat.testBit_log2 hn]; rfl
  · have h1 : s < 2 ^ i := Nat.lt_of_lt_of_le Nat.lt_log2_self (Nat.pow_le_pow_right (by decide) (by omega))
    have h2 : n < 2 ^ i := Nat.lt_of_lt_of_le Nat.lt_log2_self (Nat.pow_le_pow_right (by decide) (by omega))
    rw [Nat.testBit_lt_two_pow h1, Nat.testBit_lt_two_pow h2]; rfl
theorem xor_lt {s n : Nat} (hs : s ≠ 0) (hn : n ≠ 0) (h : n.log2 = s.log2) : s ^^^ n < s := Nat.lt_of_lt_of_le (xor_top hs hn h) (Nat.log2_self_le hs)
theorem log_xor {s t : Nat} (ht : t ≠ 0) (h : s = 0 ∨ s.log2 < t.log2) : s ^^^ t ≠ 0 ∧ (s ^^^ t).log2 = t.log2 := by
  have hs : s < 2 ^ t.log2 := by
    rcases h with rfl | h
    · exact Nat.pow_pos (by decide)
    · exact Nat.lt_of_lt_of_le Nat.lt_log2_self (Nat.pow_le_pow_right (by decide) h)
  have b : (s ^^^ t).testBit t.log2 = true := by
    rw [Nat.testBit_xor, Nat.testBit_lt_two_pow hs, Nat.testBit_log2 ht]; rfl
  have nz : s ^^^ t ≠ 0 := fun e => by rw [e, Nat.zero_testBit] at b; cases b
  refine ⟨nz, (Nat.log2_eq_iff nz).mpr ⟨Nat.ge_two_pow_of_testBit b, Nat.xor_lt_two_pow ?_ Nat.lt_log2_self⟩⟩
  exact Nat.lt_of_lt_of_le hs (Nat.pow_le_pow_right (by decide) (by omega))
/-- even or odd -/
def pcb (m : Nat) : Bool := ((List.range 64).filter fun i => m.testBit i).length % 2 == 1
theorem filter_xor (p q : Nat → Bool) : ∀ l : List Nat, ((l.filter fun i => p i ^^ q i).length % 2 == 1) = (((l.filter p).length % 2 == 1) ^^ ((l.filter q).length % 2 == 1))
  | [] => rfl
  | x :: l => by
    have ih := filter_xor p q l
    have e : ∀ (r : Nat → Bool), (((x :: l).filter r).length % 2 == 1) = (r x ^^ ((l.filter r).length % 2 == 1)) := fun r => by
      cases h : r x with
      | true =>
        rw [List.filter_cons_of_pos h, List.length_cons, Nat.add_mod]
        rcases Nat.mod_two_eq_zero_or_one (l.filter r).length with q | q <;> simp [q]
      | false => rw [List.filter_cons_of_neg (by simp [h])]; simp
    rw [e, e, e, ih]
    cases p x <;> cases q x <;> simp
theorem pcb_xor (a b : Nat) : pcb (a ^^^ b) = (pcb a ^^ pcb b) := by
  unfold pcb
  rw [← filter_xor]
  simp only [Nat.testBit_xor]
def dot (r x : Nat) : Bool := pcb (r &&& x)
theorem and_xor (a b x : Nat) : (a ^^^ b) &&& x = (a &&& x) ^^^ (b &&& x) := Nat.eq_of_testBit_eq fun i => by
  simp only [Nat.testBit_and, Nat.testBit_xor]
  cases a.testBit i <;> cases b.testBit i <;> cases x.testBit i <;> rfl
theorem dot_xor (a b x : Nat) : dot (a ^^^ b) x = (dot a x ^^ dot b x) := by unfold dot; rw [and_xor, pcb_xor]
theorem dot_comm (a x : Nat) : dot a x = dot x a := by unfold dot; rw [Nat.and_comm]
theorem dot_xor' (a x y : Nat) : dot a (x ^^^ y) = (dot a x ^^ dot a y) := by rw [dot_comm, dot_xor, dot_comm x, dot_comm y]
theorem dot_zero (x : Nat) : dot 0 x = false := by unfold dot; rw [Nat.zero_and]; rfl
/-! ### a basis: rows by their greatest member -/
abbrev BL := List (Int × (Int × Int))
structure Bas (L : BL) : Prop where
  ok : ∀ k r b, getI L k = some (r, b) → ∃ n : Nat, r = n ∧ n ≠ 0 ∧ k = (n.log2 : Int) ∧ (b = 0 ∨ b = 1) ∧ n < 2 ^ 63
inductive R0 (L : BL) : Nat → Prop
  | z : R0 L 0
  | st {s n : Nat} {b : Int} : s ≠ 0 → getI L (s.log2 : Int) = some ((n : Int), b) → R0 L (s ^^^ n) → R0 L s
theorem Bas.at {L : BL} (B : Bas L) {s n : Nat} {b : Int} (h : getI L (s.log2 : Int) = some ((n : Int), b)) : n ≠ 0 ∧ n.log2 = s.log2 ∧ (b = 0 ∨ b = 1) ∧ n < 2 ^ 63 := by
  obtain ⟨m, h1, h2, h3, h4, h5⟩ := B.ok _ _ _ h
  have : n = m := by omega
  subst this
  exact ⟨h2, by omega, h4, h5⟩
theorem Bas.nil : Bas ([] : BL) := ⟨fun k r b h => by simp [getI] at h⟩
theorem R0.xor {L : BL} (B : Bas L) : ∀ (m s t : Nat), s + t ≤ m → R0 L s → R0 L t → R0 L (s ^^^ t) := by
  intro m
  induction m with
  | zero =>
    intro s t h _ _
    have h1 : s = 0 := by omega
    have h2 : t = 0 := by omega
    subst h1; subst h2
    exact .z
  | succ m ih =>
    intro s t h hs ht
    cases hs with
    | z => rw [Nat.zero_xor]; exact ht
    | @st _ n b hz hg hr =>
      cases ht with
      | z => rw [Nat.xor_zero]; exact .st hz hg hr
      | @st _ n' b' hz' hg' hr' =>
        obtain ⟨a1, a2, _⟩ := B.at hg
        obtain ⟨b1, b2, _⟩ := B.at hg'
        have l1 := xor_lt hz a1 a2
        have l2 := xor_lt hz' b1 b2
        rcases Nat.lt_trichotomy s.log2 t.log2 with q | q | q
        · obtain ⟨c1, c2⟩ := log_xor hz' (.inr q)
          refine .st c1 (by rw [c2]; exact hg') ?_
          rw [Nat.xor_assoc]
          exact ih s (t ^^^ n') (by omega) (.st hz hg hr) hr'
        · rw [q, hg'] at hg
          have e : n' = n := by have := (Prod.mk.inj (Option.some.inj hg)).1; omega
          subst e
          have : s ^^^ t = (s ^^^ n') ^^^ (t ^^^ n') := by
            rw [Nat.xor_comm t n', Nat.xor_assoc, ← Nat.xor_assoc n', Nat.xor_self, Nat.zero_xor]
          rw [this]
          exact ih _ _ (by omega) hr hr'
        · obtain ⟨c1, c2⟩ := log_xor hz (.inr q)
          rw [Nat.xor_comm t s] at c1 c2
          refine .st c1 (by rw [c2]; exact hg) ?_
          have : s ^^^ t ^^^ n = (s ^^^ n) ^^^ t := by rw [Nat.xor_assoc, Nat.xor_comm t n, ← Nat.xor_assoc]
          rw [this]
          exact ih (s ^^^ n) t (by omega) hr (.st hz' hg' hr')
theorem R0.xor' {L : BL} (B : Bas L) {s t : Nat} (hs : R0 L s) (ht : R0 L t) : R0 L (s ^^^ t) := R0.xor B _ s t (Nat.le_refl _) hs ht
theorem R0.row {L : BL} (B : Bas L) {n : Nat} {k b : Int} (h : getI L k = some ((n : Int), b)) : R0 L n := by
  obtain ⟨m, h1, h2, h3, _⟩ := B.ok _ _ _ h
  have : n = m := by omega
  subst this
  subst h3
  exact .st h2 h (by rw [Nat.xor_self]; exact .z)
theorem R0.top {L : BL} (B : Bas L) {s : Nat} (h : R0 L s) (hz : s ≠ 0) : (getI L (s.log2 : Int)).isSome = true := by
  cases h with
  | z => exact absurd rfl hz
  | st _ hg _ => rw [hg]; rfl
theorem R0.next {L : BL} (B : Bas L) {s n : Nat} {b : Int} (h : R0 L s) (hz : s ≠ 0) (hg : getI L (s.log2 : Int) = some ((n : Int), b)) : R0 L (s ^^^ n) := R0.xor' B h (R0.row B hg)
/-- what solves all rows of a basis -/
def Sol (L : BL) (x : Nat) : Prop := ∀ k (n : Nat) b, getI L k = some ((n : Int), b) → dot n x = (b == 1)
theorem getI_put {κ α : Type} [DecidableEq κ] (k j : κ) (v : α) (l : List (κ × α)) : getI (putI l k v) j = if j = k then some v else getI l j := by
  unfold putI
  split
  · rename_i h
    induction l with
    | nil => simp at h
    | cons p l ih =>
      obtain ⟨a, b⟩ := p
      rw [List.map_cons]
      by_cases e : a = k
      · subst e
        by_cases e2 : j = a
        · subst e2; simp [getI]
        · have e3 : ¬ a = j := fun z => e2 z.symm
          have gen : ∀ l : List (κ × α), getI (l.map fun p => if p.1 = a then (p.1, v) else p) j = getI l j := by
            intro l
            induction l with
            | nil => rfl
            | cons q l ih2 =>
              obtain ⟨c, d⟩ := q
              by_cases e4 : c = j
              · subst e4; simp [getI, e2]
              · by_cases e5 : c = a
                · subst e5; simp only [getI, List.map_cons, if_pos] at ih2 ⊢; simp [List.find?_cons, e4]; simpa [getI] using ih2
                · simp only [getI, List.map_cons] at ih2 ⊢; simp [List.find?_cons, e4, e5]; simpa [getI] using ih2
          have g2 := gen l
          simp only [getI] at g2 ⊢
          simp [List.find?_cons, e2, e3]
          simpa using g2
      · have h' : (l.any fun p => decide (p.1 = k)) = true := by simpa [e] using h
        have ih' := ih h'
        by_cases e2 : a = j
        · subst e2; simp [getI, e]
        · simp only [getI] at ih' ⊢
          simp [List.find?_cons, e, e2]
          simpa using ih'
  · rename_i h
    have hn : ∀ p ∈ l, ¬ p.1 = k := fun p hp e => h (List.any_eq_true.mpr ⟨p, hp, by simpa using e⟩)
    unfold getI
    rw [List.find?_append]
    by_cases e : j = k
    · subst e
      have : l.find? (fun p => decide (p.1 = j)) = none := List.find?_eq_none.mpr fun p hp => by simpa using hn p hp
      rw [this]; simp
    · have e3 : ¬ k = j := fun z => e z.symm
      cases hf : l.find? (fun p => decide (p.1 = j)) with
      | none => simp [e, e3]
      | some p => simp [e]
theorem putI_new {κ α : Type} [DecidableEq κ] {k : κ} {v : α} {l : List (κ × α)} (h : getI l k = none) : putI l k v = l ++ [(k, v)] := by
  unfold putI
  rw [if_neg]
  intro h2
  rw [List.any_eq_true] at h2
  obtain ⟨p, hp, e⟩ := h2
  unfold getI at h
  rw [Option.map_eq_none_iff, List.find?_eq_none] at h
  exact h p hp e
theorem bx01 {c d : Int} (hc : c = 0 ∨ c = 1) (hd : d = 0 ∨ d = 1) : (Builtin.bitXor c d = 0 ∨ Builtin.bitXor c d = 1) ∧ (Builtin.bitXor c d == 1) = ((c == 1) ^^ (d == 1)) := by
  rcases hc with rfl | rfl <;> rcases hd with rfl | rfl <;> decide
/-! comprehensions that are known -/
theorem compM_eqF {α β S : Type} {f : α → S → Option (Option β × S)} {q : α → Bool} {g : α → β} : ∀ {xs : List α} {s : S}, (∀ x ∈ xs, ∀ s, f x s = if q x = true then some (some (g x), s) else some (none, s)) → compM f xs s = some ((xs.filter q).map g, s)
  | [], s, _ => rfl
  | x :: xs, s, h => by
    have h1 := h x (by simp) s
    have ih := compM_eqF (f := f) (q := q) (g := g) (xs := xs) (s := s) fun y hy => h y (by simp [hy])
    show (f x s).bind _ = _
    rw [h1]
    cases hq : q x with
    | true =>
      rw [if_pos rfl, List.filter_cons_of_pos hq]
      show (compM f xs s).bind _ = _
      rw [ih]; rfl
    | false =>
      rw [if_neg Bool.false_ne_true, List.filter_cons_of_neg (by simp [hq])]
      show (compM f xs s).bind _ = _
      rw [ih]; rfl
theorem compM_eqM {α β S : Type} {f : α → S → Option (Option β × S)} {g : α → β} {xs : List α} {s : S} (h : ∀ x ∈ xs, ∀ s, f x s = some (some (g x), s)) : compM f xs s = some (xs.map g, s) := by
  have := compM_eqF (f := f) (q := fun _ => true) (g := g) (xs := xs) (s := s) fun x hx s => by rw [if_pos rfl]; exact h x hx s
  rw [this]
  congr 2
  congr 1
  exact List.filter_eq_self.mpr fun _ _ => rfl
theorem compM_eqI {α S : Type} {f : α → S → Option (Option α × S)} {q : α → Bool} {xs : List α} {s : S} (h : ∀ x ∈ xs, ∀ s, f x s = if q x = true then some (some x, s) else some (none, s)) : compM f xs s = some (xs.filter q, s) := by
  have := compM_eqF (f := f) (q := q) (g := fun x => x) (xs := xs) (s := s) h
  rw [this, List.map_id']
/-- loops with a way out -/
theorem Y.forG {α W R Rr : Type} {f : W → α → Option (Fl W Rr)} {K : W → Option R} {kr : Rr → R} {P : R → Prop} (I : List α → W → Prop) (J : W → Prop) (PR : Rr → Prop) : ∀ (xs pre : List α) (w : W), I pre w →
    (∀ p x w, p ++ [x] <+: pre ++ xs → I p w → Y (f w x) (fun o => (∃ w', (o = .next w' ∨ o = .cont w') ∧ I (p ++ [x]) w') ∨ (∃ w', o = .brk w' ∧ J w') ∨ ∃ r, o = .ret r ∧ PR r)) →
    (∀ w, I (pre ++ xs) w → Y (K w) P) → (∀ w, J w → Y (K w) P) → (∀ r, PR r → P (kr r)) → Y ((Ab.forE f xs w).bind (flK K kr)) P
  | [], pre, w, h, _, q, _, _ => by rw [List.append_nil] at q; exact q w h
  | x :: xs, pre, w, h, k, q, qb, qr => by
    obtain ⟨o, h1, h2⟩ := k pre x w ⟨xs, by simp⟩ h
    have go : ∀ w', I (pre ++ [x]) w' → Y ((Ab.forE f xs w').bind (flK K kr)) P := fun w' hi => Y.forG I J PR xs (pre ++ [x]) w' hi (fun p y w2 hp => k p y w2 (by simpa using hp)) (fun w hw => q w (by simpa using hw)) qb qr
    show Y (((f w x).bind _).bind _) P
    rw [h1]
    rcases h2 with ⟨w', rfl | rfl, hi⟩ | ⟨w', rfl, hj⟩ | ⟨r, rfl, hr⟩
    · exact go w' hi
    · exact go w' hi
    · exact qb w' hj
    · exact Y.ok (qr r hr)
theorem Y.forR {α W R Rr : Type} {f : W → α → Option (Fl W Rr)} {xs : List α} {w : W} {K : W → Option R} {kr : Rr → R} {P : R → Prop} (I : List α → W → Prop) (PR : Rr → Prop) (h : I [] w)
    (k : ∀ p x w, p ++ [x] <+: xs → I p w → Y (f w x) (fun o => (∃ w', (o = .next w' ∨ o = .cont w') ∧ I (p ++ [x]) w') ∨ ∃ r, o = .ret r ∧ PR r))
    (q : ∀ w, I xs w → Y (K w) P) (qr : ∀ r, PR r → P (kr r)) : Y ((Ab.forE f xs w).bind (flK K kr)) P :=
  Y.forG I (fun _ => False) PR xs [] w h (fun p x w hp hi => (k p x w (by simpa using hp) hi).mono fun o ho => ho.elim .inl fun z => .inr (.inr z)) (by simpa using q) (fun _ h => h.elim) qr
/-! members -/
theorem range_filter {m : Nat} {k : Nat} (h : m < 2 ^ k) : ∀ d : Nat, (List.range (k + d)).filter (fun i => m.testBit i) = (List.range k).filter fun i => m.testBit i
  | 0 => rfl
  | d + 1 => by
    rw [← Nat.add_assoc, List.range_succ, List.filter_append, range_filter h d]
    have : m.testBit (k + d) = false := Nat.testBit_lt_two_pow (Nat.lt_of_lt_of_le h (Nat.pow_le_pow_right (by decide) (by omega)))
    rw [List.filter_cons_of_neg (by simp [this])]
    simp
def membL (m : Nat) : List Int := ((List.range 64).filter fun i => m.testBit i).map fun (i : Nat) => (i : Int)
theorem membL_len (m : Nat) : ((membL m).length : Int).fmod 2 = if pcb m = true then 1 else 0 := by
  unfold membL pcb
  rw [List.length_map, Int.fmod_eq_emod_of_nonneg _ (by decide)]
  generalize ((List.range 64).filter fun i => m.testBit i).length = k
  rcases Nat.mod_two_eq_zero_or_one k with q | q
  · rw [q]; simp; omega
  · rw [q]; simp; omega
theorem bit_div (m i : Nat) : decide ((((m : Int) / 2 ^ i).fmod 2) = 1) = m.testBit i := by
  rw [Nat.testBit_eq_decide_div_mod_eq, Int.fmod_eq_emod_of_nonneg _ (by decide)]
  have e : ((m : Int) / 2 ^ i) = ((m / 2 ^ i : Nat) : Int) := by simp
  rw [e]
  congr 1
  apply propext
  omega
theorem log_lt {m : Nat} (h : m < 2 ^ 63) : (if m = 0 then 0 else m.log2 + 1) ≤ 63 ∧ m < 2 ^ (if m = 0 then 0 else m.log2 + 1) := by
  by_cases e : m = 0
  · subst e; simp
  · rw [if_neg e]
    exact ⟨by have := (Nat.log2_lt e).mpr h; omega, Nat.lt_log2_self⟩
theorem mem_membL {m : Nat} {x : Int} (hm : m < 2 ^ 63) : x ∈ membL m ↔ 0 ≤ x ∧ m.testBit x.toNat = true := by
  unfold membL
  rw [List.mem_map]
  constructor
  · rintro ⟨i, hi, rfl⟩
    rw [List.mem_filter] at hi
    exact ⟨by omega, by simpa using hi.2⟩
  · rintro ⟨h0, h1⟩
    refine ⟨x.toNat, ?_, by omega⟩
    rw [List.mem_filter, List.mem_range]
    have := Nat.ge_two_pow_of_testBit h1
    have : x.toNat < 63 := by
      apply Classical.byContradiction
      intro h
      have : 2 ^ 63 ≤ 2 ^ x.toNat := Nat.pow_le_pow_right (by decide) (by omega)
      omega
    exact ⟨by omega, by simpa using h1⟩
theorem membL_SL (m : Nat) : SL (membL m) := by
  unfold membL SL
  rw [List.pairwise_map]
  exact (List.pairwise_lt_range.filter _).imp fun h => by omega
/-- the mask of a row of members -/
def maskL : List Int → Nat
  | [] => 0
  | x :: l => 2 ^ x.toNat + maskL l
theorem dot_pow {n v : Nat} (hv : v < 64) : dot n (2 ^ v) = n.testBit v := by
  unfold dot pcb
  have e : (List.range 64).filter (fun i => (n &&& 2 ^ v).testBit i) = (List.range 64).filter fun i => decide (i = v) && n.testBit v := by
    congr 1; funext i
    rw [Nat.testBit_and, Nat.testBit_two_pow]
    by_cases h : v = i
    · subst h; simp
    · have : ¬ i = v := fun z => h z.symm
      simp [h, this]
  rw [e]
  cases n.testBit v with
  | false =>
    rw [List.filter_eq_nil_iff.mpr (fun i _ => by simp)]; rfl
  | true =>
    have e2 : (fun i : Nat => decide (i = v) && true) = fun i => i == v := by funext i; rw [Bool.and_true, Bool.beq_eq_decide_eq]
    have e3 : ((List.range 64).filter fun i => i == v).length = 1 := by
      rw [← List.count_eq_length_filter, List.nodup_range.count, if_pos (List.mem_range.mpr hv)]
    rw [e2, e3]; rfl
theorem dot_ext {n x y : Nat} (h : ∀ i, n.testBit i = true → x.testBit i = y.testBit i) : dot n x = dot n y := by
  unfold dot
  congr 1
  refine Nat.eq_of_testBit_eq fun i => ?_
  rw [Nat.testBit_and, Nat.testBit_and]
  cases e : n.testBit i with
  | false => rfl
  | true => rw [h i e]
theorem add_pow {t v : Nat} (h : t < 2 ^ v) : t + 2 ^ v = t ^^^ 2 ^ v := by
  have := Nat.two_pow_add_eq_or_of_lt h 1
  rw [Nat.mul_one] at this
  rw [Nat.add_comm, this]
  refine Nat.eq_of_testBit_eq fun i => ?_
  rw [Nat.testBit_or, Nat.testBit_xor, Nat.testBit_two_pow]
  by_cases e : v = i
  · subst e; rw [Nat.testBit_lt_two_pow h]; simp
  · simp [e]
end Ab
namespace Ab
open PySem PySem.Spec PyProof.Rows L2
/-! ### rows of members and their masks -/
def Within (l : List Int) (n : Int) : Prop := ∀ x ∈ l, 0 ≤ x ∧ x < n
theorem SL.snoc {l : List Int} {k : Int} (h : SL l) (b : ∀ x ∈ l, x < k + 1) (m : k ∈ l) : l = l.filter (fun x => decide (x < k)) ++ [k] := by
  refine SL.ext h ?_ fun x => ?_
  · unfold SL
    rw [List.pairwise_append]
    refine ⟨h.filter _, by simp, fun a ha c hc => ?_⟩
    rw [List.mem_filter] at ha
    have : c = k := by simpa using hc
    subst this
    simpa using ha.2
  · rw [List.mem_append, List.mem_filter, List.mem_singleton]
    constructor
    · intro hx
      have := b x hx
      by_cases e : x = k
      · exact .inr e
      · exact .inl ⟨hx, by simp; omega⟩
    · rintro (h | rfl)
      · exact h.1
      · exact m
theorem maskL_app : ∀ (a b : List Int), maskL (a ++ b) = maskL a + maskL b
  | [], b => by simp [maskL]
  | x :: a, b => by show 2 ^ x.toNat + maskL (a ++ b) = 2 ^ x.toNat + maskL a + maskL b; rw [maskL_app a b]; omega
theorem mask_bits : ∀ (k : Nat) (l : List Int), SL l → Within l k → maskL l < 2 ^ k ∧ ∀ i : Nat, (maskL l).testBit i = decide ((i : Int) ∈ l)
  | 0, l, _, h => by
    cases l with
    | nil => exact ⟨by simp [maskL], fun i => by simp [maskL]⟩
    | cons x l => have := h x (by simp); omega
  | k + 1, l, hs, h => by
    by_cases m : (k : Int) ∈ l
    · have e := hs.snoc (k := k) (fun x hx => by have := h x hx; omega) m
      have ih := mask_bits k (l.filter fun x => decide (x < (k : Int))) (hs.filter _) (fun x hx => by
        rw [List.mem_filter] at hx
        have := h x hx.1
        have := hx.2
        simp at this
        omega)
      have e2 : maskL l = maskL (l.filter fun x => decide (x < (k : Int))) ^^^ 2 ^ k := by
        rw [← add_pow ih.1]
        conv => lhs; rw [e]
        rw [maskL_app]
        simp [maskL]
      rw [e2]
      refine ⟨Nat.xor_lt_two_pow (Nat.lt_trans ih.1 (Nat.pow_lt_pow_right (by decide) (by omega))) (Nat.pow_lt_pow_right (by decide) (by omega)), fun i => ?_⟩
      rw [Nat.testBit_xor, ih.2, Nat.testBit_two_pow]
      by_cases q : k = i
      · subst q
        have : ¬ (k : Int) ∈ l.filter (fun x => decide (x < (k : Int))) := fun z => by rw [List.mem_filter] at z; simp at z
        simp [this, m]
      · have q2 : ((i : Int) ∈ l.filter fun x => decide (x < (k : Int))) ↔ (i : Int) ∈ l := by
          rw [List.mem_filter]
          refine ⟨fun z => z.1, fun z => ⟨z, ?_⟩⟩
          have := h _ z
          simp; omega
        have e3 : decide ((i : Int) ∈ l.filter fun x => decide (x < (k : Int))) = decide ((i : Int) ∈ l) := decide_eq_decide.mpr q2
        rw [e3]
        simp [q]
    · have ih := mask_bits k l hs (fun x hx => by
        have := h x hx
        refine ⟨this.1, ?_⟩
        have ne : x ≠ (k : Int) := fun z => m (z ▸ hx)
        omega)
      exact ⟨Nat.lt_trans ih.1 (Nat.pow_lt_pow_right (by decide) (by omega)), ih.2⟩
theorem mask_mem {k : Nat} {l : List Int} (hs : SL l) (h : Within l k) (hk : k ≤ 63) : membL (maskL l) = l := by
  obtain ⟨h1, h2⟩ := mask_bits k l hs h
  have h63 : maskL l < 2 ^ 63 := Nat.lt_of_lt_of_le h1 (Nat.pow_le_pow_right (by decide) hk)
  refine SL.ext (membL_SL _) hs fun x => ?_
  rw [mem_membL h63, h2, decide_eq_true_eq]
  constructor
  · rintro ⟨a, b⟩
    have : ((x.toNat : Nat) : Int) = x := by omega
    rw [this] at b; exact b
  · intro hx
    have := h x hx
    refine ⟨this.1, ?_⟩
    have e : ((x.toNat : Nat) : Int) = x := by omega
    rw [e]; exact hx
theorem mask_inj {k : Nat} {a b : List Int} (ha : SL a) (hb : SL b) (wa : Within a k) (wb : Within b k) (hk : k ≤ 63) (h : maskL a = maskL b) : a = b := by
  rw [← mask_mem ha wa hk, ← mask_mem hb wb hk, h]
theorem memb_mask {m k : Nat} (h : m < 2 ^ k) (hk : k ≤ 63) : Within (membL m) k ∧ maskL (membL m) = m := by
  have h63 : m < 2 ^ 63 := Nat.lt_of_lt_of_le h (Nat.pow_le_pow_right (by decide) hk)
  have w : Within (membL m) k := fun x hx => by
    rw [mem_membL h63] at hx
    refine ⟨hx.1, ?_⟩
    apply Classical.byContradiction
    intro hc
    rw [Nat.testBit_lt_two_pow (Nat.lt_of_lt_of_le h (Nat.pow_le_pow_right (by decide) (by omega)))] at hx
    exact absurd hx.2 (by simp)
  refine ⟨w, Nat.eq_of_testBit_eq fun i => ?_⟩
  rw [(mask_bits k _ (membL_SL m) w).2]
  cases e : m.testBit i with
  | true => exact decide_eq_true ((mem_membL h63).mpr ⟨by omega, by simpa using e⟩)
  | false => exact decide_eq_false fun z => by rw [mem_membL h63] at z; simp [e] at z
theorem mask_sum {k : Nat} {a b : List Int} (ha : SL a) (hb : SL b) (wa : Within a k) (wb : Within b k) : Within (sumS a b) k ∧ maskL (sumS a b) = maskL a ^^^ maskL b := by
  have w : Within (sumS a b) k := fun x hx => by
    rw [mem_sumS] at hx
    by_cases h1 : x ∈ a
    · exact wa x h1
    · by_cases h2 : x ∈ b
      · exact wb x h2
      · simp [h1, h2] at hx
  refine ⟨w, Nat.eq_of_testBit_eq fun i => ?_⟩
  rw [(mask_bits k _ (sumS_SL ha hb) w).2, Nat.testBit_xor, (mask_bits k a ha wa).2, (mask_bits k b hb wb).2]
  by_cases h1 : (i : Int) ∈ a <;> by_cases h2 : (i : Int) ∈ b <;> simp [mem_sumS, h1, h2]
theorem pcb_len (m : Nat) : pcb m = ((membL m).length % 2 == 1) := by unfold pcb membL; rw [List.length_map]
theorem par_dot {k : Nat} {a b : List Int} (ha : SL a) (hb : SL b) (wa : Within a k) (wb : Within b k) (hk : k ≤ 63) : par (fun v => decide (v ∈ b)) a = dot (maskL a) (maskL b) := by
  obtain ⟨a1, a2⟩ := mask_bits k a ha wa
  obtain ⟨b1, b2⟩ := mask_bits k b hb wb
  unfold dot
  rw [pcb_len]
  have h63 : maskL a &&& maskL b < 2 ^ 63 := Nat.and_lt_two_pow _ (Nat.lt_of_lt_of_le b1 (Nat.pow_le_pow_right (by decide) hk))
  have : membL (maskL a &&& maskL b) = a.filter fun v => decide (v ∈ b) := SL.ext (membL_SL _) (ha.filter _) fun x => by
    rw [mem_membL h63, List.mem_filter, Nat.testBit_and, a2, b2]
    simp only [Bool.and_eq_true, decide_eq_true_eq]
    constructor
    · rintro ⟨h0, h1, h2⟩
      have e : ((x.toNat : Nat) : Int) = x := by omega
      rw [e] at h1 h2
      exact ⟨h1, h2⟩
    · rintro ⟨h1, h2⟩
      have := wa x h1
      have e : ((x.toNat : Nat) : Int) = x := by omega
      rw [e]
      exact ⟨this.1, h1, h2⟩
  rw [this]
  rfl
/-! ### all sets, the less heavy ones first -/
def setsS (n : Int) : Nat → List (List Int)
  | 0 => [[]]
  | k + 1 => setsS n k ++ (setsS n k).map fun s => (n - 1 - (k : Int)) :: s
/-- a is less heavy than b -/
def Less (a b : List Int) : Prop := ∃ i : Int, i ∉ a ∧ i ∈ b ∧ ∀ j, j < i → (j ∈ a ↔ j ∈ b)
theorem setsS_len (n : Int) : ∀ k, (setsS n k).length = 2 ^ k
  | 0 => rfl
  | k + 1 => by show (setsS n k ++ _).length = _; rw [List.length_append, List.length_map, setsS_len n k, Nat.pow_succ]; omega
theorem setsS_in (n : Int) : ∀ (k : Nat) (s : List Int), s ∈ setsS n k ↔ (SL s ∧ ∀ x ∈ s, n - (k : Int) ≤ x ∧ x < n)
  | 0, s => by
    unfold setsS
    rw [List.mem_singleton]
    constructor
    · rintro rfl; exact ⟨SL.nil, by simp⟩
    · rintro ⟨_, h⟩
      cases s with
      | nil => rfl
      | cons x s => have := h x (by simp); omega
  | k + 1, s => by
    show s ∈ setsS n k ++ _ ↔ _
    rw [List.mem_append, List.mem_map, setsS_in n k]
    constructor
    · rintro (⟨h1, h2⟩ | ⟨t, ht, rfl⟩)
      · exact ⟨h1, fun x hx => by have := h2 x hx; omega⟩
      · obtain ⟨h1, h2⟩ := (setsS_in n k t).mp ht
        refine ⟨List.pairwise_cons.mpr ⟨fun y hy => by have := h2 y hy; omega, h1⟩, fun x hx => ?_⟩
        have hx' : x = n - 1 - (k : Int) ∨ x ∈ t := by simpa using hx
        rcases hx' with rfl | hx'
        · omega
        · have := h2 x hx'; omega
    · rintro ⟨h1, h2⟩
      cases s with
      | nil => exact .inl ⟨SL.nil, by simp⟩
      | cons x t =>
        have hc := List.pairwise_cons.mp h1
        have hx := h2 x (by simp)
        by_cases e : x = n - 1 - (k : Int)
        · refine .inr ⟨t, (setsS_in n k t).mpr ⟨hc.2, fun y hy => ?_⟩, by rw [e]⟩
          have := hc.1 y hy
          have := h2 y (by simp [hy])
          omega
        · refine .inl ⟨h1, fun y hy => ?_⟩
          have hy' : y = x ∨ y ∈ t := by simpa using hy
          rcases hy' with rfl | hy'
          · omega
          · have := hc.1 y hy'
            have := h2 y hy
            omega
theorem setsS_less (n : Int) : ∀ k : Nat, (setsS n k).Pairwise Less
  | 0 => by simp [setsS]
  | k + 1 => by
    show (setsS n k ++ _).Pairwise Less
    rw [List.pairwise_append]
    refine ⟨setsS_less n k, ?_, ?_⟩
    · rw [List.pairwise_map]
      refine List.Pairwise.imp_of_mem (fun {a b} ha hb h => ?_) (setsS_less n k)
      obtain ⟨i, h1, h2, h3⟩ := h
      have hb2 := ((setsS_in n k b).mp hb).2 i h2
      refine ⟨i, ?_, by simp [h2], fun j hj => ?_⟩
      · intro z
        have z' : i = n - 1 - (k : Int) ∨ i ∈ a := by simpa using z
        rcases z' with z | z
        · omega
        · exact h1 z
      · have := h3 j hj
        simp [this]
    · intro a ha b hb
      rw [List.mem_map] at hb
      obtain ⟨t, ht, rfl⟩ := hb
      have h1 := ((setsS_in n k a).mp ha).2
      have h2 := ((setsS_in n k t).mp ht).2
      refine ⟨n - 1 - (k : Int), fun z => by have := h1 _ z; omega, by simp, fun j hj => ⟨fun z => by have := h1 _ z; omega, fun z => ?_⟩⟩
      have z' : j = n - 1 - (k : Int) ∨ j ∈ t := by simpa using z
      rcases z' with z | z
      · omega
      · have := h2 _ z; omega
theorem Less.irr {a : List Int} (h : Less a a) : False := by
  obtain ⟨i, h1, h2, _⟩ := h
  exact h1 h2
theorem Less.asym {a b : List Int} (h : Less a b) (k : Less b a) : False := by
  obtain ⟨i, h1, h2, h3⟩ := h
  obtain ⟨j, k1, k2, k3⟩ := k
  rcases Int.lt_trichotomy i j with q | q | q
  · exact h1 ((k3 i q).mp h2)
  · subst q; exact k1 h2
  · exact k1 ((h3 j q).mp k2)
/-- the first that does -/
theorem find_first {P : List Int → Bool} : ∀ {l : List (List Int)}, l.Pairwise Less → ∀ {t : List Int}, t ∈ l → P t = true → (∀ s ∈ l, P s = true → s = t ∨ Less t s) → l.find? P = some t
  | [], _, t, h, _, _ => by cases h
  | x :: l, hp, t, ht, hP, hm => by
    rw [List.pairwise_cons] at hp
    cases e : P x with
    | true =>
      rw [List.find?_cons_of_pos e]
      rcases hm x (by simp) e with rfl | h
      · rfl
      · have ht' : t = x ∨ t ∈ l := by simpa using ht
        rcases ht' with rfl | ht'
        · rfl
        · exact (Less.asym h (hp.1 t ht')).elim
    | false =>
      rw [List.find?_cons_of_neg (by simp [e])]
      have ht' : t = x ∨ t ∈ l := by simpa using ht
      rcases ht' with rfl | ht'
      · rw [e] at hP; cases hP
      · exact find_first hp.2 ht' hP fun s hs => hm s (by simp [hs])
theorem less_mask {k : Nat} {a b : List Int} (ha : SL a) (hb : SL b) (wa : Within a k) (wb : Within b k) (h : (∀ j, j < k → (maskL a).testBit j = (maskL b).testBit j) ∨ ∃ i, i < k ∧ (maskL b).testBit i = false ∧ (maskL a).testBit i = true ∧ ∀ j, j < i → (maskL a).testBit j = (maskL b).testBit j) : a = b ∨ Less b a := by
  have a2 := (mask_bits k a ha wa).2
  have b2 := (mask_bits k b hb wb).2
  rcases h with h | ⟨i, hi, h1, h2, h3⟩
  · refine .inl (SL.ext ha hb fun x => ?_)
    constructor
    · intro hx
      have w := wa x hx
      have := h x.toNat (by omega)
      rw [a2, b2] at this
      have e : ((x.toNat : Nat) : Int) = x := by omega
      rw [e] at this
      simpa [hx] using this
    · intro hx
      have w := wb x hx
      have := h x.toNat (by omega)
      rw [a2, b2] at this
      have e : ((x.toNat : Nat) : Int) = x := by omega
      rw [e] at this
      simpa [hx] using this
  · refine .inr ⟨(i : Int), ?_, ?_, fun j hj => ?_⟩
    · rw [b2] at h1; simpa using h1
    · rw [a2] at h2; simpa using h2
    · by_cases h0 : 0 ≤ j
      · have := h3 j.toNat (by omega)
        rw [a2, b2] at this
        have e : ((j.toNat : Nat) : Int) = j := by omega
        rw [e, decide_eq_decide] at this
        exact this.symm
      · constructor
        · intro z; have := wb _ z; omega
        · intro z; have := wa _ z; omega
end Ab
namespace K03
open PySem PySem.Spec PyProof.Rows L2 Ab
def topS (i : Nat) : Stmt := PySem.Challenge.pw_allbranches_k03_equations_of_two.main.body.getD i (.Pass ⟨0, 0, 0, 0⟩)
abbrev s_mask_of : Stmt := topS 1
abbrev s_members : Stmt := topS 2
abbrev s_parity : Stmt := topS 3
abbrev s_reduced : Stmt := topS 4
abbrev s_first_solution : Stmt := topS 5
abbrev s_rank : Stmt := topS 6
abbrev s__law_state : Stmt := topS 8
abbrev s__law_draw : Stmt := topS 9
abbrev s__law_sets : Stmt := topS 10
abbrev s__law_mask : Stmt := topS 11
abbrev s__law_holds : Stmt := topS 12
abbrev s__law_sums : Stmt := topS 13
abbrev s_law : Stmt := topS 14
theorem sc__law_draw : FnScope ["state", "many", "cells", "value", "mixed"] ["state", "many"] (defScope s__law_draw) := ⟨rfl, rfl, rfl, by decide +kernel, rfl, by decide +kernel, by decide +kernel⟩
theorem sc__law_state : FnScope ["script", "seed", "cell"] ["script"] (defScope s__law_state) := ⟨rfl, rfl, rfl, by decide +kernel, rfl, by decide +kernel, by decide +kernel⟩
theorem sc_mask_of : FnScope ["some", "member"] ["some"] (defScope s_mask_of) := ⟨rfl, rfl, rfl, by decide +kernel, rfl, by decide +kernel, by decide +kernel⟩
theorem sc_members : FnScope ["mask", "member"] ["mask"] (defScope s_members) := ⟨rfl, rfl, rfl, by decide +kernel, rfl, by decide +kernel, by decide +kernel⟩
theorem sc_parity : FnScope ["mask"] ["mask"] (defScope s_parity) := ⟨rfl, rfl, rfl, by decide +kernel, rfl, by decide +kernel, by decide +kernel⟩
theorem sc_reduced : FnScope ["basis", "row", "bit", "other", "more"] ["basis", "row", "bit"] (defScope s_reduced) := ⟨rfl, rfl, rfl, by decide +kernel, rfl, by decide +kernel, by decide +kernel⟩
theorem sc_first_solution : FnScope ["rows", "many", "basis", "row", "bit", "told", "variable"] ["rows", "many"] (defScope s_first_solution) := ⟨rfl, rfl, rfl, by decide +kernel, rfl, by decide +kernel, by decide +kernel⟩
theorem sc_rank : FnScope ["rows", "basis", "row", "_"] ["rows"] (defScope s_rank) := ⟨rfl, rfl, rfl, by decide +kernel, rfl, by decide +kernel, by decide +kernel⟩
theorem sc__law_sets : FnScope ["many", "found", "vertex", "at", "some"] ["many"] (defScope s__law_sets) := ⟨rfl, rfl, rfl, by decide +kernel, rfl, by decide +kernel, by decide +kernel⟩
theorem sc__law_mask : FnScope ["some", "told", "one", "at"] ["some"] (defScope s__law_mask) := ⟨rfl, rfl, rfl, by decide +kernel, rfl, by decide +kernel, by decide +kernel⟩
theorem sc__law_holds : FnScope ["some", "row", "bit", "one"] ["some", "row", "bit"] (defScope s__law_holds) := ⟨rfl, rfl, rfl, by decide +kernel, rfl, by decide +kernel, by decide +kernel⟩
theorem sc__law_sums : FnScope ["rows", "found", "row", "other", "both", "one"] ["rows"] (defScope s__law_sums) := ⟨rfl, rfl, rfl, by decide +kernel, rfl, by decide +kernel, by decide +kernel⟩
theorem sc_law : FnScope ["script", "state", "many", "rows", "k", "row", "some", "good", "given", "kept", "told", "sums", "many_sums", "turn", "at", "bit"] ["script"] (defScope s_law) := ⟨rfl, rfl, rfl, by decide +kernel, rfl, by decide +kernel, by decide +kernel⟩
structure Txt (K : KF) (mg : Str → Option Value) where
  a_mask_of : Addr
  d_mask_of : FuncData
  F_mask_of : Fun K "mask_of" "mask_of" s_mask_of a_mask_of d_mask_of
  g_mask_of : mg "mask_of" = some (.ref a_mask_of)
  k_mask_of : PySem.W.keepIn K (.ref a_mask_of) = true
  b_mask_of : Binds K d_mask_of ["some"] []
  a_members : Addr
  d_members : FuncData
  F_members : Fun K "members" "members" s_members a_members d_members
  g_members : mg "members" = some (.ref a_members)
  k_members : PySem.W.keepIn K (.ref a_members) = true
  b_members : Binds K d_members ["mask"] []
  a_parity : Addr
  d_parity : FuncData
  F_parity : Fun K "parity" "parity" s_parity a_parity d_parity
  g_parity : mg "parity" = some (.ref a_parity)
  k_parity : PySem.W.keepIn K (.ref a_parity) = true
  b_parity : Binds K d_parity ["mask"] []
  a_reduced : Addr
  d_reduced : FuncData
  F_reduced : Fun K "reduced" "reduced" s_reduced a_reduced d_reduced
  g_reduced : mg "reduced" = some (.ref a_reduced)
  k_reduced : PySem.W.keepIn K (.ref a_reduced) = true
  b_reduced : Binds K d_reduced ["basis", "row", "bit"] []
  a_first_solution : Addr
  d_first_solution : FuncData
  F_first_solution : Fun K "first_solution" "first_solution" s_first_solution a_first_solution d_first_solution
  g_first_solution : mg "first_solution" = some (.ref a_first_solution)
  k_first_solution : PySem.W.keepIn K (.ref a_first_solution) = true
  b_first_solution : Binds K d_first_solution ["rows", "many"] []
  a_rank : Addr
  d_rank : FuncData
  F_rank : Fun K "rank" "rank" s_rank a_rank d_rank
  g_rank : mg "rank" = some (.ref a_rank)
  k_rank : PySem.W.keepIn K (.ref a_rank) = true
  b_rank : Binds K d_rank ["rows"] []
  a__law_state : Addr
  d__law_state : FuncData
  F__law_state : Fun K "_law_state" "_law_state" s__law_state a__law_state d__law_state
  g__law_state : mg "_law_state" = some (.ref a__law_state)
  k__law_state : PySem.W.keepIn K (.ref a__law_state) = true
  b__law_state : Binds K d__law_state ["script"] []
  a__law_draw : Addr
  d__law_draw : FuncData
  F__law_draw : Fun K "_law_draw" "_law_draw" s__law_draw a__law_draw d__law_draw
  g__law_draw : mg "_law_draw" = some (.ref a__law_draw)
  k__law_draw : PySem.W.keepIn K (.ref a__law_draw) = true
  b__law_draw : Binds K d__law_draw ["state", "many"] []
  a__law_sets : Addr
  d__law_sets : FuncData
  F__law_sets : Fun K "_law_sets" "_law_sets" s__law_sets a__law_sets d__law_sets
  g__law_sets : mg "_law_sets" = some (.ref a__law_sets)
  k__law_sets : PySem.W.keepIn K (.ref a__law_sets) = true
  b__law_sets : Binds K d__law_sets ["many"] []
  a__law_mask : Addr
  d__law_mask : FuncData
  F__law_mask : Fun K "_law_mask" "_law_mask" s__law_mask a__law_mask d__law_mask
  g__law_mask : mg "_law_mask" = some (.ref a__law_mask)
  k__law_mask : PySem.W.keepIn K (.ref a__law_mask) = true
  b__law_mask : Binds K d__law_mask ["some"] []
  a__law_holds : Addr
  d__law_holds : FuncData
  F__law_holds : Fun K "_law_holds" "_law_holds" s__law_holds a__law_holds d__law_holds
  g__law_holds : mg "_law_holds" = some (.ref a__law_holds)
  k__law_holds : PySem.W.keepIn K (.ref a__law_holds) = true
  b__law_holds : Binds K d__law_holds ["some", "row", "bit"] []
  a__law_sums : Addr
  d__law_sums : FuncData
  F__law_sums : Fun K "_law_sums" "_law_sums" s__law_sums a__law_sums d__law_sums
  g__law_sums : mg "_law_sums" = some (.ref a__law_sums)
  k__law_sums : PySem.W.keepIn K (.ref a__law_sums) = true
  b__law_sums : Binds K d__law_sums ["rows"] []
  a_law : Addr
  d_law : FuncData
  F_law : Fun K "law" "law" s_law a_law d_law
  g_law : mg "law" = some (.ref a_law)
  k_law : PySem.W.keepIn K (.ref a_law) = true
  b_law : Binds K d_law ["script"] []
  n_abs : mg "abs" = none
  n_bool : mg "bool" = none
  n_int : mg "int" = none
  n_isinstance : mg "isinstance" = none
  n_len : mg "len" = none
  n_list : mg "list" = none
  n_range : mg "range" = none
  n_sorted : mg "sorted" = none
  n_sum : mg "sum" = none
  n_tuple : mg "tuple" = none
def m_mask_of (some0 : (List Int)) : Option Int := (compM (fun (member0 : Int) s0 => guardM (CPow (1 : Int) member0) (some (some ((1 : Int) * 2 ^ member0.toNat), s0))) some0 ()).bind fun z0 => some ((z0.1.sum))
def m_mask_of__1 (some0 : (List Int)) : Option Int := (compM (fun (member0 : Int) s0 => guardM (CPow (1 : Int) member0) (some (some ((1 : Int) * 2 ^ member0.toNat), s0))) some0 ()).bind fun z0 => some ((z0.1.sum))
def m_members (mask0 : Int) : Option (List Int) := guardM ((Builtin.Int.intBits mask0 : Int).natAbs ≤ Line) ((compM (fun (member0 : Int) s0 => guardM (0 ≤ member0) (guardM ((2 : Int) ≠ 0) (if (decide (((mask0 / 2 ^ member0.toNat).fmod (2 : Int)) = (1 : Int))) = true then some (some member0, s0) else some (none, s0)))) (rangeL 0 (Builtin.Int.intBits mask0 : Int).toNat) ()).bind fun z0 => some (z0.1))
def m_parity (mask0 : Int) : Option Int := (m_members mask0).bind fun z0 => guardM ((2 : Int) ≠ 0) (some (((z0.length : Int).fmod (2 : Int))))
noncomputable def m_reduced (basis0 : (List (Int × (Int × Int)))) (row0 : Int) (bit0 : Int) : Option (Int × Int) := (whileM (W := Int × Int) (Rr := (Int × Int)) (fun w0 => if ((decide ((0 : Int) < w0.1)) && ((getI basis0 ((Builtin.Int.intBits w0.1 : Int) - (1 : Int))).isSome)) = true then (getI basis0 ((Builtin.Int.intBits w0.1 : Int) - (1 : Int))).bind fun z0 => letM z0 fun u0 => letM ((Builtin.bitXor w0.1 u0.1), (Builtin.bitXor w0.2 u0.2)) fun u1 => some (Fl.next (u1.1, u1.2)) else some (Fl.brk (w0.1, w0.2))) (row0, bit0)).bind (flK (W := Int × Int) (Rr := (Int × Int)) (fun w1 => some ((w1.1, w1.2))) (fun r => r))
noncomputable def m_first_solution (rows0 : (List (Int × Int))) (many0 : Int) : Option (Option Int) := (forE (W := (List (Int × (Int × Int)))) (R := (Option Int)) (fun (w0 : (List (Int × (Int × Int)))) (it0 : (Int × Int)) => (m_reduced w0 it0.1 it0.2).bind fun z0 => letM z0 fun u0 => (if (decide ((0 : Int) < u0.1)) = true then guardM (w0.length < Line) (letM (putI w0 ((Builtin.Int.intBits u0.1 : Int) - (1 : Int)) (u0.1, u0.2)) fun basis1 => some (Jn.go basis1)) else if (decide (u0.2 = (1 : Int))) = true then Option.map Jn.ex (some (none)) else some (Jn.go w0)).bind (jnK (P := (Option Int)) (W := (List (Int × (Int × Int)))) (fun (w2 : (List (Int × (Int × Int)))) => some (Fl.next w2)) Fl.ret)) rows0 ([] : List (Int × (Int × Int)))).bind (flK (W := (List (Int × (Int × Int)))) (Rr := (Option Int)) (fun w1 => letM (0 : Int) fun told0 => guardM (many0.natAbs ≤ Line) (((rangeL 0 many0.toNat).foldlM (fun (w3 : Int) (variable0 : Int) => (if ((getI w1 variable0).isSome) = true then (getI w1 variable0).bind fun z1 => letM z1 fun u1 => (m_parity (Builtin.bitAnd u1.1 w3)).bind fun z2 => (if (!decide (z2 = u1.2)) = true then guardM (CPow (1 : Int) variable0) (letM (w3 + ((1 : Int) * 2 ^ variable0.toNat)) fun told1 => some (told1)) else some (w3)).bind fun (w6 : Int) => some (w6) else some (w3)).bind fun (w5 : Int) => some (w5)) told0).bind fun w4 => some ((some w4)))) (fun r => r))
noncomputable def m_rank (rows0 : (List Int)) : Option Int := (rows0.foldlM (fun (w0 : (List (Int × (Int × Int)))) (row0 : Int) => (m_reduced w0 row0 (0 : Int)).bind fun z0 => letM z0 fun u0 => (if (decide ((0 : Int) < u0.1)) = true then guardM (w0.length < Line) (letM (putI w0 ((Builtin.Int.intBits u0.1 : Int) - (1 : Int)) (u0.1, (0 : Int))) fun basis1 => some (basis1)) else some (w0)).bind fun (w2 : (List (Int × (Int × Int)))) => some (w2)) ([] : List (Int × (Int × Int)))).bind fun w1 => some ((w1.length : Int))
def m_law_sets (many0 : Int) : Option (List (List Int)) := letM [([] : List Int)] fun found0 => guardM (many0.natAbs ≤ Line) (((rangeL 0 many0.toNat).foldlM (fun (w0 : (List (List Int))) (vertex0 : Int) => letM ((many0 - (1 : Int)) - vertex0) fun at0 => (compM (fun (some0 : (List Int)) s0 => guardM ([at0].length + some0.length ≤ Line) (some (some ([at0] ++ some0), s0))) w0 ()).bind fun z0 => guardM (w0.length + z0.1.length ≤ Line) (letM (w0 ++ z0.1) fun found1 => some (found1))) found0).bind fun w1 => some (w1))
def m_law_mask (some0 : (List Int)) : Option Int := letM (0 : Int) fun told0 => letM (1 : Int) fun one0 => guardM ((25 : Int).natAbs ≤ Line) (((rangeL 0 (25 : Int).toNat).foldlM (fun (w0 : Int × Int) (at0 : Int) => (if (decide (at0 ∈ some0)) = true then letM (w0.1 + w0.2) fun told1 => some (told1) else some (w0.1)).bind fun (w2 : Int) => guardM (CMul w0.2 (2 : Int)) (letM (w0.2 * (2 : Int)) fun one1 => some ((w2, one1)))) (told0, one0)).bind fun w1 => some (w1.1))
def m_law_mask__1 (some0 : (List Int)) : Option Int := letM (0 : Int) fun told0 => letM (1 : Int) fun one0 => guardM ((25 : Int).natAbs ≤ Line) (((rangeL 0 (25 : Int).toNat).foldlM (fun (w0 : Int × Int) (at0 : Int) => (if (decide (at0 ∈ some0)) = true then letM (w0.1 + w0.2) fun told1 => some (told1) else some (w0.1)).bind fun (w2 : Int) => guardM (CMul w0.2 (2 : Int)) (letM (w0.2 * (2 : Int)) fun one1 => some ((w2, one1)))) (told0, one0)).bind fun w1 => some (w1.1))
def m_law_holds (some0 : (List Int)) (row0 : (List Int)) (bit0 : Int) : Option Bool := guardM ((2 : Int) ≠ 0) (some ((decide ((((row0.filter fun (one0 : Int) => (decide (one0 ∈ some0))).length : Int).fmod (2 : Int)) = bit0))))
def m_law_holds__1 (some0 : (List Int)) (row0 : (List Int)) (bit0 : Int) : Option Bool := guardM ((2 : Int) ≠ 0) (some ((decide ((((row0.filter fun (one0 : Int) => (decide (one0 ∈ some0))).length : Int).fmod (2 : Int)) = bit0))))
def m_law_sums (rows0 : (List (List Int))) : Option (List (List Int)) := letM [([] : List Int)] fun found0 => (rows0.foldlM (fun (w0 : (List (List Int))) (row0 : (List Int)) => (w0.foldlM (fun (w2 : (List (List Int))) (other0 : (List Int)) => guardM ((row0.filter fun (one0 : Int) => (!decide (one0 ∈ other0))).length + (other0.filter fun (one1 : Int) => (!decide (one1 ∈ row0))).length ≤ Line) (letM (sortI ((row0.filter fun (one0 : Int) => (!decide (one0 ∈ other0))) ++ (other0.filter fun (one1 : Int) => (!decide (one1 ∈ row0))))) fun both0 => (if (!memB both0 w2) = true then guardM (w2.length < Line) (letM (w2 ++ [both0]) fun found1 => some (found1)) else some (w2)).bind fun (w4 : (List (List Int))) => some (w4))) w0).bind fun w3 => some (w3)) found0).bind fun w1 => some (w1)
noncomputable def m_law (s : Rs) : Option (Bool × Rs) := (drawR (9 : Int) s).bind fun z0 => letM z0.1 fun many0 => letM ([] : List ((List Int) × Int)) fun rows0 => (drawR (13 : Int) z0.2).bind fun z1 => guardM (z1.1.natAbs ≤ Line) (((rangeL 0 z1.1.toNat).foldlM (fun (w0 : (List ((List Int) × Int)) × Rs) (k0 : Int) => guardM (many0.natAbs ≤ Line) ((compM (fun (at0 : Int) s0 => (drawR (2 : Int) s0).bind fun z2 => if (decide (z2.1 = (0 : Int))) = true then some (some at0, z2.2) else some (none, z2.2)) (rangeL 0 many0.toNat) w0.2).bind fun z3 => letM z3.1 fun row0 => (drawR (2 : Int) z3.2).bind fun z4 => guardM (w0.1.length < Line) (letM (w0.1 ++ [(row0, z4.1)]) fun rows1 => some ((rows1, z4.2))))) (rows0, z1.2)).bind fun w1 => (drawR (2 : Int) w1.2).bind fun z5 => (if (decide (z5.1 = (0 : Int))) = true then guardM (many0.natAbs ≤ Line) ((compM (fun (at1 : Int) s1 => (drawR (2 : Int) s1).bind fun z6 => if (decide (z6.1 = (0 : Int))) = true then some (some at1, z6.2) else some (none, z6.2)) (rangeL 0 many0.toNat) z5.2).bind fun z7 => letM z7.1 fun some0 => (compM (fun (it0 : ((List Int) × Int)) s2 => (m_law_holds some0 it0.1 (1 : Int)).bind fun z8 => some (some (it0.1, (Ab.b2i z8)), s2)) w1.1 z7.2).bind fun z9 => letM z9.1 fun rows2 => some ((rows2, z9.2))) else some ((w1.1, z5.2))).bind fun (w2 : (List ((List Int) × Int)) × Rs) => letM ([] : List (List Int)) fun good0 => (m_law_sets many0).bind fun z10 => (z10.foldlM (fun (w3 : (List (List Int)) × Rs) (some1 : (List Int)) => (if (decide ((w3.1.length : Int) = (0 : Int))) = true then (compM (fun (it1 : ((List Int) × Int)) s3 => (m_law_holds__1 some1 it1.1 it1.2).bind fun z11 => if (!z11) = true then some (some it1.1, s3) else some (none, s3)) w2.1 w3.2).bind fun z12 => some ((decide ((z12.1.length : Int) = (0 : Int))), z12.2) else some (false, w3.2)).bind fun z13 => (if z13.1 = true then guardM (w3.1.length < Line) (letM (w3.1 ++ [some1]) fun good1 => some ((good1, z13.2))) else some ((w3.1, z13.2))).bind fun (w5 : (List (List Int)) × Rs) => some ((w5.1, w5.2))) (good0, w2.2)).bind fun w4 => (compM (fun (it2 : ((List Int) × Int)) s4 => (m_law_mask it2.1).bind fun z14 => some (some (z14, it2.2), s4)) w2.1 w4.2).bind fun z15 => letM z15.1 fun given0 => letM given0 fun kept0 => (m_first_solution given0 many0).bind fun z16 => letM z16 fun told0 => (if (told0.isSome && false) = true then some (true, z15.2) else (if (decide ((0 : Int) < (w4.1.length : Int))) = true then (atI w4.1 (0 : Int)).bind fun z18 => (m_law_mask__1 z18).bind fun z19 => some ((some z19), z15.2) else some (none, z15.2)).bind fun z20 => some (((!decide (told0 = z20.1)) || (!decide (given0 = kept0))), z20.2)).bind fun z21 => if z21.1 = true then some ((false, z21.2)) else (m_law_sums (w2.1.map fun (it4 : ((List Int) × Int)) => it4.1)).bind fun z22 => letM z22 fun sums0 => letM (1 : Int) fun many_sums0 => (compM (fun (it6 : ((List Int) × Int)) s8 => (m_law_mask it6.1).bind fun z25 => some (some z25, s8)) w2.1 z21.2).bind fun z26 => (m_rank z26.1).bind fun z27 => letM z27 fun told1 => if (false || ((!true) || ((decide (told1 < (0 : Int))) || (decide ((13 : Int) < told1))))) = true then some ((false, z26.2)) else guardM (told1.natAbs ≤ Line) (((rangeL 0 told1.toNat).foldlM (fun (w6 : Int × Rs) (k1 : Int) => guardM (CMul w6.1 (2 : Int)) (letM (w6.1 * (2 : Int)) fun many_sums1 => some ((many_sums1, w6.2)))) (many_sums0, z26.2)).bind fun w7 => if (!decide (w7.1 = (sums0.length : Int))) = true then some ((false, w7.2)) else guardM ((4 : Int).natAbs ≤ Line) ((forE (W := Rs) (R := (Bool × Rs)) (fun (w8 : Rs) (turn0 : Int) => guardM ((24 : Int).natAbs ≤ Line) ((compM (fun (at2 : Int) s9 => (drawR (2 : Int) s9).bind fun z28 => if (decide (z28.1 = (0 : Int))) = true then some (some at2, z28.2) else some (none, z28.2)) (rangeL 0 (24 : Int).toNat) w8).bind fun z29 => letM z29.1 fun some2 => (m_law_mask__1 some2).bind fun z31 => (m_members z31).bind fun z32 => letM z32 fun told2 => (m_mask_of some2).bind fun z33 => (m_law_mask__1 some2).bind fun z34 => (if (!decide (z33 = z34)) = true then some (true, z29.2) else (m_mask_of__1 some2).bind fun z35 => (m_law_mask__1 some2).bind fun z36 => some (((!decide (z35 = z36)) || ((!true) || (!decide (told2 = some2)))), z29.2)).bind fun z37 => if z37.1 = true then Option.map Fl.ret (some ((false, z37.2))) else (m_law_mask__1 some2).bind fun z39 => (m_parity z39).bind fun z40 => guardM ((2 : Int) ≠ 0) (if (!decide (z40 = ((some2.length : Int).fmod (2 : Int)))) = true then Option.map Fl.ret (some ((false, z37.2))) else some (Fl.next z37.2)))) (rangeL 0 (4 : Int).toNat) w7.2).bind (flK (W := Rs) (Rr := (Bool × Rs)) (fun w9 => some ((true, w9))) (fun r => r)))))
section
variable {Pg : Program} {w : World} {K : KF} {mg : Str → Option Value} {base : Heap}
theorem ok__law_draw (T : Txt K mg) : FnOk Pg w K mg base CX0 1 T.a__law_draw T.d__law_draw ["state", "many"] (spS K 1 (io1 rtR 0) (fun n : Int × Unit => [PyData.int n.1]) (fun n s => drawR n.1 s) Ty.int) := by
  refine T.F__law_draw.ok sc__law_draw (fun vs H Q E' h => ?_) (fun cdv A outer s H vs Q E' hr h => ?_)
  · obtain ⟨p, s, c, s', Hf, As, _, hl, _⟩ := h
    rw [hl]; rfl
  · have pv : ∀ {X : Cx} (i : Nat) {x : Str} {p : Pos}, X.N[i]? = some x → Vis X.env.scope x → (x == ("__debug__" : Str)) = false → (x == ("__classdict__" : Str)) = false → PE X (.Name x p) (tVar i) := fun i _ _ h1 h2 h3 h4 => pe_var h1 h2 h3 h4
    refine ⟨_, pss_cons (ps_set (i := 2) sc__law_draw.nd rfl (.inl rfl) (pe_ix L2.ix_list (pv 0 rfl (.inl rfl) rfl rfl) pe_int (fun _ _ => rfl)))
      (pss_cons (ps_while PassesOwn.never (pw_and (pt_cmpR op_gt (pe_callB call_len (by rfl) T.n_len Bo.len (pa_cons (pv 2 rfl (.inl rfl) rfl rfl) pa_nil)) pe_int (nomark _)) (pw_and1 (pt_cmpR op_eq (pe_ix L2.ix_list (pv 2 rfl (.inl rfl) rfl rfl) pe_int (fun _ _ => rfl)) pe_int (nomark _)))).pt
        (pss_one (ps_expr (pe_bm PySem.F.plainAttrs_list PySem.F.slot_list_pop PySem.F.type_list_pop mt_popAt (pv 2 rfl (.inl rfl) rfl rfl) (pa_cons pe_int pa_nil)))))
      (pss_cons (ps_if (pt_cmpR op_gt (pe_callB call_len (by rfl) T.n_len Bo.len (pa_cons (pv 2 rfl (.inl rfl) rfl rfl) pa_nil)) pe_int (nomark _))
        (pss_cons (ps_set (i := 3) sc__law_draw.nd rfl (.inl rfl) (pe_ix L2.ix_list (pv 2 rfl (.inl rfl) rfl rfl) pe_int (fun _ _ => rfl)))
        (pss_cons (ps_asg (pe_op op_fdivN (pv 3 rfl (.inl rfl) rfl rfl) (pv 1 rfl (.inl rfl) rfl rfl)) (pg_sub (pv 2 rfl (.inl rfl) rfl rfl) pe_int set_list))
        (pss_one (ps_ret (pe_op op_modN (pe_callTy call_int1 (by rfl) T.n_int Bo.int (pa_cons (pv 3 rfl (.inl rfl) rfl rfl) pa_nil)) (pv 1 rfl (.inl rfl) rfl rfl))))))
        pss_nil)
      (pss_cons (ps_set (i := 4) sc__law_draw.nd rfl (.inl rfl) (pe_op op_modN (pe_callTy call_int1 (by rfl) T.n_int Bo.int (pa_cons (pe_op op_add (pe_op op_mul (pe_ix L2.ix_list (pv 0 rfl (.inl rfl) rfl rfl) pe_int (fun _ _ => rfl)) pe_int) pe_int) pa_nil)) pe_int))
      (pss_cons (ps_asg (pv 4 rfl (.inl rfl) rfl rfl) (pg_sub (pv 0 rfl (.inl rfl) rfl rfl) pe_int set_list))
      (pss_one (ps_ret (pe_op op_modN (pe_callTy call_int1 (by rfl) T.n_int Bo.int (pa_cons (pe_op op_fdivN (pv 4 rfl (.inl rfl) rfl rfl) pe_int) pa_nil)) (pv 1 rfl (.inl rfl) rfl rfl)))))))), draw_pure h⟩
theorem ok__law_state (T : Txt K mg) : FnOk Pg w K mg base CX0 1 T.a__law_state T.d__law_state ["script"] (spSt K) := by
  refine T.F__law_state.ok sc__law_state (fun vs H Q E' h => ?_) (fun cdv A outer s H vs Q E' hr h => ?_)
  · obtain ⟨a, ns, rfl, _⟩ := h
    rfl
  · have pv : ∀ {X : Cx} (i : Nat) {x : Str} {p : Pos}, X.N[i]? = some x → Vis X.env.scope x → (x == ("__debug__" : Str)) = false → (x == ("__classdict__" : Str)) = false → PE X (.Name x p) (tVar i) := fun i _ _ h1 h2 h3 h4 => pe_var h1 h2 h3 h4
    refine ⟨_, pss_cons (ps_set (i := 1) sc__law_state.nd rfl (.inl rfl) pe_int)
      (pss_cons (ps_for PassesOwn.never rfl (pi_list (pv 0 rfl (.inl rfl) rfl rfl)) (pg_name (i := 2) sc__law_state.nd rfl (.inl rfl))
        (pss_one (ps_set (i := 1) sc__law_state.nd rfl (.inl rfl) (pe_op op_modN (pe_callTy call_int1 (by rfl) T.n_int Bo.int (pa_cons (pe_op op_add (pe_op op_mul (pv 1 rfl (.inl rfl) rfl rfl) pe_int) (pv 2 rfl (.inl rfl) rfl rfl)) pa_nil)) pe_int))))
      (pss_one (ps_ret (pe_lst (pa_cons (pe_lc (own := [("cell", 2)]) rfl sc__law_state.nd (pi_list (pv 0 rfl (.inl rfl) rfl rfl)) (blkOk_by (by kernel_rfl)) (fun _ _ _ _ _ => pg_name (i := 2) sc__law_state.nd rfl (.inl rfl)) (fun _ _ _ _ _ => pts_nil) (fun _ _ _ _ _ => pe_callB call_abs (by rfl) T.n_abs Bo.abs (pa_cons (pv 2 rfl (.inl rfl) rfl rfl) pa_nil)) (fun _ => rfl)) (pa_cons (pe_op op_add (pv 1 rfl (.inl rfl) rfl rfl) pe_int) pa_nil)))))), state_pure h⟩
theorem ok_mask_of (T : Txt K mg) : FnOk Pg w K mg base CX0 1 T.a_mask_of T.d_mask_of ["some"] (spP K (fun p : (List Int) × Unit => [(Ty.tup Ty.int) p.1]) (fun p => m_mask_of p.1) Ty.int) := by
  refine fn_pure T.F_mask_of sc_mask_of (fun _ => rfl) (fun p cdv A outer s H E' hr => ?_)
  obtain ⟨some0, _⟩ := p
  refine BX_to (m' := m_mask_of some0) (bx_ret (E := Ty.int) (k := fun x q => x) (ex_sum rfl T.n_sum (EO.ex (LO.eo (lo_comp (own := [("member", 1)]) sc_mask_of.nd (it_tup (ex_var (E := (Ty.tup Ty.int)) (a := some0) 0 rfl)) (fun _ _ _ _ _ => gx_name 1 sc_mask_of.nd) (fun _ _ _ _ _ _ _ => cx_nil) (fun _ _ _ _ _ member0 _ => (ex_shl ex_int (fun _ => (ex_var (E := Ty.int) (a := member0) 1 rfl)))))))) (fun _ _ => rfl)) ?_
  rfl
theorem ok_mask_of__1 (T : Txt K mg) : FnOk Pg w K mg base CX0 1 T.a_mask_of T.d_mask_of ["some"] (spP K (fun p : (List Int) × Unit => [(Ty.lst Ty.int) p.1]) (fun p => m_mask_of__1 p.1) Ty.int) := by
  refine fn_pure T.F_mask_of sc_mask_of (fun _ => rfl) (fun p cdv A outer s H E' hr => ?_)
  obtain ⟨some0, _⟩ := p
  refine BX_to (m' := m_mask_of__1 some0) (bx_ret (E := Ty.int) (k := fun x q => x) (ex_sum rfl T.n_sum (EO.ex (LO.eo (lo_comp (own := [("member", 1)]) sc_mask_of.nd (it_list (ex_var (E := (Ty.lst Ty.int)) (a := some0) 0 rfl)) (fun _ _ _ _ _ => gx_name 1 sc_mask_of.nd) (fun _ _ _ _ _ _ _ => cx_nil) (fun _ _ _ _ _ member0 _ => (ex_shl ex_int (fun _ => (ex_var (E := Ty.int) (a := member0) 1 rfl)))))))) (fun _ _ => rfl)) ?_
  rfl
theorem ok_members (T : Txt K mg) : FnOk Pg w K mg base CX0 1 T.a_members T.d_members ["mask"] (spP K (fun p : Int × Unit => [Ty.int p.1]) (fun p => m_members p.1) (Ty.tup Ty.int)) := by
  refine fn_pure T.F_members sc_members (fun _ => rfl) (fun p cdv A outer s H E' hr => ?_)
  obtain ⟨mask0, _⟩ := p
  refine BX_to (m' := m_members mask0) (bx_ret (E := (Ty.tup Ty.int)) (k := fun x q => x) (ex_tupleL T.n_tuple (EO.ex (LO.eo (lo_comp (own := [("member", 1)]) sc_members.nd (it_range1 T.n_range (ex_bits (ex_var (E := Ty.int) (a := mask0) 0 rfl))) (fun _ _ _ _ _ => gx_name 1 sc_members.nd) (fun _ _ _ _ _ member0 _ => cx_one (tx_eq hr Eqn.int (ex_mod (ex_shr (ex_var (E := Ty.int) (a := mask0) 0 rfl) (fun _ => (ex_var (E := Ty.int) (a := member0) 1 rfl))) (fun _ => ex_int)) (fun _ => ex_int))) (fun _ _ _ _ _ member0 _ => (ex_var (E := Ty.int) (a := member0) 1 rfl)))))) (fun _ _ => rfl)) ?_
  rfl
theorem ok_parity (T : Txt K mg) : FnOk Pg w K mg base CX0 2 T.a_parity T.d_parity ["mask"] (spP K (fun p : Int × Unit => [Ty.int p.1]) (fun p => m_parity p.1) Ty.int) := by
  refine fn_pure T.F_parity sc_parity (fun _ => rfl) (fun p cdv A outer s H E' hr => ?_)
  obtain ⟨mask0, _⟩ := p
  refine BX_to (m' := m_parity mask0) (bx_ret (E := Ty.int) (k := fun x q => x) (ex_mod (ex_lenT T.n_len (ex_call (ok_members T) (hr.mono (by decide)) T.g_members T.k_members T.b_members (ax_cons (E := Ty.int) (F := (fun q : Unit => [])) (ex_var (E := Ty.int) (a := mask0) 0 rfl) (fun _ => ax_nil)))) (fun _ => ex_int)) (fun _ _ => rfl)) ?_
  rfl
theorem ok_reduced (T : Txt K mg) : FnOk Pg w K mg base CX0 1 T.a_reduced T.d_reduced ["basis", "row", "bit"] (spP K (fun p : (List (Int × (Int × Int))) × Int × Int × Unit => [(Ty.dct kI (Ty.p2 Ty.int Ty.int)) p.1, Ty.int p.2.1, Ty.int p.2.2.1]) (fun p => m_reduced p.1 p.2.1 p.2.2.1) (Ty.p2 Ty.int Ty.int)) := by
  refine fn_pure T.F_reduced sc_reduced (fun _ => rfl) (fun p cdv A outer s H E' hr => ?_)
  obtain ⟨basis0, row0, bit0, _⟩ := p
  refine BX_to (m' := m_reduced basis0 row0 bit0) (bx_while (W := Int × Int) (Rr := (Int × Int)) (fun w0 : Int × Int => [iv 2 Ty.int w0.2, iv 1 Ty.int w0.1, iv 0 (Ty.dct kI (Ty.p2 Ty.int Ty.int)) basis0]) (fun w0 : Int × Int => ()) (fun r : (Int × Int) => (Ty.p2 Ty.int Ty.int) r) (fun r : (Int × Int) => ()) (fun w0 q0 => (w0.1, w0.2)) (w0 := (row0, bit0)) (kr := fun r => r) rfl (le_cons rfl (le_cons rfl (le_cons rfl le_nil))) (fun _ _ => rfl) (fun _ _ => rfl) (fun w0 => (WX.tx (wx_andT (tx_gt (ex_var (E := Ty.int) (a := w0.1) 1 rfl) (fun _ => ex_int)) (fun _ => (wx_and1 (tx_inD hr kf_int (ex_sub (ex_bits (ex_var (E := Ty.int) (a := w0.1) 1 rfl)) (fun _ => ex_int)) (fun _ => (ex_var (E := (Ty.dct kI (Ty.p2 Ty.int Ty.int))) (a := basis0) 0 rfl)))))))) (fun w0 q0 => (bx_unp (E := (Ty.p2 Ty.int Ty.int)) (ex_getD hr kf_int (ex_var (E := (Ty.dct kI (Ty.p2 Ty.int Ty.int))) (a := basis0) 0 rfl) (fun _ => (ex_sub (ex_bits (ex_var (E := Ty.int) (a := w0.1) 1 rfl)) (fun _ => ex_int)))) (gx_tup (E := (Ty.p2 Ty.int Ty.int)) (F := fun x => [Ty.int x.1, Ty.int x.2]) (gxs_cons (GX.map (F := Ty.int) (E := fun x : (Int × Int) => Ty.int x.1) (gx_name 3 sc_reduced.nd) (fun x : (Int × Int) => x.1) (fun _ => rfl)) (gxs_cons (GX.map (F := Ty.int) (E := fun x : (Int × Int) => Ty.int x.2) (gx_name 4 sc_reduced.nd) (fun x : (Int × Int) => x.2) (fun _ => rfl)) gxs_nil)) (fun _ => rfl) (fun _ => rfl)) (fun u0 q1 => (bx_par (E := Ty.int) (F := Ty.int) (i := 1) (j := 2) sc_reduced.nd (ax_cons (E := Ty.int) (F := fun q => [Ty.int q]) (ex_xor (ex_var (E := Ty.int) (a := w0.1) 1 rfl) (fun _ => (ex_var (E := Ty.int) (a := u0.1) 3 rfl))) (fun _ => ax_one (E := Ty.int) (ex_xor (ex_var (E := Ty.int) (a := w0.2) 2 rfl) (fun _ => (ex_var (E := Ty.int) (a := u0.2) 4 rfl))))) (fun u1 q2 => (bx_nil (r := Fl.next (u1.1, u1.2)) rfl (le_cons rfl (le_cons rfl (le_cons rfl le_nil))))))))) (fun w1 => (bx_ret (E := (Ty.p2 Ty.int Ty.int)) (k := fun x q => x) (ex_tup (E := (Ty.p2 Ty.int Ty.int)) (ax_cons (E := Ty.int) (F := (fun q : Int => [Ty.int q])) (ex_var (E := Ty.int) (a := w1.1) 1 rfl) (fun _ => (ax_one (E := Ty.int) (ex_var (E := Ty.int) (a := w1.2) 2 rfl)))) (fun _ => rfl) (fun _ => Nat.le_of_ble_eq_true rfl)) (fun _ _ => rfl))) (fun _ => rfl)) ?_
  rfl
theorem ok_first_solution (T : Txt K mg) : FnOk Pg w K mg base CX0 3 T.a_first_solution T.d_first_solution ["rows", "many"] (spP K (fun p : (List (Int × Int)) × Int × Unit => [(Ty.lst (Ty.p2 Ty.int Ty.int)) p.1, Ty.int p.2.1]) (fun p => m_first_solution p.1 p.2.1) (Ty.opt Ty.int)) := by
  refine fn_pure T.F_first_solution sc_first_solution (fun _ => rfl) (fun p cdv A outer s H E' hr => ?_)
  obtain ⟨rows0, many0, _⟩ := p
  refine BX_to (m' := m_first_solution rows0 many0) (bx_setD (α := (Int × Int)) 2 kI (Ty.p2 Ty.int Ty.int) sc_first_solution.nd (fun q0 => (bx_forE (W := (List (Int × (Int × Int)))) (Rr := (Option Int)) (fun w0 : (List (Int × (Int × Int))) => [dv 2 kI (Ty.p2 Ty.int Ty.int) w0, iv 1 Ty.int many0]) (fun w0 : (List (Int × (Int × Int))) => ()) (fun r : (Option Int) => (Ty.opt Ty.int) r) (fun r : (Option Int) => ()) (w0 := (fun q => ([] : List (Int × (Int × Int))))) (kr := fun r => r) (it_list (ex_var (E := (Ty.lst (Ty.p2 Ty.int Ty.int))) (a := rows0) 0 rfl)) (gx_tup (E := (Ty.p2 Ty.int Ty.int)) (F := fun x => [Ty.int x.1, Ty.int x.2]) (gxs_cons (GX.map (F := Ty.int) (E := fun x : (Int × Int) => Ty.int x.1) (gx_name 3 sc_first_solution.nd) (fun x : (Int × Int) => x.1) (fun _ => rfl)) (gxs_cons (GX.map (F := Ty.int) (E := fun x : (Int × Int) => Ty.int x.2) (gx_name 4 sc_first_solution.nd) (fun x : (Int × Int) => x.2) (fun _ => rfl)) gxs_nil)) (fun _ => rfl) (fun _ => rfl)) (fun _ => rfl) (fun _ => (le_cons rfl (le_cons rfl le_nil))) (fun w0 it0 => (bx_unp (E := (Ty.p2 Ty.int Ty.int)) (ex_peekD (kf := kI) (E := (Ty.p2 Ty.int Ty.int)) (l := w0) 2 free0 rfl (ex_call (ok_reduced T) (hr.mono (by decide)) T.g_reduced T.k_reduced T.b_reduced (ax_cons (E := (Ty.dct kI (Ty.p2 Ty.int Ty.int))) (F := (fun q : Int × Int × Unit => [Ty.int q.1, Ty.int q.2.1])) (ex_var (E := (Ty.dct kI (Ty.p2 Ty.int Ty.int))) (a := w0) 2 rfl) (fun _ => (ax_cons (E := Ty.int) (F := (fun q : Int × Unit => [Ty.int q.1])) (ex_var (E := Ty.int) (a := it0.1) 3 rfl) (fun _ => (ax_cons (E := Ty.int) (F := (fun q : Unit => [])) (ex_var (E := Ty.int) (a := it0.2) 4 rfl) (fun _ => ax_nil))))))) (fl_p2 (fun _ => rfl) (fun _ => rfl))) (gx_tup (E := (Ty.p2 Ty.int Ty.int)) (F := fun x => [Ty.int x.1, Ty.int x.2]) (gxs_cons (GX.map (F := Ty.int) (E := fun x : (Int × Int) => Ty.int x.1) (gx_name 3 sc_first_solution.nd) (fun x : (Int × Int) => x.1) (fun _ => rfl)) (gxs_cons (GX.map (F := Ty.int) (E := fun x : (Int × Int) => Ty.int x.2) (gx_name 4 sc_first_solution.nd) (fun x : (Int × Int) => x.2) (fun _ => rfl)) gxs_nil)) (fun _ => rfl) (fun _ => rfl)) (fun u0 q1 => (bx_ifJ (P := (Option Int)) (W := (List (Int × (Int × Int)))) Fl.ret (fun w2 : (List (Int × (Int × Int))) => [dv 2 kI (Ty.p2 Ty.int Ty.int) w2, iv 1 Ty.int many0]) (fun w2 : (List (Int × (Int × Int))) => ()) (tx_gt (ex_var (E := Ty.int) (a := u0.1) 3 rfl) (fun _ => ex_int)) (fun q2 => (bx_putD (kf := kI) (E := (Ty.p2 Ty.int Ty.int)) (l := w0) 2 hr kf_int rfl (ex_tup (E := (Ty.p2 Ty.int Ty.int)) (ax_cons (E := Ty.int) (F := (fun q : Int => [Ty.int q])) (ex_var (E := Ty.int) (a := u0.1) 3 rfl) (fun _ => (ax_one (E := Ty.int) (ex_var (E := Ty.int) (a := u0.2) 4 rfl)))) (fun _ => rfl) (fun _ => Nat.le_of_ble_eq_true rfl)) (fun _ => (ex_sub (ex_bits (ex_var (E := Ty.int) (a := u0.1) 3 rfl)) (fun _ => ex_int))) (fun basis1 q3 => (bx_nil (r := Jn.go basis1) rfl (le_cons rfl (le_cons rfl le_nil)))))) (fun q2 => (bx_ifX (P := (Option Int)) Jn.ex (tx_eq hr Eqn.int (ex_var (E := Ty.int) (a := u0.2) 4 rfl) (fun _ => ex_int)) (fun q4 => (bx_ret (E := (Ty.opt Ty.int)) (k := fun x q => x) (ex_non (E := Ty.int) ex_none) (fun _ _ => rfl))) (fun q4 => (bx_nil (r := Jn.go w0) rfl (le_cons rfl (le_cons rfl le_nil)))))) (fun w2 => (bx_nil (r := Fl.next w2) rfl (le_cons rfl (le_cons rfl le_nil)))))))) (fun w1 => (bx_setL (E := Ty.int) 5 sc_first_solution.nd ex_int (fun told0 q5 => (bx_freezeD (kf := kI) (E := (Ty.p2 Ty.int Ty.int)) (l := w1) 2 rfl (bx_for (W := Int) (fun w3 : Int => [iv 5 Ty.int w3, iv 2 (Ty.dct kI (Ty.p2 Ty.int Ty.int)) w1]) (fun w3 : Int => ()) (w0 := (fun q => told0)) (it_range1 T.n_range (ex_var (E := Ty.int) (a := many0) 1 rfl)) (gx_name 6 sc_first_solution.nd) (fun _ => rfl) (fun _ => (le_cons rfl (le_cons rfl le_nil))) (fun w3 variable0 => (bx_if (W := Int) (fun w5 : Int => [iv 5 Ty.int w5, iv 2 (Ty.dct kI (Ty.p2 Ty.int Ty.int)) w1]) (fun w5 : Int => ()) (tx_inD hr kf_int (ex_var (E := Ty.int) (a := variable0) 6 rfl) (fun _ => (ex_var (E := (Ty.dct kI (Ty.p2 Ty.int Ty.int))) (a := w1) 2 rfl))) (fun q6 => (bx_unp (E := (Ty.p2 Ty.int Ty.int)) (ex_getD hr kf_int (ex_var (E := (Ty.dct kI (Ty.p2 Ty.int Ty.int))) (a := w1) 2 rfl) (fun _ => (ex_var (E := Ty.int) (a := variable0) 6 rfl))) (gx_tup (E := (Ty.p2 Ty.int Ty.int)) (F := fun x => [Ty.int x.1, Ty.int x.2]) (gxs_cons (GX.map (F := Ty.int) (E := fun x : (Int × Int) => Ty.int x.1) (gx_name 3 sc_first_solution.nd) (fun x : (Int × Int) => x.1) (fun _ => rfl)) (gxs_cons (GX.map (F := Ty.int) (E := fun x : (Int × Int) => Ty.int x.2) (gx_name 4 sc_first_solution.nd) (fun x : (Int × Int) => x.2) (fun _ => rfl)) gxs_nil)) (fun _ => rfl) (fun _ => rfl)) (fun u1 q7 => (bx_if (W := Int) (fun w6 : Int => [iv 5 Ty.int w6, iv 2 (Ty.dct kI (Ty.p2 Ty.int Ty.int)) w1]) (fun w6 : Int => ()) (tx_ne hr Eqn.int (ex_call (ok_parity T) (hr.mono (by decide)) T.g_parity T.k_parity T.b_parity (ax_cons (E := Ty.int) (F := (fun q : Unit => [])) (ex_and2 (ex_var (E := Ty.int) (a := u1.1) 3 rfl) (fun _ => (ex_var (E := Ty.int) (a := w3) 5 rfl))) (fun _ => ax_nil))) (fun _ => (ex_var (E := Ty.int) (a := u1.2) 4 rfl))) (fun q8 => (bx_setL (E := Ty.int) 5 sc_first_solution.nd (ex_add (ex_var (E := Ty.int) (a := w3) 5 rfl) (fun _ => (ex_shl ex_int (fun _ => (ex_var (E := Ty.int) (a := variable0) 6 rfl))))) (fun told1 q9 => (bx_nil (r := told1) rfl (le_cons rfl (le_cons rfl le_nil)))))) (fun q8 => (bx_nil (r := w3) rfl (le_cons rfl (le_cons rfl le_nil)))) (fun w6 => (bx_nil (r := w6) rfl (le_cons rfl (le_cons rfl le_nil)))))))) (fun q6 => (bx_nil (r := w3) rfl (le_cons rfl (le_cons rfl le_nil)))) (fun w5 => (bx_nil (r := w5) rfl (le_cons rfl (le_cons rfl le_nil)))))) (fun w4 => (bx_ret (E := (Ty.opt Ty.int)) (k := fun x q => x) (ex_some (E := Ty.int) (ex_var (E := Ty.int) (a := w4) 5 rfl)) (fun _ _ => rfl)))))))) (fun _ => rfl)))) ?_
  rfl
theorem ok_rank (T : Txt K mg) : FnOk Pg w K mg base CX0 2 T.a_rank T.d_rank ["rows"] (spP K (fun p : (List Int) × Unit => [(Ty.lst Ty.int) p.1]) (fun p => m_rank p.1) Ty.int) := by
  refine fn_pure T.F_rank sc_rank (fun _ => rfl) (fun p cdv A outer s H E' hr => ?_)
  obtain ⟨rows0, _⟩ := p
  refine BX_to (m' := m_rank rows0) (bx_setD (α := (Int × Int)) 1 kI (Ty.p2 Ty.int Ty.int) sc_rank.nd (fun q0 => (bx_for (W := (List (Int × (Int × Int)))) (fun w0 : (List (Int × (Int × Int))) => [dv 1 kI (Ty.p2 Ty.int Ty.int) w0]) (fun w0 : (List (Int × (Int × Int))) => ()) (w0 := (fun q => ([] : List (Int × (Int × Int))))) (it_list (ex_var (E := (Ty.lst Ty.int)) (a := rows0) 0 rfl)) (gx_name 2 sc_rank.nd) (fun _ => rfl) (fun _ => (le_cons rfl le_nil)) (fun w0 row0 => (bx_unp (E := (Ty.p2 Ty.int Ty.int)) (ex_peekD (kf := kI) (E := (Ty.p2 Ty.int Ty.int)) (l := w0) 1 free0 rfl (ex_call (ok_reduced T) (hr.mono (by decide)) T.g_reduced T.k_reduced T.b_reduced (ax_cons (E := (Ty.dct kI (Ty.p2 Ty.int Ty.int))) (F := (fun q : Int × Int × Unit => [Ty.int q.1, Ty.int q.2.1])) (ex_var (E := (Ty.dct kI (Ty.p2 Ty.int Ty.int))) (a := w0) 1 rfl) (fun _ => (ax_cons (E := Ty.int) (F := (fun q : Int × Unit => [Ty.int q.1])) (ex_var (E := Ty.int) (a := row0) 2 rfl) (fun _ => (ax_cons (E := Ty.int) (F := (fun q : Unit => [])) ex_int (fun _ => ax_nil))))))) (fl_p2 (fun _ => rfl) (fun _ => rfl))) (gx_tup (E := (Ty.p2 Ty.int Ty.int)) (F := fun x => [Ty.int x.1, Ty.int x.2]) (gxs_cons (GX.map (F := Ty.int) (E := fun x : (Int × Int) => Ty.int x.1) (gx_name 2 sc_rank.nd) (fun x : (Int × Int) => x.1) (fun _ => rfl)) (gxs_cons (GX.map (F := Ty.int) (E := fun x : (Int × Int) => Ty.int x.2) (gx_name 3 sc_rank.nd) (fun x : (Int × Int) => x.2) (fun _ => rfl)) gxs_nil)) (fun _ => rfl) (fun _ => rfl)) (fun u0 q1 => (bx_if (W := (List (Int × (Int × Int)))) (fun w2 : (List (Int × (Int × Int))) => [dv 1 kI (Ty.p2 Ty.int Ty.int) w2]) (fun w2 : (List (Int × (Int × Int))) => ()) (tx_gt (ex_var (E := Ty.int) (a := u0.1) 2 rfl) (fun _ => ex_int)) (fun q2 => (bx_putD (kf := kI) (E := (Ty.p2 Ty.int Ty.int)) (l := w0) 1 hr kf_int rfl (ex_tup (E := (Ty.p2 Ty.int Ty.int)) (ax_cons (E := Ty.int) (F := (fun q : Int => [Ty.int q])) (ex_var (E := Ty.int) (a := u0.1) 2 rfl) (fun _ => (ax_one (E := Ty.int) ex_int))) (fun _ => rfl) (fun _ => Nat.le_of_ble_eq_true rfl)) (fun _ => (ex_sub (ex_bits (ex_var (E := Ty.int) (a := u0.1) 2 rfl)) (fun _ => ex_int))) (fun basis1 q3 => (bx_nil (r := basis1) rfl (le_cons rfl le_nil))))) (fun q2 => (bx_nil (r := w0) rfl (le_cons rfl le_nil))) (fun w2 => (bx_nil (r := w2) rfl (le_cons rfl le_nil))))))) (fun w1 => (bx_freezeD (kf := kI) (E := (Ty.p2 Ty.int Ty.int)) (l := w1) 1 rfl (bx_ret (E := Ty.int) (k := fun x q => x) (ex_lenD T.n_len (ex_var (E := (Ty.dct kI (Ty.p2 Ty.int Ty.int))) (a := w1) 1 rfl)) (fun _ _ => rfl))))))) ?_
  rfl
theorem ok__law_sets (T : Txt K mg) : FnOk Pg w K mg base CX0 1 T.a__law_sets T.d__law_sets ["many"] (spP K (fun p : Int × Unit => [Ty.int p.1]) (fun p => m_law_sets p.1) (Ty.lst (Ty.tup Ty.int))) := by
  refine fn_pure T.F__law_sets sc__law_sets (fun _ => rfl) (fun p cdv A outer s H E' hr => ?_)
  obtain ⟨many0, _⟩ := p
  refine BX_to (m' := m_law_sets many0) (bx_setL (E := (Ty.lst (Ty.tup Ty.int))) 1 sc__law_sets.nd (EO.ex (eo_lst (E := (Ty.tup Ty.int)) (al_cons (E := (Ty.tup Ty.int)) (ex_tupL (E := Ty.int) (al_nil (E := Ty.int))) (fun _ => (al_nil (E := (Ty.tup Ty.int))))))) (fun found0 q0 => (bx_for (W := (List (List Int))) (fun w0 : (List (List Int)) => [iv 1 (Ty.lst (Ty.tup Ty.int)) w0, iv 0 Ty.int many0]) (fun w0 : (List (List Int)) => ()) (w0 := (fun q => found0)) (it_range1 T.n_range (ex_var (E := Ty.int) (a := many0) 0 rfl)) (gx_name 2 sc__law_sets.nd) (fun _ => rfl) (fun _ => (le_cons rfl (le_cons rfl le_nil))) (fun w0 vertex0 => (bx_setL (E := Ty.int) 3 sc__law_sets.nd (ex_sub (ex_sub (ex_var (E := Ty.int) (a := many0) 0 rfl) (fun _ => ex_int)) (fun _ => (ex_var (E := Ty.int) (a := vertex0) 2 rfl))) (fun at0 q1 => (bx_setL (E := (Ty.lst (Ty.tup Ty.int))) 1 sc__law_sets.nd (ex_catL (ex_var (E := (Ty.lst (Ty.tup Ty.int))) (a := w0) 1 rfl) (fun _ => (EO.ex (LO.eo (lo_comp (own := [("some", 4)]) sc__law_sets.nd (it_list (ex_var (E := (Ty.lst (Ty.tup Ty.int))) (a := w0) 1 rfl)) (fun _ _ _ _ _ => gx_name 4 sc__law_sets.nd) (fun _ _ _ _ _ _ _ => cx_nil) (fun _ _ _ _ _ some0 _ => (ex_catT (ex_tupL (E := Ty.int) (al_cons (E := Ty.int) (ex_var (E := Ty.int) (a := at0) 3 rfl) (fun _ => (al_nil (E := Ty.int))))) (fun _ => (ex_var (E := (Ty.tup Ty.int)) (a := some0) 4 rfl))))))))) (fun found1 q2 => (bx_nil (r := found1) rfl (le_cons rfl (le_cons rfl le_nil)))))))) (fun w1 => (bx_ret (E := (Ty.lst (Ty.tup Ty.int))) (k := fun x q => x) (ex_var (E := (Ty.lst (Ty.tup Ty.int))) (a := w1) 1 rfl) (fun _ _ => rfl)))))) ?_
  rfl
theorem ok__law_mask (T : Txt K mg) : FnOk Pg w K mg base CX0 1 T.a__law_mask T.d__law_mask ["some"] (spP K (fun p : (List Int) × Unit => [(Ty.lst Ty.int) p.1]) (fun p => m_law_mask p.1) Ty.int) := by
  refine fn_pure T.F__law_mask sc__law_mask (fun _ => rfl) (fun p cdv A outer s H E' hr => ?_)
  obtain ⟨some0, _⟩ := p
  refine BX_to (m' := m_law_mask some0) (bx_setL (E := Ty.int) 1 sc__law_mask.nd ex_int (fun told0 q0 => (bx_setL (E := Ty.int) 2 sc__law_mask.nd ex_int (fun one0 q1 => (bx_for (W := Int × Int) (fun w0 : Int × Int => [iv 2 Ty.int w0.2, iv 1 Ty.int w0.1, iv 0 (Ty.lst Ty.int) some0]) (fun w0 : Int × Int => ()) (w0 := (fun q => (told0, one0))) (it_range1 T.n_range ex_int) (gx_name 3 sc__law_mask.nd) (fun _ => rfl) (fun _ => (le_cons rfl (le_cons rfl (le_cons rfl le_nil)))) (fun w0 at0 => (bx_if (W := Int) (fun w2 : Int => [iv 2 Ty.int w0.2, iv 1 Ty.int w2, iv 0 (Ty.lst Ty.int) some0]) (fun w2 : Int => ()) (tx_inL hr Eqn.int (ex_var (E := Ty.int) (a := at0) 3 rfl) (fun _ => (ex_var (E := (Ty.lst Ty.int)) (a := some0) 0 rfl))) (fun q2 => (bx_setL (E := Ty.int) 1 sc__law_mask.nd (ex_add (ex_var (E := Ty.int) (a := w0.1) 1 rfl) (fun _ => (ex_var (E := Ty.int) (a := w0.2) 2 rfl))) (fun told1 q3 => (bx_nil (r := told1) rfl (le_cons rfl (le_cons rfl (le_cons rfl le_nil))))))) (fun q2 => (bx_nil (r := w0.1) rfl (le_cons rfl (le_cons rfl (le_cons rfl le_nil))))) (fun w2 => (bx_setL (E := Ty.int) 2 sc__law_mask.nd (ex_mul (ex_var (E := Ty.int) (a := w0.2) 2 rfl) (fun _ => ex_int)) (fun one1 q4 => (bx_nil (r := (w2, one1)) rfl (le_cons rfl (le_cons rfl (le_cons rfl le_nil))))))))) (fun w1 => (bx_ret (E := Ty.int) (k := fun x q => x) (ex_var (E := Ty.int) (a := w1.1) 1 rfl) (fun _ _ => rfl)))))))) ?_
  rfl
theorem ok__law_mask__1 (T : Txt K mg) : FnOk Pg w K mg base CX0 1 T.a__law_mask T.d__law_mask ["some"] (spP K (fun p : (List Int) × Unit => [(Ty.tup Ty.int) p.1]) (fun p => m_law_mask__1 p.1) Ty.int) := by
  refine fn_pure T.F__law_mask sc__law_mask (fun _ => rfl) (fun p cdv A outer s H E' hr => ?_)
  obtain ⟨some0, _⟩ := p
  refine BX_to (m' := m_law_mask__1 some0) (bx_setL (E := Ty.int) 1 sc__law_mask.nd ex_int (fun told0 q0 => (bx_setL (E := Ty.int) 2 sc__law_mask.nd ex_int (fun one0 q1 => (bx_for (W := Int × Int) (fun w0 : Int × Int => [iv 2 Ty.int w0.2, iv 1 Ty.int w0.1, iv 0 (Ty.tup Ty.int) some0]) (fun w0 : Int × Int => ()) (w0 := (fun q => (told0, one0))) (it_range1 T.n_range ex_int) (gx_name 3 sc__law_mask.nd) (fun _ => rfl) (fun _ => (le_cons rfl (le_cons rfl (le_cons rfl le_nil)))) (fun w0 at0 => (bx_if (W := Int) (fun w2 : Int => [iv 2 Ty.int w0.2, iv 1 Ty.int w2, iv 0 (Ty.tup Ty.int) some0]) (fun w2 : Int => ()) (tx_inT hr Eqn.int (ex_var (E := Ty.int) (a := at0) 3 rfl) (fun _ => (ex_var (E := (Ty.tup Ty.int)) (a := some0) 0 rfl))) (fun q2 => (bx_setL (E := Ty.int) 1 sc__law_mask.nd (ex_add (ex_var (E := Ty.int) (a := w0.1) 1 rfl) (fun _ => (ex_var (E := Ty.int) (a := w0.2) 2 rfl))) (fun told1 q3 => (bx_nil (r := told1) rfl (le_cons rfl (le_cons rfl (le_cons rfl le_nil))))))) (fun q2 => (bx_nil (r := w0.1) rfl (le_cons rfl (le_cons rfl (le_cons rfl le_nil))))) (fun w2 => (bx_setL (E := Ty.int) 2 sc__law_mask.nd (ex_mul (ex_var (E := Ty.int) (a := w0.2) 2 rfl) (fun _ => ex_int)) (fun one1 q4 => (bx_nil (r := (w2, one1)) rfl (le_cons rfl (le_cons rfl (le_cons rfl le_nil))))))))) (fun w1 => (bx_ret (E := Ty.int) (k := fun x q => x) (ex_var (E := Ty.int) (a := w1.1) 1 rfl) (fun _ _ => rfl)))))))) ?_
  rfl
theorem ok__law_holds (T : Txt K mg) : FnOk Pg w K mg base CX0 1 T.a__law_holds T.d__law_holds ["some", "row", "bit"] (spP K (fun p : (List Int) × (List Int) × Int × Unit => [(Ty.lst Ty.int) p.1, (Ty.lst Ty.int) p.2.1, Ty.int p.2.2.1]) (fun p => m_law_holds p.1 p.2.1 p.2.2.1) Ty.bool) := by
  refine fn_pure T.F__law_holds sc__law_holds (fun _ => rfl) (fun p cdv A outer s H E' hr => ?_)
  obtain ⟨some0, row0, bit0, _⟩ := p
  refine BX_to (m' := m_law_holds some0 row0 bit0) (bx_ret (E := Ty.bool) (k := fun x q => x) (ex_eq hr Eqn.int (ex_mod (ex_intI T.n_int (ex_lenL T.n_len (EO.ex (LO.eo (lo_compI (own := [("one", 3)]) sc__law_holds.nd (it_list (ex_var (E := (Ty.lst Ty.int)) (a := row0) 1 rfl)) (fun _ _ _ _ _ => gx_name 3 sc__law_holds.nd) (fun _ _ _ _ _ one0 _ => (tx_inL hr Eqn.int (ex_var (E := Ty.int) (a := one0) 3 rfl) (fun _ => (ex_var (E := (Ty.lst Ty.int)) (a := some0) 0 rfl)))) (fun _ _ _ _ _ one0 _ => (ex_var (E := Ty.int) (a := one0) 3 rfl))))))) (fun _ => ex_int)) (fun _ => (ex_var (E := Ty.int) (a := bit0) 2 rfl))) (fun _ _ => rfl)) ?_
  rfl
theorem ok__law_holds__1 (T : Txt K mg) : FnOk Pg w K mg base CX0 1 T.a__law_holds T.d__law_holds ["some", "row", "bit"] (spP K (fun p : (List Int) × (List Int) × Int × Unit => [(Ty.tup Ty.int) p.1, (Ty.lst Ty.int) p.2.1, Ty.int p.2.2.1]) (fun p => m_law_holds__1 p.1 p.2.1 p.2.2.1) Ty.bool) := by
  refine fn_pure T.F__law_holds sc__law_holds (fun _ => rfl) (fun p cdv A outer s H E' hr => ?_)
  obtain ⟨some0, row0, bit0, _⟩ := p
  refine BX_to (m' := m_law_holds__1 some0 row0 bit0) (bx_ret (E := Ty.bool) (k := fun x q => x) (ex_eq hr Eqn.int (ex_mod (ex_intI T.n_int (ex_lenL T.n_len (EO.ex (LO.eo (lo_compI (own := [("one", 3)]) sc__law_holds.nd (it_list (ex_var (E := (Ty.lst Ty.int)) (a := row0) 1 rfl)) (fun _ _ _ _ _ => gx_name 3 sc__law_holds.nd) (fun _ _ _ _ _ one0 _ => (tx_inT hr Eqn.int (ex_var (E := Ty.int) (a := one0) 3 rfl) (fun _ => (ex_var (E := (Ty.tup Ty.int)) (a := some0) 0 rfl)))) (fun _ _ _ _ _ one0 _ => (ex_var (E := Ty.int) (a := one0) 3 rfl))))))) (fun _ => ex_int)) (fun _ => (ex_var (E := Ty.int) (a := bit0) 2 rfl))) (fun _ _ => rfl)) ?_
  rfl
theorem ok__law_sums (T : Txt K mg) : FnOk Pg w K mg base CX0 1 T.a__law_sums T.d__law_sums ["rows"] (spP K (fun p : (List (List Int)) × Unit => [(Ty.lst (Ty.lst Ty.int)) p.1]) (fun p => m_law_sums p.1) (Ty.lst (Ty.lst Ty.int))) := by
  refine fn_pure T.F__law_sums sc__law_sums (fun _ => rfl) (fun p cdv A outer s H E' hr => ?_)
  obtain ⟨rows0, _⟩ := p
  refine BX_to (m' := m_law_sums rows0) (bx_setOL (E := (Ty.lst Ty.int)) 1 sc__law_sums.nd (eo_lst (E := (Ty.lst Ty.int)) (al_cons (E := (Ty.lst Ty.int)) (EO.ex (eo_lst (E := Ty.int) (al_nil (E := Ty.int)))) (fun _ => (al_nil (E := (Ty.lst Ty.int)))))) (fun found0 q0 => (bx_for (W := (List (List Int))) (fun w0 : (List (List Int)) => [ov 1 (Ty.lst Ty.int) w0]) (fun w0 : (List (List Int)) => ()) (w0 := (fun q => found0)) (it_list (ex_var (E := (Ty.lst (Ty.lst Ty.int))) (a := rows0) 0 rfl)) (gx_name 2 sc__law_sums.nd) (fun _ => rfl) (fun _ => (le_cons rfl le_nil)) (fun w0 row0 => (bx_for (W := (List (List Int))) (fun w2 : (List (List Int)) => [iv 2 (Ty.lst Ty.int) row0, ov 1 (Ty.lst Ty.int) w2]) (fun w2 : (List (List Int)) => ()) (w0 := (fun q => w0)) (it_list (EO.ex (eo_listO (E := (Ty.lst Ty.int)) (l := w0) 1 rfl T.n_list))) (gx_name 3 sc__law_sums.nd) (fun _ => rfl) (fun _ => (le_cons rfl (le_cons rfl le_nil))) (fun w2 other0 => (bx_setL (E := (Ty.lst Ty.int)) 4 sc__law_sums.nd (ex_sortI T.n_sorted (ex_catL (EO.ex (LO.eo (lo_compI (own := [("one", 5)]) sc__law_sums.nd (it_list (ex_var (E := (Ty.lst Ty.int)) (a := row0) 2 rfl)) (fun _ _ _ _ _ => gx_name 5 sc__law_sums.nd) (fun _ _ _ _ _ one0 _ => (tx_notInL hr Eqn.int (ex_var (E := Ty.int) (a := one0) 5 rfl) (fun _ => (ex_var (E := (Ty.lst Ty.int)) (a := other0) 3 rfl)))) (fun _ _ _ _ _ one0 _ => (ex_var (E := Ty.int) (a := one0) 5 rfl))))) (fun _ => (EO.ex (LO.eo (lo_compI (own := [("one", 5)]) sc__law_sums.nd (it_list (ex_var (E := (Ty.lst Ty.int)) (a := other0) 3 rfl)) (fun _ _ _ _ _ => gx_name 5 sc__law_sums.nd) (fun _ _ _ _ _ one1 _ => (tx_notInL hr Eqn.int (ex_var (E := Ty.int) (a := one1) 5 rfl) (fun _ => (ex_var (E := (Ty.lst Ty.int)) (a := row0) 2 rfl)))) (fun _ _ _ _ _ one1 _ => (ex_var (E := Ty.int) (a := one1) 5 rfl)))))))) (fun both0 q1 => (bx_if (W := (List (List Int))) (fun w4 : (List (List Int)) => [iv 2 (Ty.lst Ty.int) row0, ov 1 (Ty.lst Ty.int) w4]) (fun w4 : (List (List Int)) => ()) (tx_peek (E := (Ty.lst Ty.int)) (l := w2) 1 free0 rfl (tx_notInL hr (Eqn.lst Eqn.int) (ex_var (E := (Ty.lst Ty.int)) (a := both0) 4 rfl) (fun _ => (ex_var (E := (Ty.lst (Ty.lst Ty.int))) (a := w2) 1 rfl)))) (fun q4 => (bx_append (E := (Ty.lst Ty.int)) (l := w2) 1 rfl (ex_var (E := (Ty.lst Ty.int)) (a := both0) 4 rfl) (fun found1 q5 => (bx_nil (r := found1) rfl (le_cons rfl (le_cons rfl le_nil)))))) (fun q4 => (bx_nil (r := w2) rfl (le_cons rfl (le_cons rfl le_nil)))) (fun w4 => (bx_nil (r := w4) rfl (le_cons rfl (le_cons rfl le_nil)))))))) (fun w3 => (bx_nil (r := w3) rfl (le_cons rfl le_nil))))) (fun w1 => (bx_freeze (E := (Ty.lst Ty.int)) (l := w1) 1 rfl (bx_ret (E := (Ty.lst (Ty.lst Ty.int))) (k := fun x q => x) (ex_var (E := (Ty.lst (Ty.lst Ty.int))) (a := w1) 1 rfl) (fun _ _ => rfl))))))) ?_
  rfl
theorem ok_law (T : Txt K mg) : FnOk Pg w K mg base CX0 4 T.a_law T.d_law ["script"] (spLaw K m_law) := by
  refine fn_law T.F_law sc_law ((ok__law_state T).mono (by decide)) T.g__law_state T.k__law_state T.b__law_state rfl rfl rfl (by first | exact .inl rfl | exact .inr rfl) (by first | exact .inl rfl | exact .inr (.inl rfl) | exact .inr (.inr rfl)) (by rfl) (fun s cdv A outer sh H E' hr => ?_)
  refine BX_to (m' := m_law s) (bx_setL (E := Ty.int) 2 sc_law.nd (ex_callS (ok__law_draw T) (hr.mono (by decide)) T.g__law_draw T.k__law_draw T.b__law_draw (ax_cons (E := Ty.int) (F := (fun q : Unit => [])) ex_int (fun _ => ax_nil))) (fun many0 q0 => (bx_setOL (E := (Ty.p2 (Ty.lst Ty.int) Ty.int)) 3 sc_law.nd (eo_lst (E := (Ty.p2 (Ty.lst Ty.int) Ty.int)) (al_nil (E := (Ty.p2 (Ty.lst Ty.int) Ty.int)))) (fun rows0 q1 => (bx_for (W := (List ((List Int) × Int)) × Rs) (fun w0 : (List ((List Int) × Int)) × Rs => [ov 3 (Ty.p2 (Ty.lst Ty.int) Ty.int) w0.1, iv 2 Ty.int many0]) (fun w0 : (List ((List Int) × Int)) × Rs => w0.2) (w0 := (fun q => (rows0, q))) (it_range1 T.n_range (ex_callS (ok__law_draw T) (hr.mono (by decide)) T.g__law_draw T.k__law_draw T.b__law_draw (ax_cons (E := Ty.int) (F := (fun q : Unit => [])) ex_int (fun _ => ax_nil)))) (gx_name 4 sc_law.nd) (fun _ => rfl) (fun _ => (le_cons rfl (le_cons rfl le_nil))) (fun w0 k0 => (bx_setLcL (E := Ty.int) 5 (lo_comp (own := [("at", 14)]) sc_law.nd (it_range1 T.n_range (ex_var (E := Ty.int) (a := many0) 2 rfl)) (fun _ _ _ _ _ => gx_name 14 sc_law.nd) (fun _ _ _ _ _ at0 _ => cx_one (tx_eq hr Eqn.int (ex_callS (ok__law_draw T) (hr.mono (by decide)) T.g__law_draw T.k__law_draw T.b__law_draw (ax_cons (E := Ty.int) (F := (fun q : Unit => [])) ex_int (fun _ => ax_nil))) (fun _ => ex_int))) (fun _ _ _ _ _ at0 _ => (ex_var (E := Ty.int) (a := at0) 14 rfl))) (fun row0 q2 => (bx_append (E := (Ty.p2 (Ty.lst Ty.int) Ty.int)) (l := w0.1) 3 rfl (ex_tup (E := (Ty.p2 (Ty.lst Ty.int) Ty.int)) (ax_cons (E := (Ty.lst Ty.int)) (F := (fun q : Int => [Ty.int q])) (ex_var (E := (Ty.lst Ty.int)) (a := row0) 5 rfl) (fun _ => (ax_one (E := Ty.int) (ex_callS (ok__law_draw T) (hr.mono (by decide)) T.g__law_draw T.k__law_draw T.b__law_draw (ax_cons (E := Ty.int) (F := (fun q : Unit => [])) ex_int (fun _ => ax_nil)))))) (fun _ => rfl) (fun _ => Nat.le_of_ble_eq_true rfl)) (fun rows1 q4 => (bx_nil (r := (rows1, q4)) rfl (le_cons rfl (le_cons rfl le_nil)))))))) (fun w1 => (bx_freeze (E := (Ty.p2 (Ty.lst Ty.int) Ty.int)) (l := w1.1) 3 rfl (bx_if (W := (List ((List Int) × Int)) × Rs) (fun w2 : (List ((List Int) × Int)) × Rs => [iv 3 (Ty.lst (Ty.p2 (Ty.lst Ty.int) Ty.int)) w2.1, iv 2 Ty.int many0]) (fun w2 : (List ((List Int) × Int)) × Rs => w2.2) (tx_eq hr Eqn.int (ex_callS (ok__law_draw T) (hr.mono (by decide)) T.g__law_draw T.k__law_draw T.b__law_draw (ax_cons (E := Ty.int) (F := (fun q : Unit => [])) ex_int (fun _ => ax_nil))) (fun _ => ex_int)) (fun q5 => (bx_setL (E := (Ty.lst Ty.int)) 6 sc_law.nd (EO.ex (LO.eo (lo_comp (own := [("at", 14)]) sc_law.nd (it_range1 T.n_range (ex_var (E := Ty.int) (a := many0) 2 rfl)) (fun _ _ _ _ _ => gx_name 14 sc_law.nd) (fun _ _ _ _ _ at1 _ => cx_one (tx_eq hr Eqn.int (ex_callS (ok__law_draw T) (hr.mono (by decide)) T.g__law_draw T.k__law_draw T.b__law_draw (ax_cons (E := Ty.int) (F := (fun q : Unit => [])) ex_int (fun _ => ax_nil))) (fun _ => ex_int))) (fun _ _ _ _ _ at1 _ => (ex_var (E := Ty.int) (a := at1) 14 rfl))))) (fun some0 q6 => (bx_setLcL (E := (Ty.p2 (Ty.lst Ty.int) Ty.int)) 3 (lo_comp (own := [("row", 5), ("bit", 15)]) (kx := [15, 5]) sc_law.nd (it_list (ex_var (E := (Ty.lst (Ty.p2 (Ty.lst Ty.int) Ty.int))) (a := w1.1) 3 rfl)) (fun _ _ _ _ _ => gx_tup (E := (Ty.p2 (Ty.lst Ty.int) Ty.int)) (F := fun x => [(Ty.lst Ty.int) x.1, Ty.int x.2]) (gxs_cons (GX.map (F := (Ty.lst Ty.int)) (E := fun x : ((List Int) × Int) => (Ty.lst Ty.int) x.1) (gx_name 5 sc_law.nd) (fun x : ((List Int) × Int) => x.1) (fun _ => rfl)) (gxs_cons (GX.map (F := Ty.int) (E := fun x : ((List Int) × Int) => Ty.int x.2) (gx_name 15 sc_law.nd) (fun x : ((List Int) × Int) => x.2) (fun _ => rfl)) gxs_nil)) (fun _ => rfl) (fun _ => rfl)) (fun _ _ _ _ _ _ _ => cx_nil) (fun _ _ _ _ _ it0 _ => (ex_tup (E := (Ty.p2 (Ty.lst Ty.int) Ty.int)) (ax_cons (E := (Ty.lst Ty.int)) (F := (fun q : Int => [Ty.int q])) (ex_var (E := (Ty.lst Ty.int)) (a := it0.1) 5 rfl) (fun _ => (ax_one (E := Ty.int) (ex_intB T.n_int (ex_call (ok__law_holds T) (hr.mono (by decide)) T.g__law_holds T.k__law_holds T.b__law_holds (ax_cons (E := (Ty.lst Ty.int)) (F := (fun q : (List Int) × Int × Unit => [(Ty.lst Ty.int) q.1, Ty.int q.2.1])) (ex_var (E := (Ty.lst Ty.int)) (a := some0) 6 rfl) (fun _ => (ax_cons (E := (Ty.lst Ty.int)) (F := (fun q : Int × Unit => [Ty.int q.1])) (ex_var (E := (Ty.lst Ty.int)) (a := it0.1) 5 rfl) (fun _ => (ax_cons (E := Ty.int) (F := (fun q : Unit => [])) ex_int (fun _ => ax_nil))))))))))) (fun _ => rfl) (fun _ => Nat.le_of_ble_eq_true rfl)))) (fun rows2 q8 => (bx_nil (r := (rows2, q8)) rfl (le_cons rfl (le_cons rfl le_nil)))))))) (fun q5 => (bx_nil (r := (w1.1, q5)) rfl (le_cons rfl (le_cons rfl le_nil)))) (fun w2 => (bx_setOL (E := (Ty.tup Ty.int)) 7 sc_law.nd (eo_lst (E := (Ty.tup Ty.int)) (al_nil (E := (Ty.tup Ty.int)))) (fun good0 q10 => (bx_for (W := (List (List Int)) × Rs) (fun w3 : (List (List Int)) × Rs => [ov 7 (Ty.tup Ty.int) w3.1, iv 3 (Ty.lst (Ty.p2 (Ty.lst Ty.int) Ty.int)) w2.1, iv 2 Ty.int many0]) (fun w3 : (List (List Int)) × Rs => w3.2) (w0 := (fun q => (good0, q))) (it_list (ex_call (ok__law_sets T) (hr.mono (by decide)) T.g__law_sets T.k__law_sets T.b__law_sets (ax_cons (E := Ty.int) (F := (fun q : Unit => [])) (ex_var (E := Ty.int) (a := many0) 2 rfl) (fun _ => ax_nil)))) (gx_name 6 sc_law.nd) (fun _ => rfl) (fun _ => (le_cons rfl (le_cons rfl (le_cons rfl le_nil)))) (fun w3 some1 => (bx_if (W := (List (List Int)) × Rs) (fun w5 : (List (List Int)) × Rs => [ov 7 (Ty.tup Ty.int) w5.1, iv 3 (Ty.lst (Ty.p2 (Ty.lst Ty.int) Ty.int)) w2.1, iv 2 Ty.int many0]) (fun w5 : (List (List Int)) × Rs => w5.2) (tx_peek (E := (Ty.tup Ty.int)) (l := w3.1) 7 (freeR 1) rfl (WX.tx (wx_and (tx_eq hr Eqn.int (ex_lenL T.n_len (ex_var (E := (Ty.lst (Ty.tup Ty.int))) (a := w3.1) 7 rfl)) (fun _ => ex_int)) (fun _ => (wx_and1 (tx_eq hr Eqn.int (ex_lenL T.n_len (EO.ex (LO.eo (lo_comp (own := [("row", 5), ("bit", 15)]) (kx := [15, 5]) sc_law.nd (it_list (ex_var (E := (Ty.lst (Ty.p2 (Ty.lst Ty.int) Ty.int))) (a := w2.1) 3 rfl)) (fun _ _ _ _ _ => gx_tup (E := (Ty.p2 (Ty.lst Ty.int) Ty.int)) (F := fun x => [(Ty.lst Ty.int) x.1, Ty.int x.2]) (gxs_cons (GX.map (F := (Ty.lst Ty.int)) (E := fun x : ((List Int) × Int) => (Ty.lst Ty.int) x.1) (gx_name 5 sc_law.nd) (fun x : ((List Int) × Int) => x.1) (fun _ => rfl)) (gxs_cons (GX.map (F := Ty.int) (E := fun x : ((List Int) × Int) => Ty.int x.2) (gx_name 15 sc_law.nd) (fun x : ((List Int) × Int) => x.2) (fun _ => rfl)) gxs_nil)) (fun _ => rfl) (fun _ => rfl)) (fun _ _ _ _ _ it1 _ => cx_one (tx_not (tx_val (ex_call (ok__law_holds__1 T) (hr.mono (by decide)) T.g__law_holds T.k__law_holds T.b__law_holds (ax_cons (E := (Ty.tup Ty.int)) (F := (fun q : (List Int) × Int × Unit => [(Ty.lst Ty.int) q.1, Ty.int q.2.1])) (ex_var (E := (Ty.tup Ty.int)) (a := some1) 6 rfl) (fun _ => (ax_cons (E := (Ty.lst Ty.int)) (F := (fun q : Int × Unit => [Ty.int q.1])) (ex_var (E := (Ty.lst Ty.int)) (a := it1.1) 5 rfl) (fun _ => (ax_cons (E := Ty.int) (F := (fun q : Unit => [])) (ex_var (E := Ty.int) (a := it1.2) 15 rfl) (fun _ => ax_nil)))))))))) (fun _ _ _ _ _ it1 _ => (ex_var (E := (Ty.lst Ty.int)) (a := it1.1) 5 rfl)))))) (fun _ => ex_int))))))) (fun q12 => (bx_append (E := (Ty.tup Ty.int)) (l := w3.1) 7 rfl (ex_var (E := (Ty.tup Ty.int)) (a := some1) 6 rfl) (fun good1 q13 => (bx_nil (r := (good1, q13)) rfl (le_cons rfl (le_cons rfl (le_cons rfl le_nil))))))) (fun q12 => (bx_nil (r := (w3.1, q12)) rfl (le_cons rfl (le_cons rfl (le_cons rfl le_nil))))) (fun w5 => (bx_nil (r := (w5.1, w5.2)) rfl (le_cons rfl (le_cons rfl (le_cons rfl le_nil))))))) (fun w4 => (bx_setLcL (E := (Ty.p2 Ty.int Ty.int)) 8 (lo_comp (own := [("row", 5), ("bit", 15)]) (kx := [15, 5]) sc_law.nd (it_list (ex_var (E := (Ty.lst (Ty.p2 (Ty.lst Ty.int) Ty.int))) (a := w2.1) 3 rfl)) (fun _ _ _ _ _ => gx_tup (E := (Ty.p2 (Ty.lst Ty.int) Ty.int)) (F := fun x => [(Ty.lst Ty.int) x.1, Ty.int x.2]) (gxs_cons (GX.map (F := (Ty.lst Ty.int)) (E := fun x : ((List Int) × Int) => (Ty.lst Ty.int) x.1) (gx_name 5 sc_law.nd) (fun x : ((List Int) × Int) => x.1) (fun _ => rfl)) (gxs_cons (GX.map (F := Ty.int) (E := fun x : ((List Int) × Int) => Ty.int x.2) (gx_name 15 sc_law.nd) (fun x : ((List Int) × Int) => x.2) (fun _ => rfl)) gxs_nil)) (fun _ => rfl) (fun _ => rfl)) (fun _ _ _ _ _ _ _ => cx_nil) (fun _ _ _ _ _ it2 _ => (ex_tup (E := (Ty.p2 Ty.int Ty.int)) (ax_cons (E := Ty.int) (F := (fun q : Int => [Ty.int q])) (ex_call (ok__law_mask T) (hr.mono (by decide)) T.g__law_mask T.k__law_mask T.b__law_mask (ax_cons (E := (Ty.lst Ty.int)) (F := (fun q : Unit => [])) (ex_var (E := (Ty.lst Ty.int)) (a := it2.1) 5 rfl) (fun _ => ax_nil))) (fun _ => (ax_one (E := Ty.int) (ex_var (E := Ty.int) (a := it2.2) 15 rfl)))) (fun _ => rfl) (fun _ => Nat.le_of_ble_eq_true rfl)))) (fun given0 q14 => (bx_setL (E := (Ty.lst (Ty.p2 Ty.int Ty.int))) 9 sc_law.nd (EO.ex (eo_listL (E := (Ty.p2 Ty.int Ty.int)) T.n_list (ex_var (E := (Ty.lst (Ty.p2 Ty.int Ty.int))) (a := given0) 8 rfl))) (fun kept0 q16 => (bx_setL (E := (Ty.opt Ty.int)) 10 sc_law.nd (ex_call (ok_first_solution T) (hr.mono (by decide)) T.g_first_solution T.k_first_solution T.b_first_solution (ax_cons (E := (Ty.lst (Ty.p2 Ty.int Ty.int))) (F := (fun q : Int × Unit => [Ty.int q.1])) (ex_var (E := (Ty.lst (Ty.p2 Ty.int Ty.int))) (a := given0) 8 rfl) (fun _ => (ax_cons (E := Ty.int) (F := (fun q : Unit => [])) (ex_var (E := Ty.int) (a := many0) 2 rfl) (fun _ => ax_nil))))) (fun told0 q17 => (bx_freeze (E := (Ty.tup Ty.int)) (l := w4.1) 7 rfl (bx_ifR (WX.tx (wx_or (tx_val (ex_isiO (E := Ty.int) (r0 := false) T.n_isinstance T.n_bool Bo.bool tyd_int (ex_var (E := (Ty.opt Ty.int)) (a := told0) 10 rfl))) (fun _ => (wx_orT (tx_ne hr (Eqn.opt Eqn.int (fun _ => ⟨rfl, rfl⟩)) (ex_var (E := (Ty.opt Ty.int)) (a := told0) 10 rfl) (fun _ => (ex_if (E := (Ty.opt Ty.int)) (tx_gt (ex_lenL T.n_len (ex_var (E := (Ty.lst (Ty.tup Ty.int))) (a := w4.1) 7 rfl)) (fun _ => ex_int)) (fun _ => (ex_some (E := Ty.int) (ex_call (ok__law_mask__1 T) (hr.mono (by decide)) T.g__law_mask T.k__law_mask T.b__law_mask (ax_cons (E := (Ty.tup Ty.int)) (F := (fun q : Unit => [])) (ex_ixL (ex_var (E := (Ty.lst (Ty.tup Ty.int))) (a := w4.1) 7 rfl) (fun _ => ex_int)) (fun _ => ax_nil))))) (fun _ => (ex_non (E := Ty.int) ex_none))))) (fun _ => (wx_or1 (tx_ne hr (Eqn.lst (Eqn.p2 Eqn.int Eqn.int)) (ex_var (E := (Ty.lst (Ty.p2 Ty.int Ty.int))) (a := given0) 8 rfl) (fun _ => (ex_var (E := (Ty.lst (Ty.p2 Ty.int Ty.int))) (a := kept0) 9 rfl))))))))) (fun q18 => (bx_ret (E := Ty.bool) (k := fun x q => (x, q)) ex_bool (fun _ _ => rfl))) (fun q18 => (bx_setL (E := (Ty.lst (Ty.lst Ty.int))) 11 sc_law.nd (ex_call (ok__law_sums T) (hr.mono (by decide)) T.g__law_sums T.k__law_sums T.b__law_sums (ax_cons (E := (Ty.lst (Ty.lst Ty.int))) (F := (fun q : Unit => [])) (EO.ex (LO.eo (lo_compM (own := [("row", 5), ("bit", 15)]) (kx := [15, 5]) sc_law.nd (it_list (ex_var (E := (Ty.lst (Ty.p2 (Ty.lst Ty.int) Ty.int))) (a := w2.1) 3 rfl)) (fun _ _ _ _ _ => gx_tup (E := (Ty.p2 (Ty.lst Ty.int) Ty.int)) (F := fun x => [(Ty.lst Ty.int) x.1, Ty.int x.2]) (gxs_cons (GX.map (F := (Ty.lst Ty.int)) (E := fun x : ((List Int) × Int) => (Ty.lst Ty.int) x.1) (gx_name 5 sc_law.nd) (fun x : ((List Int) × Int) => x.1) (fun _ => rfl)) (gxs_cons (GX.map (F := Ty.int) (E := fun x : ((List Int) × Int) => Ty.int x.2) (gx_name 15 sc_law.nd) (fun x : ((List Int) × Int) => x.2) (fun _ => rfl)) gxs_nil)) (fun _ => rfl) (fun _ => rfl)) (fun _ _ _ _ _ it4 _ => (ex_var (E := (Ty.lst Ty.int)) (a := it4.1) 5 rfl))))) (fun _ => ax_nil))) (fun sums0 q19 => (bx_setL (E := Ty.int) 12 sc_law.nd ex_int (fun many_sums0 q22 => (bx_setL (E := Ty.int) 10 sc_law.nd (ex_call (ok_rank T) (hr.mono (by decide)) T.g_rank T.k_rank T.b_rank (ax_cons (E := (Ty.lst Ty.int)) (F := (fun q : Unit => [])) (EO.ex (LO.eo (lo_comp (own := [("row", 5), ("bit", 15)]) (kx := [15, 5]) sc_law.nd (it_list (ex_var (E := (Ty.lst (Ty.p2 (Ty.lst Ty.int) Ty.int))) (a := w2.1) 3 rfl)) (fun _ _ _ _ _ => gx_tup (E := (Ty.p2 (Ty.lst Ty.int) Ty.int)) (F := fun x => [(Ty.lst Ty.int) x.1, Ty.int x.2]) (gxs_cons (GX.map (F := (Ty.lst Ty.int)) (E := fun x : ((List Int) × Int) => (Ty.lst Ty.int) x.1) (gx_name 5 sc_law.nd) (fun x : ((List Int) × Int) => x.1) (fun _ => rfl)) (gxs_cons (GX.map (F := Ty.int) (E := fun x : ((List Int) × Int) => Ty.int x.2) (gx_name 15 sc_law.nd) (fun x : ((List Int) × Int) => x.2) (fun _ => rfl)) gxs_nil)) (fun _ => rfl) (fun _ => rfl)) (fun _ _ _ _ _ _ _ => cx_nil) (fun _ _ _ _ _ it6 _ => (ex_call (ok__law_mask T) (hr.mono (by decide)) T.g__law_mask T.k__law_mask T.b__law_mask (ax_cons (E := (Ty.lst Ty.int)) (F := (fun q : Unit => [])) (ex_var (E := (Ty.lst Ty.int)) (a := it6.1) 5 rfl) (fun _ => ax_nil))))))) (fun _ => ax_nil))) (fun told1 q23 => (bx_ifR (WX.tx (wx_orT (tx_val (ex_isi (r0 := false) T.n_isinstance T.n_bool Bo.bool tyd_int (ex_var (E := Ty.int) (a := told1) 10 rfl))) (fun _ => (wx_orT (tx_not (tx_val (ex_isi (r0 := true) T.n_isinstance T.n_int Bo.int tyd_int (ex_var (E := Ty.int) (a := told1) 10 rfl)))) (fun _ => (wx_orT (tx_lt (ex_var (E := Ty.int) (a := told1) 10 rfl) (fun _ => ex_int)) (fun _ => (wx_or1 (tx_gt (ex_var (E := Ty.int) (a := told1) 10 rfl) (fun _ => ex_int)))))))))) (fun q26 => (bx_ret (E := Ty.bool) (k := fun x q => (x, q)) ex_bool (fun _ _ => rfl))) (fun q26 => (bx_for (W := Int × Rs) (fun w6 : Int × Rs => [iv 12 Ty.int w6.1, iv 11 (Ty.lst (Ty.lst Ty.int)) sums0]) (fun w6 : Int × Rs => w6.2) (w0 := (fun q => (many_sums0, q))) (it_range1 T.n_range (ex_var (E := Ty.int) (a := told1) 10 rfl)) (gx_name 4 sc_law.nd) (fun _ => rfl) (fun _ => (le_cons rfl (le_cons rfl le_nil))) (fun w6 k1 => (bx_setL (E := Ty.int) 12 sc_law.nd (ex_mul (ex_var (E := Ty.int) (a := w6.1) 12 rfl) (fun _ => ex_int)) (fun many_sums1 q27 => (bx_nil (r := (many_sums1, q27)) rfl (le_cons rfl (le_cons rfl le_nil)))))) (fun w7 => (bx_ifR (tx_ne hr Eqn.int (ex_var (E := Ty.int) (a := w7.1) 12 rfl) (fun _ => (ex_lenL T.n_len (ex_var (E := (Ty.lst (Ty.lst Ty.int))) (a := sums0) 11 rfl)))) (fun q28 => (bx_ret (E := Ty.bool) (k := fun x q => (x, q)) ex_bool (fun _ _ => rfl))) (fun q28 => (bx_forE (W := Rs) (Rr := (Bool × Rs)) (fun w8 : Rs => []) (fun w8 : Rs => w8) (fun r : (Bool × Rs) => Ty.bool r.1) (fun r : (Bool × Rs) => r.2) (w0 := (fun q => q)) (kr := fun r => r) (it_range1 T.n_range ex_int) (gx_name 13 sc_law.nd) (fun _ => rfl) (fun _ => le_nil) (fun w8 turn0 => (bx_setL (E := (Ty.tup Ty.int)) 6 sc_law.nd (ex_tupleL T.n_tuple (EO.ex (LO.eo (lo_comp (own := [("at", 14)]) sc_law.nd (it_range1 T.n_range ex_int) (fun _ _ _ _ _ => gx_name 14 sc_law.nd) (fun _ _ _ _ _ at2 _ => cx_one (tx_eq hr Eqn.int (ex_callS (ok__law_draw T) (hr.mono (by decide)) T.g__law_draw T.k__law_draw T.b__law_draw (ax_cons (E := Ty.int) (F := (fun q : Unit => [])) ex_int (fun _ => ax_nil))) (fun _ => ex_int))) (fun _ _ _ _ _ at2 _ => (ex_var (E := Ty.int) (a := at2) 14 rfl)))))) (fun some2 q29 => (bx_setL (E := (Ty.tup Ty.int)) 10 sc_law.nd (ex_call (ok_members T) (hr.mono (by decide)) T.g_members T.k_members T.b_members (ax_cons (E := Ty.int) (F := (fun q : Unit => [])) (ex_call (ok__law_mask__1 T) (hr.mono (by decide)) T.g__law_mask T.k__law_mask T.b__law_mask (ax_cons (E := (Ty.tup Ty.int)) (F := (fun q : Unit => [])) (ex_var (E := (Ty.tup Ty.int)) (a := some2) 6 rfl) (fun _ => ax_nil))) (fun _ => ax_nil))) (fun told2 q31 => (bx_ifX (P := (Bool × Rs)) Fl.ret (WX.tx (wx_or (tx_ne hr Eqn.int (ex_call (ok_mask_of T) (hr.mono (by decide)) T.g_mask_of T.k_mask_of T.b_mask_of (ax_cons (E := (Ty.tup Ty.int)) (F := (fun q : Unit => [])) (ex_var (E := (Ty.tup Ty.int)) (a := some2) 6 rfl) (fun _ => ax_nil))) (fun _ => (ex_call (ok__law_mask__1 T) (hr.mono (by decide)) T.g__law_mask T.k__law_mask T.b__law_mask (ax_cons (E := (Ty.tup Ty.int)) (F := (fun q : Unit => [])) (ex_var (E := (Ty.tup Ty.int)) (a := some2) 6 rfl) (fun _ => ax_nil))))) (fun _ => (wx_orT (tx_ne hr Eqn.int (ex_call (ok_mask_of__1 T) (hr.mono (by decide)) T.g_mask_of T.k_mask_of T.b_mask_of (ax_cons (E := (Ty.lst Ty.int)) (F := (fun q : Unit => [])) (EO.ex (eo_listT (E := Ty.int) T.n_list (ex_var (E := (Ty.tup Ty.int)) (a := some2) 6 rfl))) (fun _ => ax_nil))) (fun _ => (ex_call (ok__law_mask__1 T) (hr.mono (by decide)) T.g__law_mask T.k__law_mask T.b__law_mask (ax_cons (E := (Ty.tup Ty.int)) (F := (fun q : Unit => [])) (ex_var (E := (Ty.tup Ty.int)) (a := some2) 6 rfl) (fun _ => ax_nil))))) (fun _ => (wx_orT (tx_not (tx_val (ex_isi (r0 := true) T.n_isinstance T.n_tuple Bo.tuple (tyd_tup (Ea := (Ty.tup Ty.int)) (fun l => l.map Ty.int) (fun _ => rfl)) (ex_var (E := (Ty.tup Ty.int)) (a := told2) 10 rfl)))) (fun _ => (wx_or1 (tx_ne hr (Eqn.tup Eqn.int) (ex_var (E := (Ty.tup Ty.int)) (a := told2) 10 rfl) (fun _ => (ex_var (E := (Ty.tup Ty.int)) (a := some2) 6 rfl))))))))))) (fun q32 => (bx_ret (E := Ty.bool) (k := fun x q => (x, q)) ex_bool (fun _ _ => rfl))) (fun q32 => (bx_ifX (P := (Bool × Rs)) Fl.ret (tx_ne hr Eqn.int (ex_call (ok_parity T) (hr.mono (by decide)) T.g_parity T.k_parity T.b_parity (ax_cons (E := Ty.int) (F := (fun q : Unit => [])) (ex_call (ok__law_mask__1 T) (hr.mono (by decide)) T.g__law_mask T.k__law_mask T.b__law_mask (ax_cons (E := (Ty.tup Ty.int)) (F := (fun q : Unit => [])) (ex_var (E := (Ty.tup Ty.int)) (a := some2) 6 rfl) (fun _ => ax_nil))) (fun _ => ax_nil))) (fun _ => (ex_mod (ex_intI T.n_int (ex_lenT T.n_len (ex_var (E := (Ty.tup Ty.int)) (a := some2) 6 rfl))) (fun _ => ex_int)))) (fun q33 => (bx_ret (E := Ty.bool) (k := fun x q => (x, q)) ex_bool (fun _ _ => rfl))) (fun q33 => (bx_nil (r := Fl.next q33) rfl le_nil)))))))))) (fun w9 => (bx_ret (E := Ty.bool) (k := fun x q => (x, q)) ex_bool (fun _ _ => rfl))) (fun _ => rfl)))))))))))))))))))))))))))))))))))) ?_
  rfl
end
end K03
namespace K03
open PySem PySem.Spec PyProof.Rows L2 Ab
/-! ### linear.py -/
theorem reduced_ok {L : BL} (B : Bas L) {n : Nat} (hn : n < 2 ^ 63) {b : Int} (hb : b = 0 ∨ b = 1) :
    Y (m_reduced L n b) (fun p => ∃ n' : Nat, p.1 = (n' : Int) ∧ n' < 2 ^ 63 ∧ (p.2 = 0 ∨ p.2 = 1) ∧ (n' = 0 ∨ getI L (n'.log2 : Int) = none) ∧ R0 L (n ^^^ n') ∧ (∀ x, Sol L x → (dot n x ^^ (b == 1)) = (dot n' x ^^ (p.2 == 1))) ∧ (∀ w, n < 2 ^ w → n' < 2 ^ w)) := by
  unfold m_reduced
  let I : Int × Int → Prop := fun w => ∃ n' : Nat, w.1 = (n' : Int) ∧ n' < 2 ^ 63 ∧ (w.2 = 0 ∨ w.2 = 1) ∧ R0 L (n ^^^ n') ∧ (∀ x, Sol L x → (dot n x ^^ (b == 1)) = (dot n' x ^^ (w.2 == 1))) ∧ (∀ v, n < 2 ^ v → n' < 2 ^ v)
  refine Y.while (fun w => I w ∧ (w.1 = 0 ∨ getI L ((Builtin.Int.intBits w.1 : Int) - 1) = none)) I (fun w => w.1.toNat) ⟨n, rfl, hn, hb, by rw [Nat.xor_self]; exact .z, fun _ _ => rfl, fun _ h => h⟩ ?_ ?_
  · rintro ⟨r, c⟩ ⟨n', h1, h2, h3, h4, h5, h6⟩
    simp only at h1 h2 h3 h4 h5 h6
    subst h1
    refine Y.ite (fun ht => ?_) (fun ht => ?_)
    · simp only [Bool.and_eq_true, decide_eq_true_eq] at ht
      obtain ⟨t1, t2⟩ := ht
      have hz : n' ≠ 0 := by omega
      have e : (Builtin.Int.intBits (n' : Int) : Int) - 1 = (n'.log2 : Int) := by rw [bits_nat, if_neg hz]; omega
      rw [e] at t2 ⊢
      cases hg : getI L (n'.log2 : Int) with
      | none => rw [hg] at t2; cases t2
      | some p =>
        obtain ⟨m, m1, m2, m3, m4, m5⟩ := B.ok _ _ _ hg
        obtain ⟨pr, pb⟩ := p
        simp only at m1 m4
        subst m1
        have m3' : m.log2 = n'.log2 := by omega
        refine Y.bindE rfl (Y.lt (Y.lt (Y.ok (.inr ⟨_, .inl rfl, ⟨n' ^^^ m, xor_nat n' m, Nat.xor_lt_two_pow h2 m5, ?_, ?_, fun x hx => ?_, fun v hv => ?_⟩, ?_⟩))))
        · exact (bx01 h3 m4).1
        · rw [← Nat.xor_assoc]
          exact R0.xor' B h4 (R0.row B hg)
        · rw [h5 x hx, dot_xor, hx _ _ _ hg]
          show _ = ((dot n' x ^^ (pb == 1)) ^^ (Builtin.bitXor c pb == 1))
          rw [(bx01 h3 m4).2]
          cases dot n' x <;> cases (c == 1) <;> cases (pb == 1) <;> rfl
        · have := h6 v hv
          exact Nat.lt_trans (xor_lt hz m2 m3') this
        · show (Builtin.bitXor (n' : Int) (m : Int)).toNat < (n' : Int).toNat
          rw [xor_nat]
          exact xor_lt hz m2 m3'
    · refine Y.ok (.inl ⟨_, rfl, ⟨n', rfl, h2, h3, h4, h5, h6⟩, ?_⟩)
      simp only [Bool.and_eq_false_iff, decide_eq_false_iff_not] at ht
      rcases ht with ht | ht
      · exact .inl (by simp only; omega)
      · exact .inr (by simpa using ht)
  · rintro ⟨r, c⟩ ⟨⟨n', h1, h2, h3, h4, h5, h6⟩, h7⟩
    simp only at h1 h2 h3 h4 h5 h6 h7
    subst h1
    refine Y.ok ⟨n', rfl, h2, h3, ?_, h4, h5, h6⟩
    by_cases hz : n' = 0
    · exact .inl hz
    · refine .inr ?_
      rw [bits_nat, if_neg hz] at h7
      rcases h7 with h7 | h7
      · omega
      · rw [← h7]; congr 1; omega
theorem members_eq {m : Nat} (h : m < 2 ^ 63) : m_members (m : Int) = some (membL m) := by
  unfold m_members
  obtain ⟨h1, h2⟩ := log_lt h
  have hb := bits_nat m
  rw [guardM_pos (show ((Builtin.Int.intBits (m : Int) : Nat) : Int).natAbs ≤ 16777216 by rw [hb]; omega)]
  have hf : ∀ x ∈ rangeL 0 ((Builtin.Int.intBits (m : Int) : Nat) : Int).toNat, ∀ s0 : Unit, (guardM (0 ≤ x) (guardM ((2 : Int) ≠ 0) (if (decide ((((m : Int) / 2 ^ x.toNat).fmod (2 : Int)) = (1 : Int))) = true then some (some x, s0) else some (none, s0)))) = if m.testBit x.toNat = true then some (some x, s0) else some (none, s0) := fun x hx s0 => by
    have := (mem_rangeL.mp hx).1
    rw [guardM_pos this, guardM_pos (by decide), bit_div]
  rw [compM_eqI hf]
  show some ((rangeL 0 ((Builtin.Int.intBits (m : Int) : Nat) : Int).toNat).filter fun x => m.testBit x.toNat) = some (membL m)
  congr 1
  refine SL.ext ((rangeL_SL _ _).filter _) (membL_SL m) fun x => ?_
  rw [List.mem_filter, mem_membL h, mem_rangeL, hb]
  constructor
  · rintro ⟨⟨a, _⟩, b⟩; exact ⟨a, b⟩
  · rintro ⟨a, b⟩
    refine ⟨⟨a, ?_⟩, b⟩
    have h3 := Nat.ge_two_pow_of_testBit b
    have : x.toNat < (if m = 0 then 0 else m.log2 + 1) := by
      apply Classical.byContradiction
      intro hc
      have : 2 ^ (if m = 0 then 0 else m.log2 + 1) ≤ 2 ^ x.toNat := Nat.pow_le_pow_right (by decide) (by omega)
      omega
    omega
theorem parity_eq {m : Nat} (h : m < 2 ^ 63) : m_parity (m : Int) = some (if pcb m = true then 1 else 0) := by
  unfold m_parity
  rw [members_eq h]
  show guardM ((2 : Int) ≠ 0) (some (((membL m).length : Int).fmod 2)) = _
  rw [guardM_pos (by decide), membL_len]
/-- the rows that are given -/
structure RowsOk (rows : List (Int × Int)) (w : Nat) : Prop where
  ok : ∀ p ∈ rows, ∃ n : Nat, p.1 = (n : Int) ∧ n < 2 ^ w ∧ (p.2 = 0 ∨ p.2 = 1)
  len : rows.length ≤ 4096
def SolR (rows : List (Int × Int)) (x : Nat) : Prop := ∀ p ∈ rows, dot p.1.toNat x = (p.2 == 1)
theorem bas_put {L : BL} (B : Bas L) {n : Nat} (hz : n ≠ 0) (hn : n < 2 ^ 63) {b : Int} (hb : b = 0 ∨ b = 1) (hg : getI L (n.log2 : Int) = none) : Bas (putI L (n.log2 : Int) ((n : Int), b)) ∧ ∀ x, Sol (putI L (n.log2 : Int) ((n : Int), b)) x ↔ (Sol L x ∧ dot n x = (b == 1)) := by
  refine ⟨⟨fun k r c h => ?_⟩, fun x => ⟨fun h => ⟨fun k m c hk => ?_, ?_⟩, fun h k m c hk => ?_⟩⟩
  · rw [getI_put] at h
    split at h
    · rename_i e
      have e2 := Prod.mk.inj (Option.some.inj h)
      exact ⟨n, e2.1.symm, hz, e, by rw [← e2.2]; exact hb, hn⟩
    · exact B.ok k r c h
  · refine h k m c ?_
    rw [getI_put, if_neg]
    · exact hk
    · intro e; rw [e, hg] at hk; cases hk
  · exact h (n.log2 : Int) n b (by rw [getI_put, if_pos rfl])
  · rw [getI_put] at hk
    split at hk
    · have e2 := Prod.mk.inj (Option.some.inj hk)
      have : m = n := by omega
      subst this
      rw [← e2.2]; exact h.2
    · exact h.1 k m c hk
set_option maxHeartbeats 4000000 in
theorem first_solution_ok {rows : List (Int × Int)} {w : Nat} (hr : RowsOk rows w) (hw : w ≤ 62) :
    Y (m_first_solution rows (w : Int)) (fun o => (o = none ∧ ∀ x, ¬ SolR rows x) ∨ ∃ tn : Nat, o = some (tn : Int) ∧ tn < 2 ^ w ∧ SolR rows tn ∧
      ∀ x, SolR rows x → (∀ j, j < w → x.testBit j = tn.testBit j) ∨ ∃ i, i < w ∧ tn.testBit i = false ∧ x.testBit i = true ∧ ∀ j, j < i → x.testBit j = tn.testBit j) := by
  unfold m_first_solution
  have hw63 : (2 : Nat) ^ w < 2 ^ 63 := Nat.pow_lt_pow_right (by decide) (by omega)
  refine Y.forR (fun p L => Bas L ∧ (∀ x, Sol L x ↔ SolR p x) ∧ L.length ≤ p.length ∧ ∀ k (n : Nat) b, getI L k = some ((n : Int), b) → n < 2 ^ w) (fun r => r = none ∧ ∀ x, ¬ SolR rows x) ⟨Bas.nil, fun x => ⟨fun _ p hp => by simp at hp, fun _ k n b h => by simp [getI] at h⟩, Nat.le_refl _, fun k n b h => by simp [getI] at h⟩ ?_ ?_ ?_
  · rintro p ⟨r, b⟩ L hp ⟨B, hS, hl, hL⟩
    obtain ⟨n, h1, h2, h3⟩ := hr.ok _ (pre_mem hp)
    simp only at h1 h3
    subst h1
    refine Y.bind (reduced_ok B (Nat.lt_trans h2 hw63) h3) fun z hz => Y.lt ?_
    obtain ⟨n', e1, e2, e3, e4, e5, e6, e7⟩ := hz
    obtain ⟨z1, z2⟩ := z
    simp only at e1 e3 e6
    subst e1
    have hsnoc : ∀ x, SolR (p ++ [((n : Int), b)]) x ↔ (SolR p x ∧ dot n x = (b == 1)) := fun x => ⟨fun h => ⟨fun q hq => h q (by simp [hq]), h ((n : Int), b) (by simp)⟩, fun h q hq => by
      have hq' : q ∈ p ∨ q = ((n : Int), b) := by simpa using hq
      rcases hq' with hq | rfl
      · exact h.1 q hq
      · exact h.2⟩
    have hlen : p.length < 4096 := by
      have := hp.length_le
      rw [List.length_append] at this
      have := hr.len
      simp at *
      omega
    by_cases hz : n' = 0
    · subst hz
      refine Y.bind (P := fun o => (z2 = 1 ∧ o = Jn.ex none) ∨ (z2 = 0 ∧ o = Jn.go L)) (Y.iteF rfl ?_) fun o ho => ?_
      · rcases e3 with rfl | rfl
        · exact Y.iteF rfl (Y.ok (.inr ⟨rfl, rfl⟩))
        · exact Y.iteT rfl (Y.ok (.inl ⟨rfl, rfl⟩))
      · rcases ho with ⟨rfl, rfl⟩ | ⟨rfl, rfl⟩
        · refine Y.ok (.inr ⟨none, rfl, rfl, fun x hx => ?_⟩)
          have hpx : SolR (p ++ [((n : Int), b)]) x := fun q hq => hx q (hp.subset hq)
          rw [hsnoc] at hpx
          have := e6 x ((hS x).mpr hpx.1)
          rw [hpx.2, dot_zero] at this
          simp at this
        · refine Y.ok (.inl ⟨L, .inl rfl, B, fun x => ?_, by rw [List.length_append]; omega, hL⟩)
          rw [hsnoc, hS]
          refine ⟨fun h => ⟨h, ?_⟩, fun h => h.1⟩
          have := e6 x ((hS x).mpr h)
          rw [dot_zero] at this
          cases h5 : dot n x <;> cases h6 : (b == 1) <;> simp [h5, h6] at this ⊢
    · have hg : getI L (n'.log2 : Int) = none := e4.resolve_left hz
      have ek : (Builtin.Int.intBits (n' : Int) : Int) - 1 = (n'.log2 : Int) := by rw [bits_nat, if_neg hz]; omega
      obtain ⟨B', hS'⟩ := bas_put B hz e2 e3 hg
      refine Y.bind (P := fun o => o = Jn.go (putI L (n'.log2 : Int) ((n' : Int), z2))) (Y.iteT (by simp; omega) (Y.guard (show L.length < 16777216 by omega) (Y.lt (Y.ok (by rw [ek]))))) fun o ho => ?_
      subst ho
      refine Y.ok (.inl ⟨_, .inl rfl, B', fun x => ?_, ?_, fun k m c hk => ?_⟩)
      · rw [hS', hsnoc, hS]
        constructor
        · rintro ⟨a1, a2⟩
          refine ⟨a1, ?_⟩
          have := e6 x ((hS x).mpr a1)
          rw [a2] at this
          cases h5 : dot n x <;> cases h6 : (b == 1) <;> cases h7 : (z2 == 1) <;> simp [h5, h6, h7] at this ⊢
        · rintro ⟨a1, a2⟩
          refine ⟨a1, ?_⟩
          have := e6 x ((hS x).mpr a1)
          rw [a2] at this
          cases h5 : dot n' x <;> cases h6 : (b == 1) <;> cases h7 : (z2 == 1) <;> simp [h5, h6, h7] at this ⊢
      · rw [putI_new hg, List.length_append, List.length_append]; simp; omega
      · rw [getI_put] at hk
        split at hk
        · have e2 := (Prod.mk.inj (Option.some.inj hk)).1
          have : n' = m := by omega
          rw [← this]; exact e7 w h2
        · exact hL k m c hk
  · rintro L ⟨B, hS, hl, hL⟩
    refine Y.lt (Y.guard (show (w : Int).natAbs ≤ 16777216 by omega) ?_)
    refine Y.bind (Y.fold (fun p t => ∃ tn : Nat, t = (tn : Int) ∧ tn < 2 ^ p.length ∧ (∀ k (n : Nat) b, getI L k = some ((n : Int), b) → k < p.length → dot n tn = (b == 1)) ∧
      ∀ x, Sol L x → (∀ j, j < p.length → x.testBit j = tn.testBit j) ∨ ∃ i, i < p.length ∧ tn.testBit i = false ∧ x.testBit i = true ∧ ∀ j, j < i → x.testBit j = tn.testBit j) ⟨0, rfl, by simp, fun k n b h hk => ?_, fun x _ => .inl fun j hj => by simp at hj⟩ ?_) fun t ht => ?_
    · obtain ⟨_, _, _, h3, _⟩ := B.ok _ _ _ h
      simp at hk
      omega
    · rintro p v t hp ⟨tn, rfl, h1, h2, h3⟩
      -- v is p.length
      obtain ⟨ws, hws⟩ := hp
      have hpl : p.length < w := by
        have := congrArg List.length hws
        rw [rangeL_len] at this
        simp at this
        omega
      have hv : v = (p.length : Int) := by
        have e := congrArg (fun l => l[p.length]?) hws
        simp only [List.append_assoc] at e
        rw [List.getElem?_append_right (Nat.le_refl _)] at e
        simp at e
        have := rangeL_get e.symm
        omega
      subst hv
      have hpow : tn < 2 ^ 63 := Nat.lt_of_lt_of_le h1 (Nat.pow_le_pow_right (by decide) (by omega))
      rw [List.length_append]
      show Y _ (fun t => ∃ tn : Nat, t = (tn : Int) ∧ tn < 2 ^ (p.length + 1) ∧ _)
      have bit0 : tn.testBit p.length = false := Nat.testBit_lt_two_pow h1
      refine Y.bind (P := fun t => ∃ tn : Nat, t = (tn : Int) ∧ tn < 2 ^ (p.length + 1) ∧ (∀ k (n : Nat) b, getI L k = some ((n : Int), b) → k < (p.length + 1 : Nat) → dot n tn = (b == 1)) ∧
        ∀ x, Sol L x → (∀ j, j < p.length + 1 → x.testBit j = tn.testBit j) ∨ ∃ i, i < p.length + 1 ∧ tn.testBit i = false ∧ x.testBit i = true ∧ ∀ j, j < i → x.testBit j = tn.testBit j) (Y.ite (fun hs => ?_) fun hs => ?_) fun t ht => Y.ok ht
      · cases hg : getI L (p.length : Int) with
        | none => rw [hg] at hs; cases hs
        | some q =>
          obtain ⟨n, n1, n2, n3, n4, n5⟩ := B.ok _ _ _ hg
          obtain ⟨q1, b⟩ := q
          simp only at n1 n4
          subst n1
          have n3' : n.log2 = p.length := by omega
          have nlt : n < 2 ^ (p.length + 1) := by rw [← n3']; exact Nat.lt_log2_self
          have nbit : n.testBit p.length = true := by rw [← n3']; exact Nat.testBit_log2 n2
          refine Y.bindE rfl (Y.lt ?_)
          rw [show Builtin.bitAnd (n : Int) (tn : Int) = ((n &&& tn : Nat) : Int) from and_nat n tn]
          refine Y.bindE (parity_eq (Nat.and_lt_two_pow n hpow)) ?_
          -- the same below: then the bit is known
          have low : ∀ x, Sol L x → (∀ j, j < p.length → x.testBit j = tn.testBit j) → (b == 1) = (dot n tn ^^ x.testBit p.length) := fun x hx hj => by
            have e1 : dot n x = dot n (tn ^^^ if x.testBit p.length = true then 2 ^ p.length else 0) := dot_ext fun i hi => by
              have hil : i < p.length + 1 := by
                apply Classical.byContradiction
                intro hc
                rw [Nat.testBit_lt_two_pow (Nat.lt_of_lt_of_le nlt (Nat.pow_le_pow_right (by decide) (by omega)))] at hi
                cases hi
              rw [Nat.testBit_xor]
              by_cases e : i = p.length
              · subst e
                rw [bit0]
                cases hx : x.testBit p.length with
                | true => rw [if_pos rfl, Nat.testBit_two_pow]; simp
                | false => rw [if_neg Bool.false_ne_true, Nat.zero_testBit]; rfl
              · rw [hj i (by omega)]
                split
                · rw [Nat.testBit_two_pow]; have : ¬ p.length = i := fun z => e z.symm; simp [this]
                · rw [Nat.zero_testBit]; simp
            rw [← hx _ _ _ hg, e1, dot_xor']
            congr 1
            cases hx : x.testBit p.length with
            | true => rw [if_pos rfl, dot_pow (by omega), nbit]
            | false => rw [if_neg Bool.false_ne_true, dot_comm, dot_zero]
          have dn : pcb (n &&& tn) = dot n tn := rfl
          by_cases hd : dot n tn = (b == 1)
          · refine Y.bind (P := fun t => t = (tn : Int)) (Y.iteF ?_ (Y.ok rfl)) fun t ht => Y.ok ?_
            · rw [dn, hd]
              rcases n4 with rfl | rfl <;> rfl
            · subst ht
              refine ⟨tn, rfl, Nat.lt_trans h1 (Nat.pow_lt_pow_right (by decide) (by omega)), fun k m c hk hkl => ?_, fun x hx => ?_⟩
              · by_cases e : k = (p.length : Int)
                · subst e
                  rw [hg] at hk
                  have e2 := Prod.mk.inj (Option.some.inj hk)
                  have : n = m := by omega
                  subst this
                  rw [← e2.2]; exact hd
                · exact h2 k m c hk (by omega)
              · rcases h3 x hx with h | ⟨i, a, b1, c, d⟩
                · refine .inl fun j hj => ?_
                  by_cases e : j = p.length
                  · subst e
                    have := low x hx h
                    rw [← hd] at this
                    rw [bit0]
                    cases h5 : x.testBit p.length with
                    | false => rfl
                    | true => rw [h5] at this; cases h6 : dot n tn <;> rw [h6] at this <;> cases this
                  · exact h j (by omega)
                · exact .inr ⟨i, by omega, b1, c, d⟩
          · refine Y.bind (P := fun t => t = ((tn ^^^ 2 ^ p.length : Nat) : Int)) (Y.iteT ?_ (Y.guard ?_ (Y.lt (Y.ok ?_)))) fun t ht => Y.ok ?_
            · rw [dn]
              rcases n4 with rfl | rfl <;> cases h6 : dot n tn <;> rw [h6] at hd <;> first | rfl | exact absurd rfl hd
            · exact ⟨by omega, by omega, by decide⟩
            · rw [← add_pow h1]
              simp
            · subst ht
              have bitn : ∀ i, (tn ^^^ 2 ^ p.length).testBit i = (tn.testBit i ^^ decide (p.length = i)) := fun i => by rw [Nat.testBit_xor, Nat.testBit_two_pow]
              refine ⟨_, rfl, Nat.xor_lt_two_pow (Nat.lt_trans h1 (Nat.pow_lt_pow_right (by decide) (by omega))) (Nat.pow_lt_pow_right (by decide) (by omega)), fun k m c hk hkl => ?_, fun x hx => ?_⟩
              · by_cases e : k = (p.length : Int)
                · subst e
                  rw [hg] at hk
                  have e2 := Prod.mk.inj (Option.some.inj hk)
                  have : n = m := by omega
                  subst this
                  rw [← e2.2, dot_xor', dot_pow (by omega), nbit]
                  cases h5 : dot n tn <;> cases h6 : (b == 1) <;> rw [h5, h6] at hd <;> first | rfl | exact absurd rfl hd
                · rw [← h2 k m c hk (by omega)]
                  obtain ⟨m', m1, m2, m3, _⟩ := B.ok _ _ _ hk
                  have : m = m' := by omega
                  subst this
                  refine dot_ext fun i hi => ?_
                  rw [bitn]
                  have : ¬ p.length = i := fun z => by
                    subst z
                    rw [Nat.testBit_lt_two_pow (Nat.lt_of_lt_of_le Nat.lt_log2_self (Nat.pow_le_pow_right (by decide) (by omega)))] at hi
                    cases hi
                  simp [this]
              · rcases h3 x hx with h | ⟨i, a, b1, c, d⟩
                · refine .inl fun j hj => ?_
                  rw [bitn]
                  by_cases e : j = p.length
                  · subst e
                    have := low x hx h
                    rw [bit0]
                    cases h5 : x.testBit p.length <;> cases h6 : dot n tn <;> cases h7 : (b == 1) <;> rw [h6, h7] at hd <;> rw [h5, h6, h7] at this <;> first | (exact absurd rfl hd) | (simp; done) | cases this
                  · have : ¬ p.length = j := fun z => e z.symm
                    simp [this]; exact h j (by omega)
                · refine .inr ⟨i, by omega, ?_, c, fun j hj => ?_⟩
                  · rw [bitn, b1]; have : ¬ p.length = i := by omega
                    simp [this]
                  · rw [bitn, d j hj]; have : ¬ p.length = j := by omega
                    simp [this]
      · refine Y.ok ⟨tn, rfl, Nat.lt_trans h1 (Nat.pow_lt_pow_right (by decide) (by omega)), fun k m c hk hkl => ?_, fun x hx => ?_⟩
        · refine h2 k m c hk ?_
          by_cases e : k = (p.length : Int)
          · subst e; rw [hk] at hs; cases hs
          · omega
        · rcases h3 x hx with h | ⟨i, a, b1, c, d⟩
          · cases h5 : x.testBit p.length with
            | false =>
              refine .inl fun j hj => ?_
              by_cases e : j = p.length
              · subst e; rw [bit0, h5]
              · exact h j (by omega)
            | true => exact .inr ⟨p.length, by omega, bit0, h5, h⟩
          · exact .inr ⟨i, by omega, b1, c, d⟩
    · obtain ⟨tn, rfl, h1, h2, h3⟩ := ht
      rw [rangeL_len] at h1 h2 h3
      simp only [Int.toNat_natCast] at h1 h2 h3
      refine Y.ok (.inr ⟨tn, rfl, h1, (hS tn).mp fun k n b hk => h2 k n b hk ?_, fun x hx => h3 x ((hS x).mpr hx)⟩)
      have := hL k n b hk
      obtain ⟨n', m1, m2, m3, _⟩ := B.ok _ _ _ hk
      have e : n = n' := by omega
      subst e
      have := (Nat.log2_lt m2).mpr this
      omega
  · rintro r ⟨rfl, h⟩
    exact .inl ⟨rfl, h⟩
/-! ### the law's own words -/
theorem sum_pow : ∀ l : List Int, (l.map fun x => (1 : Int) * 2 ^ x.toNat).sum = (maskL l : Int)
  | [] => rfl
  | x :: l => by
    rw [List.map_cons, List.sum_cons, sum_pow l]
    show (1 : Int) * 2 ^ x.toNat + (maskL l : Int) = ((2 ^ x.toNat + maskL l : Nat) : Int)
    simp
theorem mask_of_eq {l : List Int} (h : ∀ x ∈ l, 0 ≤ x ∧ x < 64) : m_mask_of l = some (maskL l : Int) := by
  unfold m_mask_of
  have hf : ∀ x ∈ l, ∀ s0 : Unit, guardM (CPow (1 : Int) x) (some (some ((1 : Int) * 2 ^ x.toNat), s0)) = some (some ((1 : Int) * 2 ^ x.toNat), s0) := fun x hx s0 => by
    have := h x hx
    exact guardM_pos ⟨by omega, by omega, by decide⟩
  rw [compM_eqM hf]
  exact congrArg some (sum_pow l)
theorem mask_of_eq1 {l : List Int} (h : ∀ x ∈ l, 0 ≤ x ∧ x < 64) : m_mask_of__1 l = some (maskL l : Int) := mask_of_eq h
theorem law_mask_eq {l : List Int} (hs : SL l) (h : Within l 25) : m_law_mask l = some (maskL l : Int) := by
  suffices hy : Y (m_law_mask l) (fun r => r = (maskL l : Int)) by
    obtain ⟨a, h1, rfl⟩ := hy; exact h1
  unfold m_law_mask
  refine Y.lt (Y.lt (Y.guard (by decide) ?_))
  refine Y.bind (Y.fold (fun p w => w.1 = (maskL (l.filter fun x => decide (x < (p.length : Int))) : Int) ∧ w.2 = 2 ^ p.length) ⟨?_, rfl⟩ fun p v w hp hw => ?_) fun w hw => Y.ok ?_
  · have : l.filter (fun x => decide (x < (([] : List Int).length : Int))) = [] := List.filter_eq_nil_iff.mpr fun x hx => by have := h x hx; simp; omega
    rw [this]; rfl
  · obtain ⟨ws, hws⟩ := hp
    have hpl : p.length < 25 := by
      have := congrArg List.length hws
      rw [rangeL_len] at this
      simp at this
      omega
    have hv : v = (p.length : Int) := by
      have e := congrArg (fun l => l[p.length]?) hws
      simp only [List.append_assoc] at e
      rw [List.getElem?_append_right (Nat.le_refl _)] at e
      simp at e
      have := rangeL_get e.symm
      omega
    subst hv
    obtain ⟨h1, h2⟩ := hw
    have key : (maskL (l.filter fun x => decide (x < ((p.length + 1 : Nat) : Int))) : Int) = if decide ((p.length : Int) ∈ l) = true then (maskL (l.filter fun x => decide (x < (p.length : Int))) : Int) + 2 ^ p.length else (maskL (l.filter fun x => decide (x < (p.length : Int))) : Int) := by
      have ff : (l.filter fun x => decide (x < ((p.length + 1 : Nat) : Int))).filter (fun x => decide (x < (p.length : Int))) = l.filter fun x => decide (x < (p.length : Int)) := by
        rw [List.filter_filter]
        congr 1; funext x
        by_cases q : x < (p.length : Int)
        · have : x < ((p.length + 1 : Nat) : Int) := by omega
          simp [q]; omega
        · simp [q]
      by_cases m : (p.length : Int) ∈ l
      · rw [if_pos (by simpa using m)]
        have := (hs.filter fun x => decide (x < ((p.length + 1 : Nat) : Int))).snoc (k := (p.length : Int)) (fun x hx => by rw [List.mem_filter] at hx; have := hx.2; simp at this; omega) (by rw [List.mem_filter]; exact ⟨m, by simp; omega⟩)
        rw [ff] at this
        rw [this, maskL_app]
        simp [maskL]
      · rw [if_neg (by simpa using m)]
        congr 1
        rw [← ff]
        congr 1
        refine (List.filter_eq_self.mpr fun x hx => ?_).symm
        rw [List.mem_filter] at hx
        have := hx.2
        have ne : x ≠ (p.length : Int) := fun z => m (z ▸ hx.1)
        simp at this ⊢
        omega
    refine Y.bind (P := fun t => t = (maskL (l.filter fun x => decide (x < ((p.length + 1 : Nat) : Int))) : Int)) (Y.ite (fun hm => Y.lt (Y.ok ?_)) fun hm => Y.ok ?_) fun t ht => ?_
    · rw [key, if_pos hm, h1, h2]
    · rw [key, if_neg (by rw [hm]; simp), h1]
    · refine Y.guard (.inr ⟨by decide, by decide⟩) (Y.lt (Y.ok ⟨?_, ?_⟩))
      · rw [ht, List.length_append]; rfl
      · show w.2 * 2 = _
        rw [h2, List.length_append]
        show (2 : Int) ^ p.length * 2 = 2 ^ (p.length + 1)
        rw [Int.pow_succ]
  · rw [hw.1, rangeL_len]
    congr 2
    refine List.filter_eq_self.mpr fun x hx => ?_
    have := h x hx
    simp
    omega
theorem law_mask_eq1 {l : List Int} (hs : SL l) (h : Within l 25) : m_law_mask__1 l = some (maskL l : Int) := law_mask_eq hs h
/-- a row's equation, at a set -/
def hol (s row : List Int) (bit : Int) : Bool := par (fun v => decide (v ∈ s)) row == (bit == 1)
theorem holds_eq (s row : List Int) {bit : Int} (hb : bit = 0 ∨ bit = 1) : m_law_holds s row bit = some (hol s row bit) := by
  unfold m_law_holds hol par
  rw [guardM_pos (by decide), Int.fmod_eq_emod_of_nonneg _ (by decide)]
  congr 1
  generalize (row.filter fun v => decide (v ∈ s)).length = k
  rcases hb with rfl | rfl <;> rcases Nat.mod_two_eq_zero_or_one k with q | q <;> rw [q] <;> first | (rw [decide_eq_true (by omega)]; rfl) | (rw [decide_eq_false (by omega)]; rfl)
theorem holds_eq1 (s row : List Int) {bit : Int} (hb : bit = 0 ∨ bit = 1) : m_law_holds__1 s row bit = some (hol s row bit) := holds_eq s row hb
theorem law_sets_eq {n : Int} (h0 : 0 ≤ n) (h8 : n ≤ 12) : m_law_sets n = some (setsS n n.toNat) := by
  suffices hy : Y (m_law_sets n) (fun r => r = setsS n n.toNat) by
    obtain ⟨a, h1, rfl⟩ := hy; exact h1
  unfold m_law_sets
  refine Y.lt (Y.guard (show n.natAbs ≤ 16777216 by omega) ?_)
  refine Y.bind (Y.fold (fun p w => w = setsS n p.length) rfl fun p v w hp hw => ?_) fun w hw => Y.ok (by rw [hw, rangeL_len])
  obtain ⟨ws, hws⟩ := hp
  have hpl : p.length < n.toNat := by
    have := congrArg List.length hws
    rw [rangeL_len] at this
    simp at this
    omega
  have hv : v = (p.length : Int) := by
    have e := congrArg (fun l => l[p.length]?) hws
    simp only [List.append_assoc] at e
    rw [List.getElem?_append_right (Nat.le_refl _)] at e
    simp at e
    have := rangeL_get e.symm
    omega
  subst hv
  subst hw
  refine Y.lt ?_
  have hf : ∀ x ∈ setsS n p.length, ∀ s0 : Unit, guardM ([n - 1 - (p.length : Int)].length + x.length ≤ Line) (some (some ([n - 1 - (p.length : Int)] ++ x), s0)) = some (some ((n - 1 - (p.length : Int)) :: x), s0) := fun x hx s0 => by
    obtain ⟨h1, h2⟩ := (setsS_in n _ x).mp hx
    have := h1.len (n := n) fun y hy => by have := h2 y hy; omega
    rw [guardM_pos (show _ ≤ 16777216 by simp; omega)]
    rfl
  refine Y.bindE (compM_eqM hf) (Y.guard ?_ (Y.lt (Y.ok ?_)))
  · show _ + _ ≤ 16777216
    rw [List.length_map, setsS_len]
    have : 2 ^ p.length ≤ 2 ^ 12 := Nat.pow_le_pow_right (by decide) (by omega)
    omega
  · rw [List.length_append]; rfl
/-- the rows as they are drawn -/
structure Rw (n : Int) (rows : List (List Int × Int)) : Prop where
  ok : ∀ p ∈ rows, SL p.1 ∧ Within p.1 n ∧ (p.2 = 0 ∨ p.2 = 1)
  len : rows.length ≤ 12
def holA (rows : List (List Int × Int)) (s : List Int) : Bool := rows.all fun p => hol s p.1 p.2
theorem all_filter {rows : List (List Int × Int)} (s : List Int) : decide ((((rows.filter fun p => !hol s p.1 p.2).map fun p => p.1).length : Int) = 0) = holA rows s := by
  unfold holA
  rw [List.length_map]
  induction rows with
  | nil => rfl
  | cons p rows ih =>
    rw [List.all_cons, ← ih]
    cases h : hol s p.1 p.2 with
    | true => rw [List.filter_cons_of_neg (by simp [h])]; simp
    | false => rw [List.filter_cons_of_pos (by simp [h])]; simp; omega
def givenL (rows : List (List Int × Int)) : List (Int × Int) := rows.map fun p => ((maskL p.1 : Int), p.2)
theorem given_ok {n : Int} (h8 : n ≤ 12) {rows : List (List Int × Int)} (R : Rw n rows) : RowsOk (givenL rows) n.toNat := by
  refine ⟨fun p hp => ?_, by unfold givenL; rw [List.length_map]; have := R.len; omega⟩
  unfold givenL at hp
  rw [List.mem_map] at hp
  obtain ⟨q, hq, rfl⟩ := hp
  obtain ⟨h1, h2, h3⟩ := R.ok q hq
  refine ⟨maskL q.1, rfl, ?_, h3⟩
  exact (mask_bits n.toNat q.1 h1 fun x hx => by have := h2 x hx; omega).1
theorem sol_hol {n : Int} (h8 : n ≤ 12) {rows : List (List Int × Int)} (R : Rw n rows) {s : List Int} (hs : SL s) (w : Within s n) : SolR (givenL rows) (maskL s) ↔ holA rows s = true := by
  unfold SolR givenL holA
  rw [List.all_eq_true]
  have key : ∀ q ∈ rows, (dot ((maskL q.1 : Int)).toNat (maskL s) = (q.2 == 1)) ↔ hol s q.1 q.2 = true := fun q hq => by
    obtain ⟨h1, h2, h3⟩ := R.ok q hq
    have := par_dot (k := n.toNat) h1 hs (fun x hx => by have := h2 x hx; omega) (fun x hx => by have := w x hx; omega) (by omega)
    unfold hol
    rw [this]
    simp
  constructor
  · intro h q hq
    exact (key q hq).mp (h _ (List.mem_map.mpr ⟨q, hq, rfl⟩))
  · intro h p hp
    rw [List.mem_map] at hp
    obtain ⟨q, hq, rfl⟩ := hp
    exact (key q hq).mpr (h q hq)
/-- the least heavy solution, by both ways -/
theorem least {n : Int} (h0 : 0 ≤ n) (h8 : n ≤ 12) {rows : List (List Int × Int)} (R : Rw n rows) : m_first_solution (givenL rows) n = some (((setsS n n.toNat).find? (holA rows)).map fun s => (maskL s : Int)) := by
  have hn : ((n.toNat : Nat) : Int) = n := by omega
  have := first_solution_ok (given_ok h8 R) (w := n.toNat) (by omega)
  rw [hn] at this
  obtain ⟨o, h1, h2⟩ := this
  rw [h1]
  congr 1
  have inn : ∀ s, s ∈ setsS n n.toNat ↔ (SL s ∧ Within s n) := fun s => by
    rw [setsS_in]
    constructor
    · rintro ⟨a, b⟩; exact ⟨a, fun x hx => by have := b x hx; omega⟩
    · rintro ⟨a, b⟩; exact ⟨a, fun x hx => by have := b x hx; omega⟩
  rcases h2 with ⟨rfl, h2⟩ | ⟨t, rfl, h3, h4, h5⟩
  · have : (setsS n n.toNat).find? (holA rows) = none := List.find?_eq_none.mpr fun s hs hc => by
      obtain ⟨a, b⟩ := (inn s).mp hs
      exact h2 _ ((sol_hol h8 R a b).mpr hc)
    rw [this]; rfl
  · obtain ⟨w, e⟩ := memb_mask h3 (by omega)
    have w' : Within (membL t) n := fun x hx => by have := w x hx; omega
    have f := find_first (P := holA rows) (setsS_less n n.toNat) (t := membL t) ((inn _).mpr ⟨membL_SL t, w'⟩) ((sol_hol h8 R (membL_SL t) w').mp (by rw [e]; exact h4)) fun s hs hc => by
      obtain ⟨a, b⟩ := (inn s).mp hs
      have b' : Within s (n.toNat : Nat) := fun x hx => by have := b x hx; omega
      have := h5 (maskL s) ((sol_hol h8 R a b).mpr hc)
      have h6 := less_mask (k := n.toNat) a (membL_SL t) b' w (by rw [e]; exact this)
      exact h6
    rw [f]
    show _ = some ((maskL (membL t) : Nat) : Int)
    rw [e]
/-! ### rank and sums -/
theorem R0.mono {L L' : BL} (h : ∀ k p, getI L k = some p → getI L' k = some p) : ∀ {s : Nat}, R0 L s → R0 L' s := by
  intro s hs
  induction hs with
  | z => exact .z
  | st h1 h2 _ ih => exact .st h1 (h _ _ h2) ih
theorem R0.put {L : BL} (B : Bas L) {n : Nat} (hz : n ≠ 0) (hn : n < 2 ^ 63) (hg : getI L (n.log2 : Int) = none) : ∀ {s : Nat}, R0 (putI L (n.log2 : Int) ((n : Int), (0 : Int))) s → R0 L s ∨ R0 L (s ^^^ n) := by
  intro s hs
  induction hs with
  | z => exact .inl .z
  | @st s m b h1 h2 h3 ih =>
    rw [getI_put] at h2
    split at h2
    · have e := (Prod.mk.inj (Option.some.inj h2)).1
      have : n = m := by omega
      subst this
      rcases ih with ih | ih
      · exact .inr ih
      · rw [Nat.xor_assoc, Nat.xor_self, Nat.xor_zero] at ih; exact .inl ih
    · have hm := R0.row B h2
      rcases ih with ih | ih
      · refine .inl ?_
        have := R0.xor' B ih hm
        rw [Nat.xor_assoc, Nat.xor_self, Nat.xor_zero] at this
        exact this
      · refine .inr ?_
        have := R0.xor' B ih hm
        have e : s ^^^ m ^^^ n ^^^ m = s ^^^ n := by
          rw [Nat.xor_assoc (s ^^^ m), Nat.xor_comm n m, ← Nat.xor_assoc, Nat.xor_assoc s, Nat.xor_self, Nat.xor_zero]
        rw [e] at this
        exact this
def sumStep (found : List (List Int)) (row : List Int) : List (List Int) := found.foldl (fun cur o => if sumS row o ∈ cur then cur else cur ++ [sumS row o]) found
theorem sumStep_all {row : List Int} : ∀ {l cur : List (List Int)}, (∀ o ∈ l, sumS row o ∈ cur) → l.foldl (fun cur o => if sumS row o ∈ cur then cur else cur ++ [sumS row o]) cur = cur
  | [], _, _ => rfl
  | o :: l, cur, h => by
    rw [List.foldl_cons, if_pos (h o (by simp))]
    exact sumStep_all fun o ho => h o (by simp [ho])
theorem sumStep_new {row : List Int} : ∀ {l cur : List (List Int)}, (∀ o ∈ l, sumS row o ∉ cur) → (l.map (sumS row)).Nodup → l.foldl (fun cur o => if sumS row o ∈ cur then cur else cur ++ [sumS row o]) cur = cur ++ l.map (sumS row)
  | [], cur, _, _ => by simp
  | o :: l, cur, h, hn => by
    rw [List.map_cons, List.nodup_cons] at hn
    rw [List.foldl_cons, if_neg (h o (by simp)), sumStep_new (l := l) (cur := cur ++ [sumS row o]) (fun q hq => ?_) hn.2]
    · simp
    · intro hc
      rw [List.mem_append, List.mem_singleton] at hc
      rcases hc with hc | hc
      · exact h q (by simp [hq]) hc
      · exact hn.1 (List.mem_map.mpr ⟨q, hq, hc⟩)
theorem sumStep_len (row : List Int) : ∀ (l cur : List (List Int)), (l.foldl (fun cur o => if sumS row o ∈ cur then cur else cur ++ [sumS row o]) cur).length ≤ cur.length + l.length
  | [], cur => by simp
  | o :: l, cur => by
    rw [List.foldl_cons]
    have := sumStep_len row l (if sumS row o ∈ cur then cur else cur ++ [sumS row o])
    have h2 : (if sumS row o ∈ cur then cur else cur ++ [sumS row o]).length ≤ cur.length + 1 := by split <;> simp
    rw [List.length_cons]; omega
theorem sumStep_in {n : Int} {row : List Int} (hr : SL row) (wr : Within row n) : ∀ (l cur : List (List Int)), (∀ s ∈ l, SL s ∧ Within s n) → (∀ s ∈ cur, SL s ∧ Within s n) → ∀ s ∈ l.foldl (fun cur o => if sumS row o ∈ cur then cur else cur ++ [sumS row o]) cur, SL s ∧ Within s n
  | [], cur, _, h => h
  | o :: l, cur, hl, h => by
    rw [List.foldl_cons]
    refine sumStep_in hr wr l _ (fun s hs => hl s (by simp [hs])) fun s hs => ?_
    split at hs
    · exact h s hs
    · rw [List.mem_append, List.mem_singleton] at hs
      rcases hs with hs | rfl
      · exact h s hs
      · obtain ⟨a, b⟩ := hl o (by simp)
        refine ⟨sumS_SL hr a, fun x hx => ?_⟩
        rw [mem_sumS] at hx
        by_cases h1 : x ∈ row
        · exact wr x h1
        · by_cases h2 : x ∈ o
          · exact b x h2
          · simp [h1, h2] at hx
theorem sums_eq {n : Int} (h8 : n ≤ 12) {rows : List (List Int)} (R : ∀ r ∈ rows, SL r ∧ Within r n) (hl : rows.length ≤ 12) : m_law_sums rows = some (rows.foldl sumStep [[]]) := by
  unfold m_law_sums
  have gen : ∀ (xs : List (List Int)) (w : List (List Int)) (k : Nat), (∀ r ∈ xs, SL r ∧ Within r n) → xs.length + k ≤ 12 → w.length ≤ 2 ^ k → (∀ s ∈ w, SL s ∧ Within s n) →
      xs.foldlM (fun (w0 : (List (List Int))) (row0 : (List Int)) => (w0.foldlM (fun (w2 : (List (List Int))) (other0 : (List Int)) => guardM ((row0.filter fun (one0 : Int) => (!decide (one0 ∈ other0))).length + (other0.filter fun (one1 : Int) => (!decide (one1 ∈ row0))).length ≤ Line) (letM (sortI ((row0.filter fun (one0 : Int) => (!decide (one0 ∈ other0))) ++ (other0.filter fun (one1 : Int) => (!decide (one1 ∈ row0))))) fun both0 => (if (!memB both0 w2) = true then guardM (w2.length < Line) (letM (w2 ++ [both0]) fun found1 => some (found1)) else some (w2)).bind fun (w4 : (List (List Int))) => some (w4))) w0).bind fun w3 => some (w3)) w = some (xs.foldl sumStep w) := by
    intro xs
    induction xs with
    | nil => intro w k _ _ _ _; rfl
    | cons row xs ih =>
      intro w k hx hk hw hin
      rw [List.length_cons] at hk
      obtain ⟨r1, r2⟩ := hx row (by simp)
      have hp : 2 ^ k ≤ 2 ^ 12 := Nat.pow_le_pow_right (by decide) (by omega)
      have inner : ∀ (l cur : List (List Int)), (∀ s ∈ l, SL s ∧ Within s n) → cur.length + l.length ≤ 100000 → l.foldlM (fun (w2 : (List (List Int))) (other0 : (List Int)) => guardM ((row.filter fun (one0 : Int) => (!decide (one0 ∈ other0))).length + (other0.filter fun (one1 : Int) => (!decide (one1 ∈ row))).length ≤ Line) (letM (sortI ((row.filter fun (one0 : Int) => (!decide (one0 ∈ other0))) ++ (other0.filter fun (one1 : Int) => (!decide (one1 ∈ row))))) fun both0 => (if (!memB both0 w2) = true then guardM (w2.length < Line) (letM (w2 ++ [both0]) fun found1 => some (found1)) else some (w2)).bind fun (w4 : (List (List Int))) => some (w4))) cur = some (l.foldl (fun cur o => if sumS row o ∈ cur then cur else cur ++ [sumS row o]) cur) := by
        intro l
        induction l with
        | nil => intro cur _ _; rfl
        | cons o l ih2 =>
          intro cur hl hc
          rw [List.length_cons] at hc
          obtain ⟨o1, o2⟩ := hl o (by simp)
          have e1 := List.length_filter_le (fun (one0 : Int) => (!decide (one0 ∈ o))) row
          have e2 := List.length_filter_le (fun (one1 : Int) => (!decide (one1 ∈ row))) o
          have e3 := r1.len r2
          have e4 := o1.len o2
          rw [List.foldlM_cons, guardM_pos (show _ ≤ 16777216 by omega), List.foldl_cons]
          show ((if (!memB (sumS row o) cur) = true then guardM (cur.length < Line) (letM (cur ++ [sumS row o]) fun found1 => some found1) else some cur).bind fun w4 => some w4).bind _ = _
          by_cases m : sumS row o ∈ cur
          · rw [if_pos m, if_neg (by simp [memB, m])]
            exact ih2 cur (fun s hs => hl s (by simp [hs])) (by omega)
          · rw [if_neg m, if_pos (by simp [memB, m]), guardM_pos (show cur.length < 16777216 by omega)]
            exact ih2 (cur ++ [sumS row o]) (fun s hs => hl s (by simp [hs])) (by rw [List.length_append]; simp; omega)
      rw [List.foldlM_cons, List.foldl_cons, inner w w hin (by omega)]
      refine ih (sumStep w row) (k + 1) (fun r hr => hx r (by simp [hr])) (by omega) ?_ (sumStep_in r1 r2 w w hin hin)
      have := sumStep_len row w w
      rw [Nat.pow_succ]
      unfold sumStep
      omega
  have := gen rows [[]] 0 R (by omega) (by simp) (fun s hs => by
    have : s = [] := by simpa using hs
    subst this
    exact ⟨SL.nil, (fun x hx => by cases hx)⟩)
  exact congrArg (fun m : Option (List (List Int)) => m.bind fun w1 => some w1) this
structure Lk (n : Int) (L : BL) (found : List (List Int)) (c : Nat) : Prop where
  B : Bas L
  inn : ∀ s ∈ found, SL s ∧ Within s n ∧ R0 L (maskL s)
  all : ∀ s, SL s → Within s n → R0 L (maskL s) → s ∈ found
  nd : found.Nodup
  len : found.length = 2 ^ L.length
  cnt : L.length ≤ c
theorem Lk.nil {n : Int} (h : n ≤ 12) : Lk n [] [[]] 0 := ⟨Bas.nil, fun s hs => by
    have : s = [] := by simpa using hs
    subst this
    exact ⟨SL.nil, (fun x hx => by cases hx), .z⟩, fun s h1 h2 h3 => by
    have e : maskL s = 0 := by
      generalize maskL s = m at h3
      cases h3 with
      | z => rfl
      | st _ h _ => simp [getI] at h
    have : s = [] := mask_inj (k := n.toNat) h1 SL.nil (fun x hx => by have := h2 x hx; omega) (fun x hx => by cases hx) (by omega) (by rw [e]; rfl)
    rw [this]; simp, by simp, rfl, Nat.le_refl _⟩
theorem rank_ok {n : Int} (h8 : n ≤ 12) {rows : List (List Int)} (R : ∀ r ∈ rows, SL r ∧ Within r n) (hl : rows.length ≤ 12) : Y (m_rank (rows.map fun r => (maskL r : Int))) (fun r => ∃ c : Nat, r = c ∧ c ≤ rows.length ∧ (rows.foldl sumStep [[]]).length = 2 ^ c) := by
  unfold m_rank
  have gen : ∀ (xs : List (List Int)) (L : BL) (found : List (List Int)) (c : Nat), (∀ r ∈ xs, SL r ∧ Within r n) → Lk n L found c → c + xs.length ≤ 12 →
      Y ((xs.map fun r => (maskL r : Int)).foldlM (fun (w0 : (List (Int × (Int × Int)))) (row0 : Int) => (m_reduced w0 row0 (0 : Int)).bind fun z0 => letM z0 fun u0 => (if (decide ((0 : Int) < u0.1)) = true then guardM (w0.length < Line) (letM (putI w0 ((Builtin.Int.intBits u0.1 : Int) - (1 : Int)) (u0.1, (0 : Int))) fun basis1 => some (basis1)) else some (w0)).bind fun w2 => some (w2)) L) (fun L' => Lk n L' (xs.foldl sumStep found) (c + xs.length)) := by
    intro xs
    induction xs with
    | nil => intro L found c _ K _; exact Y.ok K
    | cons row xs ih =>
      intro L found c hx K hc
      obtain ⟨r1, r2⟩ := hx row (by simp)
      have w2' : Within row (n.toNat : Nat) := fun x hx => by have := r2 x hx; omega
      have m63 : maskL row < 2 ^ 63 := Nat.lt_of_lt_of_le (mask_bits n.toNat row r1 w2').1 (Nat.pow_le_pow_right (by decide) (by omega))
      have red := reduced_ok K.B m63 (b := 0) (.inl rfl)
      rw [List.map_cons, List.foldlM_cons, List.foldl_cons]
      rw [List.length_cons] at hc ⊢
      have both : ∀ s, SL s → Within s n → SL (sumS row s) ∧ Within (sumS row s) n ∧ maskL (sumS row s) = maskL row ^^^ maskL s := fun s a b => by
        obtain ⟨q1, q2⟩ := mask_sum (k := n.toNat) r1 a w2' (fun x hx => by have := b x hx; omega)
        exact ⟨sumS_SL r1 a, fun x hx => by have := q1 x hx; omega, q2⟩
      refine Y.bind (P := fun L' => Lk n L' (sumStep found row) (c + 1)) (Y.bind red fun z hz => Y.lt ?_) fun L' K' => by
        have := ih L' (sumStep found row) (c + 1) (fun r hr => hx r (by simp [hr])) K' (by omega)
        rw [show c + (xs.length + 1) = c + 1 + xs.length by omega]
        exact this
      obtain ⟨n', e1, e2, e3, e4, e5, e6, e7⟩ := hz
      by_cases hz : n' = 0
      · subst hz
        rw [Nat.xor_zero] at e5
        have hst : sumStep found row = found := sumStep_all fun o ho => by
          obtain ⟨a, b, d⟩ := K.inn o ho
          obtain ⟨q1, q2, q3⟩ := both o a b
          exact K.all _ q1 q2 (by rw [q3]; exact R0.xor' K.B e5 d)
        rw [hst]
        refine Y.bind (P := fun L' => L' = L) (Y.iteF (by rw [e1]; rfl) (Y.ok rfl)) fun L' h => Y.ok ?_
        subst h
        exact ⟨K.B, K.inn, K.all, K.nd, K.len, by have := K.cnt; omega⟩
      · have hg : getI L (n'.log2 : Int) = none := e4.resolve_left hz
        have ek : (Builtin.Int.intBits z.1 : Int) - 1 = (n'.log2 : Int) := by rw [e1, bits_nat, if_neg hz]; omega
        have B' := (bas_put K.B hz e2 (b := 0) (.inl rfl) hg).1
        have nR : ¬ R0 L n' := fun h => by
          have := R0.top K.B h hz
          rw [hg] at this; cases this
        have nM : ¬ R0 L (maskL row) := fun h => nR (by
          have := R0.xor' K.B h e5
          rw [← Nat.xor_assoc, Nat.xor_self, Nat.zero_xor] at this
          exact this)
        have up : ∀ {s}, R0 L s → R0 (putI L (n'.log2 : Int) ((n' : Int), (0 : Int))) s := fun h => R0.mono (fun k p hp => by
          rw [getI_put, if_neg]
          · exact hp
          · intro e; rw [e, hg] at hp; cases hp) h
        have rn : R0 (putI L (n'.log2 : Int) ((n' : Int), (0 : Int))) n' := R0.row B' (k := (n'.log2 : Int)) (b := 0) (by rw [getI_put, if_pos rfl])
        have rm : R0 (putI L (n'.log2 : Int) ((n' : Int), (0 : Int))) (maskL row) := by
          have := R0.xor' B' (up e5) rn
          rw [Nat.xor_assoc, Nat.xor_self, Nat.xor_zero] at this
          exact this
        have inj : ∀ o ∈ found, ∀ q ∈ found, sumS row o = sumS row q → o = q := fun o ho q hq e => by
          obtain ⟨a, b, _⟩ := K.inn o ho
          obtain ⟨a', b', _⟩ := K.inn q hq
          have e1 := (both o a b).2.2
          have e2 := (both q a' b').2.2
          rw [e, e2] at e1
          refine mask_inj (k := n.toNat) a a' (fun x hx => by have := b x hx; omega) (fun x hx => by have := b' x hx; omega) (by omega) ?_
          have := congrArg (fun t => maskL row ^^^ t) e1
          simp only [← Nat.xor_assoc, Nat.xor_self, Nat.zero_xor] at this
          exact this.symm
        have hst : sumStep found row = found ++ found.map (sumS row) := sumStep_new (fun o ho hc => by
          obtain ⟨a, b, d⟩ := K.inn o ho
          have h1 := (K.inn _ hc).2.2
          rw [(both o a b).2.2] at h1
          have := R0.xor' K.B h1 d
          rw [Nat.xor_assoc, Nat.xor_self, Nat.xor_zero] at this
          exact nM this) (by
          unfold List.Nodup
          rw [List.pairwise_map]
          exact List.Pairwise.imp_of_mem (fun {a b} ha hb hab e => hab (inj a ha b hb e)) K.nd)
        rw [hst]
        refine Y.bind (P := fun L' => L' = putI L (n'.log2 : Int) ((n' : Int), (0 : Int))) (Y.iteT (by rw [e1]; simp; omega) (Y.guard (show L.length < 16777216 by have := K.cnt; omega) (Y.lt (Y.ok (by rw [ek, e1]))))) fun L' h => Y.ok ?_
        subst h
        refine ⟨B', fun s hs => ?_, fun s h1 h2 h3 => ?_, ?_, ?_, ?_⟩
        · rw [List.mem_append, List.mem_map] at hs
          rcases hs with hs | ⟨o, ho, rfl⟩
          · obtain ⟨a, b, d⟩ := K.inn s hs
            exact ⟨a, b, up d⟩
          · obtain ⟨a, b, d⟩ := K.inn o ho
            obtain ⟨q1, q2, q3⟩ := both o a b
            exact ⟨q1, q2, by rw [q3]; exact R0.xor' B' rm (up d)⟩
        · rw [List.mem_append, List.mem_map]
          rcases R0.put K.B hz e2 hg h3 with h | h
          · exact .inl (K.all s h1 h2 h)
          · refine .inr ⟨sumS row s, ?_, ?_⟩
            · obtain ⟨q1, q2, q3⟩ := both s h1 h2
              refine K.all _ q1 q2 ?_
              rw [q3]
              have := R0.xor' K.B h e5
              have e : maskL s ^^^ n' ^^^ (maskL row ^^^ n') = maskL row ^^^ maskL s := by
                rw [Nat.xor_comm (maskL row) n', ← Nat.xor_assoc, Nat.xor_assoc (maskL s), Nat.xor_self, Nat.xor_zero, Nat.xor_comm]
              rw [e] at this
              exact this
            · refine SL.ext (sumS_SL r1 (sumS_SL r1 h1)) h1 fun x => ?_
              rw [mem_sumS, mem_sumS]
              by_cases a : x ∈ row <;> by_cases b : x ∈ s <;> simp [a, b]
        · rw [List.nodup_append]
          refine ⟨K.nd, ?_, fun a ha b hb e => ?_⟩
          · unfold List.Nodup
            rw [List.pairwise_map]
            exact List.Pairwise.imp_of_mem (fun {a b} ha hb hab e => hab (inj a ha b hb e)) K.nd
          · subst e
            rw [List.mem_map] at hb
            obtain ⟨o, ho, e⟩ := hb
            obtain ⟨a1, b1, d1⟩ := K.inn o ho
            have h1 := (K.inn _ ha).2.2
            rw [← e, (both o a1 b1).2.2] at h1
            have := R0.xor' K.B h1 d1
            rw [Nat.xor_assoc, Nat.xor_self, Nat.xor_zero] at this
            exact nM this
        · rw [List.length_append, List.length_map, K.len, putI_new hg, List.length_append]
          show _ = 2 ^ (L.length + 1)
          rw [Nat.pow_succ]; omega
        · rw [putI_new hg, List.length_append]
          have := K.cnt
          simp; omega
  refine Y.bind (gen rows [] [[]] 0 R (Lk.nil h8) (by omega)) fun L K => Y.ok ⟨L.length, rfl, by have := K.cnt; omega, K.len⟩
theorem pick2 {n : Int} (h0 : 0 ≤ n) (h : n ≤ 64) {s : Rs} : Y (compM (fun (at0 : Int) s0 => (drawR (2 : Int) s0).bind fun z2 => if (decide (z2.1 = (0 : Int))) = true then some (some at0, z2.2) else some (none, z2.2)) (rangeL 0 n.toNat) s) (fun z => SL z.1 ∧ Ab.Within z.1 n) := by
  refine (Y.pick fun x s hx => Y.bind (Y.draw (by omega) (by omega)) fun z9 _ => Y.ite (fun _ => Y.ok (.inr rfl)) fun _ => Y.ok (.inl rfl)).mono fun z hz => ⟨(rangeL_SL _ _).sub hz, fun x hx => mem_range0.mp (hz.mem hx)⟩
theorem law_true (ns : List Int) (h : ns.length ≤ 63) : ∃ s', m_law (stateR ns) = some (true, s') := by
  suffices hs : ∀ s, Y (m_law s) (fun p => p.1 = true) by
    obtain ⟨⟨b, s'⟩, h1, rfl⟩ := hs (stateR ns)
    exact ⟨s', h1⟩
  intro s
  unfold m_law
  refine Y.bind (Y.draw (by omega) (by omega)) fun z0 h0 => Y.lt (Y.lt ?_)
  generalize z0.1 = n at *
  obtain ⟨n0, n9⟩ := h0
  have n8 : n ≤ 12 := by omega
  have gl : n.natAbs ≤ 16777216 := by omega
  refine Y.bind (Y.draw (by omega) (by omega)) fun z1 h1 => ?_
  refine Y.guard (show z1.1.natAbs ≤ 16777216 by omega) ?_
  -- the rows
  refine Y.bind (Y.fold (fun p w => (∀ q ∈ w.1, SL q.1 ∧ Ab.Within q.1 n ∧ (q.2 = 0 ∨ q.2 = 1)) ∧ w.1.length = p.length) ⟨by simp, rfl⟩ fun p v w hp hw => ?_) fun w1 hw1 => ?_
  · have hpl : p.length < 13 := by
      have := hp.length_le
      rw [rangeL_len, List.length_append] at this
      simp at this
      omega
    refine Y.guard gl (Y.bind (pick2 n0 (by omega)) fun z3 h3 => Y.lt (Y.bind (Y.draw (by omega) (by omega)) fun z4 h4 => Y.guard ?_ (Y.lt (Y.ok ⟨fun q hq => ?_, ?_⟩))))
    · have := hw.2; show _ < 16777216; omega
    · rw [List.mem_append, List.mem_singleton] at hq
      rcases hq with hq | rfl
      · exact hw.1 q hq
      · exact ⟨h3.1, h3.2, by simp only; omega⟩
    · rw [List.length_append, List.length_append, hw.2]; rfl
  have R1 : Rw n w1.1 := ⟨hw1.1, by have := hw1.2; rw [rangeL_len] at this; omega⟩
  generalize w1.1 = rows1 at *
  generalize w1.2 = s1 at *
  refine Y.bind (Y.draw (by omega) (by omega)) fun z5 h5 => ?_
  refine Y.bind (P := fun w => Rw n w.1) (Y.ite (fun _ => Y.guard gl (Y.bind (pick2 n0 (by omega)) fun z7 h7 => Y.lt ?_)) fun _ => Y.ok R1) fun w2 R2 => ?_
  · have hf : ∀ it ∈ rows1, ∀ s2 : Rs, ((m_law_holds z7.1 it.1 (1 : Int)).bind fun z8 => some (some (it.1, (Ab.b2i z8)), s2)) = some (some (it.1, Ab.b2i (hol z7.1 it.1 1)), s2) := fun it _ s2 => by
      rw [holds_eq _ _ (.inr rfl)]; rfl
    refine Y.bindE (compM_eqM hf) (Y.lt (Y.ok ⟨fun q hq => ?_, by rw [List.length_map]; exact R1.len⟩))
    rw [List.mem_map] at hq
    obtain ⟨it, hit, rfl⟩ := hq
    obtain ⟨a, b, _⟩ := R1.ok it hit
    refine ⟨a, b, ?_⟩
    simp only
    cases hol z7.1 it.1 1
    · exact .inl rfl
    · exact .inr rfl
  generalize w2.1 = rows at *
  generalize w2.2 = s2 at *
  refine Y.lt ?_
  refine Y.bindE (law_sets_eq n0 n8) ?_
  -- the first set that does
  have first : ∀ (l : List (List Int)) (g : List (List Int)) (s : Rs), (g = [] ∨ ∃ t, g = [t]) → Y (l.foldlM (fun (w3 : (List (List Int)) × Rs) (some1 : (List Int)) => (if (decide ((w3.1.length : Int) = (0 : Int))) = true then (compM (fun (it1 : ((List Int) × Int)) s3 => (m_law_holds__1 some1 it1.1 it1.2).bind fun z11 => if (!z11) = true then some (some it1.1, s3) else some (none, s3)) rows w3.2).bind fun z12 => some ((decide ((z12.1.length : Int) = (0 : Int))), z12.2) else some (false, w3.2)).bind fun z13 => (if z13.1 = true then guardM (w3.1.length < Line) (letM (w3.1 ++ [some1]) fun good1 => some ((good1, z13.2))) else some ((w3.1, z13.2))).bind fun w5 => some ((w5.1, w5.2))) (g, s)) (fun w => w.1 = if g = [] then (l.find? (holA rows)).toList else g) := by
    intro l
    induction l with
    | nil => intro g s hg; refine Y.ok ?_; split <;> simp_all
    | cons x l ih =>
      intro g s hg
      rw [List.foldlM_cons]
      have hf : ∀ it ∈ rows, ∀ s3 : Rs, ((m_law_holds__1 x it.1 it.2).bind fun z11 => if (!z11) = true then some (some it.1, s3) else some (none, s3)) = if (!hol x it.1 it.2) = true then some (some it.1, s3) else some (none, s3) := fun it hit s3 => by
        rw [holds_eq1 _ _ (R2.ok it hit).2.2]; rfl
      rcases hg with rfl | ⟨t, rfl⟩
      · refine Y.bind (P := fun w => w.1 = if holA rows x = true then [x] else []) (Y.bind (P := fun z => z.1 = holA rows x) (Y.iteT rfl (Y.bindE (compM_eqF (g := fun it : List Int × Int => it.1) hf) (Y.ok ?_))) fun z13 h13 => ?_) fun w hw => ?_
        · exact all_filter x
        · refine Y.bind (P := fun w => w.1 = if holA rows x = true then [x] else []) (Y.ite (fun hz => Y.guard (by show 0 < 16777216; omega) (Y.lt (Y.ok ?_))) fun hz => Y.ok ?_) fun w5 h5 => Y.ok h5
          · rw [← h13, hz]; rfl
          · rw [← h13, hz]; rfl
        · obtain ⟨wg, ws⟩ := w
          simp only at hw
          subst hw
          cases hx : holA rows x with
          | true =>
            rw [if_pos rfl, List.find?_cons_of_pos hx]
            have := ih [x] ws (.inr ⟨x, rfl⟩)
            simpa using this
          | false =>
            rw [if_neg Bool.false_ne_true, List.find?_cons_of_neg (by simp [hx])]
            exact ih [] ws (.inl rfl)
      · refine Y.bind (P := fun w => w.1 = [t]) (Y.bind (P := fun z => z.1 = false) (Y.iteF rfl (Y.ok rfl)) fun z13 h13 => Y.bind (P := fun w => w.1 = [t]) (Y.iteF h13 (Y.ok rfl)) fun w5 h5 => Y.ok h5) fun w hw => ?_
        obtain ⟨wg, ws⟩ := w
        simp only at hw
        subst hw
        exact ih [t] ws (.inr ⟨t, rfl⟩)
  refine Y.bind (first (setsS n n.toNat) [] s2 (.inl rfl)) fun w4 hw4 => ?_
  rw [if_pos rfl] at hw4
  have w25 : ∀ it ∈ rows, SL it.1 ∧ Ab.Within it.1 25 := fun it hit => by
    obtain ⟨a, b, _⟩ := R2.ok it hit
    exact ⟨a, fun x hx => by have := b x hx; omega⟩
  have hf : ∀ it ∈ rows, ∀ s4 : Rs, ((m_law_mask it.1).bind fun z14 => some (some (z14, it.2), s4)) = some (some ((maskL it.1 : Int), it.2), s4) := fun it hit s4 => by
    rw [law_mask_eq (w25 it hit).1 (w25 it hit).2]; rfl
  refine Y.bindE (compM_eqM hf) (Y.lt (Y.lt ?_))
  refine Y.bindE (least n0 n8 R2) (Y.lt ?_)
  refine Y.bind (P := fun z => z.1 = false) (Y.iteF (by simp) (Y.bind (P := fun z => z.1 = ((setsS n n.toNat).find? (holA rows)).map fun s => (maskL s : Int)) ?_ fun z20 h20 => Y.ok ?_)) fun z21 h21 => ?_
  · rw [hw4]
    cases hfd : (setsS n n.toNat).find? (holA rows) with
    | none => exact Y.iteF rfl (Y.ok rfl)
    | some t =>
      have ht := List.mem_of_find?_eq_some hfd
      obtain ⟨a, b⟩ := (setsS_in n _ t).mp ht
      refine Y.iteT rfl (Y.bindE at_zero (Y.bindE (law_mask_eq1 a fun x hx => ?_) (Y.ok rfl)))
      have := b x hx
      omega
  · show (!decide (_ = z20.1) || !decide (_ = _)) = false
    rw [h20]; simp [givenL]
  refine Y.iteF h21 ?_
  have RL : ∀ r ∈ rows.map (fun it : List Int × Int => it.1), SL r ∧ Ab.Within r n := fun r hr => by
    rw [List.mem_map] at hr
    obtain ⟨it, hit, rfl⟩ := hr
    obtain ⟨a, b, _⟩ := R2.ok it hit
    exact ⟨a, b⟩
  refine Y.bindE (sums_eq n8 RL (by rw [List.length_map]; exact R2.len)) (Y.lt (Y.lt ?_))
  have hf2 : ∀ it ∈ rows, ∀ s4 : Rs, ((m_law_mask it.1).bind fun z14 => some (some z14, s4)) = some (some (maskL it.1 : Int), s4) := fun it hit s4 => by
    rw [law_mask_eq (w25 it hit).1 (w25 it hit).2]; rfl
  refine Y.bindE (compM_eqM hf2) ?_
  have rk := rank_ok n8 RL (by rw [List.length_map]; exact R2.len)
  rw [List.map_map] at rk
  refine Y.bind rk fun r hr => Y.lt ?_
  obtain ⟨c, rfl, hc, hlen⟩ := hr
  have c12 : c ≤ 12 := by rw [List.length_map] at hc; have := R2.len; omega
  refine Y.iteF (by simp; omega) (Y.guard (show (c : Int).natAbs ≤ 16777216 by omega) ?_)
  refine Y.bind (Y.fold (fun p w => w.1 = 2 ^ p.length) rfl fun p v w hp hw => Y.guard (.inr ⟨by decide, by decide⟩) (Y.lt (Y.ok ?_))) fun w7 h7 => ?_
  · rw [hw, List.length_append]
    show (2 : Int) ^ p.length * 2 = 2 ^ (p.length + 1)
    rw [Int.pow_succ]
  refine Y.iteF ?_ (Y.guard (by decide) ?_)
  · rw [h7, rangeL_len, hlen]
    simp
  refine Y.forI (fun _ => True) trivial (fun v w hv _ => ?_) fun w9 _ => Y.ok rfl
  refine Y.guard (by decide) (Y.bind (pick2 (n := 24) (by decide) (by decide)) fun z29 h29 => Y.lt ?_)
  obtain ⟨a, b⟩ := h29
  generalize z29.1 = l at *
  have b25 : Ab.Within l 25 := fun x hx => by have := b x hx; omega
  have b64 : ∀ x ∈ l, 0 ≤ x ∧ x < 64 := fun x hx => by have := b x hx; omega
  have m63 : maskL l < 2 ^ 63 := Nat.lt_of_lt_of_le (mask_bits 24 l a b).1 (Nat.pow_le_pow_right (by decide) (by decide))
  have mm : membL (maskL l) = l := mask_mem (k := 24) a b (by decide)
  refine Y.bindE (law_mask_eq1 a b25) (Y.bindE (members_eq m63) (Y.lt (Y.bindE (mask_of_eq b64) (Y.bindE (law_mask_eq1 a b25) ?_))))
  refine Y.bind (P := fun z => z.1 = false) (Y.iteF (by simp) (Y.bindE (mask_of_eq1 b64) (Y.bindE (law_mask_eq1 a b25) (Y.ok (by simp [mm]))))) fun z37 h37 => ?_
  refine Y.iteF h37 (Y.bindE (law_mask_eq1 a b25) (Y.bindE (parity_eq m63) (Y.guard (by decide) (Y.iteF ?_ (Y.next trivial)))))
  have := membL_len (maskL l)
  rw [mm] at this
  rw [this]
  simp
end K03
namespace K03
open PySem PySem.Spec PyProof.Rows L2 Ab
def txt_mk {K : PySem.W.Frag} {h : Heap} {mg : Str → Option Value} {f0 : Addr} {od0 an0 : Option Addr} {sl0 : Array (Option Value)} {oc0 kV0 dc0 pm0 cd0 ct0 : Value} {f1 : Addr} {od1 an1 : Option Addr} {sl1 : Array (Option Value)} {oc1 kV1 dc1 pm1 cd1 ct1 : Value} {f2 : Addr} {od2 an2 : Option Addr} {sl2 : Array (Option Value)} {oc2 kV2 dc2 pm2 cd2 ct2 : Value} {f3 : Addr} {od3 an3 : Option Addr} {sl3 : Array (Option Value)} {oc3 kV3 dc3 pm3 cd3 ct3 : Value} {f4 : Addr} {od4 an4 : Option Addr} {sl4 : Array (Option Value)} {oc4 kV4 dc4 pm4 cd4 ct4 : Value} {f5 : Addr} {od5 an5 : Option Addr} {sl5 : Array (Option Value)} {oc5 kV5 dc5 pm5 cd5 ct5 : Value} {f6 : Addr} {od6 an6 : Option Addr} {sl6 : Array (Option Value)} {oc6 kV6 dc6 pm6 cd6 ct6 : Value} {f7 : Addr} {od7 an7 : Option Addr} {sl7 : Array (Option Value)} {oc7 kV7 dc7 pm7 cd7 ct7 : Value} {f8 : Addr} {od8 an8 : Option Addr} {sl8 : Array (Option Value)} {oc8 kV8 dc8 pm8 cd8 ct8 : Value} {f9 : Addr} {od9 an9 : Option Addr} {sl9 : Array (Option Value)} {oc9 kV9 dc9 pm9 cd9 ct9 : Value} {f10 : Addr} {od10 an10 : Option Addr} {sl10 : Array (Option Value)} {oc10 kV10 dc10 pm10 cd10 ct10 : Value} {f11 : Addr} {od11 an11 : Option Addr} {sl11 : Array (Option Value)} {oc11 kV11 dc11 pm11 cd11 ct11 : Value} {f12 : Addr} {od12 an12 : Option Addr} {sl12 : Array (Option Value)} {oc12 kV12 dc12 pm12 cd12 ct12 : Value} (X : K.In h) (G : h.Ns mainGlobals mg)
    (a0 : PySem.W.nsIn K mainGlobals "mask_of" = some (some (.ref f0))) (l0 : K.lookup f0 = some ⟨oc0, od0, .func (PySem.W.fnOf "mask_of" "mask_of" (defArgs s_mask_of) (defBody s_mask_of) (defScope s_mask_of) .none kV0 dc0 pm0 an0 cd0 ct0), sl0⟩) (c0 : PySem.W.codeIn K cd0 "mask_of" = true) (k0 : PySem.W.keepIn K (.ref f0) = true)
    (a1 : PySem.W.nsIn K mainGlobals "members" = some (some (.ref f1))) (l1 : K.lookup f1 = some ⟨oc1, od1, .func (PySem.W.fnOf "members" "members" (defArgs s_members) (defBody s_members) (defScope s_members) .none kV1 dc1 pm1 an1 cd1 ct1), sl1⟩) (c1 : PySem.W.codeIn K cd1 "members" = true) (k1 : PySem.W.keepIn K (.ref f1) = true)
    (a2 : PySem.W.nsIn K mainGlobals "parity" = some (some (.ref f2))) (l2 : K.lookup f2 = some ⟨oc2, od2, .func (PySem.W.fnOf "parity" "parity" (defArgs s_parity) (defBody s_parity) (defScope s_parity) .none kV2 dc2 pm2 an2 cd2 ct2), sl2⟩) (c2 : PySem.W.codeIn K cd2 "parity" = true) (k2 : PySem.W.keepIn K (.ref f2) = true)
    (a3 : PySem.W.nsIn K mainGlobals "reduced" = some (some (.ref f3))) (l3 : K.lookup f3 = some ⟨oc3, od3, .func (PySem.W.fnOf "reduced" "reduced" (defArgs s_reduced) (defBody s_reduced) (defScope s_reduced) .none kV3 dc3 pm3 an3 cd3 ct3), sl3⟩) (c3 : PySem.W.codeIn K cd3 "reduced" = true) (k3 : PySem.W.keepIn K (.ref f3) = true)
    (a4 : PySem.W.nsIn K mainGlobals "first_solution" = some (some (.ref f4))) (l4 : K.lookup f4 = some ⟨oc4, od4, .func (PySem.W.fnOf "first_solution" "first_solution" (defArgs s_first_solution) (defBody s_first_solution) (defScope s_first_solution) .none kV4 dc4 pm4 an4 cd4 ct4), sl4⟩) (c4 : PySem.W.codeIn K cd4 "first_solution" = true) (k4 : PySem.W.keepIn K (.ref f4) = true)
    (a5 : PySem.W.nsIn K mainGlobals "rank" = some (some (.ref f5))) (l5 : K.lookup f5 = some ⟨oc5, od5, .func (PySem.W.fnOf "rank" "rank" (defArgs s_rank) (defBody s_rank) (defScope s_rank) .none kV5 dc5 pm5 an5 cd5 ct5), sl5⟩) (c5 : PySem.W.codeIn K cd5 "rank" = true) (k5 : PySem.W.keepIn K (.ref f5) = true)
    (a6 : PySem.W.nsIn K mainGlobals "_law_state" = some (some (.ref f6))) (l6 : K.lookup f6 = some ⟨oc6, od6, .func (PySem.W.fnOf "_law_state" "_law_state" (defArgs s__law_state) (defBody s__law_state) (defScope s__law_state) .none kV6 dc6 pm6 an6 cd6 ct6), sl6⟩) (c6 : PySem.W.codeIn K cd6 "_law_state" = true) (k6 : PySem.W.keepIn K (.ref f6) = true)
    (a7 : PySem.W.nsIn K mainGlobals "_law_draw" = some (some (.ref f7))) (l7 : K.lookup f7 = some ⟨oc7, od7, .func (PySem.W.fnOf "_law_draw" "_law_draw" (defArgs s__law_draw) (defBody s__law_draw) (defScope s__law_draw) .none kV7 dc7 pm7 an7 cd7 ct7), sl7⟩) (c7 : PySem.W.codeIn K cd7 "_law_draw" = true) (k7 : PySem.W.keepIn K (.ref f7) = true)
    (a8 : PySem.W.nsIn K mainGlobals "_law_sets" = some (some (.ref f8))) (l8 : K.lookup f8 = some ⟨oc8, od8, .func (PySem.W.fnOf "_law_sets" "_law_sets" (defArgs s__law_sets) (defBody s__law_sets) (defScope s__law_sets) .none kV8 dc8 pm8 an8 cd8 ct8), sl8⟩) (c8 : PySem.W.codeIn K cd8 "_law_sets" = true) (k8 : PySem.W.keepIn K (.ref f8) = true)
    (a9 : PySem.W.nsIn K mainGlobals "_law_mask" = some (some (.ref f9))) (l9 : K.lookup f9 = some ⟨oc9, od9, .func (PySem.W.fnOf "_law_mask" "_law_mask" (defArgs s__law_mask) (defBody s__law_mask) (defScope s__law_mask) .none kV9 dc9 pm9 an9 cd9 ct9), sl9⟩) (c9 : PySem.W.codeIn K cd9 "_law_mask" = true) (k9 : PySem.W.keepIn K (.ref f9) = true)
    (a10 : PySem.W.nsIn K mainGlobals "_law_holds" = some (some (.ref f10))) (l10 : K.lookup f10 = some ⟨oc10, od10, .func (PySem.W.fnOf "_law_holds" "_law_holds" (defArgs s__law_holds) (defBody s__law_holds) (defScope s__law_holds) .none kV10 dc10 pm10 an10 cd10 ct10), sl10⟩) (c10 : PySem.W.codeIn K cd10 "_law_holds" = true) (k10 : PySem.W.keepIn K (.ref f10) = true)
    (a11 : PySem.W.nsIn K mainGlobals "_law_sums" = some (some (.ref f11))) (l11 : K.lookup f11 = some ⟨oc11, od11, .func (PySem.W.fnOf "_law_sums" "_law_sums" (defArgs s__law_sums) (defBody s__law_sums) (defScope s__law_sums) .none kV11 dc11 pm11 an11 cd11 ct11), sl11⟩) (c11 : PySem.W.codeIn K cd11 "_law_sums" = true) (k11 : PySem.W.keepIn K (.ref f11) = true)
    (a12 : PySem.W.nsIn K mainGlobals "law" = some (some (.ref f12))) (l12 : K.lookup f12 = some ⟨oc12, od12, .func (PySem.W.fnOf "law" "law" (defArgs s_law) (defBody s_law) (defScope s_law) .none kV12 dc12 pm12 an12 cd12 ct12), sl12⟩) (c12 : PySem.W.codeIn K cd12 "law" = true) (k12 : PySem.W.keepIn K (.ref f12) = true)
    (z0 : PySem.W.nsIn K mainGlobals "abs" = some none)
    (z1 : PySem.W.nsIn K mainGlobals "bool" = some none)
    (z2 : PySem.W.nsIn K mainGlobals "int" = some none)
    (z3 : PySem.W.nsIn K mainGlobals "isinstance" = some none)
    (z4 : PySem.W.nsIn K mainGlobals "len" = some none)
    (z5 : PySem.W.nsIn K mainGlobals "list" = some none)
    (z6 : PySem.W.nsIn K mainGlobals "range" = some none)
    (z7 : PySem.W.nsIn K mainGlobals "sorted" = some none)
    (z8 : PySem.W.nsIn K mainGlobals "sum" = some none)
    (z9 : PySem.W.nsIn K mainGlobals "tuple" = some none) : Txt K mg where
  a_mask_of := f0
  d_mask_of := PySem.W.fnOf "mask_of" "mask_of" (defArgs s_mask_of) (defBody s_mask_of) (defScope s_mask_of) .none kV0 dc0 pm0 an0 cd0 ct0
  F_mask_of := fun_mk (st := s_mask_of) l0 c0 k0
  g_mask_of := PySem.W.mg_of X G a0
  k_mask_of := k0
  b_mask_of := (fun_mk (x := "mask_of") (qual := "mask_of") (st := s_mask_of) l0 c0 k0).binds (ps := ["some"]) fun _ _ _ _ _ _ us hl => match us, hl with | [_], _ => rfl
  a_members := f1
  d_members := PySem.W.fnOf "members" "members" (defArgs s_members) (defBody s_members) (defScope s_members) .none kV1 dc1 pm1 an1 cd1 ct1
  F_members := fun_mk (st := s_members) l1 c1 k1
  g_members := PySem.W.mg_of X G a1
  k_members := k1
  b_members := (fun_mk (x := "members") (qual := "members") (st := s_members) l1 c1 k1).binds (ps := ["mask"]) fun _ _ _ _ _ _ us hl => match us, hl with | [_], _ => rfl
  a_parity := f2
  d_parity := PySem.W.fnOf "parity" "parity" (defArgs s_parity) (defBody s_parity) (defScope s_parity) .none kV2 dc2 pm2 an2 cd2 ct2
  F_parity := fun_mk (st := s_parity) l2 c2 k2
  g_parity := PySem.W.mg_of X G a2
  k_parity := k2
  b_parity := (fun_mk (x := "parity") (qual := "parity") (st := s_parity) l2 c2 k2).binds (ps := ["mask"]) fun _ _ _ _ _ _ us hl => match us, hl with | [_], _ => rfl
  a_reduced := f3
  d_reduced := PySem.W.fnOf "reduced" "reduced" (defArgs s_reduced) (defBody s_reduced) (defScope s_reduced) .none kV3 dc3 pm3 an3 cd3 ct3
  F_reduced := fun_mk (st := s_reduced) l3 c3 k3
  g_reduced := PySem.W.mg_of X G a3
  k_reduced := k3
  b_reduced := (fun_mk (x := "reduced") (qual := "reduced") (st := s_reduced) l3 c3 k3).binds (ps := ["basis", "row", "bit"]) fun _ _ _ _ _ _ us hl => match us, hl with | [_, _, _], _ => rfl
  a_first_solution := f4
  d_first_solution := PySem.W.fnOf "first_solution" "first_solution" (defArgs s_first_solution) (defBody s_first_solution) (defScope s_first_solution) .none kV4 dc4 pm4 an4 cd4 ct4
  F_first_solution := fun_mk (st := s_first_solution) l4 c4 k4
  g_first_solution := PySem.W.mg_of X G a4
  k_first_solution := k4
  b_first_solution := (fun_mk (x := "first_solution") (qual := "first_solution") (st := s_first_solution) l4 c4 k4).binds (ps := ["rows", "many"]) fun _ _ _ _ _ _ us hl => match us, hl with | [_, _], _ => rfl
  a_rank := f5
  d_rank := PySem.W.fnOf "rank" "rank" (defArgs s_rank) (defBody s_rank) (defScope s_rank) .none kV5 dc5 pm5 an5 cd5 ct5
  F_rank := fun_mk (st := s_rank) l5 c5 k5
  g_rank := PySem.W.mg_of X G a5
  k_rank := k5
  b_rank := (fun_mk (x := "rank") (qual := "rank") (st := s_rank) l5 c5 k5).binds (ps := ["rows"]) fun _ _ _ _ _ _ us hl => match us, hl with | [_], _ => rfl
  a__law_state := f6
  d__law_state := PySem.W.fnOf "_law_state" "_law_state" (defArgs s__law_state) (defBody s__law_state) (defScope s__law_state) .none kV6 dc6 pm6 an6 cd6 ct6
  F__law_state := fun_mk (st := s__law_state) l6 c6 k6
  g__law_state := PySem.W.mg_of X G a6
  k__law_state := k6
  b__law_state := (fun_mk (x := "_law_state") (qual := "_law_state") (st := s__law_state) l6 c6 k6).binds (ps := ["script"]) fun _ _ _ _ _ _ us hl => match us, hl with | [_], _ => rfl
  a__law_draw := f7
  d__law_draw := PySem.W.fnOf "_law_draw" "_law_draw" (defArgs s__law_draw) (defBody s__law_draw) (defScope s__law_draw) .none kV7 dc7 pm7 an7 cd7 ct7
  F__law_draw := fun_mk (st := s__law_draw) l7 c7 k7
  g__law_draw := PySem.W.mg_of X G a7
  k__law_draw := k7
  b__law_draw := (fun_mk (x := "_law_draw") (qual := "_law_draw") (st := s__law_draw) l7 c7 k7).binds (ps := ["state", "many"]) fun _ _ _ _ _ _ us hl => match us, hl with | [_, _], _ => rfl
  a__law_sets := f8
  d__law_sets := PySem.W.fnOf "_law_sets" "_law_sets" (defArgs s__law_sets) (defBody s__law_sets) (defScope s__law_sets) .none kV8 dc8 pm8 an8 cd8 ct8
  F__law_sets := fun_mk (st := s__law_sets) l8 c8 k8
  g__law_sets := PySem.W.mg_of X G a8
  k__law_sets := k8
  b__law_sets := (fun_mk (x := "_law_sets") (qual := "_law_sets") (st := s__law_sets) l8 c8 k8).binds (ps := ["many"]) fun _ _ _ _ _ _ us hl => match us, hl with | [_], _ => rfl
  a__law_mask := f9
  d__law_mask := PySem.W.fnOf "_law_mask" "_law_mask" (defArgs s__law_mask) (defBody s__law_mask) (defScope s__law_mask) .none kV9 dc9 pm9 an9 cd9 ct9
  F__law_mask := fun_mk (st := s__law_mask) l9 c9 k9
  g__law_mask := PySem.W.mg_of X G a9
  k__law_mask := k9
  b__law_mask := (fun_mk (x := "_law_mask") (qual := "_law_mask") (st := s__law_mask) l9 c9 k9).binds (ps := ["some"]) fun _ _ _ _ _ _ us hl => match us, hl with | [_], _ => rfl
  a__law_holds := f10
  d__law_holds := PySem.W.fnOf "_law_holds" "_law_holds" (defArgs s__law_holds) (defBody s__law_holds) (defScope s__law_holds) .none kV10 dc10 pm10 an10 cd10 ct10
  F__law_holds := fun_mk (st := s__law_holds) l10 c10 k10
  g__law_holds := PySem.W.mg_of X G a10
  k__law_holds := k10
  b__law_holds := (fun_mk (x := "_law_holds") (qual := "_law_holds") (st := s__law_holds) l10 c10 k10).binds (ps := ["some", "row", "bit"]) fun _ _ _ _ _ _ us hl => match us, hl with | [_, _, _], _ => rfl
  a__law_sums := f11
  d__law_sums := PySem.W.fnOf "_law_sums" "_law_sums" (defArgs s__law_sums) (defBody s__law_sums) (defScope s__law_sums) .none kV11 dc11 pm11 an11 cd11 ct11
  F__law_sums := fun_mk (st := s__law_sums) l11 c11 k11
  g__law_sums := PySem.W.mg_of X G a11
  k__law_sums := k11
  b__law_sums := (fun_mk (x := "_law_sums") (qual := "_law_sums") (st := s__law_sums) l11 c11 k11).binds (ps := ["rows"]) fun _ _ _ _ _ _ us hl => match us, hl with | [_], _ => rfl
  a_law := f12
  d_law := PySem.W.fnOf "law" "law" (defArgs s_law) (defBody s_law) (defScope s_law) .none kV12 dc12 pm12 an12 cd12 ct12
  F_law := fun_mk (st := s_law) l12 c12 k12
  g_law := PySem.W.mg_of X G a12
  k_law := k12
  b_law := (fun_mk (x := "law") (qual := "law") (st := s_law) l12 c12 k12).binds (ps := ["script"]) fun _ _ _ _ _ _ us hl => match us, hl with | [_], _ => rfl
  n_abs := PySem.W.mg_none_of X G z0
  n_bool := PySem.W.mg_none_of X G z1
  n_int := PySem.W.mg_none_of X G z2
  n_isinstance := PySem.W.mg_none_of X G z3
  n_len := PySem.W.mg_none_of X G z4
  n_list := PySem.W.mg_none_of X G z5
  n_range := PySem.W.mg_none_of X G z6
  n_sorted := PySem.W.mg_none_of X G z7
  n_sum := PySem.W.mg_none_of X G z8
  n_tuple := PySem.W.mg_none_of X G z9
theorem all_mk {l : PySem.W.OpenLaw} {w : World} {K : PySem.W.Frag} {h : Heap} {mg : Str → Option Value} {fa : Addr} {f0 : Addr} {od0 an0 : Option Addr} {sl0 : Array (Option Value)} {oc0 kV0 dc0 pm0 cd0 ct0 : Value} {f1 : Addr} {od1 an1 : Option Addr} {sl1 : Array (Option Value)} {oc1 kV1 dc1 pm1 cd1 ct1 : Value} {f2 : Addr} {od2 an2 : Option Addr} {sl2 : Array (Option Value)} {oc2 kV2 dc2 pm2 cd2 ct2 : Value} {f3 : Addr} {od3 an3 : Option Addr} {sl3 : Array (Option Value)} {oc3 kV3 dc3 pm3 cd3 ct3 : Value} {f4 : Addr} {od4 an4 : Option Addr} {sl4 : Array (Option Value)} {oc4 kV4 dc4 pm4 cd4 ct4 : Value} {f5 : Addr} {od5 an5 : Option Addr} {sl5 : Array (Option Value)} {oc5 kV5 dc5 pm5 cd5 ct5 : Value} {f6 : Addr} {od6 an6 : Option Addr} {sl6 : Array (Option Value)} {oc6 kV6 dc6 pm6 cd6 ct6 : Value} {f7 : Addr} {od7 an7 : Option Addr} {sl7 : Array (Option Value)} {oc7 kV7 dc7 pm7 cd7 ct7 : Value} {f8 : Addr} {od8 an8 : Option Addr} {sl8 : Array (Option Value)} {oc8 kV8 dc8 pm8 cd8 ct8 : Value} {f9 : Addr} {od9 an9 : Option Addr} {sl9 : Array (Option Value)} {oc9 kV9 dc9 pm9 cd9 ct9 : Value} {f10 : Addr} {od10 an10 : Option Addr} {sl10 : Array (Option Value)} {oc10 kV10 dc10 pm10 cd10 ct10 : Value} {f11 : Addr} {od11 an11 : Option Addr} {sl11 : Array (Option Value)} {oc11 kV11 dc11 pm11 cd11 ct11 : Value} {f12 : Addr} {od12 an12 : Option Addr} {sl12 : Array (Option Value)} {oc12 kV12 dc12 pm12 cd12 ct12 : Value} (X : K.In h) (G : h.Ns mainGlobals mg) (hfa : mg "law" = some (.ref fa))
    (a0 : PySem.W.nsIn K mainGlobals "mask_of" = some (some (.ref f0))) (l0 : K.lookup f0 = some ⟨oc0, od0, .func (PySem.W.fnOf "mask_of" "mask_of" (defArgs s_mask_of) (defBody s_mask_of) (defScope s_mask_of) .none kV0 dc0 pm0 an0 cd0 ct0), sl0⟩) (c0 : PySem.W.codeIn K cd0 "mask_of" = true) (k0 : PySem.W.keepIn K (.ref f0) = true)
    (a1 : PySem.W.nsIn K mainGlobals "members" = some (some (.ref f1))) (l1 : K.lookup f1 = some ⟨oc1, od1, .func (PySem.W.fnOf "members" "members" (defArgs s_members) (defBody s_members) (defScope s_members) .none kV1 dc1 pm1 an1 cd1 ct1), sl1⟩) (c1 : PySem.W.codeIn K cd1 "members" = true) (k1 : PySem.W.keepIn K (.ref f1) = true)
    (a2 : PySem.W.nsIn K mainGlobals "parity" = some (some (.ref f2))) (l2 : K.lookup f2 = some ⟨oc2, od2, .func (PySem.W.fnOf "parity" "parity" (defArgs s_parity) (defBody s_parity) (defScope s_parity) .none kV2 dc2 pm2 an2 cd2 ct2), sl2⟩) (c2 : PySem.W.codeIn K cd2 "parity" = true) (k2 : PySem.W.keepIn K (.ref f2) = true)
    (a3 : PySem.W.nsIn K mainGlobals "reduced" = some (some (.ref f3))) (l3 : K.lookup f3 = some ⟨oc3, od3, .func (PySem.W.fnOf "reduced" "reduced" (defArgs s_reduced) (defBody s_reduced) (defScope s_reduced) .none kV3 dc3 pm3 an3 cd3 ct3), sl3⟩) (c3 : PySem.W.codeIn K cd3 "reduced" = true) (k3 : PySem.W.keepIn K (.ref f3) = true)
    (a4 : PySem.W.nsIn K mainGlobals "first_solution" = some (some (.ref f4))) (l4 : K.lookup f4 = some ⟨oc4, od4, .func (PySem.W.fnOf "first_solution" "first_solution" (defArgs s_first_solution) (defBody s_first_solution) (defScope s_first_solution) .none kV4 dc4 pm4 an4 cd4 ct4), sl4⟩) (c4 : PySem.W.codeIn K cd4 "first_solution" = true) (k4 : PySem.W.keepIn K (.ref f4) = true)
    (a5 : PySem.W.nsIn K mainGlobals "rank" = some (some (.ref f5))) (l5 : K.lookup f5 = some ⟨oc5, od5, .func (PySem.W.fnOf "rank" "rank" (defArgs s_rank) (defBody s_rank) (defScope s_rank) .none kV5 dc5 pm5 an5 cd5 ct5), sl5⟩) (c5 : PySem.W.codeIn K cd5 "rank" = true) (k5 : PySem.W.keepIn K (.ref f5) = true)
    (a6 : PySem.W.nsIn K mainGlobals "_law_state" = some (some (.ref f6))) (l6 : K.lookup f6 = some ⟨oc6, od6, .func (PySem.W.fnOf "_law_state" "_law_state" (defArgs s__law_state) (defBody s__law_state) (defScope s__law_state) .none kV6 dc6 pm6 an6 cd6 ct6), sl6⟩) (c6 : PySem.W.codeIn K cd6 "_law_state" = true) (k6 : PySem.W.keepIn K (.ref f6) = true)
    (a7 : PySem.W.nsIn K mainGlobals "_law_draw" = some (some (.ref f7))) (l7 : K.lookup f7 = some ⟨oc7, od7, .func (PySem.W.fnOf "_law_draw" "_law_draw" (defArgs s__law_draw) (defBody s__law_draw) (defScope s__law_draw) .none kV7 dc7 pm7 an7 cd7 ct7), sl7⟩) (c7 : PySem.W.codeIn K cd7 "_law_draw" = true) (k7 : PySem.W.keepIn K (.ref f7) = true)
    (a8 : PySem.W.nsIn K mainGlobals "_law_sets" = some (some (.ref f8))) (l8 : K.lookup f8 = some ⟨oc8, od8, .func (PySem.W.fnOf "_law_sets" "_law_sets" (defArgs s__law_sets) (defBody s__law_sets) (defScope s__law_sets) .none kV8 dc8 pm8 an8 cd8 ct8), sl8⟩) (c8 : PySem.W.codeIn K cd8 "_law_sets" = true) (k8 : PySem.W.keepIn K (.ref f8) = true)
    (a9 : PySem.W.nsIn K mainGlobals "_law_mask" = some (some (.ref f9))) (l9 : K.lookup f9 = some ⟨oc9, od9, .func (PySem.W.fnOf "_law_mask" "_law_mask" (defArgs s__law_mask) (defBody s__law_mask) (defScope s__law_mask) .none kV9 dc9 pm9 an9 cd9 ct9), sl9⟩) (c9 : PySem.W.codeIn K cd9 "_law_mask" = true) (k9 : PySem.W.keepIn K (.ref f9) = true)
    (a10 : PySem.W.nsIn K mainGlobals "_law_holds" = some (some (.ref f10))) (l10 : K.lookup f10 = some ⟨oc10, od10, .func (PySem.W.fnOf "_law_holds" "_law_holds" (defArgs s__law_holds) (defBody s__law_holds) (defScope s__law_holds) .none kV10 dc10 pm10 an10 cd10 ct10), sl10⟩) (c10 : PySem.W.codeIn K cd10 "_law_holds" = true) (k10 : PySem.W.keepIn K (.ref f10) = true)
    (a11 : PySem.W.nsIn K mainGlobals "_law_sums" = some (some (.ref f11))) (l11 : K.lookup f11 = some ⟨oc11, od11, .func (PySem.W.fnOf "_law_sums" "_law_sums" (defArgs s__law_sums) (defBody s__law_sums) (defScope s__law_sums) .none kV11 dc11 pm11 an11 cd11 ct11), sl11⟩) (c11 : PySem.W.codeIn K cd11 "_law_sums" = true) (k11 : PySem.W.keepIn K (.ref f11) = true)
    (a12 : PySem.W.nsIn K mainGlobals "law" = some (some (.ref f12))) (l12 : K.lookup f12 = some ⟨oc12, od12, .func (PySem.W.fnOf "law" "law" (defArgs s_law) (defBody s_law) (defScope s_law) .none kV12 dc12 pm12 an12 cd12 ct12), sl12⟩) (c12 : PySem.W.codeIn K cd12 "law" = true) (k12 : PySem.W.keepIn K (.ref f12) = true)
    (z0 : PySem.W.nsIn K mainGlobals "abs" = some none)
    (z1 : PySem.W.nsIn K mainGlobals "bool" = some none)
    (z2 : PySem.W.nsIn K mainGlobals "int" = some none)
    (z3 : PySem.W.nsIn K mainGlobals "isinstance" = some none)
    (z4 : PySem.W.nsIn K mainGlobals "len" = some none)
    (z5 : PySem.W.nsIn K mainGlobals "list" = some none)
    (z6 : PySem.W.nsIn K mainGlobals "range" = some none)
    (z7 : PySem.W.nsIn K mainGlobals "sorted" = some none)
    (z8 : PySem.W.nsIn K mainGlobals "sum" = some none)
    (z9 : PySem.W.nsIn K mainGlobals "tuple" = some none) :
    ∃ fd : FuncData, (∀ (s : Shared) (v : Value), BindsTo s fd ⟨[v], []⟩ [("script", v)]) ∧ ∀ base : Heap, K.In base → base.Ns mainGlobals mg → FnOk l.prog w K mg base CX0 4 fa fd ["script"] (spLaw K m_law) := by
  have T : (t : Txt K mg) ×' (t.a_law = f12) := ⟨txt_mk X G a0 l0 c0 k0 a1 l1 c1 k1 a2 l2 c2 k2 a3 l3 c3 k3 a4 l4 c4 k4 a5 l5 c5 k5 a6 l6 c6 k6 a7 l7 c7 k7 a8 l8 c8 k8 a9 l9 c9 k9 a10 l10 c10 k10 a11 l11 c11 k11 a12 l12 c12 k12 z0 z1 z2 z3 z4 z5 z6 z7 z8 z9, rfl⟩
  have e := hfa.symm.trans (PySem.W.mg_of X G a12)
  cases e
  exact ⟨_, fun s v => .of_eq rfl, fun base _ _ => ok_law (txt_mk X G a0 l0 c0 k0 a1 l1 c1 k1 a2 l2 c2 k2 a3 l3 c3 k3 a4 l4 c4 k4 a5 l5 c5 k5 a6 l6 c6 k6 a7 l7 c7 k7 a8 l8 c8 k8 a9 l9 c9 k9 a10 l10 c10 k10 a11 l11 c11 k11 a12 l12 c12 k12 z0 z1 z2 z3 z4 z5 z6 z7 z8 z9)⟩
end K03
open PySem PySem.W PyProof.Rows
set_option maxHeartbeats 0 in
theorem PySem.Challenge.cw_allbranches_k03_equations_of_two_holds : PySem.Challenge.rw_allbranches_k03_equations_of_two.Holds := by
  w_on; o_law; k_head; (case hw => w_witness2)
  k_fill
  refine L2.walk_of (l := PySem.Challenge.rw_allbranches_k03_equations_of_two) (n := 63) (k := 4) (x := "script") (CX := fun _ => L2.CX0) (sp := fun w => Ab.spLaw _ K03.m_law) rfl (by decide) rfl ⟨rfl, by decide, by decide⟩ (fun w h Y => PySem.W.kIn_of Y) ?F (fun _ _ a ns hl _ hS => ⟨a, ns, rfl, hS, hl, K03.law_true ns hl, fun _ => rfl⟩) (fun _ _ _ _ _ h => h)
  case F =>
    intro w mg fa h KX G hmg
    refine' K03.all_mk KX G hmg ?a0 ?l0 ?c0 ?k0 ?a1 ?l1 ?c1 ?k1 ?a2 ?l2 ?c2 ?k2 ?a3 ?l3 ?c3 ?k3 ?a4 ?l4 ?c4 ?k4 ?a5 ?l5 ?c5 ?k5 ?a6 ?l6 ?c6 ?k6 ?a7 ?l7 ?c7 ?k7 ?a8 ?l8 ?c8 ?k8 ?a9 ?l9 ?c9 ?k9 ?a10 ?l10 ?c10 ?k10 ?a11 ?l11 ?c11 ?k11 ?a12 ?l12 ?c12 ?k12 ?z0 ?z1 ?z2 ?z3 ?z4 ?z5 ?z6 ?z7 ?z8 ?z9
    (case a0 => k_is)
    (case l0 => k_is)
    (case c0 => k_is)
    (case k0 => k_is)
    (case a1 => k_is)
    (case l1 => k_is)
    (case c1 => k_is)
    (case k1 => k_is)
    (case a2 => k_is)
    (case l2 => k_is)
    (case c2 => k_is)
    (case k2 => k_is)
    (case a3 => k_is)
    (case l3 => k_is)
    (case c3 => k_is)
    (case k3 => k_is)
    (case a4 => k_is)
    (case l4 => k_is)
    (case c4 => k_is)
    (case k4 => k_is)
    (case a5 => k_is)
    (case l5 => k_is)
    (case c5 => k_is)
    (case k5 => k_is)
    (case a6 => k_is)
    (case l6 => k_is)
    (case c6 => k_is)
    (case k6 => k_is)
    (case a7 => k_is)
    (case l7 => k_is)
    (case c7 => k_is)
    (case k7 => k_is)
    (case a8 => k_is)
    (case l8 => k_is)
    (case c8 => k_is)
    (case k8 => k_is)
    (case a9 => k_is)
    (case l9 => k_is)
    (case c9 => k_is)
    (case k9 => k_is)
    (case a10 => k_is)
    (case l10 => k_is)
    (case c10 => k_is)
    (case k10 => k_is)
    (case a11 => k_is)
    (case l11 => k_is)
    (case c11 => k_is)
    (case k11 => k_is)
    (case a12 => k_is)
    (case l12 => k_is)
    (case c12 => k_is)
    (case k12 => k_is)
    (case z0 => k_is)
    (case z1 => k_is)
    (case z2 => k_is)
    (case z3 => k_is)
    (case z4 => k_is)
    (case z5 => k_is)
    (case z6 => k_is)
    (case z7 => k_is)
    (case z8 => k_is)
    (case z9 => k_is)
