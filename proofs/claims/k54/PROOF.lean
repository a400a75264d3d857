import PyProof.Rows.All
import Wide.All
import OpenK.AllK
import Wide.FinOn
import HandS.ForMost
import HandS.AnyAll
import HandS.SortInts
import HandS.IsInst
import HandS.TupAny
import HandS.Exc
import HandS.Flow
import HandS.Deep
import HandS.EndBits
import HandS.WideBits
import HandS.WordsDict
import HandS.Text
import HandS.Iter
import HandS.RevRange
import KE.GoesMore
import HandS.SortRule
import HandS.ExcValue
import PyProof.TupleOfSeq
import HandS.Strs
import HandS.SetFor
import HandS.TupSets
import KE.KExcSuper
import HandS.ExcInit
import HandS.ExcSuper
import HandS.ExcField
import HandS.ExcIs
import HandS.NoneIn
import KE.DataMinMax
import HandS.GenOver
import HandS.EndTab
import PyProof.GenRules
import PyProof.GenQ
import HandS.EndOwn
import KE.KNestM
import PyProof.ReprRoads
import HandS.More
import HandS.List
import HandS.Zip
import HandS.ExcOwn
import KE.KExcIs
import HandS.TupLe
import HandS.TupMul
import PySem.Challenge.RW_allbranches_k54_lettered_graphs
set_option Elab.async false
set_option linter.all false
set_option maxRecDepth 100000
set_option autoImplicit false
set_option relaxedAutoImplicit false
namespace Ab
open PySem PySem.Spec PyProof.Rows L2
abbrev D := PyData
abbrev KF := PySem.W.Frag
abbrev Line : Nat := 16777216
theorem le_line {n : Nat} (h : n ≤ Line) : n ≤ sizeLine := by rw [sizeLine_eq]; exact h
theorem lt_line {n : Nat} (h : n < Line) : n < sizeLine := by rw [sizeLine_eq]; exact h
theorem of_line {n : Nat} (h : n ≤ sizeLine) : n ≤ Line := by rw [sizeLine_eq] at h; exact h
/-! ### values as data, in a part Hf of the heap that is never written -/
def keyD : Key → D
  | .inl i => .int i
  | .inr x => .str x
mutual
inductive Rp (K : KF) (H : Hp) : V → D → Prop
  | non : Rp K H .non .none
  | bl (b : Bool) : Rp K H (.bl b) (.bool b)
  | int (i : Int) : Rp K H (.int i) (.int i)
  | str (x : Str) (ok : PySem.PyData.strOk x = true) : Rp K H (.str x) (.str x)
  | lst {a : Addr} {xs : List V} {ds : List D} : Rd H a (.lst xs) → xs.length ≤ Line → RpAll K H xs ds → Rp K H (.ref a) (.list ds)
  | tup {a : Addr} {xs : List V} {ds : List D} : SqT K H a xs → xs.length ≤ Line → RpAll K H xs ds → Rp K H (.ref a) (.tuple ds)
  | dct {a : Addr} {ws : List (Key × V)} {kvs : List (D × D)} : Rd H a (.dK ws) → RpKv K H ws kvs → Rp K H (.ref a) (.dict kvs)
  | tupN {a : Addr} {xs : List V} {o : Obj} {ds : List D} : H a = some (.frz o (.tup xs)) → o.dict = none → xs.length ≤ Line → RpAll K H xs ds → Rp K H (.ref a) (.dict [(.none, .tuple ds)])
inductive RpAll (K : KF) (H : Hp) : List V → List D → Prop
  | nil : RpAll K H [] []
  | cons {v : V} {vs : List V} {d : D} {ds : List D} : Rp K H v d → RpAll K H vs ds → RpAll K H (v :: vs) (d :: ds)
inductive RpKv (K : KF) (H : Hp) : List (Key × V) → List (D × D) → Prop
  | nil : RpKv K H [] []
  | cons {k : Key} {v : V} {ws : List (Key × V)} {e : D} {kvs : List (D × D)} : Rp K H v e → RpKv K H ws kvs → RpKv K H ((k, v) :: ws) ((keyD k, e) :: kvs)
end
/-- o, as it stands at a; a code's table may have grown -/
def KeepO (o : HO) (H : Hp) (a : Addr) : Prop :=
  match o with
  | .tbl ps => (∃ qs, H a = some (.tbl qs)) ∧ (PySem.TriplesOk ps.toList → GxR.TabG H a)
  | o => H a = some o
theorem KeepO.self {o : HO} {H : Hp} {a : Addr} (h : H a = some o) : KeepO o H a := by
  cases o <;> first | exact ⟨⟨_, h⟩, fun t => ⟨_, h, t⟩⟩ | exact h
theorem KeepO.go {o : HO} {H H' : Hp} {a : Addr} (h : KeepO o H a) (k : ∀ u, H a = some u → KeepO u H' a) : KeepO o H' a := by
  cases o with
  | tbl ps =>
    obtain ⟨⟨qs, e⟩, t⟩ := h
    refine ⟨(k _ e).1, fun t0 => ?_⟩
    obtain ⟨q, h1, h2⟩ := t t0
    exact (k _ h1).2 h2
  | _ => exact k _ h
theorem KeepO.ne {o : HO} {H : Hp} {a : Addr} (h : KeepO o H a) : H a ≠ none := by
  cases o with
  | tbl ps => obtain ⟨⟨qs, e⟩, _⟩ := h; rw [e]; simp
  | _ => rw [show H a = some _ from h]; simp
theorem KeepO.same {o : HO} {H H' : Hp} {a : Addr} (h : KeepO o H a) (e : H' a = H a) : KeepO o H' a := h.go fun u q => KeepO.self (e.trans q)
theorem KeepO.of {o : HO} {H H' : Hp} {a : Addr} (h : KeepO o H a) (k : ∀ u, H a = some u → H' a = some u) : KeepO o H' a := h.go fun u q => KeepO.self (k u q)
def Sub (Hf H : Hp) : Prop := ∀ a o, Hf a = some o → KeepO o H a
theorem Sub.refl (H : Hp) : Sub H H := fun _ _ h => .self h
theorem Sub.trans {A B C : Hp} (h : Sub A B) (k : Sub B C) : Sub A C := fun a o e => (h a o e).go (k a)
def isTb : HO → Bool | .tbl _ => true | _ => false
theorem Sub.at {Hf H : Hp} (h : Sub Hf H) {a : Addr} {o : HO} (e : Hf a = some o) (n : isTb o = false := by rfl) : H a = some o := by
  have := h a o e
  cases o with
  | tbl _ => cases n
  | _ => exact this
theorem Sub.seq {K : KF} {H H' : Hp} {a : Addr} {xs : List V} (e : Sub H H') (h : SqL K H a xs) : SqL K H' a xs := by
  rcases h with (h | ⟨o, h⟩) | h
  · exact .inl (.inl (e _ _ h))
  · exact .inl (.inr ⟨o, e _ _ h⟩)
  · exact .inr h
theorem Sub.rd {H H' : Hp} {a : Addr} {u : HO} (e : Sub H H') (h : Rd H a u) (n : isTb u = false := by rfl) : Rd H' a u := by
  rcases h with h | ⟨o, h⟩
  · exact .inl (e.at h n)
  · exact .inr ⟨o, e _ _ h⟩
theorem Sub.tup {K : KF} {H H' : Hp} {a : Addr} {xs : List V} (e : Sub H H') (h : SqT K H a xs) : SqT K H' a xs := by
  rcases h with (h | ⟨o, h⟩) | h
  · exact .inl (.inl (e _ _ h))
  · exact .inl (.inr ⟨o, e _ _ h⟩)
  · exact .inr h
mutual
theorem Rp.up {K : KF} {H H' : Hp} {v : V} {d : D} (h : Rp K H v d) (e : Sub H H') : Rp K H' v d :=
  match h with
  | .non => .non
  | .bl b => .bl b
  | .int i => .int i
  | .str x ok => .str x ok
  | .lst s z r => .lst (e.rd s) z (RpAll.up r e)
  | .tup s z r => .tup (e.tup s) z (RpAll.up r e)
  | .dct s r => .dct (e.rd s) (RpKv.up r e)
  | .tupN s d z r => .tupN (e.at s) d z (RpAll.up r e)
theorem RpAll.up {K : KF} {H H' : Hp} {vs : List V} {ds : List D} (h : RpAll K H vs ds) (e : Sub H H') : RpAll K H' vs ds :=
  match h with
  | .nil => .nil
  | .cons r t => .cons (Rp.up r e) (RpAll.up t e)
theorem RpKv.up {K : KF} {H H' : Hp} {vs : List (Key × V)} {ds : List (D × D)} (h : RpKv K H vs ds) (e : Sub H H') : RpKv K H' vs ds :=
  match h with
  | .nil => .nil
  | .cons r t => .cons (Rp.up r e) (RpKv.up t e)
end
mutual
/-- data without dicts -/
def noD : D → Bool
  | .none => true
  | .bool _ => true
  | .int _ => true
  | .str _ => true
  | .list ds => noDs ds
  | .tuple ds => noDs ds
  | .dict _ => false
def noDs : List D → Bool
  | [] => true
  | d :: ds => noD d && noDs ds
end
mutual
theorem Rp.dp {K : KF} {H : Hp} : ∀ (d : D) (v : V), noD d = true → Rp K H v d → Dp K H v d ∧ d.canLay0 = true
  | .none, _, _, h => by cases h; exact ⟨.non, rfl⟩
  | .bool b, _, _, h => by cases h; exact ⟨.bl b, rfl⟩
  | .int i, _, _, h => by cases h; exact ⟨.int i, rfl⟩
  | .str x, _, _, h => by cases h with | str _ ok => exact ⟨.str x, ok⟩
  | .list ds, _, f, h => by
    cases h with | lst s z r =>
    have q := RpAll.dp ds _ f r
    exact ⟨.lst (.inl s) q.1, q.2⟩
  | .tuple ds, _, f, h => by
    cases h with | tup s z r =>
    have q := RpAll.dp ds _ f r
    exact ⟨.tup s q.1, q.2⟩
  | .dict _, _, f, h => by cases f
theorem RpAll.dp {K : KF} {H : Hp} : ∀ (ds : List D) (vs : List V), noDs ds = true → RpAll K H vs ds → DpAll K H vs ds ∧ PyData.canLayAll0 ds = true
  | [], _, _, h => by cases h; exact ⟨.nil, rfl⟩
  | d :: ds, _, f, h => by
    have f1 : (noD d && noDs ds) = true := f
    rw [Bool.and_eq_true] at f1
    cases h with | cons r t =>
    have q1 := Rp.dp d _ f1.1 r
    have q2 := RpAll.dp ds _ f1.2 t
    exact ⟨.cons q1.1 q2.1, by show (d.canLay0 && PyData.canLayAll0 ds) = true; rw [q1.2, q2.2]; rfl⟩
end
theorem RpAll.len {K : KF} {H : Hp} : ∀ {vs : List V} {ds : List D}, RpAll K H vs ds → vs.length = ds.length
  | _, [], h => by cases h; rfl
  | _, _ :: ds, h => by cases h with | cons _ t => exact congrArg (· + 1) (RpAll.len t)
theorem RpAll.get {K : KF} {H : Hp} : ∀ {vs : List V} {ds : List D} {i : Nat} {d : D}, RpAll K H vs ds → ds[i]? = some d → ∃ v, vs[i]? = some v ∧ Rp K H v d
  | _, [], _, _, _, e => by simp at e
  | _, _ :: ds, 0, d, h, e => by
    cases h with | cons r t =>
    simp at e
    subst e
    exact ⟨_, rfl, r⟩
  | _, _ :: ds, i + 1, d, h, e => by
    cases h with | cons r t =>
    obtain ⟨v, h1, h2⟩ := RpAll.get (i := i) (d := d) t (by simpa using e)
    exact ⟨v, by simpa using h1, h2⟩
theorem RpAll.getV {K : KF} {H : Hp} {vs : List V} {ds : List D} {i : Nat} {v : V} (h : RpAll K H vs ds) (e : vs[i]? = some v) : ∃ d, ds[i]? = some d ∧ Rp K H v d := by
  obtain ⟨hi, _⟩ := List.getElem?_eq_some_iff.mp e
  have hj : i < ds.length := by rw [← h.len]; exact hi
  obtain ⟨w, h1, h2⟩ := h.get (List.getElem?_eq_getElem hj)
  rw [e] at h1
  cases h1
  exact ⟨_, List.getElem?_eq_getElem hj, h2⟩
theorem RpAll.append {K : KF} {H : Hp} : ∀ {vs ws : List V} {ds es : List D}, RpAll K H vs ds → RpAll K H ws es → RpAll K H (vs ++ ws) (ds ++ es)
  | _, _, [], _, h, k => by cases h; exact k
  | _, _, _ :: ds, _, h, k => by cases h with | cons r t => exact .cons r (RpAll.append t k)
theorem RpAll.one {K : KF} {H : Hp} {v : V} {d : D} (h : Rp K H v d) : RpAll K H [v] [d] := .cons h .nil
theorem RpAll.take {K : KF} {H : Hp} : ∀ (n : Nat) {vs : List V} {ds : List D}, RpAll K H vs ds → RpAll K H (vs.take n) (ds.take n)
  | 0, _, _, _ => by simp; exact .nil
  | n + 1, _, [], h => by cases h; exact .nil
  | n + 1, _, _ :: _, h => by cases h with | cons r t => exact .cons r (RpAll.take n t)
theorem RpAll.drop {K : KF} {H : Hp} : ∀ (n : Nat) {vs : List V} {ds : List D}, RpAll K H vs ds → RpAll K H (vs.drop n) (ds.drop n)
  | 0, _, _, h => h
  | n + 1, _, [], h => by cases h; exact .nil
  | n + 1, _, _ :: _, h => by cases h with | cons r t => exact RpAll.drop n t
theorem RpAll.set {K : KF} {H : Hp} {v : V} {d : D} (r : Rp K H v d) : ∀ (i : Nat) {vs : List V} {ds : List D}, RpAll K H vs ds → RpAll K H (vs.set i v) (ds.set i d)
  | _, _, [], h => by cases h; exact .nil
  | 0, _, _ :: _, h => by cases h with | cons _ t => exact .cons r t
  | i + 1, _, _ :: _, h => by cases h with | cons q t => exact .cons q (RpAll.set r i t)
theorem RpAll.ints {K : KF} {H : Hp} : ∀ {ns : List Int} {vs : List V}, RpAll K H vs (ns.map PyData.int) → vs = ns.map V.int
  | [], _, h => by cases h; rfl
  | n :: ns, _, h => by
    cases h with | cons r t =>
    cases r
    rw [RpAll.ints t]
    rfl
theorem RpAll.ofInts {K : KF} {H : Hp} : ∀ (ns : List Int), RpAll K H (ns.map V.int) (ns.map PyData.int)
  | [] => .nil
  | n :: ns => .cons (.int n) (RpAll.ofInts ns)
/-! ### what a slot holds: data, or an object of one's own -/
inductive Tr where
  | imm (d : D)
  | lst (ds : List D)
  | rnd (cells : List Int) (seed : Int)
  | dct (kvs : List (Key × D))
  | dcT (kvs : List (List Key × D))
  | scr (ns : List Int)
  | immN (ds : List D)
  | tabs (tb : List Addr)
  | exn (a dx : Addr) (fs : List (Str × D))
def isTabs : Tr → Bool | .tabs _ => true | _ => false
def KvRp {κ : Type} (K : KF) (H : Hp) : List (κ × V) → List (κ × D) → Prop := Paired fun p q => p.1 = q.1 ∧ Rp K H p.2 q.2
/-- v is T; the addresses of one's own at as -/
def Holds (K : KF) (Hf H : Hp) (v : V) (T : Tr) (as : List Addr) : Prop :=
  match T with
  | .imm d => as = [] ∧ Rp K Hf v d
  | .lst ds => ∃ a xs, v = .ref a ∧ as = [a] ∧ H a = some (.lst xs) ∧ xs.length ≤ Line ∧ RpAll K Hf xs ds
  | .rnd cs n => ∃ a b, v = .ref a ∧ as = [a, b] ∧ a ≠ b ∧ H a = some (.lst [.ref b, .int n]) ∧ H b = some (.lst (cs.map V.int)) ∧ cs.length ≤ Line
  | .dct kvs => ∃ a ws, v = .ref a ∧ as = [a] ∧ H a = some (.dK ws) ∧ KvRp K Hf ws kvs
  | .dcT kvs => ∃ a ws, v = .ref a ∧ as = [a] ∧ H a = some (.dT ws) ∧ KvRp K Hf ws kvs
  | .scr ns => as = [] ∧ ∃ a, v = .ref a ∧ SqL K Hf a (ns.map V.int) ∧ ns.length ≤ Line
  | .immN ds => as = [] ∧ ∃ a xs o, v = .ref a ∧ Hf a = some (.frz o (.tup xs)) ∧ o.dict = none ∧ xs.length ≤ Line ∧ RpAll K Hf xs ds
  | .tabs tb => as = tb ∧ ∀ P ∈ tb, GxR.TabG H P
  | .exn a dx fs => as = [] ∧ v = .ref a ∧ ∃ vs : List (Str × V), Hf dx = some (.xd vs) ∧ ∀ n d, fs.lookup n = some d → ∃ u, vs.lookup n = some u ∧ Rp K Hf u d
theorem KvRp.up {κ : Type} {K : KF} {H H' : Hp} {ws : List (κ × V)} {kvs : List (κ × D)} (h : KvRp K H ws kvs) (e : Sub H H') : KvRp K H' ws kvs :=
  Paired.mapP h fun _ _ q => ⟨q.1, q.2.up e⟩
/-- kept where Hf grows and the own objects stand -/
theorem Holds.up {K : KF} {Hf H Hf' H' : Hp} {v : V} {T : Tr} {as : List Addr} (h : Holds K Hf H v T as) (e : Sub Hf Hf') (k : ∀ a ∈ as, ∀ o, H a = some o → KeepO o H' a) : Holds K Hf' H' v T as := by
  cases T with
  | imm d => exact ⟨h.1, h.2.up e⟩
  | exn a dx fs =>
    obtain ⟨rfl, rfl, vs, h1, h2⟩ := h
    refine ⟨rfl, rfl, vs, e.at h1, fun n d hd => ?_⟩
    obtain ⟨u, q1, q2⟩ := h2 n d hd
    exact ⟨u, q1, q2.up e⟩
  | lst ds => obtain ⟨a, xs, rfl, rfl, h1, z, h2⟩ := h; exact ⟨a, xs, rfl, rfl, k a (by simp) _ h1, z, h2.up e⟩
  | rnd cs n => obtain ⟨a, b, rfl, rfl, ne, h1, h2, z⟩ := h; exact ⟨a, b, rfl, rfl, ne, k a (by simp) _ h1, k b (by simp) _ h2, z⟩
  | dct kvs => obtain ⟨a, xs, rfl, rfl, h1, h2⟩ := h; exact ⟨a, xs, rfl, rfl, k a (by simp) _ h1, h2.up e⟩
  | dcT kvs => obtain ⟨a, xs, rfl, rfl, h1, h2⟩ := h; exact ⟨a, xs, rfl, rfl, k a (by simp) _ h1, h2.up e⟩
  | scr ns => obtain ⟨rfl, a, rfl, h1, h2⟩ := h; exact ⟨rfl, a, rfl, e.seq h1, h2⟩
  | immN ds => obtain ⟨rfl, a, xs, o, rfl, h1, h2, z, h3⟩ := h; exact ⟨rfl, a, xs, o, rfl, e _ _ h1, h2, z, h3.up e⟩
  | tabs tb =>
    obtain ⟨rfl, h1⟩ := h
    refine ⟨rfl, fun P hP => ?_⟩
    obtain ⟨ps, h2, h3⟩ := h1 P hP
    exact (k P hP (.tbl ps) h2).2 h3
theorem Holds.there {K : KF} {Hf H : Hp} {v : V} {T : Tr} {as : List Addr} (h : Holds K Hf H v T as) {a : Addr} (ha : a ∈ as) : H a ≠ none := by
  cases T with
  | imm d => obtain ⟨rfl, _⟩ := h; simp at ha
  | exn b dx fs => obtain ⟨rfl, _⟩ := h; simp at ha
  | lst ds => obtain ⟨b, xs, rfl, rfl, h1, h2⟩ := h; simp at ha; subst ha; rw [h1]; simp
  | rnd cs n =>
    obtain ⟨b, c, rfl, rfl, ne, h1, h2, z⟩ := h
    simp at ha
    rcases ha with rfl | rfl
    · rw [h1]; simp
    · rw [h2]; simp
  | dct kvs => obtain ⟨b, xs, rfl, rfl, h1, h2⟩ := h; simp at ha; subst ha; rw [h1]; simp
  | dcT kvs => obtain ⟨b, xs, rfl, rfl, h1, h2⟩ := h; simp at ha; subst ha; rw [h1]; simp
  | scr ns => obtain ⟨rfl, _⟩ := h; simp at ha
  | immN ds => obtain ⟨rfl, _⟩ := h; simp at ha
  | tabs tb =>
    obtain ⟨rfl, h1⟩ := h
    obtain ⟨ps, h2, _⟩ := h1 a ha
    rw [h2]; simp
abbrev Dl := List (Nat × Option Tr)
def lk : Dl → Nat → Option Tr
  | [], _ => none
  | (j, T) :: r, i => match Nat.beq i j with | true => T | false => lk r i
theorem lk_self (j : Nat) (T : Option Tr) (r : Dl) : lk ((j, T) :: r) j = T := by
  show (match Nat.beq j j with | true => T | false => lk r j) = T
  rw [show Nat.beq j j = true from Nat.beq_refl j]
theorem lk_ne {i j : Nat} (h : i ≠ j) (T : Option Tr) (r : Dl) : lk ((j, T) :: r) i = lk r i := by
  show (match Nat.beq i j with | true => T | false => lk r i) = lk r i
  rw [show Nat.beq i j = false from by
    cases e : Nat.beq i j with
    | false => rfl
    | true => exact absurd (Nat.eq_of_beq_eq_true e) h]
/-- the frame's slots; A: the own addresses by slot -/
structure Sat (K : KF) (σ : L2.St) (H Hf : Hp) (Δ : Dl) (A : Nat → List Addr) : Prop where
  sub : Sub Hf H
  slot : ∀ i T, lk Δ i = some T → ∃ v, (isTabs T = false → σ[i]? = some (some v)) ∧ Holds K Hf H v T (A i)
  own : ∀ i a, a ∈ A i → Hf a = none ∧ H a ≠ none
  inj : ∀ i j a, a ∈ A i → a ∈ A j → i = j
theorem Sat.slotC {K : KF} {σ : L2.St} {H Hf : Hp} {Δ : Dl} {A : Nat → List Addr} (st : Sat K σ H Hf Δ A) (i : Nat) (T : Tr) (h : lk Δ i = some T) (n : isTabs T = false := by rfl) : ∃ v, σ[i]? = some (some v) ∧ Holds K Hf H v T (A i) := by
  obtain ⟨v, h1, h2⟩ := st.slot i T h
  exact ⟨v, h1 n, h2⟩
/-- nothing that was tracked is written; Hf grows by new objects -/
structure Ext (H Hf H' Hf' : Hp) : Prop where
  keep : Sub H H'
  grow : Sub Hf Hf'
  news : ∀ a, Hf' a ≠ none → Hf a ≠ none ∨ H a = none
theorem Ext.refl (H Hf : Hp) : Ext H Hf H Hf := ⟨Sub.refl H, Sub.refl Hf, fun _ h => .inl h⟩
theorem Sub.non {Hf H : Hp} (h : Sub Hf H) {a : Addr} (n : H a = none) : Hf a = none := by
  cases e : Hf a with
  | none => rfl
  | some o => exact absurd n (h a o e).ne
theorem Ext.trans {H Hf H1 Hf1 H2 Hf2 : Hp} (a : Ext H Hf H1 Hf1) (b : Ext H1 Hf1 H2 Hf2) : Ext H Hf H2 Hf2 :=
  ⟨a.keep.trans b.keep, a.grow.trans b.grow, fun x h => by
    rcases b.news x h with q | q
    · exact a.news x q
    · exact .inr (a.keep.non q)⟩
/-- the same, but for the addresses at M -/
structure ExtB (M : List Addr) (H Hf H' Hf' : Hp) : Prop where
  keep : ∀ a o, a ∉ M → H a = some o → KeepO o H' a
  there : ∀ a, a ∈ M → H a ≠ none → H' a ≠ none
  grow : Sub Hf Hf'
  news : ∀ a, Hf' a ≠ none → Hf a ≠ none ∨ H a = none
theorem Ext.toB {M : List Addr} {H Hf H' Hf' : Hp} (e : Ext H Hf H' Hf') : ExtB M H Hf H' Hf' :=
  ⟨fun a o _ h => e.keep a o h, fun a _ h => by
    cases q : H a with
    | none => exact absurd q h
    | some o => exact (e.keep a o q).ne, e.grow, e.news⟩
theorem ExtB.there' {M : List Addr} {H Hf H' Hf' : Hp} (e : ExtB M H Hf H' Hf') {a : Addr} (h : H a ≠ none) : H' a ≠ none := by
  by_cases m : a ∈ M
  · exact e.there a m h
  · cases q : H a with
    | none => exact absurd q h
    | some o => exact (e.keep a o m q).ne
theorem ExtB.trans {M : List Addr} {H Hf H1 Hf1 H2 Hf2 : Hp} (a : ExtB M H Hf H1 Hf1) (b : ExtB M H1 Hf1 H2 Hf2) : ExtB M H Hf H2 Hf2 :=
  ⟨fun x o m h => (a.keep x o m h).go fun u q => b.keep x u m q, fun x m h => b.there x m (a.there x m h), a.grow.trans b.grow, fun x h => by
    rcases b.news x h with q | q
    · exact a.news x q
    · refine .inr ?_
      cases e : H x with
      | none => rfl
      | some o => exact absurd q (a.there' (by rw [e]; simp))⟩
theorem Sat.up {K : KF} {σ : L2.St} {H Hf H' Hf' : Hp} {Δ : Dl} {A : Nat → List Addr} (s : Sat K σ H Hf Δ A) (e : Ext H Hf H' Hf') (sub : Sub Hf' H') : Sat K σ H' Hf' Δ A where
  sub := sub
  slot := fun i T h => by
    obtain ⟨v, h1, h2⟩ := s.slot i T h
    exact ⟨v, h1, h2.up e.grow fun a _ o q => e.keep a o q⟩
  own := fun i a h => by
    obtain ⟨h1, h2⟩ := s.own i a h
    refine ⟨?_, ?_⟩
    · cases q : Hf' a with
      | none => rfl
      | some o =>
        rcases e.news a (by rw [q]; simp) with z | z
        · exact absurd h1 z
        · exact absurd z h2
    · cases q : H a with
      | none => exact absurd q h2
      | some o => exact (e.keep a o q).ne
  inj := s.inj
/-- a new object at p, tracked in both -/
theorem Ext.new {H Hf : Hp} {p : Addr} {o : HO} (n : H p = none) (s : Sub Hf H) : Ext H Hf (upd H p o) (upd Hf p o) :=
  ⟨fun a u e => .self (by rw [upd_ne (ne_of_none e n)]; exact e), fun a u e => .self (by rw [upd_ne (ne_of_none e (s.non n))]; exact e), fun a h => by
    by_cases q : a = p
    · subst q; exact .inr n
    · rw [upd_ne q] at h; exact .inl h⟩
theorem Sub.new {H Hf : Hp} {p : Addr} {o : HO} (s : Sub Hf H) : Sub (upd Hf p o) (upd H p o) := fun a u e => by
  by_cases q : a = p
  · subst q; rw [upd_same] at e; exact .self (by rw [upd_same]; exact e)
  · rw [upd_ne q] at e; exact (s a u e).same (upd_ne q)
/-- a new object at p, tracked in H alone -/
theorem Ext.newO {H Hf : Hp} {p : Addr} {o : HO} (n : H p = none) : Ext H Hf (upd H p o) Hf :=
  ⟨fun a u e => .self (by rw [upd_ne (ne_of_none e n)]; exact e), Sub.refl _, fun a h => .inl h⟩
theorem Sub.newO {H Hf : Hp} {p : Addr} {o : HO} (n : H p = none) (s : Sub Hf H) : Sub Hf (upd H p o) := fun a u e => by
  exact (s a u e).same (upd_ne fun z => (s a u e).ne (z ▸ n))
/-! ### readings in their greatest form -/
structure WtE (X : Cx) (e : Expr) (σ : L2.St) (H : Hp) (Q : VK) : Prop where
  run : ∀ pins s, Inv X pins σ H s → wpAny (model X.prog X.w) X.A (eval e X.env) (EP X pins σ Q) X.xe s
abbrev tE (X : Cx) (e : Expr) : TE := WtE X e
theorem pE (X : Cx) (e : Expr) : PE X e (tE X e) := ⟨fun pins s _ _ _ I h => h.run pins s I⟩
theorem tE_of {X : Cx} {e : Expr} {t : TE} (p : PE X e t) {σ : L2.St} {H : Hp} {Q : VK} (h : t σ H Q) : tE X e σ H Q := ⟨fun pins s I => p.run pins s σ H Q I h⟩
theorem tE_inv {X : Cx} {e : Expr} {σ : L2.St} {H : Hp} {Q : VK} (h : ∀ pins s, Inv X pins σ H s → tE X e σ H Q) : tE X e σ H Q := ⟨fun pins s I => (h pins s I).run pins s I⟩
structure WtT (X : Cx) (e : Expr) (σ : L2.St) (H : Hp) (Q : Bool → Hp → Prop) : Prop where
  run : ∀ pins s, Inv X pins σ H s → wpAny (model X.prog X.w) X.A (isTrue e X.env (eval e X.env)) (TP X pins σ Q) X.xe s
abbrev tT (X : Cx) (e : Expr) : TT := WtT X e
theorem pT (X : Cx) (e : Expr) : PT X e (tT X e) := ⟨fun pins s _ _ _ I h => h.run pins s I⟩
theorem tT_of {X : Cx} {e : Expr} {t : TT} (p : PT X e t) {σ : L2.St} {H : Hp} {Q : Bool → Hp → Prop} (h : t σ H Q) : tT X e σ H Q := ⟨fun pins s I => p.run pins s σ H Q I h⟩
structure WtA (X : Cx) (es : List Expr) (σ : L2.St) (H : Hp) (Q : List V → Hp → Prop) : Prop where
  run : ∀ (pos : Pos) pins s, Inv X pins σ H s → wpAny (model X.prog X.w) X.A (spliced (backTo pos (starEach es X.env))) (AP X pins σ Q) X.xe s
abbrev tA (X : Cx) (es : List Expr) : TA := WtA X es
theorem pA (X : Cx) (es : List Expr) : PA X es (tA X es) := ⟨fun pos pins s _ _ _ I h => h.run pos pins s I⟩
theorem tA_of {X : Cx} {e : List Expr} {t : TA} (p : PA X e t) {σ : L2.St} {H : Hp} {Q : List V → Hp → Prop} (h : t σ H Q) : tA X e σ H Q := ⟨fun pos pins s I => p.run pos pins s σ H Q I h⟩
structure WtS (X : Cx) (st : List Stmt) (Dn : Ends) (σ : L2.St) (H : Hp) : Prop where
  run : ∀ pins s, Inv X pins σ H s → wpAny (model X.prog X.w) X.A (execs st X.env) (SP X pins Dn) X.xe s
abbrev tS (X : Cx) (st : List Stmt) : TS := WtS X st
theorem pS (X : Cx) (st : List Stmt) : PSs X st (tS X st) := ⟨fun pins s _ _ _ I h => h.run pins s I⟩
theorem tS_of {X : Cx} {st : List Stmt} {t : TS} (p : PSs X st t) {σ : L2.St} {H : Hp} {Dn : Ends} (h : t Dn σ H) : tS X st Dn σ H := ⟨fun pins s I => p.run pins s σ H Dn I h⟩
theorem tS_inv {X : Cx} {st : List Stmt} {σ : L2.St} {H : Hp} {Dn : Ends} (h : ∀ pins s, Inv X pins σ H s → tS X st Dn σ H) : tS X st Dn σ H := ⟨fun pins s I => (h pins s I).run pins s I⟩
/-! ### the judgements -/
/-- e, in Δ, is E b where m = some b; nothing of one's own is touched -/
def EPu (X : Cx) (Δ : Dl) (e : Expr) {α : Type} (m : Option α) (E : α → D) : Prop :=
  ∀ b, m = some b → ∀ (σ : L2.St) (H Hf : Hp) (A : Nat → List Addr) (Q : VK), Sat X.K σ H Hf Δ A →
    (∀ v H' Hf', Sat X.K σ H' Hf' Δ A → Ext H Hf H' Hf' → Rp X.K Hf' v (E b) → Q v H') → tE X e σ H Q
/-- .. as a test -/
def TPu (X : Cx) (Δ : Dl) (e : Expr) (m : Option Bool) : Prop :=
  ∀ b, m = some b → ∀ (σ : L2.St) (H Hf : Hp) (A : Nat → List Addr) (Q : Bool → Hp → Prop), Sat X.K σ H Hf Δ A →
    (∀ H' Hf', Sat X.K σ H' Hf' Δ A → Ext H Hf H' Hf' → Q b H') → tT X e σ H Q
/-- arguments -/
def APu (X : Cx) (Δ : Dl) (es : List Expr) {α : Type} (m : Option α) (E : α → List D) : Prop :=
  ∀ b, m = some b → ∀ (σ : L2.St) (H Hf : Hp) (A : Nat → List Addr) (Q : List V → Hp → Prop), Sat X.K σ H Hf Δ A →
    (∀ vs H' Hf', Sat X.K σ H' Hf' Δ A → Ext H Hf H' Hf' → RpAll X.K Hf' vs (E b) → Q vs H') → tA X es σ H Q
end Ab
namespace Ab
open PySem PySem.Spec PyProof.Rows L2
/-! ### the state of a def: what it was handed to be changed, by slots -/
structure Io (S : Type) where
  ix : List Nat
  tr : S → Dl
  keys : ∀ s, (tr s).map (·.1) = ix
abbrev io0 : Io Unit := ⟨[], fun _ => [], fun _ => rfl⟩
/-- one of them, at slot i -/
abbrev io1 {S : Type} (rt : S → Tr) (i : Nat) : Io S := ⟨[i], fun s => [(i, some (rt s))], fun _ => rfl⟩
/-- nothing is written but one's own; Hf grows by new objects -/
structure ExtA (ix : List Nat) (A : Nat → List Addr) (H Hf H' Hf' : Hp) : Prop where
  keep : ∀ a o, (∀ i, i ∈ ix → a ∉ A i) → H a = some o → KeepO o H' a
  there : ∀ a, H a ≠ none → H' a ≠ none
  grow : Sub Hf Hf'
  news : ∀ a, Hf' a ≠ none → Hf a ≠ none ∨ H a = none
theorem not_none {H : Hp} {a : Addr} (h : H a ≠ none) : ∃ o, H a = some o := by
  cases e : H a with
  | none => exact absurd e h
  | some o => exact ⟨o, rfl⟩
theorem Ext.toA {ix : List Nat} {A : Nat → List Addr} {H Hf H' Hf' : Hp} (e : Ext H Hf H' Hf') : ExtA ix A H Hf H' Hf' :=
  ⟨fun a o _ h => e.keep a o h, fun a h => by obtain ⟨o, q⟩ := not_none h; exact (e.keep a o q).ne, e.grow, e.news⟩
theorem ExtA.refl (ix : List Nat) (A : Nat → List Addr) (H Hf : Hp) : ExtA ix A H Hf H Hf := (Ext.refl H Hf).toA
theorem ExtA.trans {ix : List Nat} {A : Nat → List Addr} {H Hf H1 Hf1 H2 Hf2 : Hp} (a : ExtA ix A H Hf H1 Hf1) (b : ExtA ix A H1 Hf1 H2 Hf2) : ExtA ix A H Hf H2 Hf2 :=
  ⟨fun x o m h => (a.keep x o m h).go fun u q => b.keep x u m q, fun x h => b.there x (a.there x h), a.grow.trans b.grow, fun x h => by
    rcases b.news x h with q | q
    · exact a.news x q
    · refine .inr ?_
      cases e : H x with
      | none => rfl
      | some o => exact absurd q (a.there x (by rw [e]; simp))⟩
section
variable {X : Cx} {S : Type} {ι : Io S} {Δ : Dl} {s : S} {R : Type}
/-- e, in Δ and the state s: M tells what comes of it, E what the value is -/
def EX (X : Cx) {S : Type} (ι : Io S) (Δ : Dl) (s : S) (e : Expr) {α R : Type} (M : (α → S → Option R) → Option R) (E : α → D) : Prop :=
  ∀ k r, M k = some r → ∀ (σ : L2.St) (H Hf : Hp) (A : Nat → List Addr) (Q : VK), Sat X.K σ H Hf (ι.tr s ++ Δ) A →
    (∀ x s', k x s' = some r → ∀ v H' Hf', Sat X.K σ H' Hf' (ι.tr s' ++ Δ) A → ExtA ι.ix A H Hf H' Hf' → Rp X.K Hf' v (E x) → Q v H') → tE X e σ H Q
/-- a test -/
def TX (X : Cx) {S : Type} (ι : Io S) (Δ : Dl) (s : S) (e : Expr) {R : Type} (M : (Bool → S → Option R) → Option R) : Prop :=
  ∀ k r, M k = some r → ∀ (σ : L2.St) (H Hf : Hp) (A : Nat → List Addr) (Q : Bool → Hp → Prop), Sat X.K σ H Hf (ι.tr s ++ Δ) A →
    (∀ x s', k x s' = some r → ∀ H' Hf', Sat X.K σ H' Hf' (ι.tr s' ++ Δ) A → ExtA ι.ix A H Hf H' Hf' → Q x H') → tT X e σ H Q
/-- arguments -/
def AX (X : Cx) {S : Type} (ι : Io S) (Δ : Dl) (s : S) (es : List Expr) {α R : Type} (M : (α → S → Option R) → Option R) (E : α → List D) : Prop :=
  ∀ k r, M k = some r → ∀ (σ : L2.St) (H Hf : Hp) (A : Nat → List Addr) (Q : List V → Hp → Prop), Sat X.K σ H Hf (ι.tr s ++ Δ) A →
    (∀ x s', k x s' = some r → ∀ vs H' Hf', Sat X.K σ H' Hf' (ι.tr s' ++ Δ) A → ExtA ι.ix A H Hf H' Hf' → RpAll X.K Hf' vs (E x) → Q vs H') → tA X es σ H Q
/-! ### the words of the mirrors -/
@[reducible] def guardM {R : Type} (c : Prop) [Decidable c] (m : Option R) : Option R := if c then m else none
theorem guardM_some {R : Type} {c : Prop} [Decidable c] {m : Option R} {r : R} (h : guardM c m = some r) : c ∧ m = some r := by
  unfold guardM at h
  split at h
  · exact ⟨by assumption, h⟩
  · cases h
theorem guardM_pos {R : Type} {c : Prop} [Decidable c] {m : Option R} (h : c) : guardM c m = m := if_pos h
/-! ### leaves -/
theorem ex_c {e : Expr} {v : V} {α : Type} {x : α} {E : α → D} (hp : PE X e (tC v)) (r : ∀ Hf, Rp X.K Hf v (E x)) : EX X ι Δ s e (R := R) (fun k => k x s) E := by
  intro k r' hk σ H Hf A Q st h
  exact tE_of hp (h x s hk v H Hf st (ExtA.refl _ _ _ _) (r Hf))
theorem ex_int {i j pos} : EX X ι Δ s (.Constant (.int i) j pos) (R := R) (fun k => k i s) PyData.int := ex_c pe_int fun _ => .int i
theorem ex_bool {i j pos} : EX X ι Δ s (.Constant (.bool i) j pos) (R := R) (fun k => k i s) PyData.bool := ex_c pe_bl fun _ => .bl i
theorem ex_str {x : Str} {j pos} (ok : PySem.PyData.strOk x = true := by rfl) : EX X ι Δ s (.Constant (.str x) j pos) (R := R) (fun k => k x s) PyData.str := ex_c pe_str fun _ => .str x ok
theorem ex_none {j pos} : EX X ι Δ s (.Constant .none j pos) (R := R) (fun k => k () s) (fun _ => PyData.none) := ex_c pe_non fun _ => .non
/-- the data that slot i holds -/
theorem ex_var (i : Nat) {x : Str} {pos : Pos} {α : Type} {a : α} {E : α → D} (hl : lk (ι.tr s ++ Δ) i = some (.imm (E a))) (hN : X.N[i]? = some x := by rfl)
    (hv : Vis X.env.scope x := by first | exact Or.inl rfl | exact Or.inr (Or.inl rfl) | exact Or.inr (Or.inr rfl)) (hd : (x == ("__debug__" : Str)) = false := by decide)
    (hcd : (x == ("__classdict__" : Str)) = false := by decide) : EX X ι Δ s (.Name x pos) (R := R) (fun k => k a s) E := by
  intro k r hk σ H Hf A Q st h
  obtain ⟨v, h1, h2⟩ := st.slotC i _ hl
  exact tE_of (pe_var hN hv hd hcd) ⟨v, h1, h a s hk v H Hf st (ExtA.refl _ _ _ _) h2.2⟩
/-! ### operators -/
/-- r gives, of data, the data that g says, where C holds -/
def OpD (K : KF) (r : R2) {α β γ : Type} (Ea : α → D) (Eb : β → D) (Ec : γ → D) (C : α → β → Prop) (g : α → β → γ) : Prop :=
  ∀ (x : α) (y : β) (v w : V) (H Hf : Hp) (Q : VK), C x y → Sub Hf H → Rp K Hf v (Ea x) → Rp K Hf w (Eb y) → (∀ u H' Hf', Ext H Hf H' Hf' → Sub Hf' H' → Rp K Hf' u (Ec (g x y)) → Q u H') → r v w H Q
/-- .. where nothing new is made -/
theorem opD_of {K : KF} {r : R2} {α β γ : Type} {Ea : α → D} {Eb : β → D} {Ec : γ → D} {C : α → β → Prop} {g : α → β → γ}
    (h : ∀ (x : α) (y : β) (v w : V) (H Hf : Hp) (Q : VK), C x y → Sub Hf H → Rp K Hf v (Ea x) → Rp K Hf w (Eb y) → ∃ u, Rp K Hf u (Ec (g x y)) ∧ (Q u H → r v w H Q)) : OpD K r Ea Eb Ec C g :=
  fun x y v w H Hf Q c sb rv rw' q => by
    obtain ⟨u, h1, h2⟩ := h x y v w H Hf Q c sb rv rw'
    exact h2 (q u H Hf (Ext.refl _ _) sb h1)
variable {α β γ : Type} {Ea : α → D} {Eb : β → D} {Ec : γ → D} {a b : Expr} {pos : Pos}
variable {Ma : (α → S → Option R) → Option R} {Mb : S → (β → S → Option R) → Option R}
theorem ex_binG {t : R2} {e : Expr} {C : α → β → Prop} {g : α → β → γ} [∀ x y, Decidable (C x y)] (he : PE X e (tOp t (tE X a) (tE X b))) (hg : OpD X.K t Ea Eb Ec C g)
    (ha : EX X ι Δ s a Ma Ea) (hb : ∀ s1, EX X ι Δ s1 b (Mb s1) Eb) : EX X ι Δ s e (fun k => Ma fun x s1 => Mb s1 fun y s2 => guardM (C x y) (k (g x y) s2)) Ec := by
  intro k r hk σ H Hf A Q st h
  refine tE_of he (ha _ r hk σ H Hf A _ st fun x s1 hx v H1 Hf1 st1 e1 r1 => ?_)
  refine hb s1 _ r hx σ H1 Hf1 A _ st1 fun y s2 hy w H2 Hf2 st2 e2 r2 => ?_
  obtain ⟨c, hy⟩ := guardM_some hy
  refine hg x y v w H2 Hf2 Q c st2.sub (r1.up e2.grow) r2 fun u H3 Hf3 e3 sb r3 => ?_
  exact h _ s2 hy u H3 Hf3 (st2.up e3 sb) ((e1.trans e2).trans e3.toA) r3
theorem ex_binT {t : R2} {e : Expr} {g : α → β → γ} (he : PE X e (tOp t (tE X a) (tE X b))) (hg : OpD X.K t Ea Eb Ec (fun _ _ => True) g)
    (ha : EX X ι Δ s a Ma Ea) (hb : ∀ s1, EX X ι Δ s1 b (Mb s1) Eb) : EX X ι Δ s e (fun k => Ma fun x s1 => Mb s1 fun y s2 => k (g x y) s2) Ec := by
  intro k r hk σ H Hf A Q st h
  refine tE_of he (ha _ r hk σ H Hf A _ st fun x s1 hx v H1 Hf1 st1 e1 r1 => ?_)
  refine hb s1 _ r hx σ H1 Hf1 A _ st1 fun y s2 hy w H2 Hf2 st2 e2 r2 => ?_
  refine hg x y v w H2 Hf2 Q trivial st2.sub (r1.up e2.grow) r2 fun u H3 Hf3 e3 sb r3 => ?_
  exact h _ s2 hy u H3 Hf3 (st2.up e3 sb) ((e1.trans e2).trans e3.toA) r3
/-- ints -/
theorem opD_i0 {K : KF} {g : Int → Int → Int} : OpD K (rI0 fun i j => .int (g i j)) PyData.int PyData.int PyData.int (fun _ _ => True) g :=
  opD_of fun x y v w H Hf Q _ _ rv rw' => ⟨.int (g x y), .int _, fun q => by cases rv; cases rw'; exact ⟨x, y, rfl, rfl, q⟩⟩
theorem opD_i {K : KF} {g : Int → Int → Int} {C : Int → Int → Prop} : OpD K (rI C fun i j => .int (g i j)) PyData.int PyData.int PyData.int C g :=
  opD_of fun x y v w H Hf Q c _ rv rw' => ⟨.int (g x y), .int _, fun q => by cases rv; cases rw'; exact ⟨x, y, rfl, rfl, c, q⟩⟩
theorem opD_b0 {K : KF} {g : Int → Int → Bool} : OpD K (rI0 fun i j => .bl (g i j)) PyData.int PyData.int PyData.bool (fun _ _ => True) g :=
  opD_of fun x y v w H Hf Q _ _ rv rw' => ⟨.bl (g x y), .bl _, fun q => by cases rv; cases rw'; exact ⟨x, y, rfl, rfl, q⟩⟩
instance CMul.dec (i j : Int) : Decidable (CMul i j) := by unfold CMul; infer_instance
instance CDivN.dec (i j : Int) : Decidable (CDivN i j) := by unfold CDivN; infer_instance
instance CPow.dec (i j : Int) : Decidable (CPow i j) := by unfold CPow; infer_instance
section
variable {Na : (Int → S → Option R) → Option R} {Nb : S → (Int → S → Option R) → Option R}
theorem ex_add (ha : EX X ι Δ s a Na PyData.int) (hb : ∀ s1, EX X ι Δ s1 b (Nb s1) PyData.int) : EX X ι Δ s (.BinOp a .Add b pos) (fun k => Na fun x s1 => Nb s1 fun y s2 => k (x + y) s2) PyData.int :=
  ex_binT (pe_op op_add (pE X a) (pE X b)) opD_i0 ha hb
theorem ex_sub (ha : EX X ι Δ s a Na PyData.int) (hb : ∀ s1, EX X ι Δ s1 b (Nb s1) PyData.int) : EX X ι Δ s (.BinOp a .Sub b pos) (fun k => Na fun x s1 => Nb s1 fun y s2 => k (x - y) s2) PyData.int :=
  ex_binT (pe_op op_sub (pE X a) (pE X b)) opD_i0 ha hb
theorem ex_mul (ha : EX X ι Δ s a Na PyData.int) (hb : ∀ s1, EX X ι Δ s1 b (Nb s1) PyData.int) : EX X ι Δ s (.BinOp a .Mult b pos) (fun k => Na fun x s1 => Nb s1 fun y s2 => guardM (CMul x y) (k (x * y) s2)) PyData.int :=
  ex_binG (pe_op op_mul (pE X a) (pE X b)) opD_i ha hb
theorem ex_mod (ha : EX X ι Δ s a Na PyData.int) (hb : ∀ s1, EX X ι Δ s1 b (Nb s1) PyData.int) : EX X ι Δ s (.BinOp a .Mod b pos) (fun k => Na fun x s1 => Nb s1 fun y s2 => guardM (y ≠ 0) (k (x.fmod y) s2)) PyData.int :=
  ex_binG (C := fun _ y => y ≠ 0) (pe_op op_modN (pE X a) (pE X b)) opD_i ha hb
theorem ex_fdiv (ha : EX X ι Δ s a Na PyData.int) (hb : ∀ s1, EX X ι Δ s1 b (Nb s1) PyData.int) : EX X ι Δ s (.BinOp a .FloorDiv b pos) (fun k => Na fun x s1 => Nb s1 fun y s2 => guardM (CDivN x y) (k (x.fdiv y) s2)) PyData.int :=
  ex_binG (pe_op op_fdivN (pE X a) (pE X b)) opD_i ha hb
theorem ex_xor (ha : EX X ι Δ s a Na PyData.int) (hb : ∀ s1, EX X ι Δ s1 b (Nb s1) PyData.int) : EX X ι Δ s (.BinOp a .BitXor b pos) (fun k => Na fun x s1 => Nb s1 fun y s2 => k (Builtin.bitXor x y) s2) PyData.int :=
  ex_binT (pe_op op_xor (pE X a) (pE X b)) opD_i0 ha hb
theorem ex_and2 (ha : EX X ι Δ s a Na PyData.int) (hb : ∀ s1, EX X ι Δ s1 b (Nb s1) PyData.int) : EX X ι Δ s (.BinOp a .BitAnd b pos) (fun k => Na fun x s1 => Nb s1 fun y s2 => k (Builtin.bitAnd x y) s2) PyData.int :=
  ex_binT (pe_op op_and (pE X a) (pE X b)) opD_i0 ha hb
theorem ex_or2 (ha : EX X ι Δ s a Na PyData.int) (hb : ∀ s1, EX X ι Δ s1 b (Nb s1) PyData.int) : EX X ι Δ s (.BinOp a .BitOr b pos) (fun k => Na fun x s1 => Nb s1 fun y s2 => k (Builtin.bitOr x y) s2) PyData.int :=
  ex_binT (pe_op op_or (pE X a) (pE X b)) opD_i0 ha hb
theorem ex_shl (ha : EX X ι Δ s a Na PyData.int) (hb : ∀ s1, EX X ι Δ s1 b (Nb s1) PyData.int) : EX X ι Δ s (.BinOp a .LShift b pos) (fun k => Na fun x s1 => Nb s1 fun y s2 => guardM (CPow x y) (k (x * 2 ^ y.toNat) s2)) PyData.int :=
  ex_binG (pe_op op_shl (pE X a) (pE X b)) opD_i ha hb
theorem ex_shr (ha : EX X ι Δ s a Na PyData.int) (hb : ∀ s1, EX X ι Δ s1 b (Nb s1) PyData.int) : EX X ι Δ s (.BinOp a .RShift b pos) (fun k => Na fun x s1 => Nb s1 fun y s2 => guardM (0 ≤ y) (k (x / 2 ^ y.toNat) s2)) PyData.int :=
  ex_binG (C := fun _ y => 0 ≤ y) (pe_op op_shr (pE X a) (pE X b)) opD_i ha hb
theorem ex_neg (ha : EX X ι Δ s a Na PyData.int) : EX X ι Δ s (.UnaryOp .USub a pos) (fun k => Na fun x s1 => k (-x) s1) PyData.int := by
  intro k r hk σ H Hf A Q st h
  refine tE_of (pe_un un_neg (pE X a)) (ha _ r hk σ H Hf A _ st fun x s1 hx v H1 Hf1 st1 e1 r1 => ?_)
  cases r1
  exact ⟨x, rfl, h _ s1 hx _ H1 Hf1 st1 e1 (.int _)⟩
end
/-! ### comparisons: what they give of data, as a value and as a test -/
/-- a test from a value that is a bool -/
theorem tx_of {e : Expr} {M : (Bool → S → Option R) → Option R} (he : PT X e (tTest (tE X e))) (h : EX X ι Δ s e M PyData.bool) : TX X ι Δ s e M := by
  intro k r hk σ H Hf A Q st q
  refine tT_of he (h k r hk σ H Hf A _ st fun x s1 hx v H1 Hf1 st1 e1 r1 => ?_)
  cases r1
  exact ⟨x, rfl, q x s1 hx H1 Hf1 st1 e1⟩
theorem ex_cmpT {op : CmpOp} {t : R2} {g : α → β → Bool} (ho : OpR X (compareOp op) t) (hg : OpD X.K t Ea Eb PyData.bool (fun _ _ => True) g)
    (ha : EX X ι Δ s a Ma Ea) (hb : ∀ s1, EX X ι Δ s1 b (Mb s1) Eb) (hm : behindInMarks op b = false) : EX X ι Δ s (.Compare a [op] [b] pos) (fun k => Ma fun x s1 => Mb s1 fun y s2 => k (g x y) s2) PyData.bool :=
  ex_binT (pe_cmpR ho (pE X a) (pE X b) hm) hg ha hb
theorem tx_cmpT {op : CmpOp} {t : R2} {g : α → β → Bool} (ho : OpR X (compareOp op) t) (hg : OpD X.K t Ea Eb PyData.bool (fun _ _ => True) g)
    (ha : EX X ι Δ s a Ma Ea) (hb : ∀ s1, EX X ι Δ s1 b (Mb s1) Eb) (hm : behindInMarks op b = false) : TX X ι Δ s (.Compare a [op] [b] pos) (fun k => Ma fun x s1 => Mb s1 fun y s2 => k (g x y) s2) := by
  intro k r hk σ H Hf A Q st h
  refine tT_of (pt_cmpR ho (pE X a) (pE X b) hm) (ha _ r hk σ H Hf A _ st fun x s1 hx v H1 Hf1 st1 e1 r1 => ?_)
  refine hb s1 _ r hx σ H1 Hf1 A _ st1 fun y s2 hy w H2 Hf2 st2 e2 r2 => ?_
  refine hg x y v w H2 Hf2 _ trivial st2.sub (r1.up e2.grow) r2 fun u H3 Hf3 e3 sb r3 => ?_
  cases r3
  exact ⟨_, rfl, h _ s2 hy H3 Hf3 (st2.up e3 sb) ((e1.trans e2).trans e3.toA)⟩
/-! ### what comparisons mean of data -/
/-- == of this kind of data is equality -/
def EqD {α : Type} [DecidableEq α] (E : α → D) : Prop := ∀ x y : α, PyData.eqv (E x) (E y) = decide (x = y)
/-- never deeper than n -/
def Dep {α : Type} (E : α → D) (n : Nat) : Prop := ∀ x : α, (E x).depth ≤ n ∧ noD (E x) = true
theorem opD_eq [DecidableEq α] {n : Nat} (e : EqD Ea) (d : Dep Ea n) (hn : n ≤ 64 := by decide) : OpD X.K (rEqD X.K) Ea Ea PyData.bool (fun _ _ => True) (fun x y => decide (x = y)) :=
  opD_of fun x y v w H Hf Q _ sb rv rw' => ⟨.bl (decide (x = y)), .bl _, fun q => by
    have h1 := Rp.dp _ _ (d x).2 (rv.up sb)
    have h2 := Rp.dp _ _ (d y).2 (rw'.up sb)
    refine ⟨_, _, h1.1, h2.1, ?_, ?_, ?_⟩
    · unfold SeqAt.shaped; rw [h1.2, decide_eq_true (Nat.le_trans (d x).1 hn)]; rfl
    · unfold SeqAt.shaped; rw [h2.2, decide_eq_true (Nat.le_trans (d y).1 hn)]; rfl
    · rw [e x y]; exact q⟩
theorem opD_ne [DecidableEq α] {n : Nat} (e : EqD Ea) (d : Dep Ea n) (hn : n ≤ 64 := by decide) : OpD X.K (rNeD X.K) Ea Ea PyData.bool (fun _ _ => True) (fun x y => !decide (x = y)) :=
  opD_of fun x y v w H Hf Q _ sb rv rw' => ⟨.bl (!decide (x = y)), .bl _, fun q => by
    have h1 := Rp.dp _ _ (d x).2 (rv.up sb)
    have h2 := Rp.dp _ _ (d y).2 (rw'.up sb)
    refine ⟨_, _, h1.1, h2.1, ?_, ?_, ?_⟩
    · unfold SeqAt.shaped; rw [h1.2, decide_eq_true (Nat.le_trans (d x).1 hn)]; rfl
    · unfold SeqAt.shaped; rw [h2.2, decide_eq_true (Nat.le_trans (d y).1 hn)]; rfl
    · rw [e x y]; exact q⟩
end
end Ab
namespace Ab
open PySem PySem.Spec PyProof.Rows L2
theorem ne_mem {i j : Nat} {l : List Nat} (h : i ∈ l) (n : j ∉ l) : i ≠ j := fun z => n (z ▸ h)
/-! ### steps of statements -/
structure Stp (ix : List Nat) (σ : L2.St) (A : Nat → List Addr) (H Hf : Hp) (σ' : L2.St) (A' : Nat → List Addr) (H' Hf' : Hp) : Prop where
  root : ∀ i, i ∈ ix → σ'[i]? = σ[i]?
  keep : ∀ a o, (∀ i, a ∉ A i) → H a = some o → KeepO o H' a
  there : ∀ a, H a ≠ none → H' a ≠ none
  grow : Sub Hf Hf'
  news : ∀ a, Hf' a ≠ none → Hf a ≠ none ∨ H a = none ∨ ∃ i, i ∉ ix ∧ a ∈ A i
  ownd : ∀ i a, a ∈ A' i → (∃ j, a ∈ A j ∧ (j ∈ ix → i = j)) ∨ H a = none
  stay : ∀ i, i ∈ ix → A' i = A i
theorem ExtA.stp {A : Nat → List Addr} {H Hf H' Hf' : Hp} {ix : List Nat} (e : ExtA ix A H Hf H' Hf') (ix' : List Nat) (σ : L2.St) : Stp ix' σ A H Hf σ A H' Hf' :=
  ⟨fun _ _ => rfl, fun a o m h => e.keep a o (fun i _ => m i) h, e.there, e.grow, fun a h => (e.news a h).elim .inl fun z => .inr (.inl z), fun i a h => .inl ⟨i, h, fun _ => rfl⟩, fun _ _ => rfl⟩
theorem Stp.refl (ix : List Nat) (σ : L2.St) (A : Nat → List Addr) (H Hf : Hp) : Stp ix σ A H Hf σ A H Hf := (ExtA.refl [] A H Hf).stp ix σ
theorem none_back {H H' : Hp} (t : ∀ a, H a ≠ none → H' a ≠ none) {a : Addr} (h : H' a = none) : H a = none := by
  cases e : H a with
  | none => rfl
  | some o => exact absurd h (t a (by rw [e]; simp))
theorem Stp.trans {ix : List Nat} {σ σ1 σ2 : L2.St} {A A1 A2 : Nat → List Addr} {H Hf H1 Hf1 H2 Hf2 : Hp} (a : Stp ix σ A H Hf σ1 A1 H1 Hf1) (b : Stp ix σ1 A1 H1 Hf1 σ2 A2 H2 Hf2) : Stp ix σ A H Hf σ2 A2 H2 Hf2 where
  root := fun i hi => (b.root i hi).trans (a.root i hi)
  keep := fun x o m h => (a.keep x o m h).go fun u q => b.keep x u (fun i hi => by
    rcases a.ownd i x hi with ⟨j, hj, _⟩ | n
    · exact m j hj
    · rw [n] at h; cases h) q
  there := fun x h => b.there x (a.there x h)
  grow := a.grow.trans b.grow
  news := fun x h => by
    rcases b.news x h with q | q | ⟨i, hi, q⟩
    · exact a.news x q
    · exact .inr (.inl (none_back a.there q))
    · rcases a.ownd i x q with ⟨j, hj, k⟩ | n
      · exact .inr (.inr ⟨j, fun z => hi (k z ▸ z), hj⟩)
      · exact .inr (.inl n)
  ownd := fun i x h => by
    rcases b.ownd i x h with ⟨j, hj, k⟩ | n
    · rcases a.ownd j x hj with ⟨l, hl, k2⟩ | n
      · exact .inl ⟨l, hl, fun z => by have := k2 z; subst this; exact k z⟩
      · exact .inr n
    · exact .inr (none_back a.there n)
  stay := fun i hi => (b.stay i hi).trans (a.stay i hi)
/-! ### slots -/
theorem lk_append_out {i : Nat} : ∀ {P Δ : Dl}, i ∉ P.map (·.1) → lk (P ++ Δ) i = lk Δ i
  | [], _, _ => rfl
  | (j, T) :: P, Δ, h => by
    simp only [List.map_cons, List.mem_cons, not_or] at h
    show lk ((j, T) :: (P ++ Δ)) i = _
    rw [lk_ne h.1, lk_append_out h.2]
theorem lk_append_in {i : Nat} : ∀ {P Δ Δ' : Dl}, i ∈ P.map (·.1) → lk (P ++ Δ) i = lk (P ++ Δ') i
  | [], _, _, h => by simp at h
  | (j, T) :: P, Δ, Δ', h => by
    by_cases e : i = j
    · subst e
      show lk ((i, T) :: (P ++ Δ)) i = lk ((i, T) :: (P ++ Δ')) i
      rw [lk_self, lk_self]
    · have h' : i ∈ P.map (·.1) := by simpa [e] using h
      show lk ((j, T) :: (P ++ Δ)) i = lk ((j, T) :: (P ++ Δ')) i
      rw [lk_ne e, lk_ne e]
      exact lk_append_in h'
/-- the own addresses where slot i is forgotten -/
def cut (A : Nat → List Addr) (i : Nat) (as : List Addr) : Nat → List Addr := fun j => if j = i then as else A j
theorem cut_self (A : Nat → List Addr) (i : Nat) (as : List Addr) : cut A i as i = as := if_pos rfl
theorem cut_ne {A : Nat → List Addr} {i j : Nat} {as : List Addr} (h : j ≠ i) : cut A i as j = A j := if_neg h
section
variable {K : KF} {σ : L2.St} {H Hf : Hp} {Δ P : Dl} {A : Nat → List Addr}
/-- a slot is stored: T at as -/
theorem Sat.set (st : Sat K σ H Hf (P ++ Δ) A) {i : Nat} {v : V} {T : Tr} {as : List Addr} (hi : i < σ.length) (hP : i ∉ P.map (·.1)) (h : Holds K Hf H v T as) (own : ∀ a ∈ as, Hf a = none ∧ ∀ j, j ≠ i → a ∉ A j) :
    Sat K (σ.set i (some v)) H Hf (P ++ (i, some T) :: Δ) (cut A i as) where
  sub := st.sub
  slot := fun j U hj => by
    by_cases e : j = i
    · subst e
      rw [lk_append_out hP, lk_self] at hj
      cases hj
      exact ⟨v, fun _ => by rw [List.getElem?_set_self hi], by rw [cut_self]; exact h⟩
    · have hj' : lk (P ++ Δ) j = some U := by
        by_cases m : j ∈ P.map (·.1)
        · rw [lk_append_in (Δ' := Δ) m] at hj; exact hj
        · rw [lk_append_out m, lk_ne e] at hj; rw [lk_append_out m]; exact hj
      obtain ⟨w, h1, h2⟩ := st.slot j U hj'
      exact ⟨w, by rw [List.getElem?_set_ne (Ne.symm e)]; exact h1, by rw [cut_ne e]; exact h2⟩
  own := fun j a ha => by
    by_cases e : j = i
    · subst e
      rw [cut_self] at ha
      exact ⟨(own a ha).1, h.there ha⟩
    · rw [cut_ne e] at ha
      exact st.own j a ha
  inj := fun j l a h1 h2 => by
    by_cases e : j = i
    · subst e
      rw [cut_self] at h1
      by_cases e2 : l = j
      · exact e2.symm
      · rw [cut_ne e2] at h2
        exact absurd h2 ((own a h1).2 l e2)
    · rw [cut_ne e] at h1
      by_cases e2 : l = i
      · subst e2
        rw [cut_self] at h2
        exact absurd h1 ((own a h2).2 j e)
      · rw [cut_ne e2] at h2
        exact st.inj j l a h1 h2
theorem Sat.imm (st : Sat K σ H Hf (P ++ Δ) A) {i : Nat} {v : V} {d : D} (hi : i < σ.length) (hP : i ∉ P.map (·.1)) (h : Rp K Hf v d) :
    Sat K (σ.set i (some v)) H Hf (P ++ (i, some (.imm d)) :: Δ) (cut A i []) := st.set hi hP ⟨rfl, h⟩ fun a ha => by simp at ha
theorem stp_cut {ix : List Nat} {σ : L2.St} {A : Nat → List Addr} {H Hf : Hp} {i : Nat} {v : Option V} (hi : i ∉ ix) : Stp ix σ A H Hf (σ.set i v) (cut A i []) H Hf where
  root := fun j hj => List.getElem?_set_ne (ne_mem hj hi).symm
  keep := fun _ _ _ h => .self h
  there := fun _ h => h
  grow := Sub.refl _
  news := fun _ h => .inl h
  ownd := fun j a h => by
    by_cases e : j = i
    · subst e; rw [cut_self] at h; simp at h
    · rw [cut_ne e] at h; exact .inl ⟨j, h, fun _ => rfl⟩
  stay := fun j hj => cut_ne fun e => hi (e ▸ hj)
/-- less is known -/
theorem Sat.weak {Δ' : Dl} (st : Sat K σ H Hf Δ A) (h : ∀ i T, lk Δ' i = some T → lk Δ i = some T) : Sat K σ H Hf Δ' A :=
  ⟨st.sub, fun i T e => st.slot i T (h i T e), st.own, st.inj⟩
end
/-- what Δ' knows, Δ knows -/
def Le (Δ' Δ : Dl) : Prop := ∀ i T, lk Δ' i = some T → lk Δ i = some T
theorem le_nil {Δ : Dl} : Le [] Δ := fun i T h => by cases h
theorem le_cons {i : Nat} {T : Tr} {r Δ : Dl} (h : lk Δ i = some T) (t : Le r Δ) : Le ((i, some T) :: r) Δ := fun j U e => by
  by_cases z : j = i
  · subst z; rw [lk_self] at e; cases e; exact h
  · rw [lk_ne z] at e; exact t j U e
theorem Le.app {P Δ' Δ : Dl} (h : Le Δ' Δ) : Le (P ++ Δ') (P ++ Δ) := fun i T e => by
  by_cases m : i ∈ P.map (·.1)
  · rw [lk_append_in (Δ' := Δ) m] at e; exact e
  · rw [lk_append_out m] at e ⊢; exact h i T e
/-! ### statements -/
inductive Out (S : Type) where
  | ret (d : D) (s : S)
  | next (Δ : Dl) (s : S)
  | brk (Δ : Dl) (s : S)
  | cont (Δ : Dl) (s : S)
  /-- an exception of the class cl, its fields -/
  | exc (cl : Value) (fs : List (Str × D)) (s : S)
/-- an exception's fields as data -/
def ExD (K : KF) (fs : List (Str × D)) (Hf : Hp) (dx : Addr) : Prop := ∃ vs : List (Str × V), Hf dx = some (.xd vs) ∧ ∀ n d, fs.lookup n = some d → ∃ v, vs.lookup n = some v ∧ Rp K Hf v d
/-- X takes just this exception -/
def Fly (X : Cx) (cl : Value) (dx : Addr) (σ : L2.St) (H : Hp) : Prop := ∀ u s', XE X (fun c d σ' H' => c = cl ∧ d = some dx ∧ σ' = σ ∧ H' = H) u s' → X.xe u s'
theorem fly_takes (X : Cx) : Takes X (fun c d σ H => ∃ dx, d = some dx ∧ Fly X c dx σ H) := fun u s' x => by
  obtain ⟨a, B, sI, pins, σ, H, cls, d, e, I, nb, up, sky, na, os, ag, dx, ed, w⟩ := x
  exact w u s' ⟨a, B, sI, pins, σ, H, cls, d, e, I, nb, up, sky, na, os, ag, rfl, ed, rfl, rfl⟩
/-- what a statement's end is to give -/
def Post (X : Cx) {S : Type} (ι : Io S) (σ : L2.St) (A : Nat → List Addr) (H Hf : Hp) (Dn : Ends) : Out S → Prop
  | .exc cl fs s => ∀ dx σ' H' Hf' A', Sat X.K σ' H' Hf' (ι.tr s) A' → Stp ι.ix σ A H Hf σ' A' H' Hf' → ExD X.K fs Hf' dx → Fly X cl dx σ' H'
  | .ret d s => ∀ v σ' H' Hf' A', Sat X.K σ' H' Hf' (ι.tr s) A' → Stp ι.ix σ A H Hf σ' A' H' Hf' → Rp X.K Hf' v d → Dn.rt v H'
  | .next Δ s => ∀ σ' H' Hf' A', Sat X.K σ' H' Hf' (ι.tr s ++ Δ) A' → Stp ι.ix σ A H Hf σ' A' H' Hf' → Dn.nx σ' H'
  | .brk Δ s => ∀ σ' H' Hf' A', Sat X.K σ' H' Hf' (ι.tr s ++ Δ) A' → Stp ι.ix σ A H Hf σ' A' H' Hf' → Dn.bk σ' H'
  | .cont Δ s => ∀ σ' H' Hf' A', Sat X.K σ' H' Hf' (ι.tr s ++ Δ) A' → Stp ι.ix σ A H Hf σ' A' H' Hf' → Dn.ct σ' H'
theorem Post.step {X : Cx} {S : Type} {ι : Io S} {σ σ1 : L2.St} {A A1 : Nat → List Addr} {H Hf H1 Hf1 : Hp} {Dn : Ends} {o : Out S} (p : Post X ι σ A H Hf Dn o) (st : Stp ι.ix σ A H Hf σ1 A1 H1 Hf1) : Post X ι σ1 A1 H1 Hf1 Dn o := by
  cases o with
  | exc cl fs s => exact fun dx σ' H' Hf' A' h1 h2 h3 => p dx σ' H' Hf' A' h1 (st.trans h2) h3
  | ret d s => exact fun v σ' H' Hf' A' h1 h2 h3 => p v σ' H' Hf' A' h1 (st.trans h2) h3
  | next Δ s => exact fun σ' H' Hf' A' h1 h2 => p σ' H' Hf' A' h1 (st.trans h2)
  | brk Δ s => exact fun σ' H' Hf' A' h1 h2 => p σ' H' Hf' A' h1 (st.trans h2)
  | cont Δ s => exact fun σ' H' Hf' A' h1 h2 => p σ' H' Hf' A' h1 (st.trans h2)
def BX (X : Cx) {S : Type} (ι : Io S) (Δ : Dl) (s : S) (st : List Stmt) {R : Type} (m : Option R) (out : R → Out S) : Prop :=
  ∀ r, m = some r → ∀ (σ : L2.St) (H Hf : Hp) (A : Nat → List Addr) (Dn : Ends), Sat X.K σ H Hf (ι.tr s ++ Δ) A → Post X ι σ A H Hf Dn (out r) → tS X st Dn σ H
section
variable {X : Cx} {S : Type} {ι : Io S} {Δ : Dl} {s : S} {R : Type} {out : R → Out S} {rest : List Stmt} {pos : Pos}
theorem tS_cons {st : Stmt} {t : TS} {Dn : Ends} {σ : L2.St} {H : Hp} (h : PS X st t) (q : t { Dn with nx := fun σ' H' => tS X rest Dn σ' H' } σ H) : tS X (st :: rest) Dn σ H :=
  tS_of (pss_cons h (pS X rest)) q
theorem tS_end {st : Stmt} {t : TS} {Dn : Ends} {σ : L2.St} {H : Hp} (h : PS X st t) (q : t Dn σ H) : tS X [st] Dn σ H := tS_of (pss_one h) q
@[reducible] def letM {α R : Type} (a : α) (k : α → R) : R := k a
/-- nothing more: what stands must be what is promised -/
theorem bx_nil {Δ' : Dl} {r : R} (ho : out r = .next Δ' s) (hle : Le Δ' Δ) : BX X ι Δ s [] (some r) out := by
  intro r' hr σ H Hf A Dn st p
  cases hr
  rw [ho] at p
  exact tS_of pss_nil (p σ H Hf A (st.weak hle.app) (Stp.refl _ _ _ _ _))
theorem bx_ret {e : Expr} {α : Type} {M : (α → S → Option R) → Option R} {E : α → D} {k : α → S → R} (h : EX X ι Δ s e M E) (ho : ∀ x s', out (k x s') = .ret (E x) s') :
    BX X ι Δ s (.Return (some e) pos :: rest) (M fun x s' => some (k x s')) out := by
  intro r hr σ H Hf A Dn st p
  refine tS_of (pss_cons (ps_ret (pE X e)) (pS X rest)) (h _ r hr σ H Hf A _ st fun x s' hx v H' Hf' st' e' r' => ?_)
  cases hx
  rw [ho] at p
  exact p v σ H' Hf' A (st'.weak fun i T hi => by
    have m : i ∈ (ι.tr s').map (·.1) := by
      apply Classical.byContradiction
      intro m
      have q : lk (ι.tr s' ++ []) i = lk [] i := lk_append_out m
      rw [List.append_nil, hi] at q
      cases q
    have q := lk_append_in (Δ := []) (Δ' := Δ) m
    rw [List.append_nil] at q
    rw [← q]; exact hi) (e'.stp _ _) r'
/-- x = e -/
theorem bx_set (i : Nat) {x : Str} {e : Expr} {pos' : Pos} {α : Type} {M : (α → S → Option R) → Option R} {E : α → D} {k : α → S → Option R} (hN : X.N.Nodup) (h : EX X ι Δ s e M E)
    (q : ∀ a s', BX X ι ((i, some (.imm (E a))) :: Δ) s' rest (k a s') out) (hi : X.N[i]? = some x := by rfl) (hx : Loc X.env.scope x := by first | exact Or.inl rfl | exact Or.inr rfl)
    (hs : swapsWith e (some (.Name x pos')) pos.line X.env = pure false := by rfl) (hf : X.fn x = true ∨ X.env.scope.names.lookup x = some .local := by first | exact .inl rfl | exact .inr rfl) (hix : i ∉ ι.ix := by first | decide | exact of_decide_eq_true rfl) :
    BX X ι Δ s (.Assign [.Name x pos'] e pos :: rest) (M k) out := by
  intro r hr σ H Hf A Dn st p
  refine tS_inv fun pins sh I => tS_cons (ps_set hN hi hx (pE X e) hs hf) (h _ r hr σ H Hf A _ st fun a s' ha v H' Hf' st' e' r' => ?_)
  have hlen : i < σ.length := by rw [I.len]; exact (List.getElem?_eq_some_iff.mp hi).1
  refine q a s' r ha _ H' Hf' _ _ (st'.imm (P := ι.tr s') hlen (by rw [ι.keys]; exact hix) r') (p.step ((e'.stp ι.ix σ).trans (stp_cut hix)))
/-! ### a def's promise -/
def argD : Nat → List D → Dl
  | _, [] => []
  | i, d :: ds => (i, some (.imm d)) :: argD (i + 1) ds
theorem lk_argD : ∀ (ds : List D) (j i : Nat) (T : Tr), lk (argD j ds) i = some T → j ≤ i ∧ ∃ d, ds[i - j]? = some d ∧ T = .imm d
  | [], j, i, T, h => by cases h
  | d :: ds, j, i, T, h => by
    by_cases e : i = j
    · subst e
      unfold argD at h
      rw [lk_self] at h
      cases h
      exact ⟨Nat.le_refl _, d, by simp, rfl⟩
    · unfold argD at h
      rw [lk_ne e] at h
      obtain ⟨h1, d', h2, h3⟩ := lk_argD ds (j + 1) i T h
      refine ⟨by omega, d', ?_, h3⟩
      rw [show i - j = (i - (j + 1)) + 1 by omega, List.getElem?_cons_succ]
      exact h2
/-- a def that changes nothing: f of its arguments -/
def spP (K : KF) {P C : Type} (argE : P → List D) (f : P → Option C) (E : C → D) : Sp := fun vs H Q _ =>
  ∃ (p : P) (c : C) (Hf : Hp), Sub Hf H ∧ RpAll K Hf vs (argE p) ∧ f p = some c ∧ ∀ v H' Hf', Sub Hf' H' → Ext H Hf H' Hf' → Rp K Hf' v (E c) → Q v H'
theorem start_sat {K : KF} {H Hf : Hp} {vs : List V} {ds : List D} {N : List Str} (sb : Sub Hf H) (r : RpAll K Hf vs ds) : Sat K (L2.start N vs) H Hf (argD 0 ds) (fun _ => []) where
  sub := sb
  slot := fun i T h => by
    obtain ⟨_, d, h1, rfl⟩ := lk_argD ds 0 i T h
    obtain ⟨v, h2, h3⟩ := r.get (i := i) h1
    refine ⟨v, ?_, rfl, h3⟩
    unfold L2.start
    have hi : i < vs.length := (List.getElem?_eq_some_iff.mp h2).1
    intro _
    rw [List.getElem?_append_left (by simpa using hi), List.getElem?_map, h2]
    rfl
  own := fun i a h => by simp at h
  inj := fun i j a h => by simp at h
section
variable {Pg : Program} {w : World} {K : KF} {mg : Str → Option Value} {base : Heap}
/-- what a body's reading gives -/
theorem fn_pure {x qual : Str} {st : Stmt} {f : Addr} {fd : FuncData} {N ps : List Str} {k : Nat} {P C : Type} {argE : P → List D} {g : P → Option C} {E : C → D} (F : Fun K x qual st f fd) (S : FnScope N ps (defScope st))
    (len : ∀ p, (argE p).length = ps.length)
    (body : ∀ (p : P) (cdv : Value) (A : Around) (outer : List Env) (s : Shared) (H : Hp) (E' : XK), Room k (A.deeper (envOfC qual (defScope st) s.heap.objs.size f cdv)) →
      BX (cxOf CX0 Pg w K mg base N qual (defScope st) f cdv A outer s H E').nox io0 (argD 0 (argE p)) () (defBody st) (g p) (fun c => Out.ret (E c) ())) :
    FnOk Pg w K mg base CX0 (k + 1) f fd ps (spP K argE g E) := by
  refine F.ok S (fun vs H Q E' h => ?_) (fun cdv A outer s H vs Q E' hr h => ?_)
  · obtain ⟨p, c, Hf, _, r, _⟩ := h
    rw [r.len, len p]
  · obtain ⟨p, c, Hf, sb, r, hc, q⟩ := h
    refine ⟨_, pS _ _, ?_⟩
    refine body p cdv A outer s H E' hr c hc _ H Hf (fun _ => []) _ ?_ ?_
    · exact start_sat sb r
    · intro v σ' H' Hf' A' h1 h2 h3
      refine q v H' Hf' h1.sub ⟨fun a o e => h2.keep a o (fun i hi => by simp at hi) e, h2.grow, fun a ha => ?_⟩ h3
      rcases h2.news a ha with z | z | ⟨i, _, z⟩
      · exact .inl z
      · exact .inr z
      · simp at z
end
end
end Ab
namespace Ab
open PySem PySem.Spec PyProof.Rows L2
/-! ### what is walked -/
def tI (X : Cx) (tg iter : Expr) : TI := fun σ H Rr => ∀ pins s, Inv X pins σ H s → wpAny (model X.prog X.w) X.A (eval iter X.env) (fun v s1 => wpAny (model X.prog X.w) X.A (pyIter v) (PIE X pins σ tg Rr) X.xe s1) X.xe s
theorem pI (X : Cx) (tg iter : Expr) : PI X tg iter (tI X tg iter) := ⟨fun pins s _ _ _ I h => h pins s I⟩
theorem tI_of {X : Cx} {tg iter : Expr} {t : TI} (p : PI X tg iter t) {σ : L2.St} {H : Hp} {Q : It → Hp → Prop} (h : t σ H Q) : tI X tg iter σ H Q := fun pins s I => p.run pins s σ H Q I h
theorem tI_inv {X : Cx} {tg iter : Expr} {σ : L2.St} {H : Hp} {Q : It → Hp → Prop} (h : ∀ pins s, Inv X pins σ H s → tI X tg iter σ H Q) : tI X tg iter σ H Q := fun pins s I => h pins s I pins s I
/-- J walks xs, for as long as Hf stands -/
structure Walks (K : KF) (J : It) {α : Type} (xs : List α) (E : α → D) (Hf : Hp) : Prop where
  go : ∀ i H' Hf', Sub Hf Hf' → Sub Hf' H' → i < xs.length → J.go i H'
  stop : ∀ i H' Hf', Sub Hf Hf' → Sub Hf' H' → xs.length ≤ i → J.stop i H'
  yld : ∀ i x v H' H3 Hf', Sub Hf Hf' → Sub Hf' H' → xs[i]? = some x → J.yld i H' v H3 → ∃ Hf3, Ext H' Hf' H3 Hf3 ∧ Sub Hf3 H3 ∧ Rp K Hf3 v (E x)
  size : xs.length ≤ Line
def IX (X : Cx) {S : Type} (ι : Io S) (Δ : Dl) (s : S) (tg iter : Expr) {α R : Type} (M : (List α → S → Option R) → Option R) (E : α → D) : Prop :=
  ∀ k r, M k = some r → ∀ (σ : L2.St) (H Hf : Hp) (A : Nat → List Addr) (Rr : It → Hp → Prop), Sat X.K σ H Hf (ι.tr s ++ Δ) A →
    (∀ xs s', k xs s' = some r → ∀ J H' Hf', Sat X.K σ H' Hf' (ι.tr s' ++ Δ) A → ExtA ι.ix A H Hf H' Hf' → Walks X.K J xs E Hf' → Rr J H') → tI X tg iter σ H Rr
/-- lo, lo + 1, .. -/
def rangeL (lo : Int) (n : Nat) : List Int := (List.range n).map fun (i : Nat) => lo + (i : Int)
theorem rangeL_len (lo : Int) (n : Nat) : (rangeL lo n).length = n := by simp [rangeL]
theorem rangeL_get {lo : Int} {n i : Nat} {x : Int} (h : (rangeL lo n)[i]? = some x) : x = lo + i := by
  unfold rangeL at h
  rw [List.getElem?_map] at h
  cases e : (List.range n)[i]? with
  | none => rw [e] at h; cases h
  | some j =>
    rw [e] at h
    have := List.getElem?_eq_some_iff.mp e
    obtain ⟨h1, h2⟩ := this
    rw [List.getElem_range] at h2
    subst h2
    exact (Option.some.inj h).symm
theorem walks_list {K : KF} {a : Addr} {α : Type} {xs : List α} {E : α → D} {vs : List V} {Hf : Hp} (h' : Rd Hf a (.lst vs)) (r : RpAll K Hf vs (xs.map E)) (hz : xs.length ≤ Line) : Walks K (Itl K a) xs E Hf where
  go := fun i H' Hf' e1 e2 hi => ⟨vs, vs[i]'(by rw [r.len]; simpa using hi), .inl ((e1.trans e2).rd h'), by rw [List.getElem?_eq_getElem]⟩
  stop := fun i H' Hf' e1 e2 hi => ⟨vs, .inl ((e1.trans e2).rd h'), by rw [r.len]; simpa using hi⟩
  yld := fun i x v H' H3 Hf' e1 e2 hx hy => by
    obtain ⟨rfl, f⟩ := hy
    have hv := f vs (.inl ((e1.trans e2).rd h'))
    obtain ⟨d, hd, rd⟩ := r.getV hv
    rw [List.getElem?_map, hx] at hd
    cases hd
    exact ⟨Hf', Ext.refl _ _, e2, rd.up e1⟩
  size := hz
theorem walks_tup {K : KF} {a : Addr} {α : Type} {xs : List α} {E : α → D} {vs : List V} {Hf : Hp} (h : SqT K Hf a vs) (r : RpAll K Hf vs (xs.map E)) (hz : xs.length ≤ Line) : Walks K (Itt K a) xs E Hf where
  go := fun i H' Hf' e1 e2 hi => ⟨vs, vs[i]'(by rw [r.len]; simpa using hi), (e1.trans e2).tup h, by rw [List.getElem?_eq_getElem]⟩
  stop := fun i H' Hf' e1 e2 hi => ⟨vs, (e1.trans e2).tup h, by rw [r.len]; simpa using hi⟩
  yld := fun i x v H' H3 Hf' e1 e2 hx hy => by
    obtain ⟨rfl, f⟩ := hy
    have hv := f vs ((e1.trans e2).tup h)
    obtain ⟨d, hd, rd⟩ := r.getV hv
    rw [List.getElem?_map, hx] at hd
    cases hd
    exact ⟨Hf', Ext.refl _ _, e2, rd.up e1⟩
  size := hz
theorem walks_range {K : KF} {lo : Int} {n : Nat} {Hf : Hp} (hz : n ≤ Line) : Walks K (Itr lo n) (rangeL lo n) PyData.int Hf where
  go := fun i _ _ _ _ hi => by rw [rangeL_len] at hi; exact hi
  stop := fun i _ _ _ _ hi => by rw [rangeL_len] at hi; exact hi
  yld := fun i x v H' H3 Hf' _ e2 hx hy => by
    obtain ⟨rfl, rfl⟩ := hy
    rw [rangeL_get hx]
    exact ⟨Hf', Ext.refl _ _, e2, .int _⟩
  size := by rw [rangeL_len]; exact hz
section
variable {X : Cx} {S : Type} {ι : Io S} {Δ : Dl} {s : S} {R : Type} {tg e : Expr} {pos : Pos}
variable {α : Type} {E : α → D}
/-- over a list -/
theorem it_list {M : (List α → S → Option R) → Option R} (h : EX X ι Δ s e M (fun l => .list (l.map E))) : IX X ι Δ s tg e M E := by
  intro k r hk σ H Hf A Rr st q
  refine tI_of (pi_list (pE X e)) (h k r hk σ H Hf A _ st fun xs s1 hx v H1 Hf1 st1 e1 r1 => ?_)
  cases r1 with
  | @lst a vs _ hs hz ra =>
    refine ⟨a, rfl, ⟨vs, .inl (st1.sub.rd hs)⟩, q xs s1 hx _ H1 Hf1 st1 e1 (walks_list hs ra ?_)⟩
    have := ra.len
    rw [List.length_map] at this
    rw [← this]; exact hz
/-- over a tuple -/
theorem it_tup {M : (List α → S → Option R) → Option R} (h : EX X ι Δ s e M (fun l => .tuple (l.map E))) : IX X ι Δ s tg e M E := by
  intro k r hk σ H Hf A Rr st q
  refine tI_of (pi_tup (pE X e)) (h k r hk σ H Hf A _ st fun xs s1 hx v H1 Hf1 st1 e1 r1 => ?_)
  cases r1 with
  | @tup a vs _ hs hz ra =>
    refine ⟨a, rfl, ⟨vs, st1.sub.tup hs⟩, q xs s1 hx _ H1 Hf1 st1 e1 (walks_tup hs ra ?_)⟩
    have := ra.len
    rw [List.length_map] at this
    rw [← this]; exact hz
theorem one_arg {K : KF} {Hf : Hp} {vs : List V} {d : D} (r : RpAll K Hf vs [d]) : ∃ v, vs = [v] ∧ Rp K Hf v d := by
  cases r with | cons r t => cases t; exact ⟨_, rfl, r⟩
theorem two_args {K : KF} {Hf : Hp} {vs : List V} {d d' : D} (r : RpAll K Hf vs [d, d']) : ∃ v w, vs = [v, w] ∧ Rp K Hf v d ∧ Rp K Hf w d' := by
  cases r with | cons r t => cases t with | cons r' t => cases t; exact ⟨_, _, rfl, r, r'⟩
/-! arguments -/
theorem ax_nil : AX X ι Δ s [] (R := R) (fun k => k () s) (fun _ => []) := by
  intro k r hk σ H Hf A Q st q
  exact tA_of pa_nil (q () s hk [] H Hf st (ExtA.refl _ _ _ _) .nil)
theorem ax_cons {es : List Expr} {β : Type} {Ma : (α → S → Option R) → Option R} {Mb : S → (β → S → Option R) → Option R} {F : β → List D} (ha : EX X ι Δ s e Ma E) (hb : ∀ s1, AX X ι Δ s1 es (Mb s1) F)
    (hs : starEach (e :: es) X.env = (false, eval e X.env) :: starEach es X.env := by rfl) :
    AX X ι Δ s (e :: es) (fun k => Ma fun x s1 => Mb s1 fun y s2 => k (x, y) s2) (fun p => E p.1 :: F p.2) := by
  intro k r hk σ H Hf A Q st q
  refine tA_of (pa_cons (pE X e) (pA X es) hs) (ha _ r hk σ H Hf A _ st fun x s1 hx v H1 Hf1 st1 e1 r1 => ?_)
  refine hb s1 _ r hx σ H1 Hf1 A _ st1 fun y s2 hy vs H2 Hf2 st2 e2 r2 => ?_
  exact q (x, y) s2 hy (v :: vs) H2 Hf2 st2 (e1.trans e2) (.cons (r1.up e2.grow) r2)
/-- range(a), range(a, b): of so many turns at most as a list can have -/
theorem it_range1 {a : Expr} {p : Pos} {M : (Int → S → Option R) → Option R} (hm : X.mg "range" = none) (h : EX X ι Δ s a M PyData.int) (hg : Gl X "range" := by rfl) (hs : starEach [a] X.env = [(false, eval a X.env)] := by rfl) :
    IX X ι Δ s tg (.Call (.Name "range" p) [a] [] pos) (fun k => M fun n s1 => guardM (n.natAbs ≤ Line) (k (rangeL 0 n.toNat) s1)) PyData.int := by
  intro k r hk σ H Hf A Rr st q
  refine tI_of (pi_range1 hg hm (pA X [a]) hs) ?_
  refine ax_cons h (fun s1 => ax_nil) hs (fun p s' => guardM (p.1.natAbs ≤ Line) (k (rangeL 0 p.1.toNat) s')) r hk σ H Hf A _ st fun x s1 hx vs H1 Hf1 st1 e1 r1 => ?_
  obtain ⟨v, rfl, rv⟩ := one_arg r1
  obtain ⟨c, hx⟩ := guardM_some hx
  cases rv
  have c2 : x.1.natAbs ≤ 16777216 := c
  refine ⟨x.1, rfl, by omega, by omega, q _ s1 hx _ H1 Hf1 st1 e1 (walks_range (by show x.1.toNat ≤ 16777216; omega))⟩
theorem it_range2 {a b : Expr} {p : Pos} {M : (Int → S → Option R) → Option R} {Mb : S → (Int → S → Option R) → Option R} (hm : X.mg "range" = none) (h : EX X ι Δ s a M PyData.int) (hb : ∀ s1, EX X ι Δ s1 b (Mb s1) PyData.int) (hg : Gl X "range" := by rfl)
    (hs : starEach [a, b] X.env = [(false, eval a X.env), (false, eval b X.env)] := by rfl) (hs2 : starEach [b] X.env = [(false, eval b X.env)] := by rfl) :
    IX X ι Δ s tg (.Call (.Name "range" p) [a, b] [] pos) (fun k => M fun n s1 => Mb s1 fun m s2 => guardM (n.natAbs ≤ Line ∧ m.natAbs ≤ Line ∧ m - n ≤ (Line : Int)) (k (rangeL n (m - n).toNat) s2)) PyData.int := by
  intro k r hk σ H Hf A Rr st q
  refine tI_of (pi_range2 hg hm (pA X [a, b]) hs hs2) ?_
  have hq : AX X ι Δ s [a, b] (R := R) (fun k => M fun n s1 => Mb s1 fun m s2 => k (n, m, ()) s2) (fun p => [.int p.1, .int p.2.1]) := ax_cons h (fun s1 => ax_cons (hb s1) (fun s2 => ax_nil) hs2) (by rw [hs, hs2])
  refine hq (fun p s2 => guardM (p.1.natAbs ≤ Line ∧ p.2.1.natAbs ≤ Line ∧ p.2.1 - p.1 ≤ (Line : Int)) (k (rangeL p.1 (p.2.1 - p.1).toNat) s2)) r hk σ H Hf A _ st fun x s1 hx vs H1 Hf1 st1 e1 r1 => ?_
  obtain ⟨v, w', rfl, rv, rw'⟩ := two_args r1
  obtain ⟨c, hx⟩ := guardM_some hx
  cases rv
  cases rw'
  have c1 : x.1.natAbs ≤ 16777216 := c.1
  have c2 : x.2.1.natAbs ≤ 16777216 := c.2.1
  have c3 : x.2.1 - x.1 ≤ (16777216 : Nat) := c.2.2
  refine ⟨x.1, x.2.1, rfl, ⟨by omega, by omega, by omega, by omega⟩, q _ s1 hx _ H1 Hf1 st1 e1 (walks_range (by show (x.2.1 - x.1).toNat ≤ 16777216; omega))⟩
/-! ### targets -/
def tG (X : Cx) (tg : Expr) : TG := fun v σ H Q => ∀ pins s u, Inv X pins σ H s → RelV v u → wpAny (model X.prog X.w) X.A (assign tg X.env u) (fun _ s' => ∃ σ' H', Inv X pins σ' H' s' ∧ Q σ' H') X.xe s
theorem pG (X : Cx) (tg : Expr) : PG X tg (tG X tg) := ⟨fun pins s _ _ _ u _ I r h => h pins s u I r⟩
theorem tG_of {X : Cx} {tg : Expr} {t : TG} (p : PG X tg t) {v : V} {σ : L2.St} {H : Hp} {Q : L2.St → Hp → Prop} (h : t v σ H Q) : tG X tg v σ H Q := fun pins s u I r => p.run pins s σ H v u Q I r h
theorem tG_inv {X : Cx} {tg : Expr} {v : V} {σ : L2.St} {H : Hp} {Q : L2.St → Hp → Prop} (h : ∀ pins s, Inv X pins σ H s → tG X tg v σ H Q) : tG X tg v σ H Q := fun pins s u I r => h pins s I pins s u I r
/-- only the slots of ixs are stored -/
structure Only (ixs : List Nat) (σ σ' : L2.St) : Prop where
  len : σ'.length = σ.length
  out : ∀ j, j ∉ ixs → σ'[j]? = σ[j]?
def cutL (A : Nat → List Addr) (ixs : List Nat) : Nat → List Addr := fun j => if j ∈ ixs then [] else A j
theorem cutL_in {A : Nat → List Addr} {ixs : List Nat} {j : Nat} {a : Addr} (h : a ∈ cutL A ixs j) : a ∈ A j ∧ j ∉ ixs := by
  unfold cutL at h
  split at h
  · simp at h
  · exact ⟨h, by assumption⟩
theorem stp_cutL {ix ixs : List Nat} {σ σ' : L2.St} {A : Nat → List Addr} {H Hf : Hp} (hi : ∀ i ∈ ixs, i ∉ ix) (o : Only ixs σ σ') : Stp ix σ A H Hf σ' (cutL A ixs) H Hf where
  root := fun j hj => o.out j fun z => hi j z hj
  keep := fun _ _ _ h => .self h
  there := fun _ h => h
  grow := Sub.refl _
  news := fun _ h => .inl h
  ownd := fun j a h => .inl ⟨j, (cutL_in h).1, fun _ => rfl⟩
  stay := fun j hj => by
    unfold cutL
    rw [if_neg fun m => hi j m hj]
/-- a target takes data x: it binds ixs, as bind says -/
def GX (X : Cx) {S : Type} (ι : Io S) (tg : Expr) {α : Type} (ixs : List Nat) (bind : α → Dl) (E : α → D) : Prop :=
  ∀ (x : α) (v : V) (σ : L2.St) (H Hf : Hp) (Δ : Dl) (A : Nat → List Addr) (s : S) (Q : L2.St → Hp → Prop), Sat X.K σ H Hf (ι.tr s ++ Δ) A → Rp X.K Hf v (E x) →
    (∀ σ', Sat X.K σ' H Hf (ι.tr s ++ (bind x ++ Δ)) (cutL A ixs) → Only ixs σ σ' → Q σ' H) → tG X tg v σ H Q
theorem cut_cutL (A : Nat → List Addr) (i : Nat) : cut A i [] = cutL A [i] := by
  funext j
  unfold cut cutL
  by_cases e : j = i
  · rw [if_pos e, if_pos (by simp [e])]
  · rw [if_neg e, if_neg (by simp [e])]
theorem cutL_cutL (A : Nat → List Addr) (a b : List Nat) : cutL (cutL A a) b = cutL A (a ++ b) := by
  funext j
  unfold cutL
  by_cases e : j ∈ a <;> by_cases e2 : j ∈ b <;> simp [e, e2]
theorem gx_name (i : Nat) {x : Str} {p : Pos} (hN : X.N.Nodup) (hi : X.N[i]? = some x := by rfl) (hx : Loc X.env.scope x := by first | exact Or.inl rfl | exact Or.inr rfl)
    (hf : X.fn x = true ∨ X.env.scope.names.lookup x = some .local := by first | exact .inl rfl | exact .inr rfl) (hix : i ∉ ι.ix := by first | decide | exact of_decide_eq_true rfl) : GX X ι (.Name x p) [i] (fun a => [(i, some (.imm (E a)))]) E := by
  intro a v σ H Hf Δ A s Q st r q
  refine tG_inv fun pins sh I => tG_of (pg_name hN hi hx hf) ?_
  have hlen : i < σ.length := by rw [I.len]; exact (List.getElem?_eq_some_iff.mp hi).1
  refine q _ ?_ ⟨by rw [List.length_set], fun j hj => by rw [List.getElem?_set_ne (by simpa using Ne.symm (fun e => hj (by simp [e])))]⟩
  have z := st.imm (P := ι.tr s) hlen (by rw [ι.keys]; exact hix) r
  rw [cut_cutL] at z
  exact z
/-- several targets -/
def tGs (X : Cx) (ts : List Expr) : TGs := fun vs σ H Q => ∀ pins s us, Inv X pins σ H s → Vals vs us → wpAny (model X.prog X.w) X.A (assignInOrder ((assignEach ts X.env).map (·.2)) us) (fun _ s' => ∃ σ' H', Inv X pins σ' H' s' ∧ Q σ' H') X.xe s
theorem pGs (X : Cx) (ts : List Expr) : PGs X ts (tGs X ts) := ⟨fun pins s _ _ _ us _ I r h => h pins s us I r⟩
theorem tGs_of {X : Cx} {ts : List Expr} {t : TGs} (p : PGs X ts t) {vs : List V} {σ : L2.St} {H : Hp} {Q : L2.St → Hp → Prop} (h : t vs σ H Q) : tGs X ts vs σ H Q := fun pins s us I r => p.run pins s σ H vs us Q I r h
def GXs (X : Cx) {S : Type} (ι : Io S) (ts : List Expr) {α : Type} (ixs : List Nat) (bind : α → Dl) (E : α → List D) : Prop :=
  ∀ (x : α) (vs : List V) (σ : L2.St) (H Hf : Hp) (Δ : Dl) (A : Nat → List Addr) (s : S) (Q : L2.St → Hp → Prop), Sat X.K σ H Hf (ι.tr s ++ Δ) A → RpAll X.K Hf vs (E x) →
    (∀ σ', Sat X.K σ' H Hf (ι.tr s ++ (bind x ++ Δ)) (cutL A ixs) → Only ixs σ σ' → Q σ' H) → tGs X ts vs σ H Q
theorem gxs_nil : GXs X ι [] (α := α) [] (fun _ => []) (fun _ => []) := by
  intro x vs σ H Hf Δ A s Q st r q
  cases r
  refine tGs_of pgs_nil ⟨rfl, q σ ?_ ⟨rfl, fun _ _ => rfl⟩⟩
  have : cutL A [] = A := by funext j; simp [cutL]
  rw [this]
  exact st
theorem gxs_cons {t : Expr} {ts : List Expr} {i1 i2 : List Nat} {b1 b2 : α → Dl} {F : α → List D} (h1 : GX X ι t i1 b1 E) (h2 : GXs X ι ts i2 b2 F)
    (hs : (assignEach (t :: ts) X.env).map (·.2) = assign t X.env :: (assignEach ts X.env).map (·.2) := by rfl) : GXs X ι (t :: ts) (i1 ++ i2) (fun x => b2 x ++ b1 x) (fun x => E x :: F x) := by
  intro x vs σ H Hf Δ A s Q st r q
  cases r with
  | cons r rs =>
    refine tGs_of (pgs_cons (pG X t) (pGs X ts) hs) ⟨_, _, rfl, ?_⟩
    refine h1 x _ σ H Hf Δ A s _ st r fun σ1 st1 o1 => ?_
    refine h2 x _ σ1 H Hf _ _ s _ st1 rs fun σ2 st2 o2 => ?_
    rw [cutL_cutL] at st2
    exact q σ2 (by simpa only [List.append_assoc] using st2) ⟨o2.len.trans o1.len, fun j hj => (o2.out j fun z => hj (List.mem_append_right _ z)).trans (o1.out j fun z => hj (List.mem_append_left _ z))⟩
/-- (a, b, ..) = data that is a tuple of so many parts -/
theorem gx_tup {ts : List Expr} {k : Nat} {ixs : List Nat} {b : α → Dl} {F : α → List D} (h : GXs X ι ts ixs b F) (he : ∀ x, E x = .tuple (F x)) (hl : ∀ x, (F x).length = (assignEach ts X.env).length) (hc : X.calm = true := by rfl)
    (hst : (assignEach ts X.env).findIdx? (·.1) = none := by rfl) : GX X ι (.Tuple ts k pos) ixs b E := by
  intro x v σ H Hf Δ A s Q st r q
  rw [he] at r
  cases r with
  | @tup a vs _ hs hz ra =>
    exact tG_of (pg_tup hc (pGs X ts) rfl hst) ⟨a, vs, rfl, st.sub.tup hs, ra.len.trans (hl x), h x vs σ H Hf Δ A s Q st ra q⟩
/-- the target through another view of the data -/
theorem GX.map {β : Type} {ixs : List Nat} {b : β → Dl} {F : β → D} (h : GX X ι tg ixs b F) (f : α → β) (he : ∀ x, E x = F (f x)) : GX X ι tg ixs (fun x => b (f x)) E := by
  intro x v σ H Hf Δ A s Q st r q
  rw [he] at r
  exact h (f x) v σ H Hf Δ A s Q st r q
/-! ### for -/
inductive Fl (W R : Type) where
  | next (w : W)
  | cont (w : W)
  | brk (w : W)
  | ret (r : R)
/-- the ways out of a body that do not come to its end -/
inductive Xt (W R : Type) where
  | cont (w : W)
  | brk (w : W)
  | ret (r : R)
def Xt.fl {W R : Type} : Xt W R → Fl W R
  | .cont w => .cont w
  | .brk w => .brk w
  | .ret r => .ret r
/-- a loop that may be left -/
def forE {α W R : Type} (f : W → α → Option (Fl W R)) : List α → W → Option (Fl W R)
  | [], w => some (.next w)
  | x :: xs, w => (f w x).bind fun o => match o with
    | .next w' => forE f xs w'
    | .cont w' => forE f xs w'
    | .brk w' => some (.next w')
    | .ret r => some (.ret r)
theorem foldlM_drop {α W : Type} {f : W → α → Option W} {xs : List α} {i : Nat} {x : α} {w w' : W} (hx : xs[i]? = some x) (h : (xs.drop i).foldlM f w = some w') : ∃ w1, f w x = some w1 ∧ (xs.drop (i + 1)).foldlM f w1 = some w' := by
  obtain ⟨hi, e⟩ := List.getElem?_eq_some_iff.mp hx
  rw [List.drop_eq_getElem_cons hi, e, List.foldlM_cons] at h
  cases q : f w x with
  | none => rw [q] at h; cases h
  | some w1 => rw [q] at h; exact ⟨w1, rfl, h⟩
theorem bind_some {α β : Type} {m : Option α} {k : α → Option β} {r : β} (h : m.bind k = some r) : ∃ a, m = some a ∧ k a = some r := by
  cases m with
  | none => cases h
  | some a => exact ⟨a, rfl, h⟩
end
section
variable {X : Cx} {S : Type} {ι : Io S} {Δ : Dl} {s : S} {R : Type} {out : R → Out S} {rest : List Stmt} {pos : Pos} {tg iter : Expr} {body : List Stmt} {α : Type} {E : α → D}
/-- for tg in iter: body, never left -/
theorem bx_for {W : Type} (Δw : W → Dl) (sw : W → S) {w0 : S → W} {Mi : (List α → S → Option R) → Option R} {ixs : List Nat} {b : α → Dl} {f : W → α → Option W} {K : W → Option R}
    (hi : IX X ι Δ s tg iter Mi E) (hg : GX X ι tg ixs b E) (h0 : ∀ s1, sw (w0 s1) = s1) (h0' : ∀ s1, Le (Δw (w0 s1)) Δ)
    (hb : ∀ w x, BX X ι (b x ++ Δw w) (sw w) body (f w x) (fun w' => .next (Δw w') (sw w')))
    (hk : ∀ w, BX X ι (Δw w) (sw w) rest (K w) out) (hp : PassesOwn (model X.prog X.w) X.A X.env X.xe := by exact PassesOwn.never) (hc : X.calm = true := by rfl)
    (hs : ∀ x, foldedSetIterable iter X.env x = pure x := by intro _; rfl) (hx : ∀ i ∈ ixs, i ∉ ι.ix := by first | decide | exact of_decide_eq_true rfl) :
    BX X ι Δ s (.For tg iter body [] pos :: rest) (Mi fun xs s1 => (xs.foldlM f (w0 s1)).bind K) out := by
  intro r hr σ H Hf A Dn st p
  refine tS_cons (ps_for hp hc (pI X tg iter) (pG X tg) (pS X body) hs) (hi _ r hr σ H Hf A _ st fun xs s1 hx1 J H1 Hf1 st1 e1 wk => ?_)
  obtain ⟨wf, hf, hK⟩ := bind_some hx1
  refine ⟨fun i m σ' H' => m = xs.length - i ∧ i ≤ xs.length ∧ ∃ w Hf' A', Sat X.K σ' H' Hf' (ι.tr (sw w) ++ Δw w) A' ∧ Stp ι.ix σ A H Hf σ' A' H' Hf' ∧ Sub Hf1 Hf' ∧ (xs.drop i).foldlM f w = some wf,
    ⟨xs.length, by simp, Nat.zero_le _, w0 s1, Hf1, A, by rw [h0]; exact st1.weak (h0' s1).app, e1.stp _ _, Sub.refl _, hf⟩, ?_⟩
  rintro i m σ' H' ⟨rfl, hi', w, Hf', A', st', sp, sb, hw⟩
  by_cases hlt : i < xs.length
  · obtain ⟨x, hxi⟩ : ∃ x, xs[i]? = some x := ⟨_, List.getElem?_eq_getElem hlt⟩
    obtain ⟨w1, hw1, hw2⟩ := foldlM_drop hxi hw
    refine .inr ⟨wk.go i H' Hf' sb st'.sub hlt, fun σ2 H2 => ∃ Hf2 A2, Sat X.K σ2 H2 Hf2 (ι.tr (sw w1) ++ Δw w1) A2 ∧ Stp ι.ix σ A H Hf σ2 A2 H2 Hf2 ∧ Sub Hf1 Hf2, fun σ2 H2 ⟨Hf2, A2, q1, q2, q3⟩ => ⟨xs.length - (i + 1), by omega, rfl, hlt, w1, Hf2, A2, q1, q2, q3, hw2⟩, fun v H2 hy => ?_⟩
    obtain ⟨Hf2, e2, sb2, rv⟩ := wk.yld i x v H' H2 Hf' sb st'.sub hxi hy
    have st2 := st'.up e2 sb2
    refine hg x v σ' H2 Hf2 _ A' (sw w) _ st2 rv fun σ3 st3 o3 => ?_
    refine hb w x w1 hw1 σ3 H2 Hf2 _ _ st3 ?_
    have sp3 : Stp ι.ix σ A H Hf σ3 (cutL A' ixs) H2 Hf2 := (sp.trans ((e2.toA (ix := ι.ix)).stp _ _)).trans (stp_cutL hx o3)
    exact fun σ4 H4 Hf4 A4 q1 q2 => ⟨Hf4, A4, q1, sp3.trans q2, sb.trans (e2.grow.trans q2.grow)⟩
  · have ei : i = xs.length := by omega
    subst ei
    rw [List.drop_length] at hw
    have ew : w = wf := Option.some.inj hw
    subst ew
    refine .inl ⟨wk.stop _ H' Hf' sb st'.sub (Nat.le_refl _), ?_⟩
    exact hk w r hK σ' H' Hf' A' Dn st' (p.step sp)
end
end Ab
namespace Ab
open PySem PySem.Spec PyProof.Rows L2
theorem nin_ne {a p : Addr} {l : List Addr} (h : a ∈ l) (n : p ∉ l) : a ≠ p := fun z => n (z ▸ h)
/-! ### comprehensions -/
def compM {α β S : Type} (f : α → S → Option (Option β × S)) : List α → S → Option (List β × S)
  | [], s => some ([], s)
  | x :: xs, s => (f x s).bind fun p => (compM f xs p.2).bind fun q => some (match p.1 with | some y => y :: q.1 | none => q.1, q.2)
theorem compM_drop {α β S : Type} {f : α → S → Option (Option β × S)} {xs : List α} {i : Nat} {x : α} {s s' : S} {ys : List β} (hx : xs[i]? = some x) (h : compM f (xs.drop i) s = some (ys, s')) :
    ∃ o s1 zs, f x s = some (o, s1) ∧ compM f (xs.drop (i + 1)) s1 = some (zs, s') ∧ ys = (match o with | some y => y :: zs | none => zs) := by
  obtain ⟨hi, e⟩ := List.getElem?_eq_some_iff.mp hx
  rw [List.drop_eq_getElem_cons hi, e] at h
  obtain ⟨p, h1, h2⟩ := bind_some (show (f x s).bind _ = some (ys, s') from h)
  obtain ⟨q, h3, h4⟩ := bind_some h2
  have e2 := Option.some.inj h4
  injection e2 with e3 e4
  subst e4
  exact ⟨p.1, p.2, q.1, h1, h3, e3.symm⟩
/-- where no state is touched and nothing fails -/
theorem compM_total {α β S : Type} {f : α → S → Option (Option β × S)} {g : α → Option β} (h : ∀ x s, f x s = some (g x, s)) : ∀ (xs : List α) (s : S), compM f xs s = some (xs.filterMap g, s)
  | [], s => rfl
  | x :: xs, s => by
    show (f x s).bind _ = _
    rw [h x s]
    show (compM f xs s).bind _ = _
    rw [compM_total h xs s]
    show some _ = some _
    cases e : g x with
    | none => rw [List.filterMap_cons_none e]
    | some y => rw [List.filterMap_cons_some e]
section
variable {K : KF} {σ : L2.St} {H Hf : Hp} {Δ P : Dl} {A : Nat → List Addr}
theorem Sat.poke (st : Sat K σ H Hf Δ A) {p : Addr} {o : HO} (n : Hf p = none) (nA : ∀ i, p ∉ A i) : Sat K σ (upd H p o) Hf Δ A where
  sub := fun a u e => (st.sub a u e).same (upd_ne (ne_of_none e n))
  slot := fun i T h => by
    obtain ⟨v, h1, h2⟩ := st.slot i T h
    exact ⟨v, h1, h2.up (Sub.refl _) fun a ha u e => .self (by rw [upd_ne (nin_ne ha (nA i))]; exact e)⟩
  own := fun i a h => ⟨(st.own i a h).1, by rw [upd_ne (nin_ne h (nA i))]; exact (st.own i a h).2⟩
  inj := st.inj
theorem Sat.freeze (st : Sat K σ H Hf Δ A) {p : Addr} {o : HO} (e : H p = some o) (n : Hf p = none) (nA : ∀ i, p ∉ A i) : Sat K σ H (upd Hf p o) Δ A where
  sub := fun a u h => by
    by_cases q : a = p
    · subst q; rw [upd_same] at h; exact .self (e.trans h)
    · rw [upd_ne q] at h; exact st.sub a u h
  slot := fun i T h => by
    obtain ⟨v, h1, h2⟩ := st.slot i T h
    exact ⟨v, h1, h2.up (fun a u q => .self (by rw [upd_ne (ne_of_none q n)]; exact q)) fun a _ u q => .self q⟩
  own := fun i a h => ⟨by rw [upd_ne (nin_ne h (nA i))]; exact (st.own i a h).1, (st.own i a h).2⟩
  inj := st.inj
theorem mem_wipe_ne {vs : List Nat} {j : Nat} (h : j ∉ vs) : ∀ (σ : L2.St), (wipe σ vs)[j]? = σ[j]? := by
  intro σ
  induction vs with
  | nil => rfl
  | cons v vs ih =>
    simp only [List.mem_cons, not_or] at h
    show ((wipe σ vs).set v none)[j]? = _
    rw [List.getElem?_set_ne (Ne.symm h.1), ih h.2]
theorem wipe_eq {vs ixs : List Nat} {σ σ2 : L2.St} (o : Only ixs (wipe σ vs) σ2) (h : ∀ i ∈ ixs, i ∈ vs) : wipe σ2 vs = wipe σ vs := by
  apply List.ext_getElem?
  intro j
  by_cases m : j ∈ vs
  · have len : ∀ (τ : L2.St), (wipe τ vs)[j]? = if j < τ.length then some none else none := by
      intro τ
      clear h o
      induction vs with
      | nil => simp at m
      | cons v vs ih =>
        show ((wipe τ vs).set v none)[j]? = _
        by_cases e : v = j
        · subst e
          by_cases hl : v < (wipe τ vs).length
          · rw [List.getElem?_set_self hl, if_pos (by rw [wipe_length] at hl; exact hl)]
          · rw [List.getElem?_eq_none (by simpa using hl), if_neg (by rw [wipe_length] at hl; exact hl)]
        · rw [List.getElem?_set_ne e]
          exact ih (by simpa [Ne.symm e] using m)
    rw [len, len, o.len, wipe_length]
  · rw [mem_wipe_ne m, mem_wipe_ne m, o.out j (fun z => m (h j z)), mem_wipe_ne m]
def forget (vs : List Nat) : Dl := vs.map fun i => (i, none)
theorem forget_keys (vs : List Nat) : (forget vs).map (·.1) = vs := by simp [forget, Function.comp_def]
theorem lk_forget {vs : List Nat} {i : Nat} (h : i ∈ vs) (Δ : Dl) : lk (forget vs ++ Δ) i = none := by
  induction vs with
  | nil => simp at h
  | cons v vs ih =>
    show lk ((v, none) :: (forget vs ++ Δ)) i = none
    by_cases e : i = v
    · subst e; rw [lk_self]
    · rw [lk_ne e]; exact ih (by simpa [e] using h)
theorem Sat.wiped (st : Sat K σ H Hf (P ++ Δ) A) {vs : List Nat} (hP : ∀ i ∈ vs, i ∉ P.map (·.1)) : Sat K (wipe σ vs) H Hf (P ++ (forget vs ++ Δ)) (cutL A vs) where
  sub := st.sub
  slot := fun i T h => by
    by_cases m : i ∈ vs
    · rw [lk_append_out (hP i m), lk_forget m] at h; cases h
    · have h' : lk (P ++ Δ) i = some T := by
        by_cases k : i ∈ P.map (·.1)
        · rw [lk_append_in (Δ' := Δ) k] at h; exact h
        · rw [lk_append_out k, lk_append_out (by rw [forget_keys]; exact m)] at h; rw [lk_append_out k]; exact h
      obtain ⟨v, h1, h2⟩ := st.slot i T h'
      exact ⟨v, by rw [mem_wipe_ne m]; exact h1, by unfold cutL; rw [if_neg m]; exact h2⟩
  own := fun i a h => st.own i a (cutL_in h).1
  inj := fun i j a h1 h2 => st.inj i j a (cutL_in h1).1 (cutL_in h2).1
end
section
variable {X : Cx} {S : Type} {ι : Io S} {Δ : Dl} {s : S} {R : Type} {tg iter elt : Expr} {ifs : List Expr} {pos : Pos} {scope : Scope}
variable {α β : Type} {E : α → D} {F : β → D}
def tTs (X : Cx) (ifs : List Expr) : TT := fun σ H Q => ∀ pins s, Inv X pins σ H s →
    wpAny (model X.prog X.w) X.A (forIn ifs true fun c r => if r = true then do let ok ← isTrue c X.env (eval c X.env); pure (ForInStep.yield ok) else pure (ForInStep.yield r)) (TP X pins σ Q) X.xe s
theorem pTs (X : Cx) (ifs : List Expr) : PTs X ifs (tTs X ifs) := ⟨fun pins s _ _ _ I h => h pins s I⟩
theorem tTs_of {X : Cx} {ifs : List Expr} {t : TT} (p : PTs X ifs t) {σ : L2.St} {H : Hp} {Q : Bool → Hp → Prop} (h : t σ H Q) : tTs X ifs σ H Q := fun pins s I => p.run pins s σ H Q I h
/-- the tests of a comprehension -/
def CX (X : Cx) {S : Type} (ι : Io S) (Δ : Dl) (s : S) (ifs : List Expr) {R : Type} (M : (Bool → S → Option R) → Option R) : Prop :=
  ∀ k r, M k = some r → ∀ (σ : L2.St) (H Hf : Hp) (A : Nat → List Addr) (Q : Bool → Hp → Prop), Sat X.K σ H Hf (ι.tr s ++ Δ) A →
    (∀ x s', k x s' = some r → ∀ H' Hf', Sat X.K σ H' Hf' (ι.tr s' ++ Δ) A → ExtA ι.ix A H Hf H' Hf' → Q x H') → tTs X ifs σ H Q
theorem cx_nil : CX X ι Δ s [] (R := R) (fun k => k true s) := by
  intro k r hk σ H Hf A Q st q
  exact tTs_of pts_nil (q true s hk H Hf st (ExtA.refl _ _ _ _))
theorem cx_one {c : Expr} {M : (Bool → S → Option R) → Option R} (h : TX X ι Δ s c M) : CX X ι Δ s [c] M := by
  intro k r hk σ H Hf A Q st q
  exact tTs_of (pts_one (pT X c)) (h k r hk σ H Hf A Q st q)
/-- a new list, still one's own -/
def EO (X : Cx) {S : Type} (ι : Io S) (Δ : Dl) (s : S) (e : Expr) {α R : Type} (M : (List α → S → Option R) → Option R) (E : α → D) : Prop :=
  ∀ k r, M k = some r → ∀ (σ : L2.St) (H Hf : Hp) (A : Nat → List Addr) (Q : VK), Sat X.K σ H Hf (ι.tr s ++ Δ) A →
    (∀ xs s', k xs s' = some r → ∀ a vs H' Hf', Sat X.K σ H' Hf' (ι.tr s' ++ Δ) A → ExtA ι.ix A H Hf H' Hf' → H' a = some (.lst vs) → vs.length ≤ Line → RpAll X.K Hf' vs (xs.map E) → Hf' a = none → H a = none → Q (.ref a) H') → tE X e σ H Q
theorem EO.ex {e : Expr} {M : (List α → S → Option R) → Option R} (h : EO X ι Δ s e M E) : EX X ι Δ s e M (fun l => .list (l.map E)) := by
  intro k r hk σ H Hf A Q st q
  refine h k r hk σ H Hf A Q st fun xs s' hx a vs H' Hf' st' e' ha hz ra hn hf => ?_
  have nA : ∀ i, a ∉ A i := fun i m => (st.own i a m).2 hf
  refine q xs s' hx (.ref a) H' (upd Hf' a (.lst vs)) (st'.freeze ha hn nA) ⟨e'.keep, e'.there, fun b u h => ?_, fun b h => ?_⟩ (.lst (.inl upd_same) hz (ra.up fun b u h => ?_))
  · have := e'.grow b u h
    exact this.same (upd_ne fun z => this.ne (z ▸ hn))
  · by_cases z : b = a
    · subst z; exact .inr hf
    · rw [upd_ne z] at h; exact e'.news b h
  · exact .self (by rw [upd_ne (ne_of_none h hn)]; exact h)
/-- one turn -/
@[reducible] def compF {α β S : Type} (Mc : α → S → (Bool → S → Option (Option β × S)) → Option (Option β × S)) (Me : α → S → (β → S → Option (Option β × S)) → Option (Option β × S)) : α → S → Option (Option β × S) :=
  fun x s1 => Mc x s1 fun c s2 => if c = true then Me x s2 fun y s3 => some (some y, s3) else some (none, s2)
def gB (X : Cx) (scope : Scope) (tg : Expr) : TG := fun v σ H Q => ∀ s0 H0 C cl fp, tG (X.blk s0 H0 scope (compEnvC scope cl C X.env) fp) tg v σ H Q
def ttB (X : Cx) (scope : Scope) (ifs : List Expr) : TT := fun σ H Q => ∀ s0 H0 C cl fp, tTs (X.blk s0 H0 scope (compEnvC scope cl C X.env) fp) ifs σ H Q
def teB (X : Cx) (scope : Scope) (elt : Expr) : TE := fun σ H Q => ∀ s0 H0 C cl fp, tE (X.blk s0 H0 scope (compEnvC scope cl C X.env) fp) elt σ H Q
/-- a comprehension, ahead of what is done with its list -/
structure LO (X : Cx) {S : Type} (ι : Io S) (Δ : Dl) (s : S) (elt tg iter : Expr) (ifs : List Expr) (scope : Scope) (own : List (Str × Nat)) {α R : Type} (M : (List α → S → Option R) → Option R) (E : α → D) : Prop where
  hN : X.N.Nodup
  ok : BlkOk X.N X.env.scope scope own
  hc : X.calm = true
  hs : ∀ x, foldedSetIterable iter X.env x = pure x
  read : ∀ k r, M k = some r → ∀ (σ : L2.St) (H Hf : Hp) (A : Nat → List Addr) (Q : VK), Sat X.K σ H Hf (ι.tr s ++ Δ) A →
    (∀ xs s', k xs s' = some r → ∀ a vs H' Hf', Sat X.K σ H' Hf' (ι.tr s' ++ Δ) A → ExtA ι.ix A H Hf H' Hf' → H' a = some (.lst vs) → vs.length ≤ Line → RpAll X.K Hf' vs (xs.map E) → Hf' a = none → H a = none → Q (.ref a) H') →
    tLc (tI X tg iter) (gB X scope tg) (ttB X scope ifs) (teB X scope elt) (own.map (·.2)) σ H Q
theorem LO.eo {own : List (Str × Nat)} {M : (List α → S → Option R) → Option R} (h : LO X ι Δ s elt tg iter ifs scope own M E) : EO X ι Δ s (.ListComp elt [⟨tg, iter, ifs, 0⟩] scope pos) M E := fun k r hk σ H Hf A Q st q =>
  tE_of (pe_lc h.hc h.hN (pI X tg iter) h.ok (fun s0 H0 C cl fp => ⟨fun pins s _ _ _ u _ I r h => h s0 H0 C cl fp pins s u I r⟩)
    (fun s0 H0 C cl fp => ⟨fun pins s _ _ _ I h => h s0 H0 C cl fp pins s I⟩) (fun s0 H0 C cl fp => ⟨fun pins s _ _ _ I h => (h s0 H0 C cl fp).run pins s I⟩) h.hs) (h.read k r hk σ H Hf A Q st q)
theorem LO.congr {own : List (Str × Nat)} {M N : (List α → S → Option R) → Option R} (h : LO X ι Δ s elt tg iter ifs scope own M E) (eq : ∀ k, N k = M k) : LO X ι Δ s elt tg iter ifs scope own N E :=
  ⟨h.hN, h.ok, h.hc, h.hs, fun k r hk => h.read k r ((eq k).symm.trans hk)⟩
theorem lo_comp {own : List (Str × Nat)} {ixs : List Nat} {b : α → Dl} {Mi : (List α → S → Option R) → Option R}
    {Mc : α → S → (Bool → S → Option (Option β × S)) → Option (Option β × S)} {Me : α → S → (β → S → Option (Option β × S)) → Option (Option β × S)} (hN : X.N.Nodup)
    (hi : IX X ι Δ s tg iter Mi E)
    (hg : ∀ s0 H0 C cl fp, GX (X.blk s0 H0 scope (compEnvC scope cl C X.env) fp) ι tg ixs b E)
    (ht : ∀ s0 H0 C cl fp x s1, CX (X.blk s0 H0 scope (compEnvC scope cl C X.env) fp) ι (b x ++ (forget (own.map (·.2)) ++ Δ)) s1 ifs (Mc x s1))
    (he : ∀ s0 H0 C cl fp x s1, EX (X.blk s0 H0 scope (compEnvC scope cl C X.env) fp) ι (b x ++ (forget (own.map (·.2)) ++ Δ)) s1 elt (Me x s1) F)
    (ok : blkC X.N X.env.scope scope own = true := by kernel_rfl) (kx : List Nat := ixs) (hk1 : ∀ x, (b x).map (·.1) = kx := by intro _; rfl) (hk2 : ∀ i ∈ kx, i ∈ own.map (·.2) := by decide) (hk3 : ∀ i ∈ ixs, i ∈ own.map (·.2) := by decide)
    (hx : ∀ i ∈ own.map (·.2), i ∉ ι.ix := by first | decide | exact of_decide_eq_true rfl) (hc : X.calm = true := by rfl) (hs : ∀ x, foldedSetIterable iter X.env x = pure x := by intro _; rfl) :
    LO X ι Δ s elt tg iter ifs scope own (fun k => Mi fun xs s1 => (compM (compF Mc Me) xs s1).bind fun p => k p.1 p.2) F := by
  refine ⟨hN, blkOk_by ok, hc, hs, ?_⟩
  intro k r hk σ H Hf A Q st q
  refine hi _ r hk σ H Hf A _ st fun xs s1 hx1 J H1 Hf1 st1 e1 wk => ?_
  obtain ⟨⟨ys, sf⟩, hf, hK⟩ := bind_some hx1
  intro Dd hD
  have hDA : ∀ i, Dd ∉ A i := fun i m => (st1.own i Dd m).2 hD
  have hxP : ∀ s', ∀ i ∈ own.map (·.2), i ∉ (ι.tr s').map (·.1) := fun s' i m => by rw [ι.keys]; exact hx i m
  refine ⟨fun i m H' => m = xs.length - i ∧ i ≤ xs.length ∧ ∃ si Hf' acc dn rs, Sat X.K σ H' Hf' (ι.tr si ++ Δ) A ∧ ExtA ι.ix A H1 Hf1 H' Hf' ∧ H' Dd = some (.lst acc) ∧ acc.length ≤ i ∧ RpAll X.K Hf' acc (dn.map F) ∧ Hf' Dd = none ∧
    compM (compF Mc Me) (xs.drop i) si = some (rs, sf) ∧ dn ++ rs = ys, ⟨xs.length, by simp, Nat.zero_le _, s1, Hf1, [], [], ys, st1.up (Ext.newO hD) (Sub.newO hD st1.sub), (Ext.newO hD).toA, upd_same, Nat.le_refl _, .nil, st1.sub.non hD, hf, rfl⟩, ?_⟩
  rintro i m H' ⟨rfl, hi', si, Hf', acc, dn, rs, st', ex', hDl, hal, hacc, hDf, hcm, hys⟩
  by_cases hlt : i < xs.length
  · obtain ⟨x, hxi⟩ : ∃ x, xs[i]? = some x := ⟨_, List.getElem?_eq_getElem hlt⟩
    obtain ⟨o, s2, zs, hfx, hcm2, ers⟩ := compM_drop hxi hcm
    refine .inr ⟨wk.go i H' Hf' ex'.grow st'.sub hlt, fun H2 => ∃ Hf2 acc2, Sat X.K σ H2 Hf2 (ι.tr s2 ++ Δ) A ∧ ExtA ι.ix A H1 Hf1 H2 Hf2 ∧ H2 Dd = some (.lst acc2) ∧ acc2.length ≤ i + 1 ∧ RpAll X.K Hf2 acc2 ((dn ++ o.toList).map F) ∧ Hf2 Dd = none,
      fun H2 ⟨Hf2, acc2, q1, q2, q3, q4, q5, q6⟩ => ⟨xs.length - (i + 1), by omega, rfl, hlt, s2, Hf2, acc2, dn ++ o.toList, zs, q1, q2, q3, q4, q5, q6, hcm2, by rw [← hys, ers]; cases o <;> simp⟩, fun v H2 hy => ?_⟩
    obtain ⟨Hf2, e2, sb2, rv⟩ := wk.yld i x v H' H2 Hf' ex'.grow st'.sub hxi hy
    have st2 := st'.up e2 sb2
    have hD2 : H2 Dd = some (.lst acc) := e2.keep _ _ hDl
    have hDf2 : Hf2 Dd = none := by
      cases z : Hf2 Dd with
      | none => rfl
      | some u =>
        rcases e2.news Dd (by rw [z]; simp) with w | w
        · exact absurd hDf w
        · rw [hDl] at w; cases w
    intro s0 H0 C cl fp
    refine hg s0 H0 C cl fp x v (wipe σ (own.map (·.2))) H2 Hf2 (forget (own.map (·.2)) ++ Δ) _ si _ (st2.wiped (hxP si)) rv fun σ3 st3 o3 => ?_
    refine ⟨wipe_eq o3 hk3, ?_⟩
    intro s0 H0 C cl fp
    -- what a turn ends with, from the block's state
    have back : ∀ {H4 Hf4 : Hp} {s4 : S}, Sat X.K σ3 H4 Hf4 (ι.tr s4 ++ (b x ++ (forget (own.map (·.2)) ++ Δ))) (cutL (cutL A (own.map (·.2))) ixs) → ExtA ι.ix (cutL (cutL A (own.map (·.2))) ixs) H2 Hf2 H4 Hf4 →
        Sat X.K σ H4 Hf4 (ι.tr s4 ++ Δ) A ∧ ExtA ι.ix A H1 Hf1 H4 Hf4 ∧ H4 Dd = some (.lst acc) ∧ Hf4 Dd = none := by
      intro H4 Hf4 s4 st4 e4
      have inA : ∀ {j a}, a ∈ cutL (cutL A (own.map (·.2))) ixs j → a ∈ A j ∧ j ∉ own.map (·.2) := fun h => ⟨(cutL_in (cutL_in h).1).1, (cutL_in (cutL_in h).1).2⟩
      refine ⟨⟨st4.sub, fun j T hj => ?_, fun j a ha => ?_, st2.inj⟩, ?_, ?_, ?_⟩
      · by_cases m : j ∈ own.map (·.2)
        · rw [lk_append_out (hxP s4 j m)] at hj
          have hj2 : lk (ι.tr si ++ Δ) j = some T := by rw [lk_append_out (hxP si j m)]; exact hj
          obtain ⟨w, w1, w2⟩ := st2.slot j T hj2
          refine ⟨w, w1, w2.up e4.grow fun a ha u hu => e4.keep a u (fun l _ hl => ?_) hu⟩
          have := st2.inj j l a ha (inA hl).1
          subst this
          exact (inA hl).2 m
        · have mk : j ∉ kx := fun z => m (hk2 j z)
          have hj2 : lk (ι.tr s4 ++ (b x ++ (forget (own.map (·.2)) ++ Δ))) j = some T := by
            by_cases k' : j ∈ (ι.tr s4).map (·.1)
            · rw [lk_append_in (Δ' := Δ) k']; exact hj
            · rw [lk_append_out k', lk_append_out (by rw [hk1]; exact mk), lk_append_out (by rw [forget_keys]; exact m)]
              rw [lk_append_out k'] at hj; exact hj
          obtain ⟨w, w1, w2⟩ := st4.slot j T hj2
          have ni : j ∉ ixs := fun z => m (hk3 j z)
          rw [o3.out j ni, mem_wipe_ne m] at w1
          refine ⟨w, w1, ?_⟩
          have ec : cutL (cutL A (own.map (·.2))) ixs j = A j := by unfold cutL; rw [if_neg ni, if_neg m]
          rw [ec] at w2
          exact w2
      · obtain ⟨n1, n2⟩ := st2.own j a ha
        refine ⟨?_, e4.there a n2⟩
        cases z : Hf4 a with
        | none => rfl
        | some u =>
          rcases e4.news a (by rw [z]; simp) with w | w
          · exact absurd n1 w
          · exact absurd w n2
      · have e5 : ExtA ι.ix A H2 Hf2 H4 Hf4 := ⟨fun a u m h => e4.keep a u (fun l hl0 hl => m l hl0 (inA hl).1) h, e4.there, e4.grow, e4.news⟩
        exact (ex'.trans e2.toA).trans e5
      · exact e4.keep _ _ (fun l _ hl => hDA l (inA hl).1) hD2
      · cases z : Hf4 Dd with
        | none => rfl
        | some u =>
          rcases e4.news Dd (by rw [z]; simp) with w | w
          · exact absurd hDf2 w
          · rw [hD2] at w; cases w
    refine ht s0 H0 C cl fp x si _ (o, s2) hfx σ3 H2 Hf2 _ _ st3 fun c s3 hc3 H3 Hf3 st4 e3 => ?_
    cases c with
    | false =>
      have hc3 : some ((none : Option β), s3) = some (o, s2) := hc3
      injection hc3 with hc3
      injection hc3 with h1 h2
      subst h1
      subst h2
      obtain ⟨q1, q2, q3, q4⟩ := back st4 e3
      rw [if_neg Bool.false_ne_true]
      exact ⟨Hf3, acc, q1, q2, q3, Nat.le_succ_of_le hal, by simpa using hacc.up (e2.grow.trans e3.grow), q4⟩
    | true =>
      rw [if_pos rfl]
      intro s0 H0 C cl fp
      refine he s0 H0 C cl fp x s3 _ (o, s2) hc3 σ3 H3 Hf3 _ _ st4 fun y s4 hy4 w H4 Hf4 st5 e4 r4 => ?_
      have hy4 : some (some y, s4) = some (o, s2) := hy4
      injection hy4 with hy4
      injection hy4 with h1 h2
      subst h1
      subst h2
      obtain ⟨q1, q2, q3, q4⟩ := back st5 (e3.trans e4)
      have hz := wk.size
      refine ⟨acc, q3, lt_line (by omega), Hf4, acc ++ [w], q1.poke q4 hDA, ⟨fun a u m h => ?_, fun a h => ?_, q2.grow, q2.news⟩, upd_same, by rw [List.length_append]; exact Nat.succ_le_succ hal, ?_, q4⟩
      · exact (q2.keep a u m h).same (upd_ne (ne_of_none h hD))
      · obtain ⟨u, hu⟩ := not_none h
        rw [upd_ne (ne_of_none hu hD)]
        exact q2.there a h
      · rw [List.map_append]
        exact (hacc.up (e2.grow.trans (e3.grow.trans e4.grow))).append (.one r4)
  · have ei : i = xs.length := by omega
    subst ei
    rw [List.drop_length] at hcm
    injection hcm with hcm
    injection hcm with h1 h2
    subst h1
    subst h2
    rw [List.append_nil] at hys
    subst hys
    refine .inl ⟨wk.stop _ H' Hf' ex'.grow st'.sub (Nat.le_refl _), ?_⟩
    have hz := wk.size
    have hD0 : H Dd = none := none_back e1.there hD
    exact q dn si hK Dd acc H' Hf' st' (e1.trans ex') hDl (by omega) hacc hDf hD0
/-- .. where nothing is touched and nothing fails -/
theorem EO.congr {e : Expr} {M N : (List α → S → Option R) → Option R} (h : EO X ι Δ s e M E) (eq : ∀ k, N k = M k) : EO X ι Δ s e N E := fun k r hk => h k r ((eq k).symm.trans hk)
theorem EX.congr {γ : Type} {e : Expr} {M N : (γ → S → Option R) → Option R} {G : γ → D} (h : EX X ι Δ s e M G) (eq : ∀ k, N k = M k) : EX X ι Δ s e N G := fun k r hk => h k r ((eq k).symm.trans hk)
end
end Ab
namespace Ab
open PySem PySem.Spec PyProof.Rows L2
/-! ### kinds of data -/
namespace Ty
abbrev int : Int → D := PyData.int
abbrev bool : Bool → D := PyData.bool
abbrev str : Str → D := PyData.str
abbrev none : Unit → D := fun _ => PyData.none
abbrev lst {α : Type} (E : α → D) : List α → D := fun l => .list (l.map E)
abbrev tup {α : Type} (E : α → D) : List α → D := fun l => .tuple (l.map E)
abbrev opt {α : Type} (E : α → D) : Option α → D := fun o => match o with | .none => PyData.none | .some a => E a
abbrev p1 {α : Type} (E : α → D) : α → D := fun x => .tuple [E x]
abbrev p2 {α β : Type} (E : α → D) (F : β → D) : α × β → D := fun p => .tuple [E p.1, F p.2]
abbrev p3 {α β γ : Type} (E : α → D) (F : β → D) (G : γ → D) : α × β × γ → D := fun p => .tuple [E p.1, F p.2.1, G p.2.2]
abbrev p4 {α β γ δ : Type} (E : α → D) (F : β → D) (G : γ → D) (I : δ → D) : α × β × γ × δ → D := fun p => .tuple [E p.1, F p.2.1, G p.2.2.1, I p.2.2.2]
abbrev p5 {α β γ δ ε : Type} (E : α → D) (F : β → D) (G : γ → D) (I : δ → D) (J : ε → D) : α × β × γ × δ × ε → D := fun p => .tuple [E p.1, F p.2.1, G p.2.2.1, I p.2.2.2.1, J p.2.2.2.2]
abbrev p6 {α β γ δ ε ζ : Type} (E : α → D) (F : β → D) (G : γ → D) (I : δ → D) (J : ε → D) (L : ζ → D) : α × β × γ × δ × ε × ζ → D := fun p => .tuple [E p.1, F p.2.1, G p.2.2.1, I p.2.2.2.1, J p.2.2.2.2.1, L p.2.2.2.2.2]
end Ty
/-- == is equality; never deeper than n -/
structure Eqn {α : Type} [DecidableEq α] (E : α → D) (n : Nat) : Prop where
  eq : EqD E
  dep : Dep E n
theorem eqvAll_map {α : Type} [DecidableEq α] {E : α → D} (h : EqD E) : ∀ xs ys : List α, PyData.eqvAll (xs.map E) (ys.map E) = decide (xs = ys)
  | [], [] => rfl
  | [], _ :: _ => rfl
  | _ :: _, [] => rfl
  | x :: xs, y :: ys => by
    show (PyData.eqv (E x) (E y) && PyData.eqvAll (xs.map E) (ys.map E)) = _
    rw [h x y, eqvAll_map h xs ys]
    by_cases e1 : x = y <;> by_cases e2 : xs = ys <;> simp [e1, e2]
theorem depthAll_map {α : Type} {E : α → D} {n : Nat} (h : Dep E n) : ∀ xs : List α, PyData.depthAll (xs.map E) ≤ n
  | [] => Nat.zero_le _
  | x :: xs => by
    show max (E x).depth (PyData.depthAll (xs.map E)) ≤ n
    exact Nat.max_le.mpr ⟨(h x).1, depthAll_map h xs⟩
theorem noDs_map {α : Type} {E : α → D} {n : Nat} (h : Dep E n) : ∀ xs : List α, noDs (xs.map E) = true
  | [] => rfl
  | x :: xs => by show (noD (E x) && noDs (xs.map E)) = true; rw [(h x).2, noDs_map h xs]; rfl
namespace Eqn
theorem int : Eqn Ty.int 0 := ⟨fun x y => by show (x == y) = _; exact Bool.beq_eq_decide_eq x y, fun _ => ⟨Nat.le_refl _, rfl⟩⟩
theorem bool : Eqn Ty.bool 0 := ⟨fun x y => by show (x == y) = _; exact Bool.beq_eq_decide_eq x y, fun _ => ⟨Nat.le_refl _, rfl⟩⟩
theorem str : Eqn Ty.str 0 := ⟨fun x y => by show (x == y) = _; exact Bool.beq_eq_decide_eq x y, fun _ => ⟨Nat.le_refl _, rfl⟩⟩
theorem none : Eqn Ty.none 0 := ⟨fun x y => by cases x; cases y; rfl, fun _ => ⟨Nat.le_refl _, rfl⟩⟩
variable {α β γ δ ε : Type} [DecidableEq α] [DecidableEq β] [DecidableEq γ] [DecidableEq δ] [DecidableEq ε] {E : α → D} {F : β → D} {G : γ → D} {I : δ → D} {J : ε → D} {m n o p q : Nat}
theorem lst (h : Eqn E n) : Eqn (Ty.lst E) (n + 1) := ⟨fun x y => eqvAll_map h.eq x y, fun x => ⟨by show PyData.depthAll (x.map E) + 1 ≤ n + 1; have := depthAll_map h.dep x; omega, noDs_map h.dep x⟩⟩
theorem tup (h : Eqn E n) : Eqn (Ty.tup E) (n + 1) := ⟨fun x y => eqvAll_map h.eq x y, fun x => ⟨by show PyData.depthAll (x.map E) + 1 ≤ n + 1; have := depthAll_map h.dep x; omega, noDs_map h.dep x⟩⟩
theorem p2 (h : Eqn E m) (k : Eqn F n) : Eqn (Ty.p2 E F) (m + n + 1) := ⟨fun x y => by
    obtain ⟨a, b⟩ := x
    obtain ⟨c, d⟩ := y
    show (PyData.eqv (E a) (E c) && (PyData.eqv (F b) (F d) && true)) = _
    rw [h.eq, k.eq]
    by_cases e1 : a = c <;> by_cases e2 : b = d <;> simp [e1, e2], fun x => by
    refine ⟨?_, ?_⟩
    · show max (E x.1).depth (max (F x.2).depth 0) + 1 ≤ _
      have h1 := (h.dep x.1).1
      have h2 := (k.dep x.2).1
      omega
    · show (noD (E x.1) && (noD (F x.2) && true)) = true
      rw [(h.dep x.1).2, (k.dep x.2).2]; rfl⟩
theorem p3 (h : Eqn E m) (k : Eqn F n) (l : Eqn G o) : Eqn (Ty.p3 E F G) (m + n + o + 1) := ⟨fun x y => by
    obtain ⟨a, b, c⟩ := x
    obtain ⟨a', b', c'⟩ := y
    show (PyData.eqv (E a) (E a') && (PyData.eqv (F b) (F b') && (PyData.eqv (G c) (G c') && true))) = _
    rw [h.eq, k.eq, l.eq]
    by_cases e1 : a = a' <;> by_cases e2 : b = b' <;> by_cases e3 : c = c' <;> simp [e1, e2, e3], fun x => by
    refine ⟨?_, ?_⟩
    · show max (E x.1).depth (max (F x.2.1).depth (max (G x.2.2).depth 0)) + 1 ≤ _
      have h1 := (h.dep x.1).1
      have h2 := (k.dep x.2.1).1
      have h3 := (l.dep x.2.2).1
      omega
    · show (noD (E x.1) && (noD (F x.2.1) && (noD (G x.2.2) && true))) = true
      rw [(h.dep x.1).2, (k.dep x.2.1).2, (l.dep x.2.2).2]; rfl⟩
theorem p4 (h : Eqn E m) (k : Eqn F n) (l : Eqn G o) (r : Eqn I p) : Eqn (Ty.p4 E F G I) (m + n + o + p + 1) := ⟨fun x y => by
    obtain ⟨a, b, c, d⟩ := x
    obtain ⟨a', b', c', d'⟩ := y
    show (PyData.eqv (E a) (E a') && (PyData.eqv (F b) (F b') && (PyData.eqv (G c) (G c') && (PyData.eqv (I d) (I d') && true)))) = _
    rw [h.eq, k.eq, l.eq, r.eq]
    by_cases e1 : a = a' <;> by_cases e2 : b = b' <;> by_cases e3 : c = c' <;> by_cases e4 : d = d' <;> simp [e1, e2, e3, e4], fun x => by
    refine ⟨?_, ?_⟩
    · show max (E x.1).depth (max (F x.2.1).depth (max (G x.2.2.1).depth (max (I x.2.2.2).depth 0))) + 1 ≤ _
      have h1 := (h.dep x.1).1
      have h2 := (k.dep x.2.1).1
      have h3 := (l.dep x.2.2.1).1
      have h4 := (r.dep x.2.2.2).1
      omega
    · show (noD (E x.1) && (noD (F x.2.1) && (noD (G x.2.2.1) && (noD (I x.2.2.2) && true)))) = true
      rw [(h.dep x.1).2, (k.dep x.2.1).2, (l.dep x.2.2.1).2, (r.dep x.2.2.2).2]; rfl⟩
theorem p5 (h : Eqn E m) (k : Eqn F n) (l : Eqn G o) (r : Eqn I p) (t : Eqn J q) : Eqn (Ty.p5 E F G I J) (m + n + o + p + q + 1) := ⟨fun x y => by
    obtain ⟨a, b, c, d, e⟩ := x
    obtain ⟨a', b', c', d', e'⟩ := y
    show (PyData.eqv (E a) (E a') && (PyData.eqv (F b) (F b') && (PyData.eqv (G c) (G c') && (PyData.eqv (I d) (I d') && (PyData.eqv (J e) (J e') && true))))) = _
    rw [h.eq, k.eq, l.eq, r.eq, t.eq]
    by_cases e1 : a = a' <;> by_cases e2 : b = b' <;> by_cases e3 : c = c' <;> by_cases e4 : d = d' <;> by_cases e5 : e = e' <;> simp [e1, e2, e3, e4, e5], fun x => by
    refine ⟨?_, ?_⟩
    · show max (E x.1).depth (max (F x.2.1).depth (max (G x.2.2.1).depth (max (I x.2.2.2.1).depth (max (J x.2.2.2.2).depth 0)))) + 1 ≤ _
      have h1 := (h.dep x.1).1
      have h2 := (k.dep x.2.1).1
      have h3 := (l.dep x.2.2.1).1
      have h4 := (r.dep x.2.2.2.1).1
      have h5 := (t.dep x.2.2.2.2).1
      omega
    · show (noD (E x.1) && (noD (F x.2.1) && (noD (G x.2.2.1) && (noD (I x.2.2.2.1) && (noD (J x.2.2.2.2) && true))))) = true
      rw [(h.dep x.1).2, (k.dep x.2.1).2, (l.dep x.2.2.1).2, (r.dep x.2.2.2.1).2, (t.dep x.2.2.2.2).2]; rfl⟩
/-- maybe something, which is never None itself -/
theorem opt (h : Eqn E n) (hz : ∀ x, PyData.eqv (E x) .none = false ∧ PyData.eqv .none (E x) = false) : Eqn (Ty.opt E) n := ⟨fun x y => by
    cases x with
    | none => cases y with
      | none => rfl
      | some b => show PyData.eqv .none (E b) = _; rw [(hz b).2]; simp
    | some a => cases y with
      | none => show PyData.eqv (E a) .none = _; rw [(hz a).1]; simp
      | some b => show PyData.eqv (E a) (E b) = _; rw [h.eq]; by_cases e : a = b <;> simp [e], fun x => by
    cases x with
    | none => exact ⟨Nat.zero_le _, rfl⟩
    | some a => exact h.dep a⟩
end Eqn
section
variable {X : Cx} {S : Type} {ι : Io S} {Δ : Dl} {s : S} {R : Type} {pos : Pos} {a b c e : Expr} {k : Nat}
variable {α β γ : Type} {Ea : α → D} {Eb : β → D} {Ec : γ → D}
variable {Ma : (α → S → Option R) → Option R} {Mb : S → (β → S → Option R) → Option R}
/-! ### comparisons -/
section
variable {Na : (Int → S → Option R) → Option R} {Nb : S → (Int → S → Option R) → Option R}
theorem ex_lt (ha : EX X ι Δ s a Na Ty.int) (hb : ∀ s1, EX X ι Δ s1 b (Nb s1) Ty.int) : EX X ι Δ s (.Compare a [.Lt] [b] pos) (fun k => Na fun x s1 => Nb s1 fun y s2 => k (decide (x < y)) s2) Ty.bool := ex_cmpT op_lt opD_b0 ha hb (nomark _)
theorem ex_le (ha : EX X ι Δ s a Na Ty.int) (hb : ∀ s1, EX X ι Δ s1 b (Nb s1) Ty.int) : EX X ι Δ s (.Compare a [.LtE] [b] pos) (fun k => Na fun x s1 => Nb s1 fun y s2 => k (decide (x ≤ y)) s2) Ty.bool := ex_cmpT op_le opD_b0 ha hb (nomark _)
theorem ex_gt (ha : EX X ι Δ s a Na Ty.int) (hb : ∀ s1, EX X ι Δ s1 b (Nb s1) Ty.int) : EX X ι Δ s (.Compare a [.Gt] [b] pos) (fun k => Na fun x s1 => Nb s1 fun y s2 => k (decide (y < x)) s2) Ty.bool := ex_cmpT op_gt opD_b0 ha hb (nomark _)
theorem ex_ge (ha : EX X ι Δ s a Na Ty.int) (hb : ∀ s1, EX X ι Δ s1 b (Nb s1) Ty.int) : EX X ι Δ s (.Compare a [.GtE] [b] pos) (fun k => Na fun x s1 => Nb s1 fun y s2 => k (decide (y ≤ x)) s2) Ty.bool := ex_cmpT op_ge opD_b0 ha hb (nomark _)
theorem tx_lt (ha : EX X ι Δ s a Na Ty.int) (hb : ∀ s1, EX X ι Δ s1 b (Nb s1) Ty.int) : TX X ι Δ s (.Compare a [.Lt] [b] pos) (fun k => Na fun x s1 => Nb s1 fun y s2 => k (decide (x < y)) s2) := tx_cmpT op_lt opD_b0 ha hb (nomark _)
theorem tx_le (ha : EX X ι Δ s a Na Ty.int) (hb : ∀ s1, EX X ι Δ s1 b (Nb s1) Ty.int) : TX X ι Δ s (.Compare a [.LtE] [b] pos) (fun k => Na fun x s1 => Nb s1 fun y s2 => k (decide (x ≤ y)) s2) := tx_cmpT op_le opD_b0 ha hb (nomark _)
theorem tx_gt (ha : EX X ι Δ s a Na Ty.int) (hb : ∀ s1, EX X ι Δ s1 b (Nb s1) Ty.int) : TX X ι Δ s (.Compare a [.Gt] [b] pos) (fun k => Na fun x s1 => Nb s1 fun y s2 => k (decide (y < x)) s2) := tx_cmpT op_gt opD_b0 ha hb (nomark _)
theorem tx_ge (ha : EX X ι Δ s a Na Ty.int) (hb : ∀ s1, EX X ι Δ s1 b (Nb s1) Ty.int) : TX X ι Δ s (.Compare a [.GtE] [b] pos) (fun k => Na fun x s1 => Nb s1 fun y s2 => k (decide (y ≤ x)) s2) := tx_cmpT op_ge opD_b0 ha hb (nomark _)
end
section
variable {Mb' : S → (α → S → Option R) → Option R} {n : Nat}
theorem ex_eq [DecidableEq α] (hr : Room k X.A) (q : Eqn Ea n) (ha : EX X ι Δ s a Ma Ea) (hb : ∀ s1, EX X ι Δ s1 b (Mb' s1) Ea) (hn : n ≤ 64 := by decide) :
    EX X ι Δ s (.Compare a [.Eq] [b] pos) (fun k => Ma fun x s1 => Mb' s1 fun y s2 => k (decide (x = y)) s2) Ty.bool := ex_cmpT (op_eqD hr.units) (opD_eq q.eq q.dep hn) ha hb (nomark _)
theorem tx_eq [DecidableEq α] (hr : Room k X.A) (q : Eqn Ea n) (ha : EX X ι Δ s a Ma Ea) (hb : ∀ s1, EX X ι Δ s1 b (Mb' s1) Ea) (hn : n ≤ 64 := by decide) :
    TX X ι Δ s (.Compare a [.Eq] [b] pos) (fun k => Ma fun x s1 => Mb' s1 fun y s2 => k (decide (x = y)) s2) := tx_cmpT (op_eqD hr.units) (opD_eq q.eq q.dep hn) ha hb (nomark _)
theorem ex_ne [DecidableEq α] (hr : Room k X.A) (q : Eqn Ea n) (ha : EX X ι Δ s a Ma Ea) (hb : ∀ s1, EX X ι Δ s1 b (Mb' s1) Ea) (hn : n ≤ 64 := by decide) :
    EX X ι Δ s (.Compare a [.NotEq] [b] pos) (fun k => Ma fun x s1 => Mb' s1 fun y s2 => k (!decide (x = y)) s2) Ty.bool := ex_cmpT (op_neD hr.units) (opD_ne q.eq q.dep hn) ha hb (nomark _)
theorem tx_ne [DecidableEq α] (hr : Room k X.A) (q : Eqn Ea n) (ha : EX X ι Δ s a Ma Ea) (hb : ∀ s1, EX X ι Δ s1 b (Mb' s1) Ea) (hn : n ≤ 64 := by decide) :
    TX X ι Δ s (.Compare a [.NotEq] [b] pos) (fun k => Ma fun x s1 => Mb' s1 fun y s2 => k (!decide (x = y)) s2) := tx_cmpT (op_neD hr.units) (opD_ne q.eq q.dep hn) ha hb (nomark _)
end
/-! in, not in -/
def rInR (K : KF) (neg : Bool) : R2 := fun x y H Q => ∃ d ds, Dp K H x d ∧ (Dp K H y (.list ds) ∨ Dp K H y (.tuple ds)) ∧ d.canLay0 = true ∧ PyData.canLayAll0 ds = true ∧ d.depth ≤ 64 ∧ Q (.bl (if neg then !(ds.any fun z => PyData.eqv z d) else ds.any fun z => PyData.eqv z d)) H
theorem op_inR (hr : Room k X.A) : OpR X (compareOp .In) (rInR X.K false) := by
  intro pins s σ H x y v u Q I rx ry h
  obtain ⟨d, ds, hd, he, ld, lds, dp, q⟩ := h
  obtain ⟨as, r1⟩ := Dp.reads I d x v hd rx
  have hu : X.A.units + 1 + min (PyData.depthAll ds) d.depth < cLine := by have := hr.un; omega
  rcases he with he | he
  · obtain ⟨bs, r2⟩ := Dp.reads I (.list ds) y u he ry
    exact SeqAt.in_list_reads r2 r1 lds ld hu ⟨.bl _, H, I, rfl, q⟩
  · obtain ⟨bs, r2⟩ := Dp.reads I (.tuple ds) y u he ry
    exact SeqAt.in_tuple_reads r2 r1 lds ld hu ⟨.bl _, H, I, rfl, q⟩
theorem op_notInR (hr : Room k X.A) : OpR X (compareOp .NotIn) (rInR X.K true) := by
  intro pins s σ H x y v u Q I rx ry h
  obtain ⟨d, ds, hd, he, ld, lds, dp, q⟩ := h
  obtain ⟨as, r1⟩ := Dp.reads I d x v hd rx
  have hu : X.A.units + 1 + min (PyData.depthAll ds) d.depth < cLine := by have := hr.un; omega
  rcases he with he | he
  · obtain ⟨bs, r2⟩ := Dp.reads I (.list ds) y u he ry
    exact SeqAt.notIn_list_reads r2 r1 lds ld hu ⟨.bl _, H, I, rfl, q⟩
  · obtain ⟨bs, r2⟩ := Dp.reads I (.tuple ds) y u he ry
    exact SeqAt.notIn_tuple_reads r2 r1 lds ld hu ⟨.bl _, H, I, rfl, q⟩
theorem any_eqv [DecidableEq α] (h : EqD Ea) (x : α) : ∀ xs : List α, ((xs.map Ea).any fun z => PyData.eqv z (Ea x)) = decide (x ∈ xs)
  | [] => by simp
  | y :: ys => by
    rw [List.map_cons, List.any_cons, any_eqv h x ys, h y x]
    by_cases e : y = x
    · subst e; simp
    · have e2 : ¬ x = y := fun z => e z.symm
      simp [e, e2]
theorem opD_in [DecidableEq α] {n : Nat} {K : KF} (q : Eqn Ea n) (hn : n ≤ 64) (G : List α → D) (hG : (∀ l, G l = .list (l.map Ea)) ∨ (∀ l, G l = .tuple (l.map Ea))) (neg : Bool) :
    OpD K (rInR K neg) Ea G Ty.bool (fun _ _ => True) (fun x xs => if neg then !decide (x ∈ xs) else decide (x ∈ xs)) :=
  opD_of fun x y v w H Hf Q _ sb rv rw' => ⟨.bl _, .bl _, fun qq => by
    have h1 := Rp.dp _ _ (q.dep x).2 (rv.up sb)
    rcases hG with hG | hG
    · rw [hG] at rw'
      have h2 := Rp.dp (.list (y.map Ea)) _ (noDs_map q.dep y) (rw'.up sb)
      refine ⟨_, _, h1.1, .inl h2.1, h1.2, h2.2, Nat.le_trans (q.dep x).1 hn, ?_⟩
      rw [any_eqv q.eq]
      exact qq
    · rw [hG] at rw'
      have h2 := Rp.dp (.tuple (y.map Ea)) _ (noDs_map q.dep y) (rw'.up sb)
      refine ⟨_, _, h1.1, .inr h2.1, h1.2, h2.2, Nat.le_trans (q.dep x).1 hn, ?_⟩
      rw [any_eqv q.eq]
      exact qq⟩
section
variable {Mb' : S → (List α → S → Option R) → Option R} {n : Nat}
theorem ex_inT [DecidableEq α] (hr : Room k X.A) (q : Eqn Ea n) (ha : EX X ι Δ s a Ma Ea) (hb : ∀ s1, EX X ι Δ s1 b (Mb' s1) (Ty.tup Ea)) (hn : n ≤ 64 := by decide) (hm : behindInMarks .In b = false := by with_unfolding_all rfl) :
    EX X ι Δ s (.Compare a [.In] [b] pos) (fun k => Ma fun x s1 => Mb' s1 fun y s2 => k (decide (x ∈ y)) s2) Ty.bool := ex_cmpT (op_inR hr) (opD_in q hn _ (.inr fun _ => rfl) false) ha hb hm
theorem tx_inT [DecidableEq α] (hr : Room k X.A) (q : Eqn Ea n) (ha : EX X ι Δ s a Ma Ea) (hb : ∀ s1, EX X ι Δ s1 b (Mb' s1) (Ty.tup Ea)) (hn : n ≤ 64 := by decide) (hm : behindInMarks .In b = false := by with_unfolding_all rfl) :
    TX X ι Δ s (.Compare a [.In] [b] pos) (fun k => Ma fun x s1 => Mb' s1 fun y s2 => k (decide (x ∈ y)) s2) := tx_cmpT (op_inR hr) (opD_in q hn _ (.inr fun _ => rfl) false) ha hb hm
theorem ex_notInT [DecidableEq α] (hr : Room k X.A) (q : Eqn Ea n) (ha : EX X ι Δ s a Ma Ea) (hb : ∀ s1, EX X ι Δ s1 b (Mb' s1) (Ty.tup Ea)) (hn : n ≤ 64 := by decide) (hm : behindInMarks .NotIn b = false := by with_unfolding_all rfl) :
    EX X ι Δ s (.Compare a [.NotIn] [b] pos) (fun k => Ma fun x s1 => Mb' s1 fun y s2 => k (!decide (x ∈ y)) s2) Ty.bool := ex_cmpT (op_notInR hr) (opD_in q hn _ (.inr fun _ => rfl) true) ha hb hm
theorem tx_notInT [DecidableEq α] (hr : Room k X.A) (q : Eqn Ea n) (ha : EX X ι Δ s a Ma Ea) (hb : ∀ s1, EX X ι Δ s1 b (Mb' s1) (Ty.tup Ea)) (hn : n ≤ 64 := by decide) (hm : behindInMarks .NotIn b = false := by with_unfolding_all rfl) :
    TX X ι Δ s (.Compare a [.NotIn] [b] pos) (fun k => Ma fun x s1 => Mb' s1 fun y s2 => k (!decide (x ∈ y)) s2) := tx_cmpT (op_notInR hr) (opD_in q hn _ (.inr fun _ => rfl) true) ha hb hm
theorem ex_inL [DecidableEq α] (hr : Room k X.A) (q : Eqn Ea n) (ha : EX X ι Δ s a Ma Ea) (hb : ∀ s1, EX X ι Δ s1 b (Mb' s1) (Ty.lst Ea)) (hn : n ≤ 64 := by decide) (hm : behindInMarks .In b = false := by with_unfolding_all rfl) :
    EX X ι Δ s (.Compare a [.In] [b] pos) (fun k => Ma fun x s1 => Mb' s1 fun y s2 => k (decide (x ∈ y)) s2) Ty.bool := ex_cmpT (op_inR hr) (opD_in q hn _ (.inl fun _ => rfl) false) ha hb hm
theorem tx_inL [DecidableEq α] (hr : Room k X.A) (q : Eqn Ea n) (ha : EX X ι Δ s a Ma Ea) (hb : ∀ s1, EX X ι Δ s1 b (Mb' s1) (Ty.lst Ea)) (hn : n ≤ 64 := by decide) (hm : behindInMarks .In b = false := by with_unfolding_all rfl) :
    TX X ι Δ s (.Compare a [.In] [b] pos) (fun k => Ma fun x s1 => Mb' s1 fun y s2 => k (decide (x ∈ y)) s2) := tx_cmpT (op_inR hr) (opD_in q hn _ (.inl fun _ => rfl) false) ha hb hm
theorem ex_notInL [DecidableEq α] (hr : Room k X.A) (q : Eqn Ea n) (ha : EX X ι Δ s a Ma Ea) (hb : ∀ s1, EX X ι Δ s1 b (Mb' s1) (Ty.lst Ea)) (hn : n ≤ 64 := by decide) (hm : behindInMarks .NotIn b = false := by with_unfolding_all rfl) :
    EX X ι Δ s (.Compare a [.NotIn] [b] pos) (fun k => Ma fun x s1 => Mb' s1 fun y s2 => k (!decide (x ∈ y)) s2) Ty.bool := ex_cmpT (op_notInR hr) (opD_in q hn _ (.inl fun _ => rfl) true) ha hb hm
theorem tx_notInL [DecidableEq α] (hr : Room k X.A) (q : Eqn Ea n) (ha : EX X ι Δ s a Ma Ea) (hb : ∀ s1, EX X ι Δ s1 b (Mb' s1) (Ty.lst Ea)) (hn : n ≤ 64 := by decide) (hm : behindInMarks .NotIn b = false := by with_unfolding_all rfl) :
    TX X ι Δ s (.Compare a [.NotIn] [b] pos) (fun k => Ma fun x s1 => Mb' s1 fun y s2 => k (!decide (x ∈ y)) s2) := tx_cmpT (op_notInR hr) (opD_in q hn _ (.inl fun _ => rfl) true) ha hb hm
end
/-! ### and, or, not -/
def tW (X : Cx) (e : Expr) : TT := fun σ H Q => ∀ whole pins s, Inv X pins σ H s → wpAny (model X.prog X.w) X.A (isTrue e X.env whole) (TP X pins σ Q) X.xe s
theorem pW (X : Cx) (e : Expr) : PW X e (tW X e) := ⟨fun wh pins s _ _ _ I h => h wh pins s I⟩
theorem tW_of {t : TT} (p : PW X e t) {σ : L2.St} {H : Hp} {Q : Bool → Hp → Prop} (h : t σ H Q) : tW X e σ H Q := fun wh pins s I => p.run wh pins s σ H Q I h
/-- a chain of and, or -/
def WX (X : Cx) {S : Type} (ι : Io S) (Δ : Dl) (s : S) (e : Expr) {R : Type} (M : (Bool → S → Option R) → Option R) : Prop :=
  ∀ k r, M k = some r → ∀ (σ : L2.St) (H Hf : Hp) (A : Nat → List Addr) (Q : Bool → Hp → Prop), Sat X.K σ H Hf (ι.tr s ++ Δ) A →
    (∀ x s', k x s' = some r → ∀ H' Hf', Sat X.K σ H' Hf' (ι.tr s' ++ Δ) A → ExtA ι.ix A H Hf H' Hf' → Q x H') → tW X e σ H Q
section
variable {Ta : (Bool → S → Option R) → Option R} {rest : List Expr}
theorem WX.tx {T : (Bool → S → Option R) → Option R} (h : WX X ι Δ s e T) : TX X ι Δ s e T := fun k r hk σ H Hf A Q st q => tT_of (pW X e).pt (h k r hk σ H Hf A Q st q)
theorem wx_and1 (h : TX X ι Δ s a Ta) : WX X ι Δ s (.BoolOp .And [a] pos) Ta := fun k r hk σ H Hf A Q st q => tW_of (pw_and1 (pT X a)) (h k r hk σ H Hf A Q st q)
theorem wx_or1 (h : TX X ι Δ s a Ta) : WX X ι Δ s (.BoolOp .Or [a] pos) Ta := fun k r hk σ H Hf A Q st q => tW_of (pw_or1 (pT X a)) (h k r hk σ H Hf A Q st q)
/-- the rest never fails and touches no state -/
theorem wx_andT {y : Bool} (ha : TX X ι Δ s a Ta) (hb : ∀ s1, WX X ι Δ s1 (.BoolOp .And (b :: rest) pos) (R := R) (fun k => k y s1)) : WX X ι Δ s (.BoolOp .And (a :: b :: rest) pos) (fun k => Ta fun x s1 => k (x && y) s1) := by
  intro k r hk σ H Hf A Q st q
  refine tW_of (pw_and (pT X a) (pW X _)) (ha _ r hk σ H Hf A _ st fun x s1 hx H1 Hf1 st1 e1 => ?_)
  cases x with
  | false => rw [if_neg Bool.false_ne_true]; exact q false s1 hx H1 Hf1 st1 e1
  | true =>
    rw [if_pos rfl]
    exact hb s1 k r hx σ H1 Hf1 A Q st1 fun y' s2 hy H2 Hf2 st2 e2 => q y' s2 hy H2 Hf2 st2 (e1.trans e2)
theorem wx_orT {y : Bool} (ha : TX X ι Δ s a Ta) (hb : ∀ s1, WX X ι Δ s1 (.BoolOp .Or (b :: rest) pos) (R := R) (fun k => k y s1)) : WX X ι Δ s (.BoolOp .Or (a :: b :: rest) pos) (fun k => Ta fun x s1 => k (x || y) s1) := by
  intro k r hk σ H Hf A Q st q
  refine tW_of (pw_or (pT X a) (pW X _)) (ha _ r hk σ H Hf A _ st fun x s1 hx H1 Hf1 st1 e1 => ?_)
  cases x with
  | true => rw [if_pos rfl]; exact q true s1 hx H1 Hf1 st1 e1
  | false =>
    rw [if_neg Bool.false_ne_true]
    exact hb s1 k r hx σ H1 Hf1 A Q st1 fun y' s2 hy H2 Hf2 st2 e2 => q y' s2 hy H2 Hf2 st2 (e1.trans e2)
/-- in general -/
theorem wx_and {Tb : S → (Bool → S → Option (Bool × S)) → Option (Bool × S)} (ha : TX X ι Δ s a Ta) (hb : ∀ s1, WX X ι Δ s1 (.BoolOp .And (b :: rest) pos) (Tb s1)) :
    WX X ι Δ s (.BoolOp .And (a :: b :: rest) pos) (fun k => Ta fun x s1 => (if x = true then Tb s1 fun y s2 => some (y, s2) else some (false, s1)).bind fun p => k p.1 p.2) := by
  intro k r hk σ H Hf A Q st q
  refine tW_of (pw_and (pT X a) (pW X _)) (ha _ r hk σ H Hf A _ st fun x s1 hx H1 Hf1 st1 e1 => ?_)
  obtain ⟨p, h1, h2⟩ := bind_some hx
  cases x with
  | false =>
    rw [if_neg Bool.false_ne_true] at h1 ⊢
    cases h1
    exact q false s1 h2 H1 Hf1 st1 e1
  | true =>
    rw [if_pos rfl] at h1 ⊢
    exact hb s1 _ p h1 σ H1 Hf1 A Q st1 fun y' s2 hy H2 Hf2 st2 e2 => by
      cases hy
      exact q _ _ h2 H2 Hf2 st2 (e1.trans e2)
theorem wx_or {Tb : S → (Bool → S → Option (Bool × S)) → Option (Bool × S)} (ha : TX X ι Δ s a Ta) (hb : ∀ s1, WX X ι Δ s1 (.BoolOp .Or (b :: rest) pos) (Tb s1)) :
    WX X ι Δ s (.BoolOp .Or (a :: b :: rest) pos) (fun k => Ta fun x s1 => (if x = true then some (true, s1) else Tb s1 fun y s2 => some (y, s2)).bind fun p => k p.1 p.2) := by
  intro k r hk σ H Hf A Q st q
  refine tW_of (pw_or (pT X a) (pW X _)) (ha _ r hk σ H Hf A _ st fun x s1 hx H1 Hf1 st1 e1 => ?_)
  obtain ⟨p, h1, h2⟩ := bind_some hx
  cases x with
  | true =>
    rw [if_pos rfl] at h1 ⊢
    cases h1
    exact q true s1 h2 H1 Hf1 st1 e1
  | false =>
    rw [if_neg Bool.false_ne_true] at h1 ⊢
    exact hb s1 _ p h1 σ H1 Hf1 A Q st1 fun y' s2 hy H2 Hf2 st2 e2 => by
      cases hy
      exact q _ _ h2 H2 Hf2 st2 (e1.trans e2)
theorem tx_not (ha : TX X ι Δ s a Ta) : TX X ι Δ s (.UnaryOp .Not a pos) (fun k => Ta fun x s1 => k (!x) s1) := by
  intro k r hk σ H Hf A Q st q
  exact tT_of (pt_not (pT X a)) (ha _ r hk σ H Hf A _ st fun x s1 hx H1 Hf1 st1 e1 => q (!x) s1 hx H1 Hf1 st1 e1)
/-- a value that is a bool, as a test -/
theorem tx_val (ha : EX X ι Δ s a Ta Ty.bool) (he : ∀ whole, isTrue a X.env whole = (do let v ← whole; standAt a.pos; holding [v] (truthy v)) := by intro _; rfl) : TX X ι Δ s a Ta :=
  tx_of (pt_val (pE X a) he) ha
/-- a list's, a tuple's truth -/
theorem tx_lst {Ma : (List α → S → Option R) → Option R} (ha : EX X ι Δ s a Ma (Ty.lst Ea)) (he : ∀ whole, isTrue a X.env whole = (do let v ← whole; standAt a.pos; holding [v] (truthy v)) := by intro _; rfl) :
    TX X ι Δ s a (fun k => Ma fun x s1 => k (!x.isEmpty) s1) := by
  intro k r hk σ H Hf A Q st q
  refine tT_of (pt_truth (pE X a) he) (ha _ r hk σ H Hf A _ st fun x s1 hx v H1 Hf1 st1 e1 r1 => ?_)
  cases r1 with
  | @lst p vs _ hs hz ra =>
    refine ⟨_, .inl ⟨vs, (.inl (st1.sub.rd hs)), rfl⟩, ?_⟩
    have hl := ra.len
    have : (!vs.isEmpty) = !x.isEmpty := by cases vs <;> cases x <;> simp at hl ⊢
    rw [this]
    exact q _ s1 hx H1 Hf1 st1 e1
theorem tx_tup {Ma : (List α → S → Option R) → Option R} (ha : EX X ι Δ s a Ma (Ty.tup Ea)) (he : ∀ whole, isTrue a X.env whole = (do let v ← whole; standAt a.pos; holding [v] (truthy v)) := by intro _; rfl) :
    TX X ι Δ s a (fun k => Ma fun x s1 => k (!x.isEmpty) s1) := by
  intro k r hk σ H Hf A Q st q
  refine tT_of (pt_truth (pE X a) he) (ha _ r hk σ H Hf A _ st fun x s1 hx v H1 Hf1 st1 e1 r1 => ?_)
  cases r1 with
  | @tup p vs _ hs hz ra =>
    refine ⟨_, .inr (.inl ⟨vs, st1.sub.tup hs, rfl⟩), ?_⟩
    have hl := ra.len
    have : (!vs.isEmpty) = !x.isEmpty := by cases vs <;> cases x <;> simp at hl ⊢
    rw [this]
    exact q _ s1 hx H1 Hf1 st1 e1
/-- as values -/
theorem ex_not (ha : EX X ι Δ s a Ta Ty.bool) : EX X ι Δ s (.UnaryOp .Not a pos) (fun k => Ta fun x s1 => k (!x) s1) Ty.bool := by
  intro k r hk σ H Hf A Q st q
  refine tE_of (pe_not (pE X a)) (ha _ r hk σ H Hf A _ st fun x s1 hx v H1 Hf1 st1 e1 r1 => ?_)
  cases r1
  exact ⟨x, rfl, q _ s1 hx _ H1 Hf1 st1 e1 (.bl _)⟩
theorem ex_one {op : BoolOp} {E : α → D} (ha : EX X ι Δ s a Ma E) : EX X ι Δ s (.BoolOp op [a] pos) Ma E := fun k r hk σ H Hf A Q st q => tE_of (pe_one (pE X a)) (ha k r hk σ H Hf A Q st q)
theorem ex_andT {y : Bool} (ha : EX X ι Δ s a Ta Ty.bool) (hb : ∀ s1, EX X ι Δ s1 (.BoolOp .And (b :: rest) pos) (R := R) (fun k => k y s1) Ty.bool) : EX X ι Δ s (.BoolOp .And (a :: b :: rest) pos) (fun k => Ta fun x s1 => k (x && y) s1) Ty.bool := by
  intro k r hk σ H Hf A Q st q
  refine tE_of (pe_and (pE X a) (pE X _)) (ha _ r hk σ H Hf A _ st fun x s1 hx v H1 Hf1 st1 e1 r1 => ?_)
  cases r1
  refine ⟨x, rfl, ?_⟩
  cases x with
  | false => rw [if_neg Bool.false_ne_true]; exact q false s1 hx _ H1 Hf1 st1 e1 (.bl _)
  | true =>
    rw [if_pos rfl]
    exact hb s1 k r hx σ H1 Hf1 A Q st1 fun y' s2 hy v H2 Hf2 st2 e2 r2 => q y' s2 hy v H2 Hf2 st2 (e1.trans e2) r2
theorem ex_orT {y : Bool} (ha : EX X ι Δ s a Ta Ty.bool) (hb : ∀ s1, EX X ι Δ s1 (.BoolOp .Or (b :: rest) pos) (R := R) (fun k => k y s1) Ty.bool) : EX X ι Δ s (.BoolOp .Or (a :: b :: rest) pos) (fun k => Ta fun x s1 => k (x || y) s1) Ty.bool := by
  intro k r hk σ H Hf A Q st q
  refine tE_of (pe_or (pE X a) (pE X _)) (ha _ r hk σ H Hf A _ st fun x s1 hx v H1 Hf1 st1 e1 r1 => ?_)
  cases r1
  refine ⟨x, rfl, ?_⟩
  cases x with
  | true => rw [if_pos rfl]; exact q true s1 hx _ H1 Hf1 st1 e1 (.bl _)
  | false =>
    rw [if_neg Bool.false_ne_true]
    exact hb s1 k r hx σ H1 Hf1 A Q st1 fun y' s2 hy v H2 Hf2 st2 e2 r2 => q y' s2 hy v H2 Hf2 st2 (e1.trans e2) r2
theorem ex_and {Tb : S → (Bool → S → Option (Bool × S)) → Option (Bool × S)} (ha : EX X ι Δ s a Ta Ty.bool) (hb : ∀ s1, EX X ι Δ s1 (.BoolOp .And (b :: rest) pos) (Tb s1) Ty.bool) :
    EX X ι Δ s (.BoolOp .And (a :: b :: rest) pos) (fun k => Ta fun x s1 => (if x = true then Tb s1 fun y s2 => some (y, s2) else some (false, s1)).bind fun p => k p.1 p.2) Ty.bool := by
  intro k r hk σ H Hf A Q st q
  refine tE_of (pe_and (pE X a) (pE X _)) (ha _ r hk σ H Hf A _ st fun x s1 hx v H1 Hf1 st1 e1 r1 => ?_)
  cases r1
  refine ⟨x, rfl, ?_⟩
  obtain ⟨p, h1, h2⟩ := bind_some hx
  cases x with
  | false =>
    rw [if_neg Bool.false_ne_true] at h1 ⊢
    cases h1
    exact q false s1 h2 _ H1 Hf1 st1 e1 (.bl _)
  | true =>
    rw [if_pos rfl] at h1 ⊢
    exact hb s1 _ p h1 σ H1 Hf1 A Q st1 fun y' s2 hy v H2 Hf2 st2 e2 r2 => by
      cases hy
      exact q _ _ h2 v H2 Hf2 st2 (e1.trans e2) r2
theorem ex_or {Tb : S → (Bool → S → Option (Bool × S)) → Option (Bool × S)} (ha : EX X ι Δ s a Ta Ty.bool) (hb : ∀ s1, EX X ι Δ s1 (.BoolOp .Or (b :: rest) pos) (Tb s1) Ty.bool) :
    EX X ι Δ s (.BoolOp .Or (a :: b :: rest) pos) (fun k => Ta fun x s1 => (if x = true then some (true, s1) else Tb s1 fun y s2 => some (y, s2)).bind fun p => k p.1 p.2) Ty.bool := by
  intro k r hk σ H Hf A Q st q
  refine tE_of (pe_or (pE X a) (pE X _)) (ha _ r hk σ H Hf A _ st fun x s1 hx v H1 Hf1 st1 e1 r1 => ?_)
  cases r1
  refine ⟨x, rfl, ?_⟩
  obtain ⟨p, h1, h2⟩ := bind_some hx
  cases x with
  | true =>
    rw [if_pos rfl] at h1 ⊢
    cases h1
    exact q true s1 h2 _ H1 Hf1 st1 e1 (.bl _)
  | false =>
    rw [if_neg Bool.false_ne_true] at h1 ⊢
    exact hb s1 _ p h1 σ H1 Hf1 A Q st1 fun y' s2 hy v H2 Hf2 st2 e2 r2 => by
      cases hy
      exact q _ _ h2 v H2 Hf2 st2 (e1.trans e2) r2
/-- a if c else b -/
theorem ex_ifT {E : α → D} {x y : α} (hc : TX X ι Δ s c Ta) (ha : ∀ s1, EX X ι Δ s1 a (R := R) (fun k => k x s1) E) (hb : ∀ s1, EX X ι Δ s1 b (R := R) (fun k => k y s1) E) :
    EX X ι Δ s (.IfExp c a b pos) (fun k => Ta fun z s1 => k (if z = true then x else y) s1) E := by
  intro k r hk σ H Hf A Q st q
  refine tE_of (pe_ifExp (pT X c) (pE X a) (pE X b)) (hc _ r hk σ H Hf A _ st fun z s1 hz H1 Hf1 st1 e1 => ?_)
  cases z with
  | true =>
    rw [if_pos rfl] at hz ⊢
    exact ha s1 k r hz σ H1 Hf1 A Q st1 fun y' s2 hy v H2 Hf2 st2 e2 r2 => q y' s2 hy v H2 Hf2 st2 (e1.trans e2) r2
  | false =>
    rw [if_neg Bool.false_ne_true] at hz ⊢
    exact hb s1 k r hz σ H1 Hf1 A Q st1 fun y' s2 hy v H2 Hf2 st2 e2 r2 => q y' s2 hy v H2 Hf2 st2 (e1.trans e2) r2
theorem ex_if {E : α → D} {Pa Pb : S → (α → S → Option (α × S)) → Option (α × S)} (hc : TX X ι Δ s c Ta) (ha : ∀ s1, EX X ι Δ s1 a (Pa s1) E) (hb : ∀ s1, EX X ι Δ s1 b (Pb s1) E) :
    EX X ι Δ s (.IfExp c a b pos) (fun k => Ta fun z s1 => (if z = true then Pa s1 fun x s2 => some (x, s2) else Pb s1 fun x s2 => some (x, s2)).bind fun p => k p.1 p.2) E := by
  intro k r hk σ H Hf A Q st q
  refine tE_of (pe_ifExp (pT X c) (pE X a) (pE X b)) (hc _ r hk σ H Hf A _ st fun z s1 hz H1 Hf1 st1 e1 => ?_)
  obtain ⟨p, h1, h2⟩ := bind_some hz
  cases z with
  | true =>
    rw [if_pos rfl] at h1 ⊢
    exact ha s1 _ p h1 σ H1 Hf1 A Q st1 fun y' s2 hy v H2 Hf2 st2 e2 r2 => by
      cases hy
      exact q _ _ h2 v H2 Hf2 st2 (e1.trans e2) r2
  | false =>
    rw [if_neg Bool.false_ne_true] at h1 ⊢
    exact hb s1 _ p h1 σ H1 Hf1 A Q st1 fun y' s2 hy v H2 Hf2 st2 e2 r2 => by
      cases hy
      exact q _ _ h2 v H2 Hf2 st2 (e1.trans e2) r2
end
end
end Ab
namespace Ab
open PySem PySem.Spec PyProof.Rows L2
namespace Bo
theorem len : bootBuiltins "len" = some (.builtin "len") := by decide +kernel
theorem sorted : bootBuiltins "sorted" = some (.builtin "sorted") := by decide +kernel
theorem isinstance : bootBuiltins "isinstance" = some (.builtin "isinstance") := by decide +kernel
theorem sum : bootBuiltins "sum" = some (.builtin "sum") := by decide +kernel
theorem abs : bootBuiltins "abs" = some (.builtin "abs") := by decide +kernel
theorem max : bootBuiltins "max" = some (.builtin "max") := by decide +kernel
theorem min : bootBuiltins "min" = some (.builtin "min") := by decide +kernel
theorem any : bootBuiltins "any" = some (.builtin "any") := by decide +kernel
theorem all : bootBuiltins "all" = some (.builtin "all") := by decide +kernel
theorem int : bootBuiltins "int" = some (.type "int") := by decide +kernel
theorem bool : bootBuiltins "bool" = some (.type "bool") := by decide +kernel
theorem str : bootBuiltins "str" = some (.type "str") := by decide +kernel
theorem list : bootBuiltins "list" = some (.type "list") := by decide +kernel
theorem tuple : bootBuiltins "tuple" = some (.type "tuple") := by decide +kernel
end Bo
section
variable {X : Cx} {S : Type} {ι : Io S} {Δ : Dl} {s : S} {R : Type} {pos p : Pos} {a b c e : Expr} {k : Nat}
variable {α β γ : Type} {Ea : α → D} {Eb : β → D} {Ec : γ → D}
variable {Ma : (α → S → Option R) → Option R} {Mb : S → (β → S → Option R) → Option R}
/-! ### places -/
theorem atI_map {f : α → β} {xs : List α} {i : Int} {x : α} (h : atI xs i = some x) : atI (xs.map f) i = some (f x) := by
  unfold atI at h ⊢
  rw [List.length_map]
  cases e : ixN xs.length i with
  | none => rw [e] at h; cases h
  | some j =>
    rw [e] at h
    show (xs.map f)[j]? = _
    rw [List.getElem?_map, show xs[j]? = some x from h]
    rfl
theorem atI_rp {K : KF} {Hf : Hp} {vs : List V} {ds : List D} {i : Int} {d : D} (r : RpAll K Hf vs ds) (h : atI ds i = some d) : ∃ v, atI vs i = some v ∧ Rp K Hf v d := by
  unfold atI at h ⊢
  rw [r.len]
  cases e : ixN ds.length i with
  | none => rw [e] at h; cases h
  | some j =>
    rw [e] at h
    exact r.get (show ds[j]? = some d from h)
theorem ex_bindB {e : Expr} {t : R2} {G : α → β → Option γ} (he : PE X e (tOp t (tE X a) (tE X b))) (hg : ∀ (x : α) (y : β) (z : γ) (v w : V) (H Hf : Hp) (Q : VK), G x y = some z → Sub Hf H → Rp X.K Hf v (Ea x) → Rp X.K Hf w (Eb y) → (∀ u, Rp X.K Hf u (Ec z) → Q u H) → t v w H Q)
    (ha : EX X ι Δ s a Ma Ea) (hb : ∀ s1, EX X ι Δ s1 b (Mb s1) Eb) : EX X ι Δ s e (fun k => Ma fun x s1 => Mb s1 fun y s2 => (G x y).bind fun z => k z s2) Ec := by
  intro k r hk σ H Hf A Q st h
  refine tE_of he (ha _ r hk σ H Hf A _ st fun x s1 hx v H1 Hf1 st1 e1 r1 => ?_)
  refine hb s1 _ r hx σ H1 Hf1 A _ st1 fun y s2 hy w H2 Hf2 st2 e2 r2 => ?_
  obtain ⟨z, h1, h2⟩ := bind_some hy
  exact hg x y z v w H2 Hf2 Q h1 st2.sub (r1.up e2.grow) r2 fun u ru => h z s2 h2 u H2 Hf2 st2 (e1.trans e2) ru
/-- xs[i] of a list, of a tuple -/
theorem ex_ixL {Ml : (List α → S → Option R) → Option R} {Mi : S → (Int → S → Option R) → Option R} (ha : EX X ι Δ s a Ml (Ty.lst Ea)) (hb : ∀ s1, EX X ι Δ s1 b (Mi s1) Ty.int) (hs : PlainIx b := by exact fun _ _ => rfl) :
    EX X ι Δ s (.Subscript a b pos) (fun k => Ml fun x s1 => Mi s1 fun y s2 => (atI x y).bind fun z => k z s2) Ea := by
  refine ex_bindB (pe_ix L2.ix_list (pE X a) (pE X b) hs) (fun x y z v w H Hf Q hz sb rv rw' q => ?_) ha hb
  cases rw'
  cases rv with
  | @lst p vs _ hs hl ra =>
    obtain ⟨u, h1, h2⟩ := atI_rp ra (atI_map hz)
    exact ⟨p, vs, y, u, rfl, rfl, (.inl (sb.rd hs)), h1, q u h2⟩
theorem ex_ixT {Ml : (List α → S → Option R) → Option R} {Mi : S → (Int → S → Option R) → Option R} (ha : EX X ι Δ s a Ml (Ty.tup Ea)) (hb : ∀ s1, EX X ι Δ s1 b (Mi s1) Ty.int) (hs : PlainIx b := by exact fun _ _ => rfl) :
    EX X ι Δ s (.Subscript a b pos) (fun k => Ml fun x s1 => Mi s1 fun y s2 => (atI x y).bind fun z => k z s2) Ea := by
  refine ex_bindB (pe_ix L2.ix_tup (pE X a) (pE X b) hs) (fun x y z v w H Hf Q hz sb rv rw' q => ?_) ha hb
  cases rw'
  cases rv with
  | @tup p vs _ hs hl ra =>
    obtain ⟨u, h1, h2⟩ := atI_rp ra (atI_map hz)
    exact ⟨p, vs, y, u, rfl, rfl, sb.tup hs, h1, q u h2⟩
/-- the part of a tuple at a written place -/
theorem ex_prj {i : Int} (f : α → β) {F : α → List D} (hE : ∀ x, Ea x = .tuple (F x)) (hf : ∀ x, atI (F x) i = some (Eb (f x))) {j : Nat} {p' : Pos} (ha : EX X ι Δ s a Ma Ea) (hs : PlainIx (.Constant (.int i) j p') := by exact fun _ _ => rfl) :
    EX X ι Δ s (.Subscript a (.Constant (.int i) j p') pos) (fun k => Ma fun x s1 => k (f x) s1) Eb := by
  intro k r hk σ H Hf A Q st h
  refine tE_of (pe_ix L2.ix_tup (pE X a) pe_int hs) (ha _ r hk σ H Hf A _ st fun x s1 hx v H1 Hf1 st1 e1 r1 => ?_)
  rw [hE] at r1
  cases r1 with
  | @tup p vs _ hs hl ra =>
    obtain ⟨u, h1, h2⟩ := atI_rp ra (hf x)
    exact ⟨p, vs, i, u, rfl, rfl, st1.sub.tup hs, h1, h _ s1 hx u H1 Hf1 st1 e1 h2⟩
/-! slices -/
def sliceL {α : Type} (xs : List α) (lo hi : Option Int) : List α := (xs.drop (HT.sIx xs.length 0 lo)).take (HT.sIx xs.length xs.length hi - HT.sIx xs.length 0 lo)
theorem sliceL_rp {K : KF} {Hf : Hp} {vs : List V} {xs : List α} (lo hi : Option Int) (r : RpAll K Hf vs (xs.map Ea)) : RpAll K Hf (cutV vs lo hi) ((sliceL xs lo hi).map Ea) := by
  have hl := r.len
  rw [List.length_map] at hl
  unfold cutV sliceL
  rw [hl, List.map_take, List.map_drop]
  exact (r.drop _).take _
def tO (X : Cx) (e : Option Expr) : TO := fun σ H Q => ∀ pins s, Inv X pins σ H s → wpAny (model X.prog X.w) X.A (evalPart e X.env) (fun v s' => ∃ o H', Inv X pins σ H' s' ∧ IsPart v o ∧ Q o H') X.xe s
/-- a slice's bound -/
def OX (X : Cx) {S : Type} (ι : Io S) (Δ : Dl) (s : S) (e : Option Expr) {R : Type} (M : (Option Int → S → Option R) → Option R) : Prop :=
  ∀ k r, M k = some r → ∀ (σ : L2.St) (H Hf : Hp) (A : Nat → List Addr) (Q : Option Int → Hp → Prop), Sat X.K σ H Hf (ι.tr s ++ Δ) A →
    (∀ x s', k x s' = some r → ∀ H' Hf', Sat X.K σ H' Hf' (ι.tr s' ++ Δ) A → ExtA ι.ix A H Hf H' Hf' → Q x H') → ∃ t : TO, PO X e t ∧ t σ H Q
theorem ox_none : OX X ι Δ s none (R := R) (fun k => k none s) := fun k r hk σ H Hf A Q st q => ⟨_, po_none, q none s hk H Hf st (ExtA.refl _ _ _ _)⟩
theorem ox_some {M : (Int → S → Option R) → Option R} (h : EX X ι Δ s e M Ty.int) : OX X ι Δ s (some e) (fun k => M fun i s1 => k (some i) s1) := fun k r hk σ H Hf A Q st q =>
  ⟨_, po_some (pE X e), h _ r hk σ H Hf A _ st fun x s1 hx v H1 Hf1 st1 e1 r1 => by cases r1; exact ⟨x, rfl, q _ s1 hx H1 Hf1 st1 e1⟩⟩
end
section
variable {X : Cx} {S : Type} {ι : Io S} {Δ : Dl} {s : S} {R : Type} {pos p p2 : Pos} {a b c e : Expr} {k : Nat}
variable {α β γ : Type} {Ea : α → D} {Eb : β → D} {Ec : γ → D}
variable {Ma : (α → S → Option R) → Option R} {Mb : S → (β → S → Option R) → Option R}
/-- a bound is none, or an int -/
inductive Bd (X : Cx) {S : Type} (ι : Io S) (Δ : Dl) {R : Type} : Option Expr → (S → (Option Int → S → Option R) → Option R) → Prop
  | no : Bd X ι Δ none (fun s k => k none s)
  | is {e : Expr} {M : S → (Int → S → Option R) → Option R} (h : ∀ s, EX X ι Δ s e (M s) Ty.int) : Bd X ι Δ (some e) (fun s k => M s fun i s1 => k (some i) s1)
theorem Bd.po {o : Option Expr} {M : S → (Option Int → S → Option R) → Option R} (h : Bd X ι Δ o M) : ∃ t : TO, PO X o t ∧ ∀ (s : S) k r, M s k = some r → ∀ (σ : L2.St) (H Hf : Hp) (A : Nat → List Addr) (Q : Option Int → Hp → Prop), Sat X.K σ H Hf (ι.tr s ++ Δ) A →
    (∀ x s', k x s' = some r → ∀ H' Hf', Sat X.K σ H' Hf' (ι.tr s' ++ Δ) A → ExtA ι.ix A H Hf H' Hf' → Q x H') → t σ H Q := by
  cases h with
  | no => exact ⟨_, po_none, fun s k r hk σ H Hf A Q st q => q none s hk H Hf st (ExtA.refl _ _ _ _)⟩
  | is h => exact ⟨_, po_some (pE X _), fun s k r hk σ H Hf A Q st q => h s _ r hk σ H Hf A _ st fun x s1 hx v H1 Hf1 st1 e1 r1 => by cases r1; exact ⟨x, rfl, q _ s1 hx H1 Hf1 st1 e1⟩⟩
theorem ex_slL {lo hi : Option Expr} {Ml : (List α → S → Option R) → Option R} {Mlo Mhi : S → (Option Int → S → Option R) → Option R} (ha : EX X ι Δ s a Ml (Ty.lst Ea)) (hl : Bd X ι Δ lo Mlo) (hh : Bd X ι Δ hi Mhi) :
    EX X ι Δ s (.Subscript a (.Slice lo hi none p2) pos) (fun k => Ml fun x s1 => Mlo s1 fun i s2 => Mhi s2 fun j s3 => k (sliceL x i j) s3) (Ty.lst Ea) := by
  obtain ⟨tl, pl, ql⟩ := hl.po
  obtain ⟨th, ph, qh⟩ := hh.po
  intro k r hk σ H Hf A Q st h
  refine tE_of (pe_slice sl_list (pE X a) pl ph) (ha _ r hk σ H Hf A _ st fun x s1 hx v H1 Hf1 st1 e1 r1 => ?_)
  refine ql s1 _ r hx σ H1 Hf1 A _ st1 fun i s2 hx2 H2 Hf2 st2 e2 => ?_
  refine qh s2 _ r hx2 σ H2 Hf2 A _ st2 fun j s3 hx3 H3 Hf3 st3 e3 => ?_
  have r3 := r1.up (e2.grow.trans e3.grow)
  cases r3 with
  | @lst p vs _ hs hz ra =>
    refine ⟨p, vs, rfl, (.inl (st3.sub.rd hs)), fun q nq => ?_⟩
    have ex := Ext.new (o := .lst (cutV vs i j)) nq st3.sub
    exact h _ s3 hx3 _ _ _ (st3.up ex (Sub.new st3.sub)) ((e1.trans (e2.trans e3)).trans ex.toA) (.lst (.inl upd_same) (Nat.le_trans (cutV_length _ _ _) hz) ((sliceL_rp i j ra).up ex.grow))
theorem ex_slT {lo hi : Option Expr} {Ml : (List α → S → Option R) → Option R} {Mlo Mhi : S → (Option Int → S → Option R) → Option R} (ha : EX X ι Δ s a Ml (Ty.tup Ea)) (hl : Bd X ι Δ lo Mlo) (hh : Bd X ι Δ hi Mhi) :
    EX X ι Δ s (.Subscript a (.Slice lo hi none p2) pos) (fun k => Ml fun x s1 => Mlo s1 fun i s2 => Mhi s2 fun j s3 => k (sliceL x i j) s3) (Ty.tup Ea) := by
  obtain ⟨tl, pl, ql⟩ := hl.po
  obtain ⟨th, ph, qh⟩ := hh.po
  intro k r hk σ H Hf A Q st h
  refine tE_of (pe_slice sl_tupA (pE X a) pl ph) (ha _ r hk σ H Hf A _ st fun x s1 hx v H1 Hf1 st1 e1 r1 => ?_)
  refine ql s1 _ r hx σ H1 Hf1 A _ st1 fun i s2 hx2 H2 Hf2 st2 e2 => ?_
  refine qh s2 _ r hx2 σ H2 Hf2 A _ st2 fun j s3 hx3 H3 Hf3 st3 e3 => ?_
  have r3 := r1.up (e2.grow.trans e3.grow)
  cases r3 with
  | @tup p vs _ hs hz ra =>
    refine ⟨p, vs, rfl, st3.sub.tup hs, fun w => ?_, fun _ q nq => ?_⟩
    · refine h _ s3 hx3 _ H3 Hf3 st3 (e1.trans (e2.trans e3)) ?_
      have hl := ra.len
      rw [List.length_map] at hl
      have e : sliceL x i j = x := by
        unfold sliceL
        rw [← hl, w.1, w.2, List.drop_zero, Nat.sub_zero, hl, List.take_length]
      rw [e]
      exact .tup hs hz ra
    · have ex := Ext.new (o := .tup (cutV vs i j)) nq st3.sub
      exact h _ s3 hx3 _ _ _ (st3.up ex (Sub.new st3.sub)) ((e1.trans (e2.trans e3)).trans ex.toA) (.tup (.inl (.inl upd_same)) (Nat.le_trans (cutV_length _ _ _) hz) ((sliceL_rp i j ra).up ex.grow))
/-- a slice of a tuple of unlike parts, told through a list of its parts -/
theorem ex_slP {lo hi : Option Int} {jl jh : Nat} {pl ph : Pos} {olo ohi : Option Expr} (f : α → β) {F : α → List D} (hE : ∀ x, Ea x = .tuple (F x)) (hf : ∀ x, Eb (f x) = .tuple (sliceL (F x) lo hi))
    (hl : PO X olo (fun _ H Q => Q lo H)) (hh : PO X ohi (fun _ H Q => Q hi H)) (ha : EX X ι Δ s a Ma Ea) : EX X ι Δ s (.Subscript a (.Slice olo ohi none p2) pos) (fun k => Ma fun x s1 => k (f x) s1) Eb := by
  intro k r hk σ H Hf A Q st h
  refine tE_of (pe_slice sl_tupA (pE X a) hl hh) (ha _ r hk σ H Hf A _ st fun x s1 hx v H1 Hf1 st1 e1 r1 => ?_)
  rw [hE] at r1
  cases r1 with
  | @tup p vs _ hs hz ra =>
    have e : RpAll X.K Hf1 (cutV vs lo hi) (sliceL (F x) lo hi) := by
      unfold cutV sliceL
      rw [ra.len]
      exact (ra.drop _).take _
    refine ⟨p, vs, rfl, st1.sub.tup hs, fun w => ?_, fun _ q nq => ?_⟩
    · refine h _ s1 hx _ H1 Hf1 st1 e1 ?_
      rw [hf]
      have hl := ra.len
      have e2 : sliceL (F x) lo hi = F x := by
        unfold sliceL
        rw [← hl, w.1, w.2, List.drop_zero, Nat.sub_zero, hl, List.take_length]
      rw [e2]
      exact .tup hs hz ra
    · have ex := Ext.new (o := .tup (cutV vs lo hi)) nq st1.sub
      refine h _ s1 hx _ _ _ (st1.up ex (Sub.new st1.sub)) (e1.trans ex.toA) ?_
      rw [hf]
      exact .tup (.inl (.inl upd_same)) (Nat.le_trans (cutV_length _ _ _) hz) (e.up ex.grow)
/-! ### displays -/
theorem ex_tupD {es : List Expr} {x1 : Nat} {M : (α → S → Option R) → Option R} {F : α → List D} (f : α → β) (hf : ∀ x, Eb (f x) = .tuple (F x)) (hn : ∀ x, (F x).length ≤ Line) (h : AX X ι Δ s es M F) : EX X ι Δ s (.Tuple es x1 pos) (fun k => M fun x s1 => k (f x) s1) Eb := by
  intro k r hk σ H Hf A Q st q
  refine tE_of (pe_tup (pA X es)) (h _ r hk σ H Hf A _ st fun x s1 hx vs H1 Hf1 st1 e1 r1 => ⟨le_line (r1.len ▸ hn x), fun p np => ?_⟩)
  have ex := Ext.new (o := .tup vs) np st1.sub
  refine q _ s1 hx _ _ _ (st1.up ex (Sub.new st1.sub)) (e1.trans ex.toA) ?_
  rw [hf]
  exact .tup (.inl (.inl upd_same)) (r1.len ▸ hn x) (r1.up ex.grow)
theorem ex_lstD {es : List Expr} {M : (α → S → Option R) → Option R} {F : α → List D} (f : α → List β) (hf : ∀ x, (f x).map Eb = F x) (hn : ∀ x, (F x).length ≤ Line) (h : AX X ι Δ s es M F) : EX X ι Δ s (.List es pos) (fun k => M fun x s1 => k (f x) s1) (Ty.lst Eb) := by
  intro k r hk σ H Hf A Q st q
  refine tE_of (pe_lst (pA X es)) (h _ r hk σ H Hf A _ st fun x s1 hx vs H1 Hf1 st1 e1 r1 => ⟨le_line (r1.len ▸ hn x), fun p np => ?_⟩)
  have ex := Ext.new (o := .lst vs) np st1.sub
  refine q _ s1 hx _ _ _ (st1.up ex (Sub.new st1.sub)) (e1.trans ex.toA) ?_
  show Rp X.K _ _ (.list ((f x).map Eb))
  rw [hf]
  exact .lst (.inl upd_same) (r1.len ▸ hn x) (r1.up ex.grow)
/-! ### built-ins -/
theorem ex_callB1 {id x : Str} {id' : String} {rr : List V → Hp → VK → Prop} {C : α → Prop} [∀ x, Decidable (C x)] {g : α → β} (hc : CallR X (.builtin id') rr) (hm : X.mg x = none) (hv : bootBuiltins x = some (.builtin id'))
    (hg : ∀ (y : α) (v : V) (H Hf : Hp) (Q : VK), C y → Sub Hf H → Rp X.K Hf v (Ea y) → (∀ u H' Hf', Ext H Hf H' Hf' → Sub Hf' H' → Rp X.K Hf' u (Eb (g y)) → Q u H') → rr [v] H Q) (ha : EX X ι Δ s a Ma Ea)
    (hgl : Gl X x := by rfl) (hn : x ≠ "__name__" := by decide) (hdb : (x == ("__debug__" : Str)) = false := by decide) (he : starEach [a] X.env = (false, eval a X.env) :: starEach [] X.env := by rfl) (hpl : (backTo pos (starEach [] X.env)).any (·.1) = false := by rfl) :
    EX X ι Δ s (.Call (.Name x p) [a] [] pos) (fun k => Ma fun y s1 => guardM (C y) (k (g y) s1)) Eb := by
  intro k r hk σ H Hf A Q st q
  refine tE_of (pe_callB hc hgl hm hv (pA X [a]) hn hdb he hpl) ?_
  refine ax_cons ha (fun s1 => ax_nil) he (fun pp s' => guardM (C pp.1) (k (g pp.1) s')) r hk σ H Hf A _ st fun y s1 hx vs H1 Hf1 st1 e1 r1 => ?_
  obtain ⟨v, rfl, rv⟩ := one_arg r1
  obtain ⟨c, hx⟩ := guardM_some hx
  exact hg y.1 v H1 Hf1 Q c st1.sub rv fun u H2 Hf2 e2 sb r2 => q _ s1 hx u H2 Hf2 (st1.up e2 sb) (e1.trans e2.toA) r2
theorem ex_callB1T {x : Str} {id' : String} {rr : List V → Hp → VK → Prop} {g : α → β} (hc : CallR X (.builtin id') rr) (hm : X.mg x = none) (hv : bootBuiltins x = some (.builtin id'))
    (hg : ∀ (y : α) (v : V) (H Hf : Hp) (Q : VK), Sub Hf H → Rp X.K Hf v (Ea y) → (∀ u H' Hf', Ext H Hf H' Hf' → Sub Hf' H' → Rp X.K Hf' u (Eb (g y)) → Q u H') → rr [v] H Q) (ha : EX X ι Δ s a Ma Ea)
    (hgl : Gl X x := by rfl) (hn : x ≠ "__name__" := by decide) (hdb : (x == ("__debug__" : Str)) = false := by decide) (he : starEach [a] X.env = (false, eval a X.env) :: starEach [] X.env := by rfl) (hpl : (backTo pos (starEach [] X.env)).any (·.1) = false := by rfl) :
    EX X ι Δ s (.Call (.Name x p) [a] [] pos) (fun k => Ma fun y s1 => k (g y) s1) Eb := by
  intro k r hk σ H Hf A Q st q
  refine tE_of (pe_callB hc hgl hm hv (pA X [a]) hn hdb he hpl) ?_
  refine ax_cons ha (fun s1 => ax_nil) he (fun pp s' => k (g pp.1) s') r hk σ H Hf A _ st fun y s1 hx vs H1 Hf1 st1 e1 r1 => ?_
  obtain ⟨v, rfl, rv⟩ := one_arg r1
  exact hg y.1 v H1 Hf1 Q st1.sub rv fun u H2 Hf2 e2 sb r2 => q _ s1 hx u H2 Hf2 (st1.up e2 sb) (e1.trans e2.toA) r2
theorem ex_callT1T {x : Str} {id' : String} {rr : List V → Hp → VK → Prop} {g : α → β} (hc : CallR X (.type id') rr) (hm : X.mg x = none) (hv : bootBuiltins x = some (.type id'))
    (hg : ∀ (y : α) (v : V) (H Hf : Hp) (Q : VK), Sub Hf H → Rp X.K Hf v (Ea y) → (∀ u H' Hf', Ext H Hf H' Hf' → Sub Hf' H' → Rp X.K Hf' u (Eb (g y)) → Q u H') → rr [v] H Q) (ha : EX X ι Δ s a Ma Ea)
    (hgl : Gl X x := by rfl) (hn : x ≠ "__name__" := by decide) (hdb : (x == ("__debug__" : Str)) = false := by decide) (he : starEach [a] X.env = (false, eval a X.env) :: starEach [] X.env := by rfl) (hpl : (backTo pos (starEach [] X.env)).any (·.1) = false := by rfl) :
    EX X ι Δ s (.Call (.Name x p) [a] [] pos) (fun k => Ma fun y s1 => k (g y) s1) Eb := by
  intro k r hk σ H Hf A Q st q
  refine tE_of (pe_callTy hc hgl hm hv (pA X [a]) hn hdb he hpl) ?_
  refine ax_cons ha (fun s1 => ax_nil) he (fun pp s' => k (g pp.1) s') r hk σ H Hf A _ st fun y s1 hx vs H1 Hf1 st1 e1 r1 => ?_
  obtain ⟨v, rfl, rv⟩ := one_arg r1
  exact hg y.1 v H1 Hf1 Q st1.sub rv fun u H2 Hf2 e2 sb r2 => q _ s1 hx u H2 Hf2 (st1.up e2 sb) (e1.trans e2.toA) r2
section
variable {Ml : (List α → S → Option R) → Option R} {Mi : (Int → S → Option R) → Option R} {Mbo : (Bool → S → Option R) → Option R}
variable (he : starEach [a] X.env = (false, eval a X.env) :: starEach [] X.env) (hgl : ∀ x : Str, Prop)
theorem ex_lenL (hm : X.mg "len" = none) (ha : EX X ι Δ s a Ml (Ty.lst Ea)) (hgl : Gl X "len" := by rfl) (he : starEach [a] X.env = (false, eval a X.env) :: starEach [] X.env := by rfl) :
    EX X ι Δ s (.Call (.Name "len" p) [a] [] pos) (fun k => Ml fun y s1 => k (y.length : Int) s1) Ty.int := by
  refine ex_callB1T call_len hm Bo.len (fun y v H Hf Q sb rv q => ?_) ha hgl (by decide) (by decide) he rfl
  cases rv with
  | @lst p vs _ hs hz ra =>
    have hl := ra.len
    rw [List.length_map] at hl
    exact ⟨_, y.length, rfl, .inl ⟨vs, (.inl (sb.rd hs)), hl.symm⟩, q _ H Hf (Ext.refl _ _) sb (.int _)⟩
theorem ex_lenT (hm : X.mg "len" = none) (ha : EX X ι Δ s a Ml (Ty.tup Ea)) (hgl : Gl X "len" := by rfl) (he : starEach [a] X.env = (false, eval a X.env) :: starEach [] X.env := by rfl) :
    EX X ι Δ s (.Call (.Name "len" p) [a] [] pos) (fun k => Ml fun y s1 => k (y.length : Int) s1) Ty.int := by
  refine ex_callB1T call_len hm Bo.len (fun y v H Hf Q sb rv q => ?_) ha hgl (by decide) (by decide) he rfl
  cases rv with
  | @tup p vs _ hs hz ra =>
    have hl := ra.len
    rw [List.length_map] at hl
    exact ⟨_, y.length, rfl, .inr ⟨vs, sb.tup hs, hl.symm⟩, q _ H Hf (Ext.refl _ _) sb (.int _)⟩
theorem ex_tupleL (hm : X.mg "tuple" = none) (ha : EX X ι Δ s a Ml (Ty.lst Ea)) (hgl : Gl X "tuple" := by rfl) (he : starEach [a] X.env = (false, eval a X.env) :: starEach [] X.env := by rfl) :
    EX X ι Δ s (.Call (.Name "tuple" p) [a] [] pos) (fun k => Ml fun y s1 => k y s1) (Ty.tup Ea) := by
  refine ex_callT1T (g := fun y => y) call_tuple_of hm Bo.tuple (fun y v H Hf Q sb rv q => ?_) ha hgl (by decide) (by decide) he rfl
  cases rv with
  | @lst p vs _ hs hz ra =>
    refine ⟨p, vs, rfl, .inl ⟨(.inl (sb.rd hs)), fun l nl => ?_⟩⟩
    have ex := Ext.new (o := .tup vs) nl sb
    exact q _ _ _ ex (Sub.new sb) (.tup (.inl (.inl upd_same)) hz (ra.up ex.grow))
theorem ex_tupleT (hm : X.mg "tuple" = none) (ha : EX X ι Δ s a Ml (Ty.tup Ea)) (hgl : Gl X "tuple" := by rfl) (he : starEach [a] X.env = (false, eval a X.env) :: starEach [] X.env := by rfl) :
    EX X ι Δ s (.Call (.Name "tuple" p) [a] [] pos) (fun k => Ml fun y s1 => k y s1) (Ty.tup Ea) := by
  refine ex_callT1T (g := fun y => y) call_tuple_of hm Bo.tuple (fun y v H Hf Q sb rv q => ?_) ha hgl (by decide) (by decide) he rfl
  cases rv with
  | @tup p vs _ hs hz ra =>
    exact ⟨p, vs, rfl, .inr ⟨sb.tup hs, q _ H Hf (Ext.refl _ _) sb (.tup hs hz ra)⟩⟩
theorem ex_listT (hm : X.mg "list" = none) (ha : EX X ι Δ s a Ml (Ty.tup Ea)) (hgl : Gl X "list" := by rfl) (he : starEach [a] X.env = (false, eval a X.env) :: starEach [] X.env := by rfl) :
    EX X ι Δ s (.Call (.Name "list" p) [a] [] pos) (fun k => Ml fun y s1 => k y s1) (Ty.lst Ea) := by
  refine ex_callT1T (g := fun y => y) call_list_of hm Bo.list (fun y v H Hf Q sb rv q => ?_) ha hgl (by decide) (by decide) he rfl
  cases rv with
  | @tup p vs _ hs hz ra =>
    refine ⟨p, vs, rfl, .inr (sb.tup hs), fun l nl => ?_⟩
    have ex := Ext.new (o := .lst vs) nl sb
    exact q _ _ _ ex (Sub.new sb) (.lst (.inl upd_same) hz (ra.up ex.grow))
theorem ex_listL (hm : X.mg "list" = none) (ha : EX X ι Δ s a Ml (Ty.lst Ea)) (hgl : Gl X "list" := by rfl) (he : starEach [a] X.env = (false, eval a X.env) :: starEach [] X.env := by rfl) :
    EX X ι Δ s (.Call (.Name "list" p) [a] [] pos) (fun k => Ml fun y s1 => k y s1) (Ty.lst Ea) := by
  refine ex_callT1T (g := fun y => y) call_list_of hm Bo.list (fun y v H Hf Q sb rv q => ?_) ha hgl (by decide) (by decide) he rfl
  cases rv with
  | @lst p vs _ hs hz ra =>
    refine ⟨p, vs, rfl, .inl ((.inl (sb.rd hs))), fun l nl => ?_⟩
    have ex := Ext.new (o := .lst vs) nl sb
    exact q _ _ _ ex (Sub.new sb) (.lst (.inl upd_same) hz (ra.up ex.grow))
def b2i (b : Bool) : Int := if b = true then 1 else 0
theorem ex_intB (hm : X.mg "int" = none) (ha : EX X ι Δ s a Mbo Ty.bool) (hgl : Gl X "int" := by rfl) (he : starEach [a] X.env = (false, eval a X.env) :: starEach [] X.env := by rfl) :
    EX X ι Δ s (.Call (.Name "int" p) [a] [] pos) (fun k => Mbo fun y s1 => k (b2i y) s1) Ty.int := by
  refine ex_callT1T (g := b2i) call_int1 hm Bo.int (fun y v H Hf Q sb rv q => ?_) ha hgl (by decide) (by decide) he rfl
  cases rv
  exact .inr ⟨y, rfl, q _ H Hf (Ext.refl _ _) sb (.int _)⟩
theorem ex_intI (hm : X.mg "int" = none) (ha : EX X ι Δ s a Mi Ty.int) (hgl : Gl X "int" := by rfl) (he : starEach [a] X.env = (false, eval a X.env) :: starEach [] X.env := by rfl) :
    EX X ι Δ s (.Call (.Name "int" p) [a] [] pos) (fun k => Mi fun y s1 => k y s1) Ty.int := by
  refine ex_callT1T (g := fun y => y) call_int1 hm Bo.int (fun y v H Hf Q sb rv q => ?_) ha hgl (by decide) (by decide) he rfl
  cases rv
  exact .inl ⟨y, rfl, q _ H Hf (Ext.refl _ _) sb (.int _)⟩
theorem ex_abs (hm : X.mg "abs" = none) (ha : EX X ι Δ s a Mi Ty.int) (hgl : Gl X "abs" := by rfl) (he : starEach [a] X.env = (false, eval a X.env) :: starEach [] X.env := by rfl) :
    EX X ι Δ s (.Call (.Name "abs" p) [a] [] pos) (fun k => Mi fun y s1 => k (y.natAbs : Int) s1) Ty.int := by
  refine ex_callB1T (g := fun y : Int => (y.natAbs : Int)) call_abs hm Bo.abs (fun y v H Hf Q sb rv q => ?_) ha hgl (by decide) (by decide) he rfl
  cases rv
  refine ⟨y, rfl, q _ H Hf (Ext.refl _ _) sb ?_⟩
  have e : (if y < 0 then -y else y) = (y.natAbs : Int) := by split <;> omega
  rw [e]
  exact .int _
/-- a list of ints, ascending -/
def insI (x : Int) : List Int → List Int
  | [] => [x]
  | y :: ys => if x ≤ y then x :: y :: ys else y :: insI x ys
def sortI : List Int → List Int
  | [] => []
  | x :: xs => insI x (sortI xs)
theorem insI_perm (x : Int) : ∀ ys, (insI x ys).Perm (x :: ys)
  | [] => .refl _
  | y :: ys => by
    unfold insI
    split
    · exact .refl _
    · exact ((insI_perm x ys).cons y).trans (.swap x y ys)
theorem sortI_perm : ∀ xs, (sortI xs).Perm xs
  | [] => .refl _
  | x :: xs => (insI_perm x _).trans ((sortI_perm xs).cons x)
theorem insI_sorted (x : Int) : ∀ ys : List Int, ys.Pairwise (· ≤ ·) → (insI x ys).Pairwise (· ≤ ·)
  | [], _ => by simp [insI]
  | y :: ys, h => by
    unfold insI
    obtain ⟨h1, h2⟩ := List.pairwise_cons.mp h
    split
    · rename_i hxy
      refine List.pairwise_cons.mpr ⟨fun z hz => ?_, h⟩
      rcases List.mem_cons.mp hz with rfl | hz
      · exact hxy
      · exact Int.le_trans hxy (h1 z hz)
    · rename_i hxy
      refine List.pairwise_cons.mpr ⟨fun z hz => ?_, insI_sorted x ys h2⟩
      rcases List.mem_cons.mp ((insI_perm x ys).mem_iff.mp hz) with rfl | hz
      · omega
      · exact h1 z hz
theorem sortI_sorted : ∀ xs, (sortI xs).Pairwise (· ≤ ·)
  | [] => .nil
  | x :: xs => insI_sorted x _ (sortI_sorted xs)
theorem sorted_unique : ∀ {xs ys : List Int}, xs.Perm ys → xs.Pairwise (· ≤ ·) → ys.Pairwise (· ≤ ·) → xs = ys
  | [], ys, h, _, _ => by rw [List.nil_perm] at h; exact h.symm
  | x :: xs, [], h, _, _ => by simp at h
  | x :: xs, y :: ys, h, h1, h2 => by
    obtain ⟨a1, a2⟩ := List.pairwise_cons.mp h1
    obtain ⟨b1, b2⟩ := List.pairwise_cons.mp h2
    have e : x = y := by
      have m1 : x ∈ y :: ys := h.mem_iff.mp List.mem_cons_self
      have m2 : y ∈ x :: xs := h.mem_iff.mpr List.mem_cons_self
      rcases List.mem_cons.mp m1 with e | m1
      · exact e
      · rcases List.mem_cons.mp m2 with e | m2
        · exact e.symm
        · have := b1 x m1
          have := a1 y m2
          omega
    subst e
    rw [sorted_unique (List.perm_cons x |>.mp h) a2 b2]
theorem ex_sortI (hm : X.mg "sorted" = none) {Mil : (List Int → S → Option R) → Option R} (ha : EX X ι Δ s a Mil (Ty.lst Ty.int)) (hgl : Gl X "sorted" := by rfl) (he : starEach [a] X.env = (false, eval a X.env) :: starEach [] X.env := by rfl) :
    EX X ι Δ s (.Call (.Name "sorted" p) [a] [] pos) (fun k => Mil fun y s1 => k (sortI y) s1) (Ty.lst Ty.int) := by
  refine ex_callB1T (g := sortI) cr_sortedI hm Bo.sorted (fun y v H Hf Q sb rv q => ?_) ha hgl (by decide) (by decide) he rfl
  cases rv with
  | @lst p vs _ hs hz ra =>
    have ev := ra.ints
    subst ev
    refine ⟨p, y, rfl, (.inl (sb.rd hs)), fun ns' l pm so nl => ?_⟩
    have e : ns' = sortI y := sorted_unique (pm.trans (sortI_perm y).symm) so (sortI_sorted y)
    subst e
    have ex := Ext.new (o := .lst ((sortI y).map V.int)) nl sb
    refine q _ _ _ ex (Sub.new sb) (.lst (.inl upd_same) ?_ (.ofInts _))
    rw [List.length_map] at hz ⊢
    rw [(sortI_perm y).length_eq]
    exact hz
theorem ex_sum (hc : X.calm = true) (hm : X.mg "sum" = none) {Mil : (List Int → S → Option R) → Option R} (ha : EX X ι Δ s a Mil (Ty.lst Ty.int)) (hgl : Gl X "sum" := by rfl) (he : starEach [a] X.env = (false, eval a X.env) :: starEach [] X.env := by rfl) :
    EX X ι Δ s (.Call (.Name "sum" p) [a] [] pos) (fun k => Mil fun y s1 => k y.sum s1) Ty.int := by
  refine ex_callB1T (g := List.sum) (cr_sum hc) hm Bo.sum (fun y v H Hf Q sb rv q => ?_) ha hgl (by decide) (by decide) he rfl
  cases rv with
  | @lst p vs _ hs hz ra =>
    have ev := ra.ints
    subst ev
    exact ⟨p, y, rfl, (.inl (sb.rd hs)), q _ H Hf (Ext.refl _ _) sb (.int _)⟩
end
/-! ### + of lists and tuples -/
def rCatS : R2 := fun x y H Q => ∃ l b xs zs, x = .ref l ∧ y = .ref b ∧ Rd H l (.lst xs) ∧ Rd H b (.lst zs) ∧ xs.length + zs.length ≤ sizeLine ∧ ∀ p, H p = none → Q (.ref p) (upd H p (.lst (xs ++ zs)))
theorem op_catS : OpR X (binaryOp .Add) rCatS := by
  intro pins s σ H x y v u Q I rx ry h
  obtain ⟨l, b, xs, zs, rfl, rfl, hH, hB, hz, q⟩ := h
  cases rx
  cases ry
  obtain ⟨z, its, n, r, e⟩ := hH.ok I.hok
  obtain ⟨z2, its2, n2, r2, e2⟩ := hB.ok I.hok
  refine PySem.P.add_list e e2 ?_ (by rw [List.size_toArray, List.size_toArray, ← r.length, ← r2.length]; exact hz)
  have ea : its.toArray ++ its2.toArray = (its ++ its2).toArray := by simp
  rw [ea]
  exact ⟨.ref _, _, I.lnew (t' := s.toks) (r.append r2) (by rw [List.length_append]; omega), rfl, q _ I.fresh⟩
section
variable {Ml : (List α → S → Option R) → Option R} {Ml2 : S → (List α → S → Option R) → Option R}
theorem ex_catL (ha : EX X ι Δ s a Ml (Ty.lst Ea)) (hb : ∀ s1, EX X ι Δ s1 b (Ml2 s1) (Ty.lst Ea)) : EX X ι Δ s (.BinOp a .Add b pos) (fun k => Ml fun x s1 => Ml2 s1 fun y s2 => guardM (x.length + y.length ≤ Line) (k (x ++ y) s2)) (Ty.lst Ea) := by
  refine ex_binG (C := fun x y : List α => x.length + y.length ≤ Line) (g := fun x y => x ++ y) (pe_op op_catS (pE X a) (pE X b)) (fun x y v w H Hf Q c sb rv rw' q => ?_) ha hb
  cases rv with
  | @lst p vs _ hs hz ra =>
    cases rw' with
    | @lst p2 vs2 _ hs2 hz2 ra2 =>
      have h1 := ra.len
      have h2 := ra2.len
      rw [List.length_map] at h1 h2
      refine ⟨p, p2, vs, vs2, rfl, rfl, sb.rd hs, sb.rd hs2, le_line (by rw [h1, h2]; exact c), fun l nl => ?_⟩
      have ex := Ext.new (o := .lst (vs ++ vs2)) nl sb
      refine q _ _ _ ex (Sub.new sb) (.lst (.inl upd_same) (by rw [List.length_append, h1, h2]; exact c) ?_)
      rw [List.map_append]
      exact (ra.append ra2).up ex.grow
theorem ex_catT (ha : EX X ι Δ s a Ml (Ty.tup Ea)) (hb : ∀ s1, EX X ι Δ s1 b (Ml2 s1) (Ty.tup Ea)) : EX X ι Δ s (.BinOp a .Add b pos) (fun k => Ml fun x s1 => Ml2 s1 fun y s2 => guardM (x.length + y.length ≤ Line) (k (x ++ y) s2)) (Ty.tup Ea) := by
  refine ex_binG (C := fun x y : List α => x.length + y.length ≤ Line) (g := fun x y => x ++ y) (pe_op op_catA (pE X a) (pE X b)) (fun x y v w H Hf Q c sb rv rw' q => ?_) ha hb
  cases rv with
  | @tup p vs _ hs hz ra =>
    cases rw' with
    | @tup p2 vs2 _ hs2 hz2 ra2 =>
      have h1 := ra.len
      have h2 := ra2.len
      rw [List.length_map] at h1 h2
      refine ⟨p, p2, vs, vs2, rfl, rfl, sb.tup hs, sb.tup hs2, le_line (by rw [h1, h2]; exact c), fun e => ?_, fun _ e => ?_, fun _ _ l nl => ?_⟩
      · subst e
        cases x with
        | nil => exact q _ H Hf (Ext.refl _ _) sb (.tup hs2 hz2 ra2)
        | cons x xs => simp at h1
      · subst e
        cases y with
        | nil =>
          refine q _ H Hf (Ext.refl _ _) sb ?_
          show Rp X.K Hf (V.ref p) (.tuple ((x ++ []).map Ea))
          rw [List.append_nil]
          exact .tup hs hz ra
        | cons y ys => simp at h2
      · have ex := Ext.new (o := .tup (vs ++ vs2)) nl sb
        refine q _ _ _ ex (Sub.new sb) (.tup (.inl (.inl upd_same)) (by rw [List.length_append, h1, h2]; exact c) ?_)
        rw [List.map_append]
        exact (ra.append ra2).up ex.grow
end
/-! ### calls of pure defs -/
theorem ex_call {x : Str} {f : Addr} {fd : FuncData} {ps : List Str} {P C : Type} {argE : P → List D} {g : P → Option C} {E : C → D} {es : List Expr} {M : (P → S → Option R) → Option R} {e1 : Expr}
    (F : FnOk X.prog X.w X.K X.mg X.base CX0 k f fd ps (spP X.K argE g E)) (hr : Room k X.A) (hm : X.mg x = some (.ref f)) (hk : PySem.W.keepIn X.K (.ref f) = true) (hb : Binds X.K fd ps [])
    (ha : AX X ι Δ s (e1 :: es) M argE) (hg : Gl X x := by rfl) (hdb : (x == ("__debug__" : Str)) = false := by decide) (he : starEach (e1 :: es) X.env = (false, eval e1 X.env) :: starEach es X.env := by rfl) (hpl : (backTo pos (starEach es X.env)).any (·.1) = false := by rfl) :
    EX X ι Δ s (.Call (.Name x p) (e1 :: es) [] pos) (fun k => M fun y s1 => (g y).bind fun z => k z s1) E := by
  intro k r hk' σ H Hf A Q st q
  refine tE_of (pe_call F hr hg hm hk hb .nil pass0 (pA X _) hdb he hpl) (ha _ r hk' σ H Hf A _ st fun y s1 hx vs H1 Hf1 st1 e1 r1 => ?_)
  obtain ⟨z, h1, h2⟩ := bind_some hx
  rw [List.append_nil]
  exact ⟨y, z, Hf1, st1.sub, r1, h1, fun v H2 Hf2 sb ex rv => q z s1 h2 v H2 Hf2 (st1.up ex sb) (e1.trans ex.toA) rv⟩
/-! ### isinstance -/
/-- what type data of this kind has -/
def TyD (E : α → D) (t : String) : Prop := ∀ (K : KF) (H : Hp) (v : V) (x : α), Rp K H v (E x) → TyX K H v (.type t)
theorem tyd_int : TyD Ty.int "int" := fun K H v x r => by cases r; exact .base (.int x)
theorem tyd_bool : TyD Ty.bool "bool" := fun K H v x r => by cases r; exact .base (.bl x)
theorem tyd_str : TyD Ty.str "str" := fun K H v x r => by cases r; exact .base (.str x)
theorem tyd_lst : TyD (Ty.lst Ea) "list" := fun K H v x r => by
  cases r with
  | @lst p vs _ hs hz ra =>
    rcases hs with hs | ⟨o, hs⟩
    · exact .base (.lst hs)
    · exact .base (.frz hs)
theorem tyd_tup (F : α → List D) (h : ∀ x, Ea x = .tuple (F x)) : TyD Ea "tuple" := fun K H v x r => by
  rw [h] at r
  cases r with
  | @tup p vs _ hs hz ra =>
    rcases hs with (hs | ⟨o, hs⟩) | ⟨o, its, n, hk, hc, _⟩
    · exact .base (.tup hs)
    · exact .fTuple hs
    · exact .kTuple hk hc
/-- isinstance(x, T), T a built-in type: known -/
theorem ex_isi {t T : String} {Tn : Str} {r0 : Bool} {pT : Pos} (hm : X.mg "isinstance" = none) (hmT : X.mg Tn = none) (hT : bootBuiltins Tn = some (.type T)) (ty : TyD Ea t) (ha : EX X ι Δ s a Ma Ea) (hk : kitB t T = some r0 := by decide +kernel) (hgl : Gl X "isinstance" := by rfl) (hglT : Gl X Tn := by rfl)
    (hnT : Tn ≠ "__name__" := by decide) (hdT : (Tn == ("__debug__" : Str)) = false := by decide)
    (he : starEach (a :: [.Name Tn pT]) X.env = (false, eval a X.env) :: starEach [.Name Tn pT] X.env := by rfl) (he2 : starEach [.Name Tn pT] X.env = (false, eval (.Name Tn pT) X.env) :: starEach [] X.env := by rfl) (hpl : (backTo pos (starEach [.Name Tn pT] X.env)).any (·.1) = false := by rfl) :
    EX X ι Δ s (.Call (.Name "isinstance" p) [a, .Name Tn pT] [] pos) (fun k => Ma fun y s1 => k r0 s1) Ty.bool := by
  intro k r hk' σ H Hf A Q st q
  refine tE_of (pe_callB call_isi hgl hm Bo.isinstance (pa_cons (pE X a) (pa_cons (pe_bltn (v := .ty T) hglT hmT hT rfl hnT hdT) pa_nil he2) he) (by decide) (by decide) he hpl) ?_
  refine ha _ r hk' σ H Hf A _ st fun y s1 hx v H1 Hf1 st1 e1 r1 => ?_
  exact ⟨v, .ty T, _, _, r0, rfl, .ty T, ty X.K H1 v y (r1.up st1.sub), kit_ty hk, q r0 s1 hx _ H1 Hf1 st1 e1 (.bl r0)⟩
end
end Ab
namespace Ab
open PySem PySem.Spec PyProof.Rows L2
section
variable {X : Cx} {S : Type} {ι : Io S} {Δ : Dl} {s : S} {R : Type} {tg iter elt a b c e : Expr} {ifs : List Expr} {pos p : Pos} {scope : Scope} {k : Nat}
variable {α β : Type} {E : α → D} {F : β → D}
/-! ### comprehensions that touch no state and do not fail -/
theorem compM_map {g : α → β} (xs : List α) (s : S) : compM (fun x s1 => some (some (g x), s1)) xs s = some (xs.map g, s) := by
  rw [compM_total (g := fun x => some (g x)) (fun _ _ => rfl)]
  simp
theorem compM_filter {q : α → Bool} {g : α → β} (xs : List α) (s : S) : compM (fun x s1 => if q x = true then some (some (g x), s1) else some (none, s1)) xs s = some ((xs.filter q).map g, s) := by
  rw [compM_total (g := fun x => if q x = true then some (g x) else none) (fun x s => by split <;> rfl)]
  congr 2
  induction xs with
  | nil => rfl
  | cons x xs ih => by_cases h : q x = true <;> simp [h, ih]
theorem lo_compM {own : List (Str × Nat)} {ixs : List Nat} {bd : α → Dl} {Mi : (List α → S → Option R) → Option R} {g : α → β} (hN : X.N.Nodup)
    (hi : IX X ι Δ s tg iter Mi E)
    (hg : ∀ s0 H0 C cl fp, GX (X.blk s0 H0 scope (compEnvC scope cl C X.env) fp) ι tg ixs bd E)
    (he : ∀ s0 H0 C cl fp x s1, EX (X.blk s0 H0 scope (compEnvC scope cl C X.env) fp) ι (bd x ++ (forget (own.map (·.2)) ++ Δ)) s1 elt (R := Option β × S) (fun k => k (g x) s1) F)
    (ok : blkC X.N X.env.scope scope own = true := by kernel_rfl) (kx : List Nat := ixs) (hk1 : ∀ x, (bd x).map (·.1) = kx := by intro _; rfl) (hk2 : ∀ i ∈ kx, i ∈ own.map (·.2) := by decide) (hk3 : ∀ i ∈ ixs, i ∈ own.map (·.2) := by decide)
    (hx : ∀ i ∈ own.map (·.2), i ∉ ι.ix := by first | decide | exact of_decide_eq_true rfl) (hc : X.calm = true := by rfl) (hs : ∀ x, foldedSetIterable iter X.env x = pure x := by intro _; rfl) :
    LO X ι Δ s elt tg iter [] scope own (fun k => Mi fun xs s1 => k (xs.map g) s1) F :=
  (lo_comp (Mc := fun x s1 k => k true s1) (Me := fun x s1 k => k (g x) s1) hN hi hg (fun s0 H0 C cl fp x s1 => cx_nil) he ok kx hk1 hk2 hk3 hx hc hs).congr fun k => by
    congr 1; funext xs s1
    show k (xs.map g) s1 = (compM (fun x s1 => some (some (g x), s1)) xs s1).bind fun p => k p.1 p.2
    rw [compM_map]; rfl
theorem lo_compF {own : List (Str × Nat)} {ixs : List Nat} {bd : α → Dl} {Mi : (List α → S → Option R) → Option R} {g : α → β} {q : α → Bool} (hN : X.N.Nodup)
    (hi : IX X ι Δ s tg iter Mi E)
    (hg : ∀ s0 H0 C cl fp, GX (X.blk s0 H0 scope (compEnvC scope cl C X.env) fp) ι tg ixs bd E)
    (ht : ∀ s0 H0 C cl fp x s1, TX (X.blk s0 H0 scope (compEnvC scope cl C X.env) fp) ι (bd x ++ (forget (own.map (·.2)) ++ Δ)) s1 c (R := Option β × S) (fun k => k (q x) s1))
    (he : ∀ s0 H0 C cl fp x s1, EX (X.blk s0 H0 scope (compEnvC scope cl C X.env) fp) ι (bd x ++ (forget (own.map (·.2)) ++ Δ)) s1 elt (R := Option β × S) (fun k => k (g x) s1) F)
    (ok : blkC X.N X.env.scope scope own = true := by kernel_rfl) (kx : List Nat := ixs) (hk1 : ∀ x, (bd x).map (·.1) = kx := by intro _; rfl) (hk2 : ∀ i ∈ kx, i ∈ own.map (·.2) := by decide) (hk3 : ∀ i ∈ ixs, i ∈ own.map (·.2) := by decide)
    (hx : ∀ i ∈ own.map (·.2), i ∉ ι.ix := by first | decide | exact of_decide_eq_true rfl) (hc : X.calm = true := by rfl) (hs : ∀ x, foldedSetIterable iter X.env x = pure x := by intro _; rfl) :
    LO X ι Δ s elt tg iter [c] scope own (fun k => Mi fun xs s1 => k ((xs.filter q).map g) s1) F :=
  (lo_comp (Mc := fun x s1 k => k (q x) s1) (Me := fun x s1 k => k (g x) s1) hN hi hg (fun s0 H0 C cl fp x s1 => cx_one (ht s0 H0 C cl fp x s1)) he ok kx hk1 hk2 hk3 hx hc hs).congr fun k => by
    congr 1; funext xs s1
    show k ((xs.filter q).map g) s1 = (compM (fun x s1 => if q x = true then some (some (g x), s1) else some (none, s1)) xs s1).bind fun p => k p.1 p.2
    rw [compM_filter]; rfl
/-- .. whose element is the item itself -/
theorem lo_compI {own : List (Str × Nat)} {ixs : List Nat} {bd : α → Dl} {Mi : (List α → S → Option R) → Option R} {q : α → Bool} (hN : X.N.Nodup)
    (hi : IX X ι Δ s tg iter Mi E)
    (hg : ∀ s0 H0 C cl fp, GX (X.blk s0 H0 scope (compEnvC scope cl C X.env) fp) ι tg ixs bd E)
    (ht : ∀ s0 H0 C cl fp x s1, TX (X.blk s0 H0 scope (compEnvC scope cl C X.env) fp) ι (bd x ++ (forget (own.map (·.2)) ++ Δ)) s1 c (R := Option α × S) (fun k => k (q x) s1))
    (he : ∀ s0 H0 C cl fp x s1, EX (X.blk s0 H0 scope (compEnvC scope cl C X.env) fp) ι (bd x ++ (forget (own.map (·.2)) ++ Δ)) s1 elt (R := Option α × S) (fun k => k x s1) E)
    (ok : blkC X.N X.env.scope scope own = true := by kernel_rfl) (kx : List Nat := ixs) (hk1 : ∀ x, (bd x).map (·.1) = kx := by intro _; rfl) (hk2 : ∀ i ∈ kx, i ∈ own.map (·.2) := by decide) (hk3 : ∀ i ∈ ixs, i ∈ own.map (·.2) := by decide)
    (hx : ∀ i ∈ own.map (·.2), i ∉ ι.ix := by first | decide | exact of_decide_eq_true rfl) (hc : X.calm = true := by rfl) (hs : ∀ x, foldedSetIterable iter X.env x = pure x := by intro _; rfl) :
    LO X ι Δ s elt tg iter [c] scope own (fun k => Mi fun xs s1 => k (xs.filter q) s1) E :=
  (lo_compF (g := fun x => x) hN hi hg ht he ok kx hk1 hk2 hk3 hx hc hs).congr fun k => by
    congr 1; funext xs s1
    rw [List.map_id']
/-! ### new lists -/
theorem eo_lstD {es : List Expr} {M : (α → S → Option R) → Option R} {G : α → List D} (f : α → List β) (hf : ∀ x, (f x).map F = G x) (hn : ∀ x, (G x).length ≤ Line) (h : AX X ι Δ s es M G) : EO X ι Δ s (.List es pos) (fun k => M fun x s1 => k (f x) s1) F := by
  intro k r hk σ H Hf A Q st q
  refine tE_of (pe_lst (pA X es)) (h _ r hk σ H Hf A _ st fun x s1 hx vs H1 Hf1 st1 e1 r1 => ⟨le_line (r1.len ▸ hn x), fun l nl => ?_⟩)
  have ex := Ext.newO (o := .lst vs) (Hf := Hf1) nl
  exact q _ s1 hx l vs _ Hf1 (st1.up ex (Sub.newO nl st1.sub)) (e1.trans ex.toA) upd_same (r1.len ▸ hn x) (by rw [hf]; exact r1) (st1.sub.non nl) (none_back e1.there nl)
theorem eo_listG {Ml : (List α → S → Option R) → Option R} (G : List α → D) (hG : (∀ l, G l = .list (l.map E)) ∨ (∀ l, G l = .tuple (l.map E))) (hm : X.mg "list" = none) (ha : EX X ι Δ s a Ml G) (hgl : Gl X "list") (he : starEach [a] X.env = (false, eval a X.env) :: starEach [] X.env) :
    EO X ι Δ s (.Call (.Name "list" p) [a] [] pos) (fun k => Ml fun y s1 => k y s1) E := by
  intro k r hk σ H Hf A Q st q
  refine tE_of (pe_callTy call_list_of hgl hm Bo.list (pA X [a]) (by decide) (by decide) he rfl) ?_
  refine ax_cons ha (fun s1 => ax_nil) he (fun pp s' => k pp.1 s') r hk σ H Hf A _ st fun y s1 hx vs H1 Hf1 st1 e1 r1 => ?_
  obtain ⟨v, rfl, rv⟩ := one_arg r1
  rcases hG with hG | hG
  · rw [hG] at rv
    cases rv with
    | @lst p ws _ hs hz ra =>
      refine ⟨p, ws, rfl, .inl (.inl (st1.sub.rd hs)), fun l nl => ?_⟩
      have ex := Ext.newO (o := .lst ws) (Hf := Hf1) nl
      exact q _ s1 hx l ws _ Hf1 (st1.up ex (Sub.newO nl st1.sub)) (e1.trans ex.toA) upd_same hz ra (st1.sub.non nl) (none_back e1.there nl)
  · rw [hG] at rv
    cases rv with
    | @tup p ws _ hs hz ra =>
      refine ⟨p, ws, rfl, .inr (st1.sub.tup hs), fun l nl => ?_⟩
      have ex := Ext.newO (o := .lst ws) (Hf := Hf1) nl
      exact q _ s1 hx l ws _ Hf1 (st1.up ex (Sub.newO nl st1.sub)) (e1.trans ex.toA) upd_same hz ra (st1.sub.non nl) (none_back e1.there nl)
theorem eo_listL {Ml : (List α → S → Option R) → Option R} (hm : X.mg "list" = none) (ha : EX X ι Δ s a Ml (Ty.lst E)) (hgl : Gl X "list" := by rfl) (he : starEach [a] X.env = (false, eval a X.env) :: starEach [] X.env := by rfl) :
    EO X ι Δ s (.Call (.Name "list" p) [a] [] pos) (fun k => Ml fun y s1 => k y s1) E := eo_listG _ (.inl fun _ => rfl) hm ha hgl he
theorem eo_listT {Ml : (List α → S → Option R) → Option R} (hm : X.mg "list" = none) (ha : EX X ι Δ s a Ml (Ty.tup E)) (hgl : Gl X "list" := by rfl) (he : starEach [a] X.env = (false, eval a X.env) :: starEach [] X.env := by rfl) :
    EO X ι Δ s (.Call (.Name "list" p) [a] [] pos) (fun k => Ml fun y s1 => k y s1) E := eo_listG _ (.inr fun _ => rfl) hm ha hgl he
/-- [x] * n -/
theorem eo_rep {Ml : (List α → S → Option R) → Option R} {Mi : S → (Int → S → Option R) → Option R} (ha : EO X ι Δ s a Ml E) (hb : ∀ s1, EX X ι Δ s1 b (Mi s1) Ty.int) :
    EO X ι Δ s (.BinOp a .Mult b pos) (fun k => Ml fun xs s1 => Mi s1 fun n s2 => guardM (n.natAbs ≤ Line ∧ xs.length * n.toNat ≤ Line) (k (List.replicate n.toNat xs).flatten s2)) E := by
  intro k r hk σ H Hf A Q st q
  refine tE_of (pe_op op_rep (pE X a) (pE X b)) (ha _ r hk σ H Hf A _ st fun xs s1 hx l vs H1 Hf1 st1 e1 hl hz ra hn hf => ?_)
  have nA : ∀ i, l ∉ A i := fun i m => (st.own i l m).2 hf
  refine hb s1 _ r hx σ H1 Hf1 A _ st1 fun n s2 hy w H2 Hf2 st2 e2 r2 => ?_
  obtain ⟨c, hy⟩ := guardM_some hy
  have c1 : n.natAbs ≤ 16777216 := c.1
  have hlen := ra.len
  rw [List.length_map] at hlen
  cases r2
  refine ⟨l, n, vs, rfl, rfl, e2.keep _ _ (fun i _ => nA i) hl, by omega, by omega, le_line (by rw [hlen]; exact c.2), fun p np => ?_⟩
  have ex := Ext.newO (o := .lst (List.replicate n.toNat vs).flatten) (Hf := Hf2) np
  have rr : ∀ m, RpAll X.K Hf2 (List.replicate m vs).flatten ((List.replicate m xs).flatten.map E) := by
    intro m
    induction m with
    | zero => exact .nil
    | succ m ih =>
      rw [List.replicate_succ, List.replicate_succ, List.flatten_cons, List.flatten_cons, List.map_append]
      exact (ra.up e2.grow).append ih
  refine q _ s2 hy p _ _ Hf2 (st2.up ex (Sub.newO np st2.sub)) ((e1.trans e2).trans ex.toA) upd_same ?_ (rr _) (st2.sub.non np) (none_back (e1.trans e2).there np)
  rw [List.length_flatten, List.map_replicate, List.sum_replicate_nat, hlen, Nat.mul_comm]
  exact c.2
theorem lk_tail {i : Nat} {s1 : S} (hix : i ∉ ι.ix) : lk (ι.tr s ++ Δ) i = lk (ι.tr s1 ++ Δ) i := by
  rw [lk_append_out (by rw [ι.keys]; exact hix), lk_append_out (by rw [ι.keys]; exact hix)]
end
/-! ### statements -/
section
variable {X : Cx} {S : Type} {ι : Io S} {Δ : Dl} {s : S} {R : Type} {out : R → Out S} {rest : List Stmt} {pos pos' p : Pos} {α β : Type} {E : α → D} {F : β → D} {e c : Expr} {k : Nat}
/-- x = a new list -/
theorem bx_setO (i : Nat) {x : Str} {M : (List α → S → Option R) → Option R} {kk : List α → S → Option R} (hN : X.N.Nodup) (h : EO X ι Δ s e M E)
    (q : ∀ a s', BX X ι ((i, some (.lst (a.map E))) :: Δ) s' rest (kk a s') out) (hi : X.N[i]? = some x := by rfl) (hx : Loc X.env.scope x := by first | exact Or.inl rfl | exact Or.inr rfl)
    (hs : swapsWith e (some (.Name x pos')) pos.line X.env = pure false := by rfl) (hf : X.fn x = true ∨ X.env.scope.names.lookup x = some .local := by first | exact .inl rfl | exact .inr rfl) (hix : i ∉ ι.ix := by first | decide | exact of_decide_eq_true rfl) :
    BX X ι Δ s (.Assign [.Name x pos'] e pos :: rest) (M kk) out := by
  intro r hr σ H Hf A Dn st p
  refine tS_inv fun pins sh I => tS_cons (ps_set hN hi hx (pE X e) hs hf) (h _ r hr σ H Hf A _ st fun a s' ha l vs H' Hf' st' e' hl hz ra hn hfr => ?_)
  have hlen : i < σ.length := by rw [I.len]; exact (List.getElem?_eq_some_iff.mp hi).1
  have nA : ∀ j, l ∉ A j := fun j m => (st.own j l m).2 hfr
  refine q a s' r ha _ H' Hf' _ _ (st'.set (P := ι.tr s') (as := [l]) hlen (by rw [ι.keys]; exact hix) ⟨l, vs, rfl, rfl, hl, hz, ra⟩ (fun b hb => by
    have : b = l := by simpa using hb
    subst this
    exact ⟨hn, fun j _ => nA j⟩)) (p.step ⟨fun j hj => List.getElem?_set_ne (ne_mem hj hix).symm, fun a o m h => e'.keep a o (fun i _ => m i) h, e'.there, e'.grow, fun b hb => (e'.news b hb).elim .inl fun z => .inr (.inl z), fun j b hb => ?_, fun j hj => cut_ne (ne_mem hj hix)⟩)
  by_cases z : j = i
  · subst z
    rw [cut_self] at hb
    have : b = l := by simpa using hb
    subst this
    exact .inr hfr
  · rw [cut_ne z] at hb
    exact .inl ⟨j, hb, fun _ => rfl⟩
/-- x = [.. for ..] on one line, x a local -/
theorem bx_setLcO (i : Nat) {x : Str} {elt tg iter : Expr} {ifs : List Expr} {scope : Scope} {own : List (Str × Nat)} {p2 : Pos} {M : (List α → S → Option R) → Option R} {kk : List α → S → Option R} (h : LO X ι Δ s elt tg iter ifs scope own M E)
    (q : ∀ a s', BX X ι ((i, some (.lst (a.map E))) :: Δ) s' rest (kk a s') out) (hi : X.N[i]? = some x := by rfl) (hyl : X.env.scope.names.lookup x = some .local := by rfl)
    (hsw : swapsWith (.ListComp elt [⟨tg, iter, ifs, 0⟩] scope p2) (some (.Name x pos')) pos.line X.env = pure true := by exact sw_true rfl rfl rfl (by decide +kernel)) (hix : i ∉ ι.ix := by first | decide | exact of_decide_eq_true rfl) :
    BX X ι Δ s (.Assign [.Name x pos'] (.ListComp elt [⟨tg, iter, ifs, 0⟩] scope p2) pos :: rest) (M kk) out := by
  intro r hr σ H Hf A Dn st p
  refine tS_inv fun pins sh I => tS_cons (ps_setLc h.hc h.hN hi hyl hsw (pI X tg iter) h.ok (fun s0 H0 C cl fp => ⟨fun pins s _ _ _ u _ I r h => h s0 H0 C cl fp pins s u I r⟩)
    (fun s0 H0 C cl fp => ⟨fun pins s _ _ _ I h => h s0 H0 C cl fp pins s I⟩) (fun s0 H0 C cl fp => ⟨fun pins s _ _ _ I h => (h s0 H0 C cl fp).run pins s I⟩) h.hs) (h.read _ r hr σ H Hf A _ st fun a s' ha l vs H' Hf' st' e' hl hz ra hn hfr => ?_)
  have hlen : i < σ.length := by rw [I.len]; exact (List.getElem?_eq_some_iff.mp hi).1
  have nA : ∀ j, l ∉ A j := fun j m => (st.own j l m).2 hfr
  refine q a s' r ha _ H' Hf' _ _ (st'.set (P := ι.tr s') (as := [l]) hlen (by rw [ι.keys]; exact hix) ⟨l, vs, rfl, rfl, hl, hz, ra⟩ (fun b hb => by
    have : b = l := by simpa using hb
    subst this
    exact ⟨hn, fun j _ => nA j⟩)) (p.step ⟨fun j hj => List.getElem?_set_ne (ne_mem hj hix).symm, fun a o m h => e'.keep a o (fun i _ => m i) h, e'.there, e'.grow, fun b hb => (e'.news b hb).elim .inl fun z => .inr (.inl z), fun j b hb => ?_, fun j hj => cut_ne (ne_mem hj hix)⟩)
  by_cases z : j = i
  · subst z
    rw [cut_self] at hb
    have : b = l := by simpa using hb
    subst this
    exact .inr hfr
  · rw [cut_ne z] at hb
    exact .inl ⟨j, hb, fun _ => rfl⟩
theorem bx_setLc (i : Nat) {x : Str} {elt tg iter : Expr} {ifs : List Expr} {scope : Scope} {own : List (Str × Nat)} {p2 : Pos} {M : (List α → S → Option R) → Option R} {kk : List α → S → Option R} (h : LO X ι Δ s elt tg iter ifs scope own M E)
    (q : ∀ a s', BX X ι ((i, some (.imm (Ty.lst E a))) :: Δ) s' rest (kk a s') out) (hi : X.N[i]? = some x := by rfl) (hyl : X.env.scope.names.lookup x = some .local := by rfl)
    (hsw : swapsWith (.ListComp elt [⟨tg, iter, ifs, 0⟩] scope p2) (some (.Name x pos')) pos.line X.env = pure true := by exact sw_true rfl rfl rfl (by decide +kernel)) (hix : i ∉ ι.ix := by first | decide | exact of_decide_eq_true rfl) :
    BX X ι Δ s (.Assign [.Name x pos'] (.ListComp elt [⟨tg, iter, ifs, 0⟩] scope p2) pos :: rest) (M kk) out := by
  intro r hr σ H Hf A Dn st p
  refine tS_inv fun pins sh I => tS_cons (ps_setLc h.hc h.hN hi hyl hsw (pI X tg iter) h.ok (fun s0 H0 C cl fp => ⟨fun pins s _ _ _ u _ I r h => h s0 H0 C cl fp pins s u I r⟩)
    (fun s0 H0 C cl fp => ⟨fun pins s _ _ _ I h => h s0 H0 C cl fp pins s I⟩) (fun s0 H0 C cl fp => ⟨fun pins s _ _ _ I h => (h s0 H0 C cl fp).run pins s I⟩) h.hs) (h.read _ r hr σ H Hf A _ st fun a s' ha l vs H' Hf' st' e' hl hz ra hn hfr => ?_)
  have hlen : i < σ.length := by rw [I.len]; exact (List.getElem?_eq_some_iff.mp hi).1
  have nA : ∀ j, l ∉ A j := fun j m => (st.own j l m).2 hfr
  have gr : Sub Hf' (upd Hf' l (.lst vs)) := fun b u h => .self (by rw [upd_ne (ne_of_none h hn)]; exact h)
  have st2 := (st'.freeze hl hn nA).imm (P := ι.tr s') (d := Ty.lst E a) hlen (by rw [ι.keys]; exact hix) (.lst (.inl upd_same) hz (ra.up gr))
  have e2 : ExtA ι.ix A H Hf H' (upd Hf' l (.lst vs)) := ⟨e'.keep, e'.there, e'.grow.trans gr, fun b h => by
    by_cases z : b = l
    · subst z; exact .inr hfr
    · rw [upd_ne z] at h; exact e'.news b h⟩
  exact q a s' r ha _ H' _ _ _ st2 (p.step ((e2.stp ι.ix σ).trans (stp_cut hix)))
/-- an expression for itself -/
theorem bx_expr {M : (α → S → Option R) → Option R} {kk : S → Option R} (h : EX X ι Δ s e M E) (q : ∀ s', BX X ι Δ s' rest (kk s') out) (hs : swapsWith e none pos.line X.env = pure false := by rfl) :
    BX X ι Δ s (.Expr e pos :: rest) (M fun _ s' => kk s') out := by
  intro r hr σ H Hf A Dn st p
  exact tS_cons (ps_expr (pE X e) hs) (h _ r hr σ H Hf A _ st fun a s' ha v H' Hf' st' e' r' => q s' r ha σ H' Hf' A Dn st' (p.step (e'.stp _ _)))
/-- the slot's list is another now -/
theorem Sat.relst {K : KF} {σ : L2.St} {H Hf : Hp} {P Δ : Dl} {A : Nat → List Addr} {i : Nat} {l : Addr} {vs : List V} {ds : List D} (st : Sat K σ H Hf (P ++ Δ) A) (hP : i ∉ P.map (·.1)) (hA : A i = [l]) (hσ : σ[i]? = some (some (.ref l)))
    (hz : vs.length ≤ Line) (ra : RpAll K Hf vs ds) : Sat K σ (upd H l (.lst vs)) Hf (P ++ (i, some (.lst ds)) :: Δ) A where
  sub := fun a u e => by
    have : a ≠ l := fun z => by
      have := (st.own i l (by rw [hA]; simp)).1
      rw [z, this] at e; cases e
    exact (st.sub a u e).same (upd_ne this)
  slot := fun j T hj => by
    by_cases e : j = i
    · subst e
      rw [lk_append_out hP, lk_self] at hj
      cases hj
      exact ⟨_, fun _ => hσ, l, vs, rfl, hA, upd_same, hz, ra⟩
    · have hj' : lk (P ++ Δ) j = some T := by
        by_cases m : j ∈ P.map (·.1)
        · rw [lk_append_in (Δ' := Δ) m] at hj; exact hj
        · rw [lk_append_out m, lk_ne e] at hj; rw [lk_append_out m]; exact hj
      obtain ⟨w, h1, h2⟩ := st.slot j T hj'
      refine ⟨w, h1, h2.up (Sub.refl _) fun a ha u hu => ?_⟩
      have : a ≠ l := fun z => e (st.inj j i a ha (by rw [hA, z]; simp))
      exact .self (by rw [upd_ne this]; exact hu)
  own := fun j a ha => by
    refine ⟨(st.own j a ha).1, ?_⟩
    by_cases z : a = l
    · subst z; rw [upd_same]; simp
    · rw [upd_ne z]; exact (st.own j a ha).2
  inj := st.inj
theorem stp_poke {ix : List Nat} {σ : L2.St} {A : Nat → List Addr} {H Hf : Hp} {i : Nat} {l : Addr} {o : HO} (hA : l ∈ A i) : Stp ix σ A H Hf σ A (upd H l o) Hf where
  root := fun _ _ => rfl
  keep := fun a u m h => by
    have ne : a ≠ l := fun z => m i (by rw [z]; exact hA)
    exact .self (by rw [upd_ne ne]; exact h)
  there := fun a h => by
    by_cases z : a = l
    · subst z; rw [upd_same]; simp
    · rw [upd_ne z]; exact h
  grow := Sub.refl _
  news := fun a h => .inl h
  ownd := fun j a h => .inl ⟨j, h, fun _ => rfl⟩
  stay := fun _ _ => rfl
theorem Sat.lstAt {K : KF} {σ : L2.St} {H Hf : Hp} {Δ : Dl} {A : Nat → List Addr} {i : Nat} {ds : List D} (st : Sat K σ H Hf Δ A) (h : lk Δ i = some (.lst ds)) : ∃ l vs, σ[i]? = some (some (.ref l)) ∧ A i = [l] ∧ H l = some (.lst vs) ∧ vs.length ≤ Line ∧ RpAll K Hf vs ds := by
  obtain ⟨v, h1, a, xs, rfl, h2, h3, h4, h5⟩ := st.slotC i _ h
  exact ⟨a, xs, h1, h2, h3, h4, h5⟩
/-- xs.append(e), xs one's own -/
theorem bx_append (i : Nat) {x : Str} {l : List α} {apos cpos : Pos} {p1 : Pos} {M : (α → S → Option R) → Option R} {kk : List α → S → Option R} (hl : lk (ι.tr s ++ Δ) i = some (.lst (l.map E))) (h : EX X ι Δ s e M E)
    (q : ∀ a s', BX X ι ((i, some (.lst (a.map E))) :: Δ) s' rest (kk a s') out) (hN : X.N[i]? = some x := by rfl)
    (hv : Vis X.env.scope x := by first | exact Or.inl rfl | exact Or.inr (Or.inl rfl) | exact Or.inr (Or.inr rfl)) (hd : (x == ("__debug__" : Str)) = false := by decide) (hcd : (x == ("__classdict__" : Str)) = false := by decide) (hix : i ∉ ι.ix := by first | decide | exact of_decide_eq_true rfl)
    (he : starEach [e] X.env = (false, eval e X.env) :: starEach [] X.env := by rfl)
    (hpb : ∀ {t : TA} {to : TE}, PE X (.Name x p1) to → PA X [e] t → PE X (.Call (.Attribute (.Name x p1) "append" apos) [e] [] cpos) (tBM X.K "list" rAppend to t) := by
      intro _ _ ho ha; exact pe_bm PySem.F.plainAttrs_list PySem.F.slot_list_append PySem.F.type_list_append mt_append ho ha)
    (hs : swapsWith (.Call (.Attribute (.Name x p1) "append" apos) [e] [] cpos) none pos.line X.env = pure false := by rfl) :
    BX X ι Δ s (.Expr (.Call (.Attribute (.Name x p1) "append" apos) [e] [] cpos) pos :: rest) (M fun y s' => guardM (l.length < Line) (kk (l ++ [y]) s')) out := by
  intro r hr σ H Hf A Dn st p
  obtain ⟨a, vs, h1, h2, h3, h4, h5⟩ := st.lstAt hl
  refine tS_cons (ps_expr (hpb (pe_var hN hv hd hcd) (pA X [e])) hs) ?_
  refine ⟨_, h1, .inl ⟨rfl, _, .inl (.inl h3)⟩, ?_⟩
  refine ax_cons h (fun s1 => ax_nil) he (fun pp s' => guardM (l.length < Line) (kk (l ++ [pp.1]) s')) r hr σ H Hf A _ st fun y s1 hx ws H1 Hf1 st1 e1 r1 => ?_
  obtain ⟨v, rfl, rv⟩ := one_arg r1
  obtain ⟨c, hx⟩ := guardM_some hx
  rw [lk_tail (s1 := s1) hix] at hl
  obtain ⟨a', vs', g1, g2, g3, g4, g5⟩ := st1.lstAt hl
  rw [h1] at g1
  cases g1
  have hlen := g5.len
  rw [List.length_map] at hlen
  refine ⟨a, vs', v, rfl, rfl, g3, lt_line (by rw [hlen]; exact c), ?_⟩
  refine q _ s1 r hx σ _ Hf1 A Dn (st1.relst (P := ι.tr s1) (by rw [ι.keys]; exact hix) g2 h1 (by rw [List.length_append, hlen]; exact c) ?_) (p.step ((e1.stp _ _).trans (stp_poke (i := i) (by rw [g2]; simp))))
  rw [List.map_append]
  exact g5.append (.one rv)
/-- if: the first way never falls through -/
theorem bx_ifR {A : List Stmt} {Mc : (Bool → S → Option R) → Option R} {mA mB : S → Option R} (hc : TX X ι Δ s c Mc) (hA : ∀ s1, BX X ι Δ s1 A (mA s1) out) (hB : ∀ s1, BX X ι Δ s1 rest (mB s1) out)
    (hn : ∀ r Δ' s', out r ≠ .next Δ' s' := by intro _ _ _ h; nomatch h) : BX X ι Δ s (.If c A [] pos :: rest) (Mc fun z s1 => if z = true then mA s1 else mB s1) out := by
  intro r hr σ H Hf As Dn st p
  refine tS_cons (ps_if (pT X c) (pS X A) (pS X [])) (hc _ r hr σ H Hf As _ st fun z s1 hz H1 Hf1 st1 e1 => ?_)
  cases z with
  | true =>
    rw [if_pos rfl] at hz ⊢
    refine hA s1 r hz σ H1 Hf1 As _ st1 ?_
    have p' := p.step (e1.stp ι.ix _)
    cases ho : out r with
    | next Δ' s' => exact absurd ho (hn r Δ' s')
    | exc cl fs s' => rw [ho] at p'; exact p'
    | ret d s' => rw [ho] at p'; exact p'
    | brk Δ' s' => rw [ho] at p'; exact p'
    | cont Δ' s' => rw [ho] at p'; exact p'
  | false =>
    rw [if_neg Bool.false_ne_true] at hz ⊢
    exact tS_of pss_nil (hB s1 r hz σ H1 Hf1 As Dn st1 (p.step (e1.stp _ _)))
/-- if .. else: neither way falls through -/
theorem bx_ifRR {A B : List Stmt} {Mc : (Bool → S → Option R) → Option R} {mA mB : S → Option R} (hc : TX X ι Δ s c Mc) (hA : ∀ s1, BX X ι Δ s1 A (mA s1) out) (hB : ∀ s1, BX X ι Δ s1 B (mB s1) out)
    (hn : ∀ r Δ' s', out r ≠ .next Δ' s' := by intro _ _ _ h; nomatch h) : BX X ι Δ s (.If c A B pos :: rest) (Mc fun z s1 => if z = true then mA s1 else mB s1) out := by
  intro r hr σ H Hf As Dn st p
  refine tS_cons (ps_if (pT X c) (pS X A) (pS X B)) (hc _ r hr σ H Hf As _ st fun z s1 hz H1 Hf1 st1 e1 => ?_)
  have p' := p.step (e1.stp ι.ix _)
  cases z with
  | true =>
    rw [if_pos rfl] at hz ⊢
    refine hA s1 r hz σ H1 Hf1 As _ st1 ?_
    cases ho : out r with
    | next Δ' s' => exact absurd ho (hn r Δ' s')
    | exc cl fs s' => rw [ho] at p'; exact p'
    | ret d s' => rw [ho] at p'; exact p'
    | brk Δ' s' => rw [ho] at p'; exact p'
    | cont Δ' s' => rw [ho] at p'; exact p'
  | false =>
    rw [if_neg Bool.false_ne_true] at hz ⊢
    refine hB s1 r hz σ H1 Hf1 As _ st1 ?_
    cases ho : out r with
    | next Δ' s' => exact absurd ho (hn r Δ' s')
    | exc cl fs s' => rw [ho] at p'; exact p'
    | ret d s' => rw [ho] at p'; exact p'
    | brk Δ' s' => rw [ho] at p'; exact p'
    | cont Δ' s' => rw [ho] at p'; exact p'
/-- if, both ways fall through: they meet in W -/
theorem bx_if {A B : List Stmt} {W : Type} (Δw : W → Dl) (sw : W → S) {Mc : (Bool → S → Option R) → Option R} {mA mB : S → Option W} {K : W → Option R} (hc : TX X ι Δ s c Mc)
    (hA : ∀ s1, BX X ι Δ s1 A (mA s1) (fun w => .next (Δw w) (sw w))) (hB : ∀ s1, BX X ι Δ s1 B (mB s1) (fun w => .next (Δw w) (sw w))) (hK : ∀ w, BX X ι (Δw w) (sw w) rest (K w) out) :
    BX X ι Δ s (.If c A B pos :: rest) (Mc fun z s1 => (if z = true then mA s1 else mB s1).bind K) out := by
  intro r hr σ H Hf As Dn st p
  refine tS_cons (ps_if (pT X c) (pS X A) (pS X B)) (hc _ r hr σ H Hf As _ st fun z s1 hz H1 Hf1 st1 e1 => ?_)
  obtain ⟨w, h1, h2⟩ := bind_some hz
  have p' := p.step (e1.stp ι.ix _)
  cases z with
  | true =>
    rw [if_pos rfl] at h1 ⊢
    exact hA s1 w h1 σ H1 Hf1 As _ st1 fun σ2 H2 Hf2 A2 q1 q2 => hK w r h2 σ2 H2 Hf2 A2 Dn q1 (p'.step q2)
  | false =>
    rw [if_neg Bool.false_ne_true] at h1 ⊢
    exact hB s1 w h1 σ H1 Hf1 As _ st1 fun σ2 H2 Hf2 A2 q1 q2 => hK w r h2 σ2 H2 Hf2 A2 Dn q1 (p'.step q2)
/-- .. and neither fails -/
theorem bx_ifT {A B : List Stmt} {W : Type} (Δw : W → Dl) (sw : W → S) {Mc : (Bool → S → Option R) → Option R} {wA wB : S → W} {K : W → Option R} (hc : TX X ι Δ s c Mc)
    (hA : ∀ s1, BX X ι Δ s1 A (some (wA s1)) (fun w => .next (Δw w) (sw w))) (hB : ∀ s1, BX X ι Δ s1 B (some (wB s1)) (fun w => .next (Δw w) (sw w))) (hK : ∀ w, BX X ι (Δw w) (sw w) rest (K w) out) :
    BX X ι Δ s (.If c A B pos :: rest) (Mc fun z s1 => letM (if z = true then wA s1 else wB s1) K) out := by
  have h := bx_if (pos := pos) (out := out) Δw sw hc hA hB hK
  intro r hr
  refine h r ?_
  rw [← hr]
  congr 1
  funext z s1
  cases z <;> rfl
end
end Ab
namespace Ab
open PySem PySem.Spec PyProof.Rows L2
/-! ### a def that is handed a state to change -/
def spS (K : KF) {S P C : Type} (n : Nat) (ι : Io S) (argE : P → List D) (f : P → S → Option (C × S)) (E : C → D) : Sp := fun vs H Q _ =>
  ∃ (p : P) (s : S) (c : C) (s' : S) (Hf : Hp) (A : Nat → List Addr), Sat K (vs.map some) H Hf (ι.tr s ++ argD n (argE p)) A ∧ vs.length = n + (argE p).length ∧ (∀ i, i ∉ ι.ix → A i = []) ∧ f p s = some (c, s') ∧
    ∀ v H' Hf', Sat K (vs.map some) H' Hf' (ι.tr s') A → ExtA ι.ix A H Hf H' Hf' → Rp K Hf' v (E c) → Q v H'
theorem lk_key : ∀ {P : Dl} {i : Nat} {T : Tr}, lk P i = some T → i ∈ P.map (·.1)
  | [], _, _, h => by cases h
  | (j, U) :: P, i, T, h => by
    by_cases e : i = j
    · subst e; simp
    · rw [lk_ne e] at h
      simp only [List.map_cons, List.mem_cons]
      exact .inr (lk_key h)
theorem start_at {N : List Str} {vs : List V} {i : Nat} {v : V} (h : (vs.map some)[i]? = some (some v)) : (L2.start N vs)[i]? = some (some v) := by
  have hi : i < (vs.map some).length := (List.getElem?_eq_some_iff.mp h).1
  unfold L2.start
  rw [List.getElem?_append_left hi]
  exact h
theorem start_of {N : List Str} {vs : List V} {i : Nat} {v : V} (h : (L2.start N vs)[i]? = some (some v)) : (vs.map some)[i]? = some (some v) := by
  unfold L2.start at h
  by_cases hi : i < (vs.map some).length
  · rw [List.getElem?_append_left hi] at h; exact h
  · rw [List.getElem?_append_right (by omega), List.getElem?_replicate] at h
    split at h <;> cases h
section
variable {Pg : Program} {w : World} {K : KF} {mg : Str → Option Value} {base : Heap}
theorem fn_state {x qual : Str} {st : Stmt} {f : Addr} {fd : FuncData} {N ps : List Str} {k n : Nat} {S P C : Type} {ι : Io S} {argE : P → List D} {g : P → S → Option (C × S)} {E : C → D} (F : Fun K x qual st f fd) (Sc : FnScope N ps (defScope st))
    (len : ∀ p, n + (argE p).length = ps.length)
    (body : ∀ (p : P) (s : S) (cdv : Value) (A : Around) (outer : List Env) (sh : Shared) (H : Hp) (E' : XK), Room k (A.deeper (envOfC qual (defScope st) sh.heap.objs.size f cdv)) →
      BX (cxOf CX0 Pg w K mg base N qual (defScope st) f cdv A outer sh H E').nox ι (argD n (argE p)) s (defBody st) (g p s) (fun c => Out.ret (E c.1) c.2)) :
    FnOk Pg w K mg base CX0 (k + 1) f fd ps (spS K n ι argE g E) := by
  refine F.ok Sc (fun vs H Q E' h => ?_) (fun cdv A outer s H vs Q E' hr h => ?_)
  · obtain ⟨p, s, c, s', Hf, As, _, hl, _⟩ := h
    rw [hl, len p]
  · obtain ⟨p, st0, c, s', Hf, As, sat, hl, hA, hf, q⟩ := h
    refine ⟨_, pS _ _, ?_⟩
    have sat2 : Sat K (L2.start N vs) H Hf (ι.tr st0 ++ argD n (argE p)) As := ⟨sat.sub, fun i T hi => by
      obtain ⟨v, h1, h2⟩ := sat.slot i T hi
      exact ⟨v, fun n => start_at (h1 n), h2⟩, sat.own, sat.inj⟩
    refine body p st0 cdv A outer s H E' hr (c, s') hf _ H Hf As _ sat2 ?_
    intro v σ' H' Hf' A' h1 h2 h3
    refine q v H' Hf' ⟨h1.sub, fun i T hi => ?_, fun i a ha => ?_, sat.inj⟩ ⟨fun a o m h => h2.keep a o (fun i => by
        by_cases hk : i ∈ ι.ix
        · exact m i hk
        · rw [hA i hk]; simp) h, h2.there, h2.grow, fun a ha => ?_⟩ h3
    · have hk : i ∈ ι.ix := by rw [← ι.keys s']; exact lk_key hi
      obtain ⟨u, g1, g2⟩ := h1.slot i T hi
      rw [h2.root i hk] at g1
      rw [h2.stay i hk] at g2
      exact ⟨u, fun n => start_of (g1 n), g2⟩
    · by_cases hk : i ∈ ι.ix
      · exact h1.own i a (by rw [h2.stay i hk]; exact ha)
      · rw [hA i hk] at ha; simp at ha
    · rcases h2.news a ha with z | z | ⟨i, hi, z⟩
      · exact .inl z
      · exact .inr z
      · rw [hA i hi] at z; simp at z
end
theorem ext_keep_in {A : Nat → List Addr} {H Hf H' Hf' : Hp} {i0 : Nat} (inj : ∀ i j a, a ∈ A i → a ∈ A j → i = j) (e : ExtA [0] (fun j => if j = 0 then A i0 else []) H Hf H' Hf') {a : Addr} {o : HO} {j : Nat} (ha : a ∈ A j) (hj : j ≠ i0) (h : H a = some o) : KeepO o H' a :=
  e.keep a o (fun i _ hi => by
    by_cases z : i = 0
    · subst z
      have hi' : a ∈ A i0 := by simpa using hi
      exact hj (inj j i0 a ha hi')
    · simp [z] at hi) h
/-- the caller's state has, at i0, what the callee's has at 0 -/
structure Emb {S : Type} (ι : Io S) (i0 : Nat) (rt : S → Tr) : Prop where
  ix : i0 ∈ ι.ix
  at_ : ∀ s, lk (ι.tr s) i0 = some (rt s)
  oth : ∀ s s' j, j ≠ i0 → lk (ι.tr s) j = lk (ι.tr s') j
  nt : ∀ s, isTabs (rt s) = false
theorem Emb.app {S : Type} {ι : Io S} {i0 : Nat} {rt : S → Tr} (em : Emb ι i0 rt) (s : S) {Δ : Dl} : lk (ι.tr s ++ Δ) i0 = some (rt s) := by
  have m : i0 ∈ (ι.tr s).map (·.1) := by rw [ι.keys]; exact em.ix
  have := lk_append_in (Δ := Δ) (Δ' := []) m
  rw [this, List.append_nil]
  exact em.at_ s
theorem Emb.other {S : Type} {ι : Io S} {i0 : Nat} {rt : S → Tr} (em : Emb ι i0 rt) (s s' : S) {Δ : Dl} {j : Nat} (h : j ≠ i0) : lk (ι.tr s ++ Δ) j = lk (ι.tr s' ++ Δ) j := by
  by_cases m : j ∈ ι.ix
  · have m1 : j ∈ (ι.tr s).map (·.1) := by rw [ι.keys]; exact m
    have m2 : j ∈ (ι.tr s').map (·.1) := by rw [ι.keys]; exact m
    have e1 := lk_append_in (Δ := Δ) (Δ' := []) m1
    have e2 := lk_append_in (Δ := Δ) (Δ' := []) m2
    rw [e1, e2, List.append_nil, List.append_nil]
    exact em.oth s s' j h
  · rw [lk_append_out (by rw [ι.keys]; exact m), lk_append_out (by rw [ι.keys]; exact m)]
theorem emb1 {S : Type} {rt : S → Tr} (i : Nat) (nt : ∀ s, isTabs (rt s) = false) : Emb (io1 rt i) i rt where
  ix := by simp
  at_ := fun s => by show lk ((i, some (rt s)) :: []) i = _; rw [lk_self]
  oth := fun s s' j h => by show lk ((i, some (rt s)) :: []) j = lk ((i, some (rt s')) :: []) j; rw [lk_ne h, lk_ne h]
  nt := nt
section
variable {X : Cx} {S : Type} {rt : S → Tr} {Δ : Dl} {s : S} {R : Type} {pos p : Pos} {k : Nat}
/-- f(state, ..): the state is the frame's own, or what it was handed itself -/
theorem ex_callS0 {ι : Io S} {i0 : Nat} (em : Emb ι i0 rt) {x x0 : Str} {p0 : Pos} {f : Addr} {fd : FuncData} {ps : List Str} {P C : Type} {argE : P → List D} {g : P → S → Option (C × S)} {E : C → D} {es : List Expr} {M : (P → S → Option R) → Option R}
    (F : FnOk X.prog X.w X.K X.mg X.base CX0 k f fd ps (spS X.K 1 (io1 rt 0) argE g E)) (hr : Room k X.A) (hm : X.mg x = some (.ref f)) (hk : PySem.W.keepIn X.K (.ref f) = true) (hb : Binds X.K fd ps [])
    (ha : AX X ι Δ s es M argE) (hg : Gl X x := by rfl) (hdb : (x == ("__debug__" : Str)) = false := by decide)
    (hN : X.N[i0]? = some x0 := by rfl) (hv : Vis X.env.scope x0 := by first | exact Or.inl rfl | exact Or.inr (Or.inl rfl) | exact Or.inr (Or.inr rfl)) (hd : (x0 == ("__debug__" : Str)) = false := by decide) (hcd : (x0 == ("__classdict__" : Str)) = false := by decide)
    (he : starEach (.Name x0 p0 :: es) X.env = (false, eval (.Name x0 p0) X.env) :: starEach es X.env := by rfl) (hpl : (backTo pos (starEach es X.env)).any (·.1) = false := by rfl) :
    EX X ι Δ s (.Call (.Name x p) (.Name x0 p0 :: es) [] pos) (fun k => M fun y s1 => (g y s1).bind fun z => k z.1 z.2) E := by
  intro kk r hk' σ H Hf A Q st q
  refine tE_of (pe_call F hr hg hm hk hb .nil pass0 (pa_cons (pe_var hN hv hd hcd) (pA X es) he) hdb he hpl) ?_
  obtain ⟨w0, hw0, hh0⟩ := st.slotC i0 (rt s) (em.app s) (em.nt s)
  refine ⟨w0, hw0, ?_⟩
  refine ha _ r hk' σ H Hf A _ st fun y s1 hx vs H1 Hf1 st1 e1 r1 => ?_
  obtain ⟨⟨c, s2⟩, h1, h2⟩ := bind_some hx
  rw [List.append_nil]
  obtain ⟨w1, hw1, hh1⟩ := st1.slotC i0 (rt s1) (em.app s1) (em.nt s1)
  rw [hw0] at hw1
  cases hw1
  refine ⟨y, s1, c, s2, Hf1, fun j => if j = 0 then A i0 else [], ⟨st1.sub, fun j T hj => ?_, fun j a ha => ?_, fun i j a hi hj => ?_⟩, ?_, fun i hi => ?_, h1, fun v H2 Hf2 sat ex rv => ?_⟩
  · by_cases z : j = 0
    · subst z
      have hj' : lk ((0, some (rt s1)) :: argD 1 (argE y)) 0 = some T := hj
      rw [lk_self] at hj'
      cases hj'
      exact ⟨w0, fun _ => rfl, by simpa using hh1⟩
    · have hj' : lk ((0, some (rt s1)) :: argD 1 (argE y)) j = some T := hj
      rw [lk_ne z] at hj'
      obtain ⟨hle, d, hd', rfl⟩ := lk_argD _ 1 j T hj'
      obtain ⟨u, hu1, hu2⟩ := r1.get hd'
      refine ⟨u, fun _ => ?_, ?_⟩
      · have e : j = (j - 1) + 1 := by omega
        rw [e, List.map_cons, List.getElem?_cons_succ, List.getElem?_map, hu1]
        rfl
      · rw [if_neg z]; exact ⟨rfl, hu2⟩
  · by_cases z : j = 0
    · subst z
      exact st1.own i0 a (by simpa using ha)
    · simp [z] at ha
  · by_cases z : i = 0 <;> by_cases z2 : j = 0
    · rw [z, z2]
    · simp [z2] at hj
    · simp [z] at hi
    · simp [z] at hi
  · rw [List.length_cons, r1.len, Nat.add_comm]
  · have : i ≠ 0 := by simpa using hi
    simp [this]
  · have ex' : ExtA ι.ix A H1 Hf1 H2 Hf2 := ⟨fun a u m h => ex.keep a u (fun i _ hi => by
      by_cases z : i = 0
      · subst z; exact m i0 em.ix (by simpa using hi)
      · simp [z] at hi) h, ex.there, ex.grow, ex.news⟩
    refine q c s2 h2 v H2 Hf2 ⟨sat.sub, fun j T hj => ?_, fun j a ha => ?_, st1.inj⟩ (e1.trans ex') rv
    · by_cases z : j = i0
      · subst z
        have hj' := hj
        rw [em.app s2] at hj'
        cases hj'
        obtain ⟨u, g1, g2⟩ := sat.slotC 0 (rt s2) (by show lk [(0, some (rt s2))] 0 = _; rw [lk_self]) (em.nt s2)
        have g1' : some (some w0) = some (some u) := g1
        cases g1'
        exact ⟨w0, fun _ => hw0, by simpa using g2⟩
      · obtain ⟨u, g1, g2⟩ := st1.slot j T (by rw [em.other s1 s2 z]; exact hj)
        exact ⟨u, g1, g2.up ex.grow fun a ha u hu => ext_keep_in st1.inj ex ha z hu⟩
    · obtain ⟨n1, n2⟩ := st1.own j a ha
      refine ⟨?_, ex.there a n2⟩
      cases z : Hf2 a with
      | none => rfl
      | some u =>
        rcases ex.news a (by rw [z]; simp) with y | y
        · exact absurd n1 y
        · exact absurd y n2
theorem ex_callS {i0 : Nat} {x x0 : Str} {p0 : Pos} {f : Addr} {fd : FuncData} {ps : List Str} {P C : Type} {argE : P → List D} {g : P → S → Option (C × S)} {E : C → D} {es : List Expr} {M : (P → S → Option R) → Option R}
    (F : FnOk X.prog X.w X.K X.mg X.base CX0 k f fd ps (spS X.K 1 (io1 rt 0) argE g E)) (hr : Room k X.A) (hm : X.mg x = some (.ref f)) (hk : PySem.W.keepIn X.K (.ref f) = true) (hb : Binds X.K fd ps [])
    (ha : AX X (io1 rt i0) Δ s es M argE) (hg : Gl X x := by rfl) (hdb : (x == ("__debug__" : Str)) = false := by decide)
    (hN : X.N[i0]? = some x0 := by rfl) (hv : Vis X.env.scope x0 := by first | exact Or.inl rfl | exact Or.inr (Or.inl rfl) | exact Or.inr (Or.inr rfl)) (hd : (x0 == ("__debug__" : Str)) = false := by decide) (hcd : (x0 == ("__classdict__" : Str)) = false := by decide)
    (nt : ∀ s, isTabs (rt s) = false := by intro _; rfl) (he : starEach (.Name x0 p0 :: es) X.env = (false, eval (.Name x0 p0) X.env) :: starEach es X.env := by rfl) (hpl : (backTo pos (starEach es X.env)).any (·.1) = false := by rfl) :
    EX X (io1 rt i0) Δ s (.Call (.Name x p) (.Name x0 p0 :: es) [] pos) (fun k => M fun y s1 => (g y s1).bind fun z => k z.1 z.2) E :=
  ex_callS0 (emb1 i0 nt) F hr hm hk hb ha hg hdb hN hv hd hcd he hpl
end
end Ab
namespace Ab
open PySem PySem.Spec PyProof.Rows L2
/-! ### drawing from a row of cells: what it gives -/
abbrev Rs := List Int × Int
abbrev rtR : Rs → Tr := fun s => .rnd s.1 s.2
def skip0 : List Int → List Int
  | [] => []
  | x :: xs => if x = 0 then skip0 xs else x :: xs
def mixR (seed : Int) : Int := (seed * 48271 + 12345).fmod 2147483647
def drawR (many : Int) (s : Rs) : Option (Int × Rs) :=
  guardM (many ≠ 0 ∧ many.natAbs < 1073741824 ∧ CMul s.2 48271) (match skip0 s.1 with
    | v :: r => some (v.fmod many, (v.fdiv many :: r, s.2))
    | [] => some (((mixR s.2).fdiv 64).fmod many, ([], mixR s.2)))
/-- how it is read -/
abbrev rLenC (K : KF) : List V → Hp → VK → Prop := fun xs H Q => ∃ x n, xs = [x] ∧ LenV K x H n ∧ Q (.int (n : Nat)) H
abbrev rInt1 : List V → Hp → VK → Prop := fun xs H Q => (∃ i, xs = [.int i] ∧ Q (.int i) H) ∨ ∃ k, xs = [.bl k] ∧ Q (.int (if k then 1 else 0)) H
abbrev oGt : R2 := rI0 fun i j => .bl (decide (j < i))
abbrev oMod : R2 := rI (fun _ j => j ≠ 0) fun i j => .int (i.fmod j)
abbrev oDiv : R2 := rI CDivN fun i j => .int (i.fdiv j)
abbrev oMul : R2 := rI CMul fun i j => .int (i * j)
abbrev oAdd : R2 := rI0 fun i j => .int (i + j)
def tDraw (K : KF) : TS :=
  tSeq (tAsg (tOp (rIxL K) (tVar 0) (tC (.int 0))) (gName 2))
  (tSeq (tWhile (tAnd (tTest (tOp oGt (tCB (rLenC K) (tCons (tVar 2) tNil)) (tC (.int 0)))) (tTest (tOp rEq (tOp (rIxL K) (tVar 2) (tC (.int 0))) (tC (.int 0))))) (tDrop (tBM K "list" rPopAt (tVar 2) (tCons (tC (.int 0)) tNil))))
  (tSeq (tIfS (tTest (tOp oGt (tCB (rLenC K) (tCons (tVar 2) tNil)) (tC (.int 0))))
      (tSeq (tAsg (tOp (rIxL K) (tVar 2) (tC (.int 0))) (gName 3))
      (tSeq (tAsg (tOp oDiv (tVar 3) (tVar 1)) (gSub (tVar 2) (tC (.int 0)) rSetL))
      (tRet (tOp oMod (tCB rInt1 (tCons (tVar 3) tNil)) (tVar 1))))) tNext)
  (tSeq (tAsg (tOp oMod (tCB rInt1 (tCons (tOp oAdd (tOp oMul (tOp (rIxL K) (tVar 0) (tC (.int 1))) (tC (.int 48271))) (tC (.int 12345))) tNil)) (tC (.int 2147483647))) (gName 4))
  (tSeq (tAsg (tVar 4) (gSub (tVar 0) (tC (.int 1)) rSetL))
  (tRet (tOp oMod (tCB rInt1 (tCons (tOp oDiv (tVar 4) (tC (.int 64))) tNil)) (tVar 1)))))))
theorem skip0_drop : ∀ (cs : List Int), ∃ n, skip0 cs = cs.drop n ∧ n ≤ cs.length ∧ (∀ i, i < n → cs[i]? = some 0) ∧ (∀ v, cs[n]? = some v → v ≠ 0)
  | [] => ⟨0, rfl, Nat.le_refl _, fun i h => by omega, fun v h => by simp at h⟩
  | x :: xs => by
    by_cases e : x = 0
    · obtain ⟨n, h1, h2, h3, h4⟩ := skip0_drop xs
      refine ⟨n + 1, by unfold skip0; rw [if_pos e, h1]; rfl, Nat.succ_le_succ h2, fun i hi => ?_, fun v hv => h4 v (by simpa using hv)⟩
      cases i with
      | zero => simp [e]
      | succ i => simpa using h3 i (by omega)
    · exact ⟨0, by unfold skip0; rw [if_neg e]; rfl, Nat.zero_le _, fun i h => by omega, fun v hv => by
        have : x = v := by simpa using hv
        rw [← this]; exact e⟩
theorem seqIdx0 {n : Nat} (h : 0 < n) : seqIndex? 0 n = some 0 := by
  have h2 : (decide ((0 : Int) ≤ 0) && decide ((0 : Int) < (n : Int))) = true := by
    rw [decide_eq_true (by omega : (0 : Int) < (n : Int))]; rfl
  show (if (decide ((0 : Int) ≤ 0) && decide ((0 : Int) < (n : Int))) = true then some (0 : Int).toNat else none) = some 0
  rw [if_pos h2]; rfl
theorem skip0_len (cs : List Int) : (skip0 cs).length ≤ cs.length := by
  obtain ⟨n, h1, _⟩ := skip0_drop cs
  rw [h1, List.length_drop]; omega
theorem draw_pure {K : KF} {vs : List V} {H : Hp} {Q : VK} {E' : XK} (h : spS K 1 (io1 rtR 0) (fun n : Int × Unit => [PyData.int n.1]) (fun n s => drawR n.1 s) Ty.int vs H Q E') :
    tDraw K { nx := fun _ H' => Q .non H', rt := Q } (L2.start ["state", "many", "cells", "value", "mixed"] vs) H := by
  obtain ⟨⟨m, _⟩, ⟨cs, seed⟩, c, ⟨cs', seed'⟩, Hf, A, st, hl, hA, hf, q⟩ := h
  obtain ⟨hg, hf⟩ := guardM_some hf
  obtain ⟨hm0, hmb, hmul⟩ := hg
  -- the arguments
  obtain ⟨v0, g0, hh⟩ := st.slotC 0 (.rnd cs seed) rfl
  obtain ⟨a, b, rfl, hA0, hab, hHa, hHb, hz⟩ := hh
  obtain ⟨v1, g1, hi1⟩ := st.slotC 1 (.imm (.int m)) rfl
  have ev : vs = [.ref a, v1] := by
    match vs, hl, g0, g1 with
    | [x, y], _, h0, h1 =>
      have e0 : x = .ref a := by simpa using h0
      have e1 : y = v1 := by simpa using h1
      rw [e0, e1]
  subst ev
  have e1 : v1 = .int m := by cases hi1.2; rfl
  subst e1
  obtain ⟨n, hs, hn, hz0, hnz⟩ := skip0_drop cs
  -- what stands behind a change of the cells and the seed
  have fin : ∀ {cs2 : List Int} {n2 : Int} {H' : Hp}, cs2.length ≤ Line → H' a = some (.lst [.ref b, .int n2]) → H' b = some (.lst (cs2.map V.int)) → (∀ x, x ≠ a → x ≠ b → H' x = H x) → cs2 = cs' → n2 = seed' → Q (.int c) H' := by
    intro cs2 n2 H' hz2 ha hb hk e1 e2
    subst e1 e2
    have own := st.own
    refine q (.int c) H' Hf ⟨fun x o hx => ?_, fun i T hi => ?_, fun i x hx => ?_, st.inj⟩ ⟨fun x o hx ho => ?_, fun x hx => ?_, Sub.refl _, fun x hx => .inl hx⟩ (.int c)
    · have na : x ≠ a := fun z => by have := (own 0 a (by rw [hA0]; simp)).1; rw [z, this] at hx; cases hx
      have nb : x ≠ b := fun z => by have := (own 0 b (by rw [hA0]; simp)).1; rw [z, this] at hx; cases hx
      exact (st.sub x o hx).same (hk x na nb)
    · have hi0 : i = 0 := by
        have := lk_key hi
        simpa using this
      subst hi0
      have : T = .rnd cs2 n2 := by
        have h' : lk [(0, some (Tr.rnd cs2 n2))] 0 = some T := hi
        rw [lk_self] at h'
        exact (Option.some.inj h').symm
      subst this
      exact ⟨.ref a, fun _ => rfl, a, b, rfl, hA0, hab, ha, hb, hz2⟩
    · refine ⟨(own i x hx).1, ?_⟩
      by_cases za : x = a
      · subst za; rw [ha]; simp
      · by_cases zb : x = b
        · subst zb; rw [hb]; simp
        · rw [hk x za zb]; exact (own i x hx).2
    · have na : x ≠ a := fun z => hx 0 (by simp) (by rw [hA0, z]; simp)
      have nb : x ≠ b := fun z => hx 0 (by simp) (by rw [hA0, z]; simp)
      exact .self (by rw [hk x na nb]; exact ho)
    · by_cases za : x = a
      · subst za; rw [ha]; simp
      · by_cases zb : x = b
        · subst zb; rw [hb]; simp
        · rw [hk x za zb]; exact hx
  show tDraw K _ [some (.ref a), some (.int m), none, none, none] H
  -- cells = state[0]
  refine ⟨_, rfl, a, [.ref b, .int seed], 0, .ref b, rfl, rfl, SqL.of hHa, rfl, ?_⟩
  -- the loop
  refine ⟨fun k σ H' => ∃ i, i ≤ n ∧ k = n - i ∧ σ = [some (.ref a), some (.int m), some (.ref b), none, none] ∧ H' b = some (.lst ((cs.drop i).map V.int)) ∧ ∀ x, x ≠ b → H' x = H x, ⟨n, 0, Nat.zero_le _, rfl, rfl, hHb, fun _ _ => rfl⟩, ?_⟩
  rintro k σ H1 ⟨i, hi, rfl, rfl, hb1, hk1⟩
  have hlen : (((cs.drop i).map V.int).length : Int) = ((cs.length - i : Nat) : Int) := by simp
  refine ⟨_, rfl, .ref b, _, rfl, .inl ⟨_, SqL.of hb1, rfl⟩, _, _, rfl, rfl, _, rfl, ?_⟩
  by_cases hlt : i < cs.length
  · have hpos : decide ((0 : Int) < ((((cs.drop i).map V.int).length : Nat) : Int)) = true := decide_eq_true (by rw [hlen]; omega)
    rw [hpos]
    refine iteT ?_
    obtain ⟨w, hw⟩ : ∃ w, cs[i]? = some w := ⟨_, List.getElem?_eq_getElem hlt⟩
    have hat : atI ((cs.drop i).map V.int) 0 = some (.int w) := atI_nat (j := 0) (by rw [List.getElem?_map, List.getElem?_drop, Nat.add_zero, hw]; rfl)
    refine ⟨_, rfl, b, _, 0, .int w, rfl, rfl, SqL.of hb1, hat, rfl, _, rfl, ?_⟩
    by_cases hin : i < n
    · have hw0 : w = 0 := by rw [hz0 i hin] at hw; exact (Option.some.inj hw).symm
      subst hw0
      rw [show decide (V.int 0 = V.int 0) = true from decide_eq_true rfl]
      refine iteT ?_
      refine ⟨fun σ' H' => ∃ j, j = i + 1 ∧ σ' = [some (.ref a), some (.int m), some (.ref b), none, none] ∧ H' b = some (.lst ((cs.drop j).map V.int)) ∧ ∀ x, x ≠ b → H' x = H x, fun σ' H' ⟨j, e, h1, h2, h3⟩ => ⟨n - (i + 1), by omega, i + 1, hin, rfl, h1, by rw [← e]; exact h2, h3⟩, ?_⟩
      refine ⟨_, rfl, .inl ⟨rfl, _, .inl (.inl hb1)⟩, b, _, 0, 0, .int 0, rfl, rfl, hb1, by decide, by decide, ?_, ?_, ?_⟩
      · rw [List.length_map, List.length_drop]
        exact seqIdx0 (by omega)
      · rw [List.getElem?_map, List.getElem?_drop, Nat.add_zero, hw]; rfl
      · refine ⟨i + 1, rfl, rfl, ?_, fun x hx => by rw [upd_ne hx]; exact hk1 x hx⟩
        rw [upd_same]
        congr 2
        rw [List.drop_eq_getElem_cons hlt, List.map_cons, List.eraseIdx_cons_zero]
    · have hin' : i = n := by omega
      subst hin'
      have hw0 : w ≠ 0 := hnz w hw
      rw [show decide (V.int w = V.int 0) = false from decide_eq_false (fun z => hw0 (V.int.inj z))]
      refine iteF ?_
      -- if len(cells) > 0
      refine ⟨_, rfl, .ref b, _, rfl, .inl ⟨_, SqL.of hb1, rfl⟩, _, _, rfl, rfl, _, rfl, ?_⟩
      rw [hpos]
      refine iteT ?_
      have hsk : skip0 cs = w :: cs.drop (i + 1) := by
        rw [hs, List.drop_eq_getElem_cons hlt]
        congr 1
        have := List.getElem?_eq_getElem hlt
        rw [this] at hw
        exact Option.some.inj hw
      rw [hsk] at hf
      injection hf with hf
      injection hf with hf1 hf2
      injection hf2 with hf3 hf4
      have hf1' : c = w.fmod m := hf1.symm
      subst hf1'
      refine ⟨_, rfl, b, _, 0, .int w, rfl, rfl, SqL.of hb1, hat, ?_⟩
      refine ⟨_, rfl, _, rfl, w, m, rfl, rfl, ⟨hm0, hmb⟩, _, rfl, b, _, 0, 0, rfl, rfl, hb1, ?_, ?_⟩
      · rw [List.length_map, List.length_drop]
        unfold ixN
        rw [if_pos (Int.le_refl _), if_pos (by omega)]
        rfl
      · refine ⟨_, rfl, .inl ⟨w, rfl, _, rfl, w, m, rfl, rfl, hm0, ?_⟩⟩
        refine fin (cs2 := w.fdiv m :: cs.drop (i + 1)) (n2 := seed) ?_ ?_ ?_ (fun x xa xb => by rw [upd_ne xb]; exact hk1 x xb) hf3 hf4
        · rw [List.length_cons, List.length_drop]
          have : cs.length ≤ 16777216 := hz
          show _ ≤ 16777216
          omega
        · rw [upd_ne hab, hk1 a hab]; exact hHa
        · rw [upd_same, List.drop_eq_getElem_cons hlt]
          rfl
  · have hneg : decide ((0 : Int) < ((((cs.drop i).map V.int).length : Nat) : Int)) = false := decide_eq_false (by rw [hlen]; omega)
    rw [hneg]
    refine iteF ?_
    refine ⟨_, rfl, .ref b, _, rfl, .inl ⟨_, SqL.of hb1, rfl⟩, _, _, rfl, rfl, _, rfl, ?_⟩
    rw [hneg]
    refine iteF ?_
    have hsk : skip0 cs = [] := by
      rw [hs]
      exact List.drop_eq_nil_of_le (by omega)
    rw [hsk] at hf
    injection hf with hf
    injection hf with hf1 hf2
    injection hf2 with hf3 hf4
    have hf1' : c = ((mixR seed).fdiv 64).fmod m := hf1.symm
    subst hf1'
    have hHa1 : H1 a = some (.lst [.ref b, .int seed]) := by rw [hk1 a hab]; exact hHa
    refine ⟨_, rfl, a, _, 1, .int seed, rfl, rfl, SqL.of hHa1, rfl, _, _, rfl, rfl, hmul, _, _, rfl, rfl, .inl ⟨_, rfl, _, _, rfl, rfl, (by show (2147483647 : Int) ≠ 0; decide), ?_⟩⟩
    -- state[1] = mixed
    refine ⟨_, rfl, _, rfl, a, [.ref b, .int seed], 1, 1, rfl, rfl, hHa1, rfl, ?_⟩
    refine ⟨_, rfl, _, _, rfl, rfl, ⟨by decide, by decide⟩, .inl ⟨_, rfl, _, rfl, _, m, rfl, rfl, hm0, ?_⟩⟩
    refine fin (cs2 := []) (n2 := mixR seed) (Nat.zero_le _) ?_ ?_ (fun x xa xb => by rw [upd_ne xa]; exact hk1 x xb) hf3 hf4
    · rw [upd_same]; rfl
    · rw [upd_ne hab.symm, hb1, List.drop_eq_nil_of_le (by omega)]
end Ab
namespace Ab
open PySem PySem.Spec PyProof.Rows L2
/-! ### the state that a law makes of its script -/
def seedR (ns : List Int) : Int := ns.foldl (fun s c => (s * 31 + c).fmod 1000003) 7
def stateR (ns : List Int) : Rs := (ns.map fun c => (c.natAbs : Int), seedR ns + 1)
abbrev rAbsC : List V → Hp → VK → Prop := fun xs H Q => ∃ i, xs = [.int i] ∧ Q (.int (if i < 0 then -i else i)) H
def tState (K : KF) : TS :=
  tSeq (tAsg (tC (.int 7)) (gName 1))
  (tSeq (tFor (iList K (tVar 0)) (gName 2) (tAsg (tOp oMod (tCB rInt1 (tCons (tOp oAdd (tOp oMul (tVar 1) (tC (.int 31))) (tVar 2)) tNil)) (tC (.int 1000003))) (gName 1)))
  (tRet (tLst (tCons (tLc (iList K (tVar 0)) (gName 2) tYes (tCB rAbsC (tCons (tVar 2) tNil)) [2]) (tCons (tOp oAdd (tVar 1) (tC (.int 1))) tNil)))))
def spSt (K : KF) : Sp := fun vs H Q _ => ∃ (a : Addr) (ns : List Int), vs = [.ref a] ∧ SqL K H a (ns.map V.int) ∧ ns.length ≤ 63 ∧
  ∀ H' p q, Sub H H' → H p = none → H q = none → p ≠ q → H' p = some (.lst [.ref q, .int (stateR ns).2]) → H' q = some (.lst ((stateR ns).1.map V.int)) → Q (.ref p) H'
theorem seedR_take {ns : List Int} {i : Nat} {x : Int} (h : ns[i]? = some x) : seedR (ns.take (i + 1)) = (seedR (ns.take i) * 31 + x).fmod 1000003 := by
  unfold seedR
  rw [List.take_add_one, h, List.foldl_append]
  rfl
theorem seedR_lo (ns : List Int) : 0 ≤ seedR ns ∧ seedR ns < 1000003 := by
  have h : ∀ (l : List Int) (s : Int), 0 ≤ s → s < 1000003 → 0 ≤ l.foldl (fun s c => (s * 31 + c).fmod 1000003) s ∧ l.foldl (fun s c => (s * 31 + c).fmod 1000003) s < 1000003 := by
    intro l
    induction l with
    | nil => exact fun s h1 h2 => ⟨h1, h2⟩
    | cons x l ih =>
      intro s h1 h2
      refine ih _ ?_ ?_
      · show 0 ≤ (s * 31 + x).fmod 1000003
        rw [Int.fmod_eq_emod_of_nonneg _ (by decide)]; exact Int.emod_nonneg _ (by decide)
      · show (s * 31 + x).fmod 1000003 < 1000003
        rw [Int.fmod_eq_emod_of_nonneg _ (by decide)]; exact Int.emod_lt_of_pos _ (by decide)
  exact h ns 7 (by decide) (by decide)
theorem state_pure {K : KF} {vs : List V} {H : Hp} {Q : VK} {E' : XK} (h : spSt K vs H Q E') : tState K { nx := fun _ H' => Q .non H', rt := Q } (L2.start ["script", "seed", "cell"] vs) H := by
  obtain ⟨a, ns, rfl, hS, hlen, q⟩ := h
  refine ⟨_, rfl, a, rfl, ⟨_, hS⟩, for_list (K := K) (a := a) (xs := ns.map V.int) (fun i σ H' => H' = H ∧ ∃ v, σ = [some (.ref a), some (.int (seedR (ns.take i))), v]) ⟨rfl, none, rfl⟩ (fun i σ H' _ hp => by rw [hp.1]; exact hS) ?_ ?_⟩
  · rintro i x σ H' hx ⟨rfl, v, rfl⟩
    rw [List.getElem?_map] at hx
    cases e : ns[i]? with
    | none => rw [e] at hx; cases hx
    | some y =>
      rw [e] at hx
      cases hx
      have hb := seedR_lo (ns.take i)
      refine ⟨_, rfl, _, _, rfl, rfl, .inl ⟨by omega, by omega⟩, _, rfl, _, _, rfl, rfl, .inl ⟨_, rfl, _, _, rfl, rfl, (by show (1000003 : Int) ≠ 0; decide), rfl, some (.int y), ?_⟩⟩
      rw [seedR_take e]
      rfl
  · rintro σ H' ⟨rfl, v, rfl⟩
    rw [List.length_map, List.take_length]
    refine ⟨_, rfl, a, rfl, ⟨_, hS⟩, fun Dd hD => ?_⟩
    have ne : ∀ {b o}, H' b = some o → b ≠ Dd := fun h => ne_of_none h hD
    have hS2 : ∀ l, SqL K (upd H' Dd (.lst l)) a (ns.map V.int) := fun l => (Ext.newO (Hf := H') hD).keep.seq hS
    refine lc_list (K := K) (a := a) (xs := ns.map V.int) (fun i H2 => H2 = upd H' Dd (.lst ((ns.take i).map fun c => V.int (c.natAbs : Int)))) rfl (fun i H2 _ hp => by rw [hp]; exact hS2 _) ?_ ?_
    · rintro i x H2 hx rfl
      rw [List.getElem?_map] at hx
      cases e : ns[i]? with
      | none => rw [e] at hx; cases hx
      | some y =>
        rw [e] at hx
        cases hx
        refine ⟨rfl, ?_⟩
        rw [tYes]
        refine iteT ?_
        refine ⟨_, rfl, y, rfl, _, upd_same, lt_line ?_, ?_⟩
        · rw [List.length_map, List.length_take]
          show _ < 16777216
          omega
        · rw [upd_upd, List.take_add_one, e, List.map_append]
          have : (if y < 0 then -y else y) = (y.natAbs : Int) := by split <;> omega
          rw [this]
          rfl
    · rintro H2 rfl
      rw [List.length_map, List.take_length]
      refine ⟨_, rfl, _, _, rfl, rfl, (by show 2 ≤ sizeLine; decide), fun p np => ?_⟩
      have hpD : p ≠ Dd := fun z => by rw [z, upd_same] at np; cases np
      refine q _ p Dd (fun b o e => ?_) ?_ hD hpD upd_same ?_
      · have h1 : upd H' Dd (.lst (ns.map fun c => V.int (c.natAbs : Int))) b = some o := by rw [upd_ne (ne e)]; exact e
        exact .self (by rw [upd_ne (ne_of_none h1 np)]; exact h1)
      · cases z : H' p with
        | none => rfl
        | some o => rw [upd_ne hpD, z] at np; cases np
      · rw [upd_ne hpD.symm, upd_same]
        unfold stateR
        rw [List.map_map]
        rfl
/-! ### the law -/
def spLaw (K : KF) (m : Rs → Option (Bool × Rs)) : Sp := fun vs H Q _ => ∃ (a : Addr) (ns : List Int), vs = [.ref a] ∧ SqL K H a (ns.map V.int) ∧ ns.length ≤ 63 ∧ (∃ s', m (stateR ns) = some (true, s')) ∧ ∀ H', Q (.bl true) H'
section
variable {Pg : Program} {w : World} {K : KF} {mg : Str → Option Value} {base : Heap}
theorem fn_law {st : Stmt} {f fS : Addr} {fd fdS : FuncData} {N : List Str} {k : Nat} {m : Rs → Option (Bool × Rs)} {rest : List Stmt} {p1 p2 p3 p4 p5 : Pos} (F : Fun K "law" "law" st f fd) (Sc : FnScope N ["script"] (defScope st))
    (FS : FnOk Pg w K mg base CX0 k fS fdS ["script"] (spSt K)) (gS : mg "_law_state" = some (.ref fS)) (kS : PySem.W.keepIn K (.ref fS) = true) (bS : Binds K fdS ["script"] [])
    (hb : defBody st = .Assign [.Name "state" p1] (.Call (.Name "_law_state" p2) [.Name "script" p3] [] p4) p5 :: rest) (h0 : N[0]? = some ("script" : Str)) (h1 : N[1]? = some ("state" : Str)) (hl1 : L2.Loc (defScope st) "state") (hl0 : Vis (defScope st) "script") (hgl : (defScope st).names.lookup ("_law_state" : Str) = some NameKind.globalImplicit)
    (body : ∀ (s : Rs) (cdv : Value) (A : Around) (outer : List Env) (sh : Shared) (H : Hp) (E' : XK), Room k (A.deeper (envOfC "law" (defScope st) sh.heap.objs.size f cdv)) →
      BX (cxOf CX0 Pg w K mg base N "law" (defScope st) f cdv A outer sh H E').nox (io1 rtR 1) [] s rest (m s) (fun c => Out.ret (.bool c.1) c.2)) :
    FnOk Pg w K mg base CX0 (k + 1) f fd ["script"] (spLaw K m) := by
  refine F.ok Sc (fun vs H Q E' h => ?_) (fun cdv A outer s H vs Q E' hr h => ?_)
  · obtain ⟨a, ns, rfl, _⟩ := h
    rfl
  · obtain ⟨a, ns, rfl, hS, hlen, ⟨s', hm⟩, q⟩ := h
    refine ⟨_, pS _ _, ?_⟩
    rw [hb]
    refine tS_inv fun pins sh I => tS_cons (ps_set (i := 1) Sc.nd h1 hl1 (pe_call FS hr hgl gS kS bS .nil pass0 (pa_cons (pe_var (i := 0) h0 hl0) pa_nil)) (by rfl) (.inl rfl)) ?_
    have hlN : 1 < N.length := (List.getElem?_eq_some_iff.mp h1).1
    refine ⟨.ref a, rfl, a, ns, rfl, hS, hlen, fun H' p0 q0 sb np nq hpq hp hq => ?_⟩
    have hσ : (L2.start N [V.ref a]).length = N.length := by
      unfold L2.start
      simp only [List.length_append, List.length_map, List.length_replicate, List.length_cons, List.length_nil]
      omega
    refine body (stateR ns) cdv A outer s H E' hr (true, s') hm _ H' H (fun j => if j = 1 then [p0, q0] else []) _ ⟨sb, fun i T hi => ?_, fun i x hx => ?_, fun i j x hi hj => ?_⟩ ?_
    · have hi1 : i = 1 := by simpa using lk_key hi
      subst hi1
      have : T = rtR (stateR ns) := by
        have h' : lk [(1, some (rtR (stateR ns)))] 1 = some T := hi
        rw [lk_self] at h'
        exact (Option.some.inj h').symm
      subst this
      refine ⟨.ref p0, fun _ => by rw [List.getElem?_set_self (by rw [hσ]; exact hlN)], p0, q0, rfl, rfl, hpq, hp, hq, ?_⟩
      show (stateR ns).1.length ≤ 16777216
      unfold stateR
      rw [List.length_map]
      omega
    · by_cases z : i = 1
      · subst z
        have hx' : x = p0 ∨ x = q0 := by simpa using hx
        rcases hx' with rfl | rfl
        · exact ⟨np, by rw [hp]; simp⟩
        · exact ⟨nq, by rw [hq]; simp⟩
      · simp [z] at hx
    · by_cases z : i = 1 <;> by_cases z2 : j = 1
      · rw [z, z2]
      · simp [z2] at hj
      · simp [z] at hi
      · simp [z] at hi
    · intro v σ' H2 Hf2 A2 g1 g2 g3
      have : v = .bl true := by cases g3; rfl
      subst this
      exact q H2
end
end Ab
namespace Ab
open PySem PySem.Spec PyProof.Rows L2
abbrev iv {α : Type} (i : Nat) (E : α → D) (a : α) : Nat × Option Tr := (i, some (.imm (E a)))
abbrev ov {α : Type} (i : Nat) (E : α → D) (l : List α) : Nat × Option Tr := (i, some (.lst (l.map E)))
section
variable {X : Cx} {S : Type} {ι : Io S} {Δ : Dl} {s : S} {R : Type} {pos p : Pos} {a b c e : Expr} {k : Nat}
variable {α β γ : Type} {E : α → D} {F : β → D}
theorem BX_to {st : List Stmt} {m m' : Option R} {out : R → Out S} (h : BX X ι Δ s st m out) (e : m = m') : BX X ι Δ s st m' out := e ▸ h
/-! ### arguments without an end -/
theorem ax_one {Ma : (α → S → Option R) → Option R} (ha : EX X ι Δ s e Ma E) (hs : starEach (e :: []) X.env = (false, eval e X.env) :: starEach [] X.env := by rfl) :
    AX X ι Δ s [e] Ma (fun x => [E x]) := by
  intro k r hk σ H Hf A Q st q
  refine tA_of (pa_cons (pE X e) pa_nil hs) (ha _ r hk σ H Hf A _ st fun x s1 hx v H1 Hf1 st1 e1 r1 => ?_)
  exact q x s1 hx [v] H1 Hf1 st1 e1 (.one r1)
/-- items of one kind -/
theorem axl_nil : AX X ι Δ s [] (R := R) (fun k => k ([] : List α) s) (fun l => l.map E) := by
  intro k r hk σ H Hf A Q st q
  exact tA_of pa_nil (q [] s hk [] H Hf st (ExtA.refl _ _ _ _) .nil)
theorem axl_cons {es : List Expr} {Ma : (α → S → Option R) → Option R} {Mb : S → (List α → S → Option R) → Option R} (ha : EX X ι Δ s e Ma E) (hb : ∀ s1, AX X ι Δ s1 es (Mb s1) (fun l => l.map E))
    (hs : starEach (e :: es) X.env = (false, eval e X.env) :: starEach es X.env := by rfl) :
    AX X ι Δ s (e :: es) (fun k => Ma fun x s1 => Mb s1 fun l s2 => k (x :: l) s2) (fun l => l.map E) := by
  intro k r hk σ H Hf A Q st q
  refine tA_of (pa_cons (pE X e) (pA X es) hs) (ha _ r hk σ H Hf A _ st fun x s1 hx v H1 Hf1 st1 e1 r1 => ?_)
  refine hb s1 _ r hx σ H1 Hf1 A _ st1 fun y s2 hy vs H2 Hf2 st2 e2 r2 => ?_
  exact q (x :: y) s2 hy (v :: vs) H2 Hf2 st2 (e1.trans e2) (.cons (r1.up e2.grow) r2)
/-- a tuple display -/
theorem ex_tup {es : List Expr} {x1 : Nat} {M : (α → S → Option R) → Option R} {G : α → List D} (h : AX X ι Δ s es M G) (hE : ∀ x, E x = .tuple (G x)) (hn : ∀ x, (G x).length ≤ Line := by intro _; decide) : EX X ι Δ s (.Tuple es x1 pos) M E := by
  intro k r hk σ H Hf A Q st q
  refine tE_of (pe_tup (pA X es)) (h _ r hk σ H Hf A _ st fun x s1 hx vs H1 Hf1 st1 e1 r1 => ⟨le_line (r1.len ▸ hn x), fun p np => ?_⟩)
  have ex := Ext.new (o := .tup vs) np st1.sub
  refine q _ s1 hx _ _ _ (st1.up ex (Sub.new st1.sub)) (e1.trans ex.toA) ?_
  rw [hE]
  exact .tup (.inl (.inl upd_same)) (r1.len ▸ hn x) (r1.up ex.grow)
end
section
variable {X : Cx} {S : Type} {ι : Io S} {Δ : Dl} {s : S} {R : Type} {pos p : Pos} {a b c e : Expr} {k : Nat}
variable {α β γ : Type} {E : α → D} {F : β → D}
/-- items of one kind, so many of them -/
def AL (X : Cx) {S : Type} (ι : Io S) (Δ : Dl) (s : S) (es : List Expr) (n : Nat) {α R : Type} (M : (List α → S → Option R) → Option R) (E : α → D) : Prop :=
  ∀ k r, M k = some r → ∀ (σ : L2.St) (H Hf : Hp) (A : Nat → List Addr) (Q : List V → Hp → Prop), Sat X.K σ H Hf (ι.tr s ++ Δ) A →
    (∀ x s', k x s' = some r → x.length = n → ∀ vs H' Hf', Sat X.K σ H' Hf' (ι.tr s' ++ Δ) A → ExtA ι.ix A H Hf H' Hf' → RpAll X.K Hf' vs (x.map E) → Q vs H') → tA X es σ H Q
theorem al_nil : AL X ι Δ s [] 0 (R := R) (fun k => k ([] : List α) s) E := by
  intro k r hk σ H Hf A Q st q
  exact tA_of pa_nil (q [] s hk rfl [] H Hf st (ExtA.refl _ _ _ _) .nil)
theorem al_cons {es : List Expr} {n : Nat} {Ma : (α → S → Option R) → Option R} {Mb : S → (List α → S → Option R) → Option R} (ha : EX X ι Δ s e Ma E) (hb : ∀ s1, AL X ι Δ s1 es n (Mb s1) E)
    (hs : starEach (e :: es) X.env = (false, eval e X.env) :: starEach es X.env := by rfl) :
    AL X ι Δ s (e :: es) (n + 1) (fun k => Ma fun x s1 => Mb s1 fun l s2 => k (x :: l) s2) E := by
  intro k r hk σ H Hf A Q st q
  refine tA_of (pa_cons (pE X e) (pA X es) hs) (ha _ r hk σ H Hf A _ st fun x s1 hx v H1 Hf1 st1 e1 r1 => ?_)
  refine hb s1 _ r hx σ H1 Hf1 A _ st1 fun y s2 hy hn vs H2 Hf2 st2 e2 r2 => ?_
  exact q (x :: y) s2 hy (congrArg (· + 1) hn) (v :: vs) H2 Hf2 st2 (e1.trans e2) (.cons (r1.up e2.grow) r2)
theorem eo_lst {es : List Expr} {n : Nat} {M : (List α → S → Option R) → Option R} (h : AL X ι Δ s es n M E) (hn : n ≤ Line := by decide) : EO X ι Δ s (.List es pos) M E := by
  intro k r hk σ H Hf A Q st q
  refine tE_of (pe_lst (pA X es)) (h _ r hk σ H Hf A _ st fun x s1 hx hl vs H1 Hf1 st1 e1 r1 => ?_)
  have hvl : vs.length ≤ Line := by rw [r1.len, List.length_map, hl]; exact hn
  refine ⟨le_line hvl, fun l nl => ?_⟩
  have ex := Ext.newO (o := .lst vs) (Hf := Hf1) nl
  exact q _ s1 hx l vs _ Hf1 (st1.up ex (Sub.newO nl st1.sub)) (e1.trans ex.toA) upd_same hvl r1 (st1.sub.non nl) (none_back e1.there nl)
theorem ex_tupL {es : List Expr} {n x1 : Nat} {M : (List α → S → Option R) → Option R} (h : AL X ι Δ s es n M E) (hn : n ≤ Line := by decide) : EX X ι Δ s (.Tuple es x1 pos) M (Ty.tup E) := by
  intro k r hk σ H Hf A Q st q
  refine tE_of (pe_tup (pA X es)) (h _ r hk σ H Hf A _ st fun x s1 hx hl vs H1 Hf1 st1 e1 r1 => ?_)
  have hvl : vs.length ≤ Line := by rw [r1.len, List.length_map, hl]; exact hn
  refine ⟨le_line hvl, fun l nl => ?_⟩
  have ex := Ext.new (o := .tup vs) nl st1.sub
  exact q _ s1 hx _ _ _ (st1.up ex (Sub.new st1.sub)) (e1.trans ex.toA) (.tup (.inl (.inl upd_same)) hvl (r1.up ex.grow))
/-- an int's truth -/
theorem tx_int {Ma : (Int → S → Option R) → Option R} (ha : EX X ι Δ s a Ma Ty.int) (he : ∀ whole, isTrue a X.env whole = (do let v ← whole; standAt a.pos; holding [v] (truthy v)) := by intro _; rfl) :
    TX X ι Δ s a (fun k => Ma fun x s1 => k (!decide (x = 0)) s1) := by
  intro k r hk σ H Hf A Q st q
  refine tT_of (pt_truth (pE X a) he) (ha _ r hk σ H Hf A _ st fun x s1 hx v H1 Hf1 st1 e1 r1 => ?_)
  cases r1
  refine ⟨_, rfl, ?_⟩
  have : (x != 0) = !decide (x = 0) := by rw [bne, Bool.beq_eq_decide_eq]
  rw [this]
  exact q _ s1 hx H1 Hf1 st1 e1
/-! a op b op' c -/
section
variable {Ma : (Int → S → Option R) → Option R} {Mb Mc Md : S → (Int → S → Option R) → Option R} {op op' op'' : CmpOp} {g g' g'' : Int → Int → Bool} {d : Expr}
theorem EX.congrT {e : Expr} {M N : (Bool → S → Option R) → Option R} (h : TX X ι Δ s e M) (eq : ∀ k, N k = M k) : TX X ι Δ s e N := fun k r hk => h k r ((eq k).symm.trans hk)
theorem ex_chain (ho : OpR X (compareOp op) (rI0 fun i j => .bl (g i j))) (ho' : OpR X (compareOp op') (rI0 fun i j => .bl (g' i j)))
    (ha : EX X ι Δ s a Ma Ty.int) (hb : ∀ s1, EX X ι Δ s1 b (Mb s1) Ty.int) (hc : ∀ s1, EX X ι Δ s1 c (Mc s1) Ty.int) (hm : lastMarks [op, op'] [b, c] = false := by with_unfolding_all rfl) :
    EX X ι Δ s (.Compare a [op, op'] [b, c] pos) (fun k => Ma fun x s1 => Mb s1 fun y s2 => if g x y = true then Mc s2 fun z s3 => k (g' y z) s3 else k false s2) Ty.bool := by
  intro k r hk σ H Hf A Q st q
  refine tE_of (pe_chain ho ho' (pE X a) (pE X b) (pE X c) hm) ?_
  refine ha _ r hk σ H Hf A _ st fun x s1 hx v H1 Hf1 st1 e1 r1 => ?_
  refine hb s1 _ r hx σ H1 Hf1 A _ st1 fun y s2 hy v2 H2 Hf2 st2 e2 r2 => ?_
  cases r1
  cases r2
  refine ⟨x, y, rfl, rfl, g x y, rfl, ?_⟩
  cases hg : g x y with
  | false =>
    rw [hg, if_neg Bool.false_ne_true] at hy
    rw [if_neg Bool.false_ne_true]
    exact q false s2 hy _ H2 Hf2 st2 (e1.trans e2) (.bl _)
  | true =>
    rw [hg, if_pos rfl] at hy
    rw [if_pos rfl]
    refine hc s2 _ r hy σ H2 Hf2 A _ st2 fun z s3 hz v3 H3 Hf3 st3 e3 r3 => ?_
    cases r3
    exact ⟨y, z, rfl, rfl, q _ s3 hz _ H3 Hf3 st3 ((e1.trans e2).trans e3) (.bl _)⟩
theorem tx_chain (ho : OpR X (compareOp op) (rI0 fun i j => .bl (g i j))) (ho' : OpR X (compareOp op') (rI0 fun i j => .bl (g' i j)))
    (ha : EX X ι Δ s a Ma Ty.int) (hb : ∀ s1, EX X ι Δ s1 b (Mb s1) Ty.int) (hc : ∀ s1, EX X ι Δ s1 c (Mc s1) Ty.int) (hm : lastMarks [op, op'] [b, c] = false := by with_unfolding_all rfl) :
    TX X ι Δ s (.Compare a [op, op'] [b, c] pos) (fun k => Ma fun x s1 => Mb s1 fun y s2 => if g x y = true then Mc s2 fun z s3 => k (g' y z) s3 else k false s2) := by
  intro k r hk σ H Hf A Q st q
  refine tT_of (pt_chain ho ho' (pE X a) (pE X b) (pE X c) hm) ?_
  refine ha _ r hk σ H Hf A _ st fun x s1 hx v H1 Hf1 st1 e1 r1 => ?_
  refine hb s1 _ r hx σ H1 Hf1 A _ st1 fun y s2 hy v2 H2 Hf2 st2 e2 r2 => ?_
  cases r1
  cases r2
  refine ⟨x, y, rfl, rfl, g x y, rfl, ?_⟩
  cases hg : g x y with
  | false =>
    rw [hg, if_neg Bool.false_ne_true] at hy
    rw [if_neg Bool.false_ne_true]
    exact ⟨false, rfl, q false s2 hy H2 Hf2 st2 (e1.trans e2)⟩
  | true =>
    rw [hg, if_pos rfl] at hy
    rw [if_pos rfl]
    refine hc s2 _ r hy σ H2 Hf2 A _ st2 fun z s3 hz v3 H3 Hf3 st3 e3 r3 => ?_
    cases r3
    exact ⟨y, z, rfl, rfl, _, rfl, q _ s3 hz H3 Hf3 st3 ((e1.trans e2).trans e3)⟩
/-- .. where nothing fails and no state is touched -/
theorem ex_chainT {y z : Int} (ho : OpR X (compareOp op) (rI0 fun i j => .bl (g i j))) (ho' : OpR X (compareOp op') (rI0 fun i j => .bl (g' i j)))
    (ha : EX X ι Δ s a Ma Ty.int) (hb : ∀ s1, EX X ι Δ s1 b (R := R) (fun k => k y s1) Ty.int) (hc : ∀ s1, EX X ι Δ s1 c (R := R) (fun k => k z s1) Ty.int) (hm : lastMarks [op, op'] [b, c] = false := by with_unfolding_all rfl) :
    EX X ι Δ s (.Compare a [op, op'] [b, c] pos) (fun k => Ma fun x s1 => k (g x y && g' y z) s1) Ty.bool :=
  (ex_chain ho ho' ha hb hc hm).congr fun k => by refine congrArg Ma (funext fun x => funext fun s1 => ?_); show k (g x y && g' y z) s1 = (if g x y = true then k (g' y z) s1 else k false s1); cases g x y <;> rfl
theorem tx_chainT {y z : Int} (ho : OpR X (compareOp op) (rI0 fun i j => .bl (g i j))) (ho' : OpR X (compareOp op') (rI0 fun i j => .bl (g' i j)))
    (ha : EX X ι Δ s a Ma Ty.int) (hb : ∀ s1, EX X ι Δ s1 b (R := R) (fun k => k y s1) Ty.int) (hc : ∀ s1, EX X ι Δ s1 c (R := R) (fun k => k z s1) Ty.int) (hm : lastMarks [op, op'] [b, c] = false := by with_unfolding_all rfl) :
    TX X ι Δ s (.Compare a [op, op'] [b, c] pos) (fun k => Ma fun x s1 => k (g x y && g' y z) s1) :=
  EX.congrT (tx_chain ho ho' ha hb hc hm) fun k => by refine congrArg Ma (funext fun x => funext fun s1 => ?_); show k (g x y && g' y z) s1 = (if g x y = true then k (g' y z) s1 else k false s1); cases g x y <;> rfl
/-- a op b op' c op'' d -/
theorem pe_chain3 {r r' r'' : R2} {ta tb tc td : TE} (ho : OpR X (compareOp op) r) (ho' : OpR X (compareOp op') r') (ho'' : OpR X (compareOp op'') r'') (ha : PE X a ta) (hb : PE X b tb) (hc : PE X c tc) (hd : PE X d td)
    (hm : lastMarks [op, op', op''] [b, c, d] = false := by with_unfolding_all rfl) : PE X (.Compare a [op, op', op''] [b, c, d] pos) (fun σ H Q => ta σ H fun x H1 => tb σ H1 fun y H2 => r x y H2 fun z H3 => ∃ k, z = .bl k ∧
      (if k = true then tc σ H3 fun w' H4 => r' y w' H4 fun z2 H5 => ∃ k2, z2 = .bl k2 ∧ (if k2 = true then td σ H5 fun w2 H6 => r'' w' w2 H6 Q else Q (.bl false) H5) else Q (.bl false) H3)) := by
  refine ⟨fun pins s σ H Q I h => ?_⟩
  refine Compare_chain (thn (ha.run pins s σ H _ I h) fun v s1 ⟨x, H1, I1, r1, q1⟩ => chain_link (thn (hb.run pins s1 σ H1 _ I1 q1) fun u s2 ⟨y, H2, I2, r2, q2⟩ =>
    thn (ho pins s2 σ H2 x y v u _ I2 r1 r2 q2) fun d s3 ⟨z, H3, I3, r3, k, e, q3⟩ => ?_)) hm
  subst e
  cases r3
  refine wpAny_truthy_bool ?_
  cases k with
  | false => exact ite_ff ⟨.bl false, H3, I3, rfl, q3⟩
  | true =>
    refine ite_tt (chain_link (thn (hc.run pins s3 σ H3 _ I3 q3) fun w' s4 ⟨z', H4, I4, r4, q4⟩ => thn (ho' pins s4 σ H4 y z' u w' _ I4 r2 r4 q4) fun d' s5 ⟨z2, H5, I5, r5, k2, e2, q5⟩ => ?_))
    subst e2
    cases r5
    refine wpAny_truthy_bool ?_
    cases k2 with
    | false => exact ite_ff ⟨.bl false, H5, I5, rfl, q5⟩
    | true => exact ite_tt (chain_last (thn (hd.run pins s5 σ H5 _ I5 q5) fun w2 s6 ⟨z6, H6, I6, r6, q6⟩ => ho'' pins s6 σ H6 z' z6 w' w2 Q I6 r4 r6 q6))
theorem ex_chain3T {y z u : Int} (ho : OpR X (compareOp op) (rI0 fun i j => .bl (g i j))) (ho' : OpR X (compareOp op') (rI0 fun i j => .bl (g' i j))) (ho'' : OpR X (compareOp op'') (rI0 fun i j => .bl (g'' i j)))
    (ha : EX X ι Δ s a Ma Ty.int) (hb : ∀ s1, EX X ι Δ s1 b (R := R) (fun k => k y s1) Ty.int) (hc : ∀ s1, EX X ι Δ s1 c (R := R) (fun k => k z s1) Ty.int) (hd : ∀ s1, EX X ι Δ s1 d (R := R) (fun k => k u s1) Ty.int)
    (hm : lastMarks [op, op', op''] [b, c, d] = false := by with_unfolding_all rfl) : EX X ι Δ s (.Compare a [op, op', op''] [b, c, d] pos) (fun k => Ma fun x s1 => k (g x y && (g' y z && g'' z u)) s1) Ty.bool := by
  have gen : EX X ι Δ s (.Compare a [op, op', op''] [b, c, d] pos) (fun k => Ma fun x s1 => if g x y = true then (if g' y z = true then k (g'' z u) s1 else k false s1) else k false s1) Ty.bool := by
    intro k r hk σ H Hf A Q st q
    refine tE_of (pe_chain3 ho ho' ho'' (pE X a) (pE X b) (pE X c) (pE X d) hm) ?_
    refine ha _ r hk σ H Hf A _ st fun x s1 hx v H1 Hf1 st1 e1 r1 => ?_
    cases r1
    refine hb s1 (fun y' s2 => if g x y' = true then (if g' y' z = true then k (g'' z u) s2 else k false s2) else k false s2) r hx σ H1 Hf1 A _ st1 fun y' s2 hy v2 H2 Hf2 st2 e2 r2 => ?_
    cases r2
    refine ⟨x, y', rfl, rfl, g x y', rfl, ?_⟩
    cases hg : g x y' with
    | false =>
      rw [hg, if_neg Bool.false_ne_true] at hy
      rw [if_neg Bool.false_ne_true]
      exact q false s2 hy _ H2 Hf2 st2 (e1.trans e2) (.bl _)
    | true =>
      rw [hg, if_pos rfl] at hy
      rw [if_pos rfl]
      refine hc s2 (fun z' s3 => if g' y' z' = true then k (g'' z' u) s3 else k false s3) r hy σ H2 Hf2 A _ st2 fun z' s3 hz v3 H3 Hf3 st3 e3 r3 => ?_
      cases r3
      refine ⟨y', z', rfl, rfl, g' y' z', rfl, ?_⟩
      cases hg' : g' y' z' with
      | false =>
        rw [hg', if_neg Bool.false_ne_true] at hz
        rw [if_neg Bool.false_ne_true]
        exact q false s3 hz _ H3 Hf3 st3 ((e1.trans e2).trans e3) (.bl _)
      | true =>
        rw [hg', if_pos rfl] at hz
        rw [if_pos rfl]
        refine hd s3 (fun u' s4 => k (g'' z' u') s4) r hz σ H3 Hf3 A _ st3 fun u' s4 hu v4 H4 Hf4 st4 e4 r4 => ?_
        cases r4
        exact ⟨z', u', rfl, rfl, q _ s4 hu _ H4 Hf4 st4 (((e1.trans e2).trans e3).trans e4) (.bl _)⟩
  exact gen.congr fun k => by refine congrArg Ma (funext fun x => funext fun s1 => ?_); show k (g x y && (g' y z && g'' z u)) s1 = (if g x y = true then (if g' y z = true then k (g'' z u) s1 else k false s1) else k false s1); cases g x y <;> cases g' y z <;> rfl
end
/-! ### statements, further -/
section
variable {out : R → Out S} {rest : List Stmt} {pos' : Pos} {tg : Expr}
/-- with the value named -/
theorem bx_setL (i : Nat) {x : Str} {M : (α → S → Option R) → Option R} {kk : α → S → Option R} (hN : X.N.Nodup) (h : EX X ι Δ s e M E)
    (q : ∀ a s', BX X ι (iv i E a :: Δ) s' rest (kk a s') out) (hi : X.N[i]? = some x := by rfl) (hx : Loc X.env.scope x := by first | exact Or.inl rfl | exact Or.inr rfl)
    (hs : swapsWith e (some (.Name x pos')) pos.line X.env = pure false := by rfl) (hf : X.fn x = true ∨ X.env.scope.names.lookup x = some .local := by first | exact .inl rfl | exact .inr rfl) (hix : i ∉ ι.ix := by first | decide | exact of_decide_eq_true rfl) :
    BX X ι Δ s (.Assign [.Name x pos'] e pos :: rest) (M fun a s' => letM a fun a => kk a s') out := bx_set i hN h q hi hx hs hf hix
theorem bx_setOL (i : Nat) {x : Str} {M : (List α → S → Option R) → Option R} {kk : List α → S → Option R} (hN : X.N.Nodup) (h : EO X ι Δ s e M E)
    (q : ∀ a s', BX X ι (ov i E a :: Δ) s' rest (kk a s') out) (hi : X.N[i]? = some x := by rfl) (hx : Loc X.env.scope x := by first | exact Or.inl rfl | exact Or.inr rfl)
    (hs : swapsWith e (some (.Name x pos')) pos.line X.env = pure false := by rfl) (hf : X.fn x = true ∨ X.env.scope.names.lookup x = some .local := by first | exact .inl rfl | exact .inr rfl) (hix : i ∉ ι.ix := by first | decide | exact of_decide_eq_true rfl) :
    BX X ι Δ s (.Assign [.Name x pos'] e pos :: rest) (M fun a s' => letM a fun a => kk a s') out := bx_setO i hN h q hi hx hs hf hix
theorem bx_setLcL (i : Nat) {x : Str} {elt tg iter : Expr} {ifs : List Expr} {scope : Scope} {own : List (Str × Nat)} {p2 : Pos} {M : (List α → S → Option R) → Option R} {kk : List α → S → Option R} (h : LO X ι Δ s elt tg iter ifs scope own M E)
    (q : ∀ a s', BX X ι (iv i (Ty.lst E) a :: Δ) s' rest (kk a s') out) (hi : X.N[i]? = some x := by rfl) (hyl : X.env.scope.names.lookup x = some .local := by rfl)
    (hsw : swapsWith (.ListComp elt [⟨tg, iter, ifs, 0⟩] scope p2) (some (.Name x pos')) pos.line X.env = pure true := by exact sw_true rfl rfl rfl (by decide +kernel)) (hix : i ∉ ι.ix := by first | decide | exact of_decide_eq_true rfl) :
    BX X ι Δ s (.Assign [.Name x pos'] (.ListComp elt [⟨tg, iter, ifs, 0⟩] scope p2) pos :: rest) (M fun a s' => letM a fun a => kk a s') out := bx_setLc i h q hi hyl hsw hix
theorem bx_setLcOL (i : Nat) {x : Str} {elt tg iter : Expr} {ifs : List Expr} {scope : Scope} {own : List (Str × Nat)} {p2 : Pos} {M : (List α → S → Option R) → Option R} {kk : List α → S → Option R} (h : LO X ι Δ s elt tg iter ifs scope own M E)
    (q : ∀ a s', BX X ι (ov i E a :: Δ) s' rest (kk a s') out) (hi : X.N[i]? = some x := by rfl) (hyl : X.env.scope.names.lookup x = some .local := by rfl)
    (hsw : swapsWith (.ListComp elt [⟨tg, iter, ifs, 0⟩] scope p2) (some (.Name x pos')) pos.line X.env = pure true := by exact sw_true rfl rfl rfl (by decide +kernel)) (hix : i ∉ ι.ix := by first | decide | exact of_decide_eq_true rfl) :
    BX X ι Δ s (.Assign [.Name x pos'] (.ListComp elt [⟨tg, iter, ifs, 0⟩] scope p2) pos :: rest) (M fun a s' => letM a fun a => kk a s') out := bx_setLcO i h q hi hyl hsw hix
/-- a, b, .. = e -/
theorem bx_unp {M : (α → S → Option R) → Option R} {ixs : List Nat} {b : α → Dl} {kk : α → S → Option R} (h : EX X ι Δ s e M E) (hg : GX X ι tg ixs b E)
    (q : ∀ x s', BX X ι (b x ++ Δ) s' rest (kk x s') out) (hx : ∀ i ∈ ixs, i ∉ ι.ix := by first | decide | exact of_decide_eq_true rfl) (hs : swapsWithSole [tg] e pos.line X.env = pure false := by rfl) (hw : swappedStores [tg] e X.env = pure none := by rfl)
    (h1 : (assignEach [tg] X.env).map (·.2) = [assign tg X.env] := by rfl) : BX X ι Δ s (.Assign [tg] e pos :: rest) (M fun a s' => letM a fun a => kk a s') out := by
  intro r hr σ H Hf A Dn st p
  refine tS_cons (ps_asg (pE X e) (pG X tg) hs hw h1) (h _ r hr σ H Hf A _ st fun x s' hx' v H' Hf' st' e' r' => ?_)
  refine hg x v σ H' Hf' Δ A s' _ st' r' fun σ2 st2 o2 => ?_
  exact q x s' r hx' σ2 H' Hf' _ Dn st2 (p.step ((e'.stp ι.ix σ).trans (stp_cutL hx o2)))
/-- a, b = x, y: plain local names -/
theorem bx_par {i j : Nat} {x y : Str} {es1 es2 : Expr} {px py pt : Pos} {kt k2 : Nat} {pt2 : Pos} {M : (α × β → S → Option R) → Option R} {kk : α × β → S → Option R} (hN : X.N.Nodup) (h : AX X ι Δ s [es1, es2] M (fun p => [E p.1, F p.2]))
    (q : ∀ a s', BX X ι (iv j F a.2 :: iv i E a.1 :: Δ) s' rest (kk a s') out) (hc : X.calm = true := by rfl) (hi : X.N[i]? = some x := by rfl) (hj : X.N[j]? = some y := by rfl) (hij : i ≠ j := by decide)
    (hx : X.env.scope.names.lookup x = some .local := by rfl) (hy : X.env.scope.names.lookup y = some .local := by rfl) (hix : i ∉ ι.ix := by first | decide | exact of_decide_eq_true rfl) (hjx : j ∉ ι.ix := by first | decide | exact of_decide_eq_true rfl)
    (hw : swappedStores [.Tuple [.Name x px, .Name y py] kt pt] (.Tuple [es1, es2] k2 pt2) X.env = pure (some [x, y]) := by rfl)
    (hs : swapsWithSole [.Tuple [.Name x px, .Name y py] kt pt] (.Tuple [es1, es2] k2 pt2) pos.line X.env = pure false := by rfl) :
    BX X ι Δ s (.Assign [.Tuple [.Name x px, .Name y py] kt pt] (.Tuple [es1, es2] k2 pt2) pos :: rest) (M fun a s' => letM a fun a => kk a s') out := by
  intro r hr σ H Hf A Dn st p
  refine tS_inv fun pins sh I => tS_cons (ps_par hc hN hi hj hij hx hy (pA X _) hw hs) (h _ r hr σ H Hf A _ st fun a s' ha vs H' Hf' st' e' r' => ?_)
  obtain ⟨v, w, rfl, rv, rw'⟩ := two_args r'
  have hlen : i < σ.length := by rw [I.len]; exact (List.getElem?_eq_some_iff.mp hi).1
  have hlen2 : j < (σ.set i (some v)).length := by rw [List.length_set, I.len]; exact (List.getElem?_eq_some_iff.mp hj).1
  have st1 := st'.imm (P := ι.tr s') hlen (by rw [ι.keys]; exact hix) rv
  have st2 := st1.imm (P := ι.tr s') hlen2 (by rw [ι.keys]; exact hjx) rw'
  exact ⟨v, w, rfl, q a s' r ha _ H' Hf' _ Dn st2 (p.step (((e'.stp ι.ix σ).trans (stp_cut hix)).trans (stp_cut hjx)))⟩
theorem bx_brk {w : R} {Δ' : Dl} (ho : out w = .brk Δ' s) (hle : Le Δ' Δ) : BX X ι Δ s (.Break pos :: rest) (some w) out := by
  intro r hr σ H Hf A Dn st p
  cases hr
  rw [ho] at p
  exact tS_of (pss_cons ps_break (pS X rest)) (p σ H Hf A (st.weak hle.app) (Stp.refl _ _ _ _ _))
theorem bx_cont {w : R} {Δ' : Dl} (ho : out w = .cont Δ' s) (hle : Le Δ' Δ) : BX X ι Δ s (.Continue pos :: rest) (some w) out := by
  intro r hr σ H Hf A Dn st p
  cases hr
  rw [ho] at p
  exact tS_of (pss_cons ps_continue (pS X rest)) (p σ H Hf A (st.weak hle.app) (Stp.refl _ _ _ _ _))
theorem bx_pass {m : Option R} (h : BX X ι Δ s rest m out) : BX X ι Δ s (.Pass pos :: rest) m out := fun r hr σ H Hf A Dn st p => tS_cons ps_pass (h r hr σ H Hf A Dn st p)
/-- how a body's ways out are told -/
@[reducible] def outF {W Rr : Type} (Δw : W → Dl) (sw : W → S) (rd : Rr → D) (rs : Rr → S) : Fl W Rr → Out S
  | .next w => .next (Δw w) (sw w)
  | .cont w => .cont (Δw w) (sw w)
  | .brk w => .brk (Δw w) (sw w)
  | .ret r => .ret (rd r) (rs r)
/-- what follows a loop that may be left by a return -/
def flK {W Rr : Type} (K : W → Option R) (kr : Rr → R) : Fl W Rr → Option R
  | .next w => K w
  | .cont w => K w
  | .brk w => K w
  | .ret r => some (kr r)
/-- for, with a body that may be left -/
theorem bx_forE {W Rr : Type} (Δw : W → Dl) (sw : W → S) (rd : Rr → D) (rs : Rr → S) {iter : Expr} {body : List Stmt} {w0 : S → W} {Mi : (List α → S → Option R) → Option R} {ixs : List Nat} {b : α → Dl} {f : W → α → Option (Fl W Rr)} {K : W → Option R} {kr : Rr → R}
    (hi : IX X ι Δ s tg iter Mi E) (hg : GX X ι tg ixs b E) (h0 : ∀ s1, sw (w0 s1) = s1) (h0' : ∀ s1, Le (Δw (w0 s1)) Δ)
    (hb : ∀ w x, BX X ι (b x ++ Δw w) (sw w) body (f w x) (outF Δw sw rd rs))
    (hk : ∀ w, BX X ι (Δw w) (sw w) rest (K w) out) (hr : ∀ r, out (kr r) = .ret (rd r) (rs r)) (hp : PassesOwn (model X.prog X.w) X.A X.env X.xe := by exact PassesOwn.never) (hc : X.calm = true := by rfl)
    (hs : ∀ x, foldedSetIterable iter X.env x = pure x := by intro _; rfl) (hx : ∀ i ∈ ixs, i ∉ ι.ix := by first | decide | exact of_decide_eq_true rfl) :
    BX X ι Δ s (.For tg iter body [] pos :: rest) (Mi fun xs s1 => (forE f xs (w0 s1)).bind (flK K kr)) out := by
  intro r hr' σ H Hf A Dn st p
  refine tS_cons (ps_for hp hc (pI X tg iter) (pG X tg) (pS X body) hs) (hi _ r hr' σ H Hf A _ st fun xs s1 hx1 J H1 Hf1 st1 e1 wk => ?_)
  obtain ⟨o, hf, hK⟩ := bind_some hx1
  refine ⟨fun i m σ' H' => m = xs.length - i ∧ i ≤ xs.length ∧ ∃ w Hf' A', Sat X.K σ' H' Hf' (ι.tr (sw w) ++ Δw w) A' ∧ Stp ι.ix σ A H Hf σ' A' H' Hf' ∧ Sub Hf1 Hf' ∧ forE f (xs.drop i) w = some o,
    ⟨xs.length, by simp, Nat.zero_le _, w0 s1, Hf1, A, by rw [h0]; exact st1.weak (h0' s1).app, e1.stp _ _, Sub.refl _, hf⟩, ?_⟩
  rintro i m σ' H' ⟨rfl, hi', w, Hf', A', st', sp, sb, hw⟩
  by_cases hlt : i < xs.length
  · have hd : xs.drop i = xs[i] :: xs.drop (i + 1) := List.drop_eq_getElem_cons hlt
    rw [hd] at hw
    obtain ⟨o1, hw1, hw2⟩ := bind_some (show (f w xs[i]).bind _ = some o from hw)
    refine .inr ⟨wk.go i H' Hf' sb st'.sub hlt, fun σ2 H2 => ∃ w1 Hf2 A2, Sat X.K σ2 H2 Hf2 (ι.tr (sw w1) ++ Δw w1) A2 ∧ Stp ι.ix σ A H Hf σ2 A2 H2 Hf2 ∧ Sub Hf1 Hf2 ∧ forE f (xs.drop (i + 1)) w1 = some o,
      fun σ2 H2 ⟨w1, Hf2, A2, q1, q2, q3, q4⟩ => ⟨xs.length - (i + 1), by omega, rfl, hlt, w1, Hf2, A2, q1, q2, q3, q4⟩, fun v H2 hy => ?_⟩
    obtain ⟨Hf2, e2, sb2, rv⟩ := wk.yld i xs[i] v H' H2 Hf' sb st'.sub (List.getElem?_eq_getElem hlt) hy
    have st2 := st'.up e2 sb2
    refine hg xs[i] v σ' H2 Hf2 _ A' (sw w) _ st2 rv fun σ3 st3 o3 => ?_
    have sp3 : Stp ι.ix σ A H Hf σ3 (cutL A' ixs) H2 Hf2 := (sp.trans ((e2.toA (ix := ι.ix)).stp _ _)).trans (stp_cutL hx o3)
    refine hb w xs[i] o1 hw1 σ3 H2 Hf2 _ _ st3 ?_
    have sbg : Sub Hf1 Hf2 := sb.trans e2.grow
    cases o1 with
    | next w1 => exact fun σ4 H4 Hf4 A4 q1 q2 => ⟨w1, Hf4, A4, q1, sp3.trans q2, sbg.trans q2.grow, hw2⟩
    | cont w1 => exact fun σ4 H4 Hf4 A4 q1 q2 => ⟨w1, Hf4, A4, q1, sp3.trans q2, sbg.trans q2.grow, hw2⟩
    | brk w1 =>
      have eo : Fl.next w1 = o := Option.some.inj hw2
      subst eo
      exact fun σ4 H4 Hf4 A4 q1 q2 => hk w1 r hK σ4 H4 Hf4 A4 Dn q1 (p.step (sp3.trans q2))
    | ret r1 =>
      have eo : Fl.ret r1 = o := Option.some.inj hw2
      subst eo
      have er : kr r1 = r := Option.some.inj hK
      subst er
      rw [hr] at p
      exact fun v σ4 H4 Hf4 A4 q1 q2 q3 => p v σ4 H4 Hf4 A4 q1 (sp3.trans q2) q3
  · have ei : i = xs.length := by omega
    subst ei
    rw [List.drop_length] at hw
    have eo : Fl.next w = o := Option.some.inj hw
    subst eo
    exact .inl ⟨wk.stop _ H' Hf' sb st'.sub (Nat.le_refl _), hk w r hK σ' H' Hf' A' Dn st' (p.step sp)⟩
/-- the first way does not fall through; it ends as P tells -/
theorem bx_ifX {P : Type} (emb : P → R) {A : List Stmt} {Mc : (Bool → S → Option R) → Option R} {mA : S → Option P} {mB : S → Option R} (hc : TX X ι Δ s c Mc) (hA : ∀ s1, BX X ι Δ s1 A (mA s1) (fun p => out (emb p))) (hB : ∀ s1, BX X ι Δ s1 rest (mB s1) out)
    (hn : ∀ p Δ' s', out (emb p) ≠ .next Δ' s' := by intro p _ _ h; cases p <;> nomatch h) : BX X ι Δ s (.If c A [] pos :: rest) (Mc fun z s1 => if z = true then (mA s1).map emb else mB s1) out := by
  intro r hr σ H Hf As Dn st p
  refine tS_cons (ps_if (pT X c) (pS X A) (pS X [])) (hc _ r hr σ H Hf As _ st fun z s1 hz H1 Hf1 st1 e1 => ?_)
  cases z with
  | true =>
    rw [if_pos rfl] at hz ⊢
    cases hm : mA s1 with
    | none => rw [hm] at hz; cases hz
    | some x =>
      rw [hm] at hz
      have er : emb x = r := Option.some.inj hz
      subst er
      refine hA s1 x hm σ H1 Hf1 As _ st1 ?_
      have p' := p.step (e1.stp ι.ix σ)
      show Post X ι σ As H1 Hf1 _ (out (emb x))
      cases ho : out (emb x) with
      | next Δ' s' => exact absurd ho (hn x Δ' s')
      | exc cl fs s' => rw [ho] at p'; exact p'
      | ret d s' => rw [ho] at p'; exact p'
      | brk Δ' s' => rw [ho] at p'; exact p'
      | cont Δ' s' => rw [ho] at p'; exact p'
  | false =>
    rw [if_neg Bool.false_ne_true] at hz ⊢
    exact tS_of pss_nil (hB s1 r hz σ H1 Hf1 As Dn st1 (p.step (e1.stp _ _)))
/-- either way may fall through, or end as P tells -/
inductive Jn (W P : Type) where
  | go (w : W)
  | ex (p : P)
@[reducible] def outJ {W P : Type} (Δw : W → Dl) (sw : W → S) (o : P → Out S) : Jn W P → Out S
  | .go w => .next (Δw w) (sw w)
  | .ex p => o p
def jnK {P W : Type} (K : W → Option R) (emb : P → R) : Jn W P → Option R
  | .go w => K w
  | .ex p => some (emb p)
theorem bx_ifJ {P W : Type} (emb : P → R) (Δw : W → Dl) (sw : W → S) {A B : List Stmt} {Mc : (Bool → S → Option R) → Option R} {mA mB : S → Option (Jn W P)} {K : W → Option R} (hc : TX X ι Δ s c Mc)
    (hA : ∀ s1, BX X ι Δ s1 A (mA s1) (outJ Δw sw fun p => out (emb p))) (hB : ∀ s1, BX X ι Δ s1 B (mB s1) (outJ Δw sw fun p => out (emb p))) (hK : ∀ w, BX X ι (Δw w) (sw w) rest (K w) out)
    (hn : ∀ p Δ' s', out (emb p) ≠ .next Δ' s' := by intro p _ _ h; cases p <;> nomatch h) :
    BX X ι Δ s (.If c A B pos :: rest) (Mc fun z s1 => (if z = true then mA s1 else mB s1).bind (jnK K emb)) out := by
  intro r hr σ H Hf As Dn st p
  refine tS_cons (ps_if (pT X c) (pS X A) (pS X B)) (hc _ r hr σ H Hf As _ st fun z s1 hz H1 Hf1 st1 e1 => ?_)
  obtain ⟨o, h1, h2⟩ := bind_some hz
  have p' := p.step (e1.stp ι.ix σ)
  have fin : Post X ι σ As H1 Hf1 { Dn with nx := fun σ' H' => tS X rest Dn σ' H' } (outJ Δw sw (fun p => out (emb p)) o) := by
    cases o with
    | go w => exact fun σ2 H2 Hf2 A2 q1 q2 => hK w r h2 σ2 H2 Hf2 A2 Dn q1 (p'.step q2)
    | ex x =>
      have er : emb x = r := Option.some.inj h2
      subst er
      show Post X ι σ As H1 Hf1 _ (out (emb x))
      cases ho : out (emb x) with
      | next Δ' s' => exact absurd ho (hn x Δ' s')
      | exc cl fs s' => rw [ho] at p'; exact p'
      | ret d s' => rw [ho] at p'; exact p'
      | brk Δ' s' => rw [ho] at p'; exact p'
      | cont Δ' s' => rw [ho] at p'; exact p'
  cases z with
  | true =>
    rw [if_pos rfl] at h1 ⊢
    exact hA s1 o h1 σ H1 Hf1 As _ st1 fin
  | false =>
    rw [if_neg Bool.false_ne_true] at h1 ⊢
    exact hB s1 o h1 σ H1 Hf1 As _ st1 fin
/-! while -/
def iterW {W Rr : Type} (f : W → Option (Fl W Rr)) : Nat → W → Option (Fl W Rr)
  | 0, _ => none
  | n + 1, w => (f w).bind fun o => match o with
    | .next w' => iterW f n w'
    | .cont w' => iterW f n w'
    | .brk w' => some (.next w')
    | .ret r => some (.ret r)
theorem iterW_mono {W Rr : Type} {f : W → Option (Fl W Rr)} : ∀ {n : Nat} {w : W} {o : Fl W Rr}, iterW f n w = some o → ∀ m, n ≤ m → iterW f m w = some o
  | 0, w, o, h, _, _ => by cases h
  | n + 1, w, o, h, m, hm => by
    obtain ⟨m', rfl⟩ : ∃ m', m = m' + 1 := ⟨m - 1, by omega⟩
    obtain ⟨x, h1, h2⟩ := bind_some (show (f w).bind _ = some o from h)
    show (f w).bind _ = some o
    rw [h1]
    cases x with
    | next w' => exact iterW_mono (n := n) h2 m' (by omega)
    | cont w' => exact iterW_mono (n := n) h2 m' (by omega)
    | brk w' => exact h2
    | ret r => exact h2
open Classical in
/-- a while loop: f tells one turn, .brk where its test is false -/
noncomputable def whileM {W Rr : Type} (f : W → Option (Fl W Rr)) (w : W) : Option (Fl W Rr) := if h : ∃ n, (iterW f n w).isSome = true then iterW f h.choose w else none
theorem whileM_iter {W Rr : Type} {f : W → Option (Fl W Rr)} {w : W} {o : Fl W Rr} (h : whileM f w = some o) : ∃ n, iterW f n w = some o := by
  unfold whileM at h
  split at h
  · exact ⟨_, h⟩
  · cases h
theorem whileM_of {W Rr : Type} {f : W → Option (Fl W Rr)} {w : W} {o : Fl W Rr} {n : Nat} (h : iterW f n w = some o) : whileM f w = some o := by
  unfold whileM
  have ex : ∃ n, (iterW f n w).isSome = true := ⟨n, by rw [h]; rfl⟩
  rw [dif_pos ex]
  obtain ⟨o', ho⟩ := Option.isSome_iff_exists.mp ex.choose_spec
  have h1 := iterW_mono h (max n ex.choose) (Nat.le_max_left _ _)
  have h2 := iterW_mono ho (max n ex.choose) (Nat.le_max_right _ _)
  rw [h1] at h2
  rw [ho]; exact h2.symm
theorem bx_while {W Rr : Type} (Δw : W → Dl) (sw : W → S) (rd : Rr → D) (rs : Rr → S) (ws : W → S → W) {body : List Stmt} {w0 : W} {Mc : W → (Bool → S → Option (Fl W Rr)) → Option (Fl W Rr)} {mb : W → S → Option (Fl W Rr)} {K : W → Option R} {kr : Rr → R}
    (h0 : sw w0 = s) (h0' : Le (Δw w0) Δ) (hs1 : ∀ w s1, Δw (ws w s1) = Δw w) (hs2 : ∀ w s1, sw (ws w s1) = s1)
    (hc : ∀ w, TX X ι (Δw w) (sw w) c (Mc w)) (hb : ∀ w s1, BX X ι (Δw w) s1 body (mb w s1) (outF Δw sw rd rs))
    (hk : ∀ w, BX X ι (Δw w) (sw w) rest (K w) out) (hr : ∀ r, out (kr r) = .ret (rd r) (rs r)) (hp : PassesOwn (model X.prog X.w) X.A X.env X.xe := by exact PassesOwn.never) :
    BX X ι Δ s (.While c body [] pos :: rest) ((whileM (fun w => Mc w fun z s1 => if z = true then mb w s1 else some (.brk (ws w s1))) w0).bind (flK K kr)) out := by
  intro r hr' σ H Hf A Dn st p
  obtain ⟨o, hf, hK⟩ := bind_some hr'
  obtain ⟨n, hn⟩ := whileM_iter hf
  refine tS_cons (ps_while hp (pT X c) (pS X body)) ?_
  refine ⟨fun m σ' H' => ∃ w Hf' A', Sat X.K σ' H' Hf' (ι.tr (sw w) ++ Δw w) A' ∧ Stp ι.ix σ A H Hf σ' A' H' Hf' ∧ iterW (fun w => Mc w fun z s1 => if z = true then mb w s1 else some (.brk (ws w s1))) m w = some o,
    ⟨n, w0, Hf, A, by rw [h0]; exact st.weak h0'.app, Stp.refl _ _ _ _ _, hn⟩, ?_⟩
  rintro m σ' H' ⟨w, Hf', A', st', sp, hit⟩
  cases m with
  | zero => cases hit
  | succ m =>
    obtain ⟨o1, h1, h2⟩ := bind_some (show (Mc w _).bind _ = some o from hit)
    refine hc w _ o1 h1 σ' H' Hf' A' _ st' fun z s1 hz H1 Hf1 st1 e1 => ?_
    have sp1 := sp.trans (e1.stp ι.ix σ')
    cases z with
    | false =>
      rw [if_neg Bool.false_ne_true] at hz ⊢
      have eo : Fl.brk (ws w s1) = o1 := Option.some.inj hz
      subst eo
      have eo2 : Fl.next (ws w s1) = o := Option.some.inj h2
      subst eo2
      exact hk (ws w s1) r hK σ' H1 Hf1 A' Dn (by rw [hs1, hs2]; exact st1) (p.step sp1)
    | true =>
      rw [if_pos rfl] at hz ⊢
      refine ⟨fun σ2 H2 => ∃ w1 Hf2 A2, Sat X.K σ2 H2 Hf2 (ι.tr (sw w1) ++ Δw w1) A2 ∧ Stp ι.ix σ A H Hf σ2 A2 H2 Hf2 ∧ iterW (fun w => Mc w fun z s1 => if z = true then mb w s1 else some (.brk (ws w s1))) m w1 = some o,
        fun σ2 H2 ⟨w1, Hf2, A2, q1, q2, q3⟩ => ⟨m, Nat.lt_succ_self m, w1, Hf2, A2, q1, q2, q3⟩, ?_⟩
      refine hb w s1 o1 hz σ' H1 Hf1 A' _ st1 ?_
      cases o1 with
      | next w1 => exact fun σ4 H4 Hf4 A4 q1 q2 => ⟨w1, Hf4, A4, q1, sp1.trans q2, h2⟩
      | cont w1 => exact fun σ4 H4 Hf4 A4 q1 q2 => ⟨w1, Hf4, A4, q1, sp1.trans q2, h2⟩
      | brk w1 =>
        have eo : Fl.next w1 = o := Option.some.inj h2
        subst eo
        exact fun σ4 H4 Hf4 A4 q1 q2 => hk w1 r hK σ4 H4 Hf4 A4 Dn q1 (p.step (sp1.trans q2))
      | ret r1 =>
        have eo : Fl.ret r1 = o := Option.some.inj h2
        subst eo
        have er : kr r1 = r := Option.some.inj hK
        subst er
        rw [hr] at p
        exact fun v σ4 H4 Hf4 A4 q1 q2 q3 => p v σ4 H4 Hf4 A4 q1 (sp1.trans q2) q3
end
end
end Ab
namespace Ab
open PySem PySem.Spec PyProof.Rows L2
/-! ### a list of one's own is not written any more -/
theorem Sat.thaw {K : KF} {σ : L2.St} {H Hf : Hp} {P Δ : Dl} {A : Nat → List Addr} {i : Nat} {l : Addr} {vs : List V} {ds : List D} (st : Sat K σ H Hf (P ++ Δ) A) (hP : i ∉ P.map (·.1)) (hA : A i = [l]) (hσ : σ[i]? = some (some (.ref l)))
    (hl : H l = some (.lst vs)) (hz : vs.length ≤ Line) (ra : RpAll K Hf vs ds) : Sat K σ H (upd Hf l (.lst vs)) (P ++ (i, some (.imm (.list ds))) :: Δ) (cut A i []) := by
  have hn : Hf l = none := (st.own i l (by rw [hA]; simp)).1
  have gr : Sub Hf (upd Hf l (.lst vs)) := fun b u h => .self (by rw [upd_ne (ne_of_none h hn)]; exact h)
  have hin : ∀ j a, a ∈ cut A i [] j → a ∈ A j ∧ j ≠ i := fun j a h => by
    by_cases z : j = i
    · subst z; rw [cut_self] at h; simp at h
    · rw [cut_ne z] at h; exact ⟨h, z⟩
  refine ⟨fun a u h => ?_, fun j T h => ?_, fun j a h => ?_, fun j k a h1 h2 => st.inj j k a (hin j a h1).1 (hin k a h2).1⟩
  · by_cases q : a = l
    · subst q; rw [upd_same] at h; exact .self (hl.trans h)
    · rw [upd_ne q] at h; exact st.sub a u h
  · by_cases z : j = i
    · subst z
      rw [lk_append_out hP, lk_self] at h
      cases h
      exact ⟨_, fun _ => hσ, by rw [cut_self], .lst (.inl upd_same) hz (ra.up gr)⟩
    · have h' : lk (P ++ Δ) j = some T := by
        by_cases m : j ∈ P.map (·.1)
        · rw [lk_append_in (Δ' := Δ) m] at h; exact h
        · rw [lk_append_out m] at h ⊢; rw [lk_ne z] at h; exact h
      obtain ⟨v, h1, h2⟩ := st.slot j T h'
      rw [cut_ne z]
      exact ⟨v, h1, h2.up gr fun a _ u q => .self q⟩
  · obtain ⟨m, z⟩ := hin j a h
    obtain ⟨n1, n2⟩ := st.own j a m
    refine ⟨?_, n2⟩
    by_cases q : a = l
    · subst q; exact absurd (st.inj j i a m (by rw [hA]; simp)) z
    · rw [upd_ne q]; exact n1
section
variable {X : Cx} {S : Type} {ι : Io S} {Δ : Dl} {s : S} {R : Type} {out : R → Out S} {st : List Stmt} {m : Option R} {pos : Pos}
variable {α β γ : Type} {E : α → D} {F : β → D}
theorem bx_freeze (i : Nat) {l : List α} (hl : lk (ι.tr s ++ Δ) i = some (.lst (l.map E))) (h : BX X ι (iv i (Ty.lst E) l :: Δ) s st m out) (hix : i ∉ ι.ix := by first | decide | exact of_decide_eq_true rfl) : BX X ι Δ s st m out := by
  intro r hr σ H Hf A Dn sat p
  obtain ⟨a, vs, h1, h2, h3, h4, h5⟩ := sat.lstAt hl
  have hn : Hf a = none := (sat.own i a (by rw [h2]; simp)).1
  have gr : Sub Hf (upd Hf a (.lst vs)) := fun b u h => .self (by rw [upd_ne (ne_of_none h hn)]; exact h)
  have st2 := sat.thaw (P := ι.tr s) (by rw [ι.keys]; exact hix) h2 h1 h3 h4 h5
  refine h r hr σ H _ _ Dn st2 (p.step ⟨fun _ _ => rfl, fun _ _ _ h => .self h, fun _ h => h, gr, fun b hb => ?_, fun j b hb => ?_, fun j hj => cut_ne (ne_mem hj hix)⟩)
  · by_cases z : b = a
    · subst z; exact .inr (.inr ⟨i, hix, by rw [h2]; simp⟩)
    · rw [upd_ne z] at hb; exact .inl hb
  · by_cases z : j = i
    · subst z; rw [cut_self] at hb; simp at hb
    · rw [cut_ne z] at hb; exact .inl ⟨j, hb, fun _ => rfl⟩
/-! maybe something -/
theorem ex_some {e : Expr} {M : (α → S → Option R) → Option R} (h : EX X ι Δ s e M E) : EX X ι Δ s e (fun k => M fun x s1 => k (some x) s1) (Ty.opt E) := fun k r hk σ H Hf A Q st q => h _ r hk σ H Hf A Q st fun x s1 hx v H1 Hf1 st1 e1 r1 => q (some x) s1 hx v H1 Hf1 st1 e1 r1
theorem ex_non {e : Expr} {M : (Unit → S → Option R) → Option R} (h : EX X ι Δ s e M Ty.none) : EX X ι Δ s e (fun k => M fun _ s1 => k none s1) (Ty.opt E) := fun k r hk σ H Hf A Q st q => h _ r hk σ H Hf A Q st fun x s1 hx v H1 Hf1 st1 e1 r1 => q none s1 hx v H1 Hf1 st1 e1 r1
end
/-! ### a list of one's own, read where nothing of it stays -/
mutual
/-- data without lists -/
def flatD : D → Bool
  | .none => true
  | .bool _ => true
  | .int _ => true
  | .str _ => true
  | .list _ => false
  | .tuple ds => flatDs ds
  | .dict _ => false
def flatDs : List D → Bool
  | [] => true
  | d :: ds => flatD d && flatDs ds
end
def off (H : Hp) (l : Addr) : Hp := fun a => if a = l then none else H a
theorem off_ne {H : Hp} {a l : Addr} (h : a ≠ l) : off H l a = H a := if_neg h
theorem off_same {H : Hp} {l : Addr} : off H l l = none := if_pos rfl
theorem tup_off {K : KF} {H : Hp} {l a : Addr} {vs xs : List V} (hl : H l = some (.lst vs)) (h : SqT K H a xs) : SqT K (off H l) a xs := by
  rcases h with (h | ⟨o, h⟩) | h
  · exact .inl (.inl (by rw [off_ne (fun z => by rw [z, hl] at h; cases h)]; exact h))
  · exact .inl (.inr ⟨o, by rw [off_ne (fun z => by rw [z, hl] at h; cases h)]; exact h⟩)
  · exact .inr h
mutual
theorem Rp.off' {K : KF} {H : Hp} {l : Addr} {vs : List V} (hl : H l = some (.lst vs)) : ∀ (d : D) (v : V), flatD d = true → Rp K H v d → Rp K (off H l) v d
  | .none, _, _, h => by cases h; exact .non
  | .bool b, _, _, h => by cases h; exact .bl b
  | .int i, _, _, h => by cases h; exact .int i
  | .str x, _, _, h => by cases h with | str _ ok => exact .str x ok
  | .list ds, _, f, h => by cases f
  | .tuple ds, _, f, h => by cases h with | tup s z r => exact .tup (tup_off hl s) z (RpAll.off' hl ds _ f r)
  | .dict _, _, f, h => by cases f
theorem RpAll.off' {K : KF} {H : Hp} {l : Addr} {vs : List V} (hl : H l = some (.lst vs)) : ∀ (ds : List D) (ws : List V), flatDs ds = true → RpAll K H ws ds → RpAll K (off H l) ws ds
  | [], _, _, h => by cases h; exact .nil
  | d :: ds, _, f, h => by
    have f1 : (flatD d && flatDs ds) = true := f
    rw [Bool.and_eq_true] at f1
    cases h with | cons r t => exact .cons (Rp.off' hl d _ f1.1 r) (RpAll.off' hl ds _ f1.2 t)
end
/-- the state's slots do not lean on Hf -/
def Io.free {S : Type} (ι : Io S) : Prop := ∀ s i T, lk (ι.tr s) i = some T → ∀ (K : KF) (Hf Hf' H : Hp) v as, Holds K Hf H v T as → Holds K Hf' H v T as
theorem free0 : Io.free io0 := fun s i T h => by cases h
theorem freeR (i : Nat) : Io.free (io1 rtR i) := fun s j T h K Hf Hf' H v as q => by
  by_cases z : j = i
  · subst z
    have h' : lk [(j, some (rtR s))] j = some T := h
    rw [lk_self] at h'
    cases h'
    exact q
  · have h' : lk [(i, some (rtR s))] j = some T := h
    rw [lk_ne z] at h'
    cases h'
section
variable {X : Cx} {S : Type} {ι : Io S} {Δ : Dl} {s : S} {R : Type} {pos : Pos} {e : Expr}
variable {α β : Type} {E : α → D} {F : β → D}
theorem peek_back {K : KF} {σ : L2.St} {H Hf H' Hf' : Hp} {A : Nat → List Addr} {i : Nat} {a : Addr} {vs : List V} {ds : List D} {s' : S} (fr : ι.free) (st : Sat K σ H Hf (ι.tr s ++ Δ) A) (hix : i ∉ ι.ix) (h2 : A i = [a]) (h3 : H a = some (.lst vs))
    (st' : Sat K σ H' Hf' (ι.tr s' ++ (i, some (.imm (.list ds))) :: Δ) (cut A i [])) (e' : ExtA ι.ix (cut A i []) H (upd Hf a (.lst vs)) H' Hf') : Hf' a = some (.lst vs) ∧ Sat K σ H' (off Hf' a) (ι.tr s' ++ Δ) A ∧ ExtA ι.ix A H Hf H' (off Hf' a) := by
  have hn : Hf a = none := (st.own i a (by rw [h2]; simp)).1
  have hfa : Hf' a = some (.lst vs) := e'.grow _ _ upd_same
  have hsub : Sub Hf (off Hf' a) := fun b u h => by
    have ne : b ≠ a := ne_of_none h hn
    exact (e'.grow b u (by rw [upd_ne ne]; exact h)).same (off_ne ne)
  have kp : ∀ j, j ∉ ι.ix → ∀ b ∈ A j, ∀ o, H b = some o → KeepO o H' b := fun j hj b hb o ho => e'.keep b o (fun j' hj' m => by
    by_cases z : j' = i
    · subst z; exact hix hj'
    · rw [cut_ne z] at m
      have := st.inj j j' b hb m
      subst this
      exact hj hj') ho
  refine ⟨hfa, ⟨fun b u h => ?_, fun j T hj => ?_, fun j b hb => ?_, st.inj⟩, ⟨fun b o m h => e'.keep b o (fun j hj hm => ?_) h, e'.there, hsub, fun b hb => ?_⟩⟩
  · by_cases z : b = a
    · subst z; rw [off_same] at h; cases h
    · rw [off_ne z] at h; exact st'.sub b u h
  · by_cases m : j ∈ ι.ix
    · have z : j ≠ i := fun z => hix (z ▸ m)
      have m1 : j ∈ (ι.tr s').map (·.1) := by rw [ι.keys]; exact m
      have hj2 : lk (ι.tr s' ++ (i, some (.imm (.list ds))) :: Δ) j = some T := by rw [lk_append_in (Δ' := Δ) m1]; exact hj
      obtain ⟨v, g1, g2⟩ := st'.slot j T hj2
      rw [cut_ne z] at g2
      have hj3 : lk (ι.tr s') j = some T := by
        have := lk_append_in (Δ := Δ) (Δ' := []) m1
        rw [List.append_nil] at this
        rw [← this]; exact hj
      exact ⟨v, g1, fr s' j T hj3 _ _ _ _ _ _ g2⟩
    · have m0 : j ∉ (ι.tr s).map (·.1) := by rw [ι.keys]; exact m
      have m1 : j ∉ (ι.tr s').map (·.1) := by rw [ι.keys]; exact m
      rw [lk_append_out m1] at hj
      obtain ⟨v, g1, g2⟩ := st.slot j T (by rw [lk_append_out m0]; exact hj)
      exact ⟨v, g1, g2.up hsub fun b hb o ho => kp j m b hb o ho⟩
  · refine ⟨?_, e'.there b (st.own j b hb).2⟩
    by_cases z : b = a
    · subst z; exact off_same
    · rw [off_ne z]
      by_cases zj : j = i
      · subst zj; rw [h2] at hb; exact absurd (by simpa using hb) z
      · exact (st'.own j b (by rw [cut_ne zj]; exact hb)).1
  · by_cases z : j = i
    · subst z; exact hix hj
    · rw [cut_ne z] at hm; exact m j hj hm
  · by_cases z : b = a
    · subst z; rw [off_same] at hb; exact absurd rfl hb
    · rw [off_ne z] at hb
      rcases e'.news b hb with q | q
      · rw [upd_ne z] at q; exact .inl q
      · exact .inr q
theorem ex_peek (i : Nat) {l : List α} (fr : ι.free) {M : (β → S → Option R) → Option R} (hl : lk (ι.tr s ++ Δ) i = some (.lst (l.map E))) (h : EX X ι (iv i (Ty.lst E) l :: Δ) s e M F) (hF : ∀ x, flatD (F x) = true) (hix : i ∉ ι.ix := by first | decide | exact of_decide_eq_true rfl) : EX X ι Δ s e M F := by
  intro k r hk σ H Hf A Q st q
  obtain ⟨a, vs, h1, h2, h3, h4, h5⟩ := st.lstAt hl
  refine h k r hk σ H _ _ Q (st.thaw (P := ι.tr s) (by rw [ι.keys]; exact hix) h2 h1 h3 h4 h5) fun x s' hx v H' Hf' st' e' r' => ?_
  obtain ⟨hfa, st2, e2⟩ := peek_back fr st hix h2 h3 st' e'
  exact q x s' hx v H' _ st2 e2 (Rp.off' hfa _ _ (hF x) r')
theorem tx_peek (i : Nat) {l : List α} (fr : ι.free) {M : (Bool → S → Option R) → Option R} (hl : lk (ι.tr s ++ Δ) i = some (.lst (l.map E))) (h : TX X ι (iv i (Ty.lst E) l :: Δ) s e M) (hix : i ∉ ι.ix := by first | decide | exact of_decide_eq_true rfl) : TX X ι Δ s e M := by
  intro k r hk σ H Hf A Q st q
  obtain ⟨a, vs, h1, h2, h3, h4, h5⟩ := st.lstAt hl
  refine h k r hk σ H _ _ Q (st.thaw (P := ι.tr s) (by rw [ι.keys]; exact hix) h2 h1 h3 h4 h5) fun x s' hx H' Hf' st' e' => ?_
  obtain ⟨hfa, st2, e2⟩ := peek_back fr st hix h2 h3 st' e'
  exact q x s' hx H' _ st2 e2
theorem flat_map (hF : ∀ x, flatD (F x) = true) : ∀ l : List β, flatDs (l.map F) = true
  | [] => rfl
  | x :: l => by show (flatD (F x) && flatDs (l.map F)) = true; rw [hF, flat_map hF l]; rfl
theorem eo_peek (i : Nat) {l : List α} (fr : ι.free) {M : (List β → S → Option R) → Option R} (hl : lk (ι.tr s ++ Δ) i = some (.lst (l.map E))) (h : EO X ι (iv i (Ty.lst E) l :: Δ) s e M F) (hF : ∀ x, flatD (F x) = true) (hix : i ∉ ι.ix := by first | decide | exact of_decide_eq_true rfl) : EO X ι Δ s e M F := by
  intro k r hk σ H Hf A Q st q
  obtain ⟨a, vs, h1, h2, h3, h4, h5⟩ := st.lstAt hl
  refine h k r hk σ H _ _ Q (st.thaw (P := ι.tr s) (by rw [ι.keys]; exact hix) h2 h1 h3 h4 h5) fun x s' hx b ws H' Hf' st' e' hb hz r' hn hf => ?_
  obtain ⟨hfa, st2, e2⟩ := peek_back fr st hix h2 h3 st' e'
  refine q x s' hx b ws H' _ st2 e2 hb hz (RpAll.off' hfa _ _ (flat_map hF x) r') ?_ hf
  have : b ≠ a := fun z => by rw [z, h3] at hf; cases hf
  rw [off_ne this]; exact hn
theorem lo_peek (i : Nat) {l : List α} (fr : ι.free) {elt tg iter : Expr} {ifs : List Expr} {scope : Scope} {own : List (Str × Nat)} {M : (List β → S → Option R) → Option R} (hl : lk (ι.tr s ++ Δ) i = some (.lst (l.map E))) (h : LO X ι (iv i (Ty.lst E) l :: Δ) s elt tg iter ifs scope own M F) (hF : ∀ x, flatD (F x) = true) (hix : i ∉ ι.ix := by first | decide | exact of_decide_eq_true rfl) : LO X ι Δ s elt tg iter ifs scope own M F := by
  refine ⟨h.hN, h.ok, h.hc, h.hs, ?_⟩
  intro k r hk σ H Hf A Q st q
  obtain ⟨a, vs, h1, h2, h3, h4, h5⟩ := st.lstAt hl
  refine h.read k r hk σ H _ _ Q (st.thaw (P := ι.tr s) (by rw [ι.keys]; exact hix) h2 h1 h3 h4 h5) fun x s' hx b ws H' Hf' st' e' hb hz r' hn hf => ?_
  obtain ⟨hfa, st2, e2⟩ := peek_back fr st hix h2 h3 st' e'
  refine q x s' hx b ws H' _ st2 e2 hb hz (RpAll.off' hfa _ _ (flat_map hF x) r') ?_ hf
  have : b ≠ a := fun z => by rw [z, h3] at hf; cases hf
  rw [off_ne this]; exact hn
/-- list(own): a new list of the same items -/
theorem eo_listO (i : Nat) {x : Str} {p px : Pos} {l : List α} (hl : lk (ι.tr s ++ Δ) i = some (.lst (l.map E))) (hm : X.mg "list" = none) (hN : X.N[i]? = some x := by rfl) (hgl : Gl X "list" := by rfl)
    (hv : Vis X.env.scope x := by first | exact Or.inl rfl | exact Or.inr (Or.inl rfl) | exact Or.inr (Or.inr rfl)) (hd : (x == ("__debug__" : Str)) = false := by decide) (hcd : (x == ("__classdict__" : Str)) = false := by decide)
    (he : starEach [.Name x px] X.env = (false, eval (.Name x px) X.env) :: starEach [] X.env := by rfl) : EO X ι Δ s (.Call (.Name "list" p) [.Name x px] [] pos) (R := R) (fun k => k l s) E := by
  intro k r hk σ H Hf A Q st q
  obtain ⟨a, vs, h1, h2, h3, h4, h5⟩ := st.lstAt hl
  refine tE_of (pe_callTy call_list_of hgl hm Bo.list (pa_cons (pe_var hN hv hd hcd) pa_nil he) (by decide) (by decide) he rfl) ?_
  refine ⟨_, h1, a, vs, rfl, .inl (.inl (.inl h3)), fun b nb => ?_⟩
  have ex := Ext.newO (o := .lst vs) (Hf := Hf) nb
  exact q l s hk b vs _ Hf (st.up ex (Sub.newO nb st.sub)) ex.toA upd_same h4 h5 (st.sub.non nb) nb
end
end Ab
namespace Ab
open PySem PySem.Spec PyProof.Rows L2
/-! ### what a mirror gives -/
def Y {α : Type} (m : Option α) (P : α → Prop) : Prop := ∃ a, m = some a ∧ P a
section
variable {α β γ W S R Rr : Type} {P : α → Prop} {Q : β → Prop}
theorem Y.ok {a : α} (h : P a) : Y (Option.some a) P := ⟨a, rfl, h⟩
theorem Y.mono {m : Option α} {P' : α → Prop} (h : Y m P) (k : ∀ a, P a → P' a) : Y m P' := by
  obtain ⟨a, h1, h2⟩ := h
  exact ⟨a, h1, k a h2⟩
theorem Y.bind {m : Option α} {f : α → Option β} (h : Y m P) (k : ∀ a, P a → Y (f a) Q) : Y (m.bind f) Q := by
  obtain ⟨a, h1, h2⟩ := h
  obtain ⟨b, h3, h4⟩ := k a h2
  exact ⟨b, by rw [h1]; exact h3, h4⟩
theorem Y.bindE {m : Option α} {f : α → Option β} {a : α} (h : m = some a) (k : Y (f a) Q) : Y (m.bind f) Q := by
  rw [h]; exact k
theorem Y.guard {c : Prop} [Decidable c] {m : Option α} (h : c) (k : Y m P) : Y (guardM c m) P := by
  rw [guardM_pos h]; exact k
theorem Y.lt {a : β} {k : β → Option α} (h : Y (k a) P) : Y (letM a k) P := h
theorem Y.ite {z : Bool} {A B : Option α} (h1 : z = true → Y A P) (h2 : z = false → Y B P) : Y (if z = true then A else B) P := by
  cases z with
  | true => rw [if_pos rfl]; exact h1 rfl
  | false => rw [if_neg Bool.false_ne_true]; exact h2 rfl
theorem Y.iteT {z : Bool} {A B : Option α} (h : z = true) (h1 : Y A P) : Y (if z = true then A else B) P := by rw [if_pos h]; exact h1
theorem Y.iteF {z : Bool} {A B : Option α} (h : z = false) (h1 : Y B P) : Y (if z = true then A else B) P := by rw [h, if_neg Bool.false_ne_true]; exact h1
theorem Y.of_eq {m : Option α} {a : α} (h : m = .some a) (p : P a) : Y m P := ⟨a, h, p⟩
theorem Y.foldlM {f : W → α → Option W} {I : List α → W → Prop} : ∀ (xs pre : List α) (w : W), I pre w → (∀ p x w, p ++ [x] <+: pre ++ xs → I p w → Y (f w x) (I (p ++ [x]))) → Y (xs.foldlM f w) (I (pre ++ xs))
  | [], pre, w, h, _ => by rw [List.append_nil]; exact ⟨w, rfl, h⟩
  | x :: xs, pre, w, h, k => by
    rw [List.foldlM_cons]
    refine Y.bind (k pre x w ⟨xs, by simp⟩ h) fun w1 h1 => ?_
    have := Y.foldlM (f := f) (I := I) xs (pre ++ [x]) w1 h1 (fun p y w2 hp => k p y w2 (by simpa using hp))
    simpa using this
/-- a walk with what holds ahead of each turn -/
theorem Y.fold {f : W → α → Option W} {xs : List α} {w : W} (I : List α → W → Prop) (h : I [] w) (k : ∀ p x w, p ++ [x] <+: xs → I p w → Y (f w x) (I (p ++ [x]))) : Y (xs.foldlM f w) (I xs) := Y.foldlM xs [] w h (by simpa using k)
theorem pre_mem {p xs : List α} {x : α} (h : p ++ [x] <+: xs) : x ∈ xs := by
  obtain ⟨t, rfl⟩ := h
  simp
theorem Y.foldI {f : W → α → Option W} {xs : List α} {w : W} (I : W → Prop) (h : I w) (k : ∀ x w, x ∈ xs → I w → Y (f w x) I) : Y (xs.foldlM f w) I :=
  Y.fold (fun _ => I) h fun p x w hp hw => k x w (pre_mem hp) hw
/-- a walk that is known -/
theorem foldlM_eq {f : W → α → Option W} {g : W → α → W} {xs : List α} (I : W → Prop) : ∀ (ys : List α) (w : W), I w → (∀ y ∈ ys, ∀ w, I w → f w y = .some (g w y) ∧ I (g w y)) → ys.foldlM f w = .some (ys.foldl g w) ∧ I (ys.foldl g w)
  | [], w, h, _ => ⟨rfl, h⟩
  | y :: ys, w, h, k => by
    obtain ⟨h1, h2⟩ := k y (by simp) w h
    rw [List.foldlM_cons, h1]
    exact foldlM_eq (xs := xs) I ys _ h2 fun z hz => k z (by simp [hz])
/-- a walk that may be left, and is not -/
theorem Y.forE {f : W → α → Option (Fl W Rr)} {I : List α → W → Prop} : ∀ (xs pre : List α) (w : W), I pre w → (∀ p x w, p ++ [x] <+: pre ++ xs → I p w → Y (f w x) (fun o => ∃ w', (o = .next w' ∨ o = .cont w') ∧ I (p ++ [x]) w')) → Y (forE f xs w) (fun o => ∃ w', o = .next w' ∧ I (pre ++ xs) w')
  | [], pre, w, h, _ => by rw [List.append_nil]; exact ⟨.next w, rfl, w, rfl, h⟩
  | x :: xs, pre, w, h, k => by
    obtain ⟨o, h1, w', h2, h3⟩ := k pre x w ⟨xs, by simp⟩ h
    have q := Y.forE (f := f) (I := I) xs (pre ++ [x]) w' h3 (fun p y w2 hp => k p y w2 (by simpa using hp))
    rw [show pre ++ [x] ++ xs = pre ++ x :: xs by simp] at q
    rcases h2 with rfl | rfl
    · obtain ⟨o, g1, g2⟩ := q
      exact ⟨o, by show (f w x).bind _ = _; rw [h1]; exact g1, g2⟩
    · obtain ⟨o, g1, g2⟩ := q
      exact ⟨o, by show (f w x).bind _ = _; rw [h1]; exact g1, g2⟩
/-- .. and what follows -/
theorem Y.for {f : W → α → Option (Fl W Rr)} {xs : List α} {w : W} {K : W → Option R} {kr : Rr → R} {P : R → Prop} (I : List α → W → Prop) (h : I [] w) (k : ∀ p x w, p ++ [x] <+: xs → I p w → Y (f w x) (fun o => ∃ w', (o = .next w' ∨ o = .cont w') ∧ I (p ++ [x]) w'))
    (q : ∀ w, I xs w → Y (K w) P) : Y ((Ab.forE f xs w).bind (flK K kr)) P := by
  refine Y.bind (Y.forE xs [] w h (by simpa using k)) fun o h => ?_
  obtain ⟨w', rfl, hi⟩ := h
  exact q w' (by simpa using hi)
theorem Y.forI {f : W → α → Option (Fl W Rr)} {xs : List α} {w : W} {K : W → Option R} {kr : Rr → R} {P : R → Prop} (I : W → Prop) (h : I w) (k : ∀ x w, x ∈ xs → I w → Y (f w x) (fun o => ∃ w', (o = .next w' ∨ o = .cont w') ∧ I w'))
    (q : ∀ w, I w → Y (K w) P) : Y ((Ab.forE f xs w).bind (flK K kr)) P := Y.for (fun _ => I) h (fun p x w hp hw => k x w (pre_mem hp) hw) q
theorem Y.next {w : W} {I : W → Prop} (h : I w) : Y (.some (Fl.next w : Fl W Rr)) (fun o => ∃ w', (o = .next w' ∨ o = .cont w') ∧ I w') := ⟨_, rfl, w, .inl rfl, h⟩
theorem Y.cont {w : W} {I : W → Prop} (h : I w) : Y (.some (Fl.cont w : Fl W Rr)) (fun o => ∃ w', (o = .next w' ∨ o = .cont w') ∧ I w') := ⟨_, rfl, w, .inr rfl, h⟩
/-- comprehensions -/
theorem Y.compM {f : α → S → Option (Option β × S)} {I : List α → List β → S → Prop} : ∀ (xs pre : List α) (acc : List β) (s : S), I pre acc s → (∀ p x acc s, p ++ [x] <+: pre ++ xs → I p acc s → Y (f x s) (fun o => I (p ++ [x]) (acc ++ o.1.toList) o.2)) → Y (compM f xs s) (fun o => I (pre ++ xs) (acc ++ o.1) o.2)
  | [], pre, acc, s, h, _ => ⟨([], s), rfl, by simpa using h⟩
  | x :: xs, pre, acc, s, h, k => by
    obtain ⟨⟨o, s1⟩, h1, h2⟩ := k pre x acc s ⟨xs, by simp⟩ h
    obtain ⟨⟨ys, s2⟩, h3, h4⟩ := Y.compM (f := f) (I := I) xs (pre ++ [x]) (acc ++ o.toList) s1 h2 (fun p y ac w2 hp => k p y ac w2 (by simpa using hp))
    refine ⟨(o.toList ++ ys, s2), ?_, by simpa using h4⟩
    show (f x s).bind _ = _
    rw [h1]
    show (Ab.compM f xs s1).bind _ = _
    rw [h3]
    cases o <;> rfl
/-- each item is taken, or left -/
theorem Y.pick {f : α → S → Option (Option α × S)} {xs : List α} {s : S} (k : ∀ x s, x ∈ xs → Y (f x s) (fun o => o.1 = none ∨ o.1 = .some x)) : Y (Ab.compM f xs s) (fun o => o.1.Sublist xs) := by
  have := Y.compM (f := f) (I := fun p acc _ => acc.Sublist p) xs [] [] s (List.Sublist.refl _) fun p x acc s hp h => (k x s (by simpa using pre_mem hp)).mono fun o ho => by
    rcases ho with ho | ho
    · rw [ho]; simpa using h.trans (List.sublist_append_left _ _)
    · rw [ho]; exact h.append (List.Sublist.refl _)
  simpa using this
/-- each item gives one -/
theorem Y.each {f : α → S → Option (Option β × S)} {xs : List α} {s : S} {P : β → Prop} (k : ∀ x s, x ∈ xs → Y (f x s) (fun o => ∃ y, o.1 = .some y ∧ P y)) : Y (Ab.compM f xs s) (fun o => o.1.length = xs.length ∧ ∀ y ∈ o.1, P y) := by
  have := Y.compM (f := f) (I := fun p acc _ => acc.length = p.length ∧ ∀ y ∈ acc, P y) xs [] [] s ⟨rfl, by simp⟩ fun p x acc s hp h => (k x s (by simpa using pre_mem hp)).mono fun o ho => by
    obtain ⟨y, hy, hp⟩ := ho
    rw [hy]
    refine ⟨by simp [h.1], fun z hz => ?_⟩
    have hz' : z ∈ acc ∨ z = y := by simpa using hz
    rcases hz' with hz | rfl
    · exact h.2 z hz
    · exact hp
  simpa using this
end
/-! ### drawing -/
theorem Y.draw {n : Int} {s : Rs} (h : 0 < n) (h2 : n < 1073741824) : Y (drawR n s) (fun p => 0 ≤ p.1 ∧ p.1 < n) := by
  unfold drawR
  refine Y.guard ⟨by omega, by omega, .inr ⟨by decide, by decide⟩⟩ ?_
  have m : ∀ v : Int, 0 ≤ v.fmod n ∧ v.fmod n < n := fun v => by
    rw [Int.fmod_eq_emod_of_nonneg _ (by omega)]
    exact ⟨Int.emod_nonneg _ (by omega), Int.emod_lt_of_pos _ h⟩
  split
  · exact Y.ok (m _)
  · exact Y.ok (m _)
theorem at_mem {α : Type} {P : α → Prop} {xs : List α} {i : Int} (h0 : 0 ≤ i) (h1 : i < xs.length) (h : ∀ x ∈ xs, P x) : Y (atI xs i) P := by
  have e : atI xs i = xs[i.toNat]? := by
    unfold atI
    have : ixN xs.length i = some i.toNat := by
      unfold ixN
      rw [if_pos h0, if_pos h1]
    rw [this]; rfl
  have hl : i.toNat < xs.length := by omega
  exact ⟨xs[i.toNat], by rw [e, List.getElem?_eq_getElem hl], h _ (List.getElem_mem hl)⟩
theorem at_zero {α : Type} {x : α} {l : List α} : atI (x :: l) 0 = some x := by
  unfold atI ixN
  rw [if_pos (by decide), if_pos (by simp)]
  rfl
/-! ### rows that rise -/
def SL (l : List Int) : Prop := l.Pairwise (· < ·)
theorem SL.nodup {l : List Int} (h : SL l) : l.Nodup := List.Pairwise.imp (fun h => by omega) h
theorem SL.ext {a b : List Int} (ha : SL a) (hb : SL b) (h : ∀ x, x ∈ a ↔ x ∈ b) : a = b :=
  sorted_unique ((List.perm_ext_iff_of_nodup ha.nodup hb.nodup).mpr h) (List.Pairwise.imp (fun h => by omega) ha) (List.Pairwise.imp (fun h => by omega) hb)
theorem SL.sub {a b : List Int} (hb : SL b) (h : a.Sublist b) : SL a := List.Pairwise.sublist h hb
theorem SL.filter {a : List Int} (h : SL a) (p : Int → Bool) : SL (a.filter p) := h.sub List.filter_sublist
theorem SL.nil : SL [] := List.Pairwise.nil
theorem sortI_SL {l : List Int} (h : l.Nodup) : SL (sortI l) := by
  have h1 := sortI_sorted l
  have h2 : (sortI l).Nodup := (sortI_perm l).nodup_iff.mpr h
  exact h1.imp₂ (fun a b h1 h2 => by omega) h2
theorem mem_sortI {l : List Int} {x : Int} : x ∈ sortI l ↔ x ∈ l := (sortI_perm l).mem_iff
theorem rangeL_SL (lo : Int) (n : Nat) : SL (rangeL lo n) := by
  unfold rangeL SL
  rw [List.pairwise_map]
  exact List.pairwise_lt_range.imp fun h => by omega
theorem mem_rangeL {lo x : Int} {n : Nat} : x ∈ rangeL lo n ↔ lo ≤ x ∧ x < lo + n := by
  unfold rangeL
  rw [List.mem_map]
  constructor
  · rintro ⟨i, hi, rfl⟩
    rw [List.mem_range] at hi
    omega
  · rintro ⟨h1, h2⟩
    exact ⟨(x - lo).toNat, by rw [List.mem_range]; omega, by omega⟩
theorem mem_range0 {x n : Int} : x ∈ rangeL 0 n.toNat ↔ 0 ≤ x ∧ x < n := by
  rw [mem_rangeL]; omega
/-- bounded: short -/
theorem SL.len {l : List Int} {n : Int} (h : SL l) (b : ∀ x ∈ l, 0 ≤ x ∧ x < n) : (l.length : Int) ≤ max n 0 := by
  have e : l = (rangeL 0 n.toNat).filter fun x => decide (x ∈ l) := SL.ext h ((rangeL_SL _ _).filter _) fun x => by
    rw [List.mem_filter, mem_range0]
    simp only [decide_eq_true_eq]
    exact ⟨fun hx => ⟨b x hx, hx⟩, fun hx => hx.2⟩
  have := List.length_filter_le (fun x => decide (x ∈ l)) (rangeL 0 n.toNat)
  rw [← e, rangeL_len] at this
  omega
/-- the sum of sets -/
def sumS (a b : List Int) : List Int := sortI (a.filter (fun v => !decide (v ∈ b)) ++ b.filter (fun v => !decide (v ∈ a)))
theorem sumS_nodup {a b : List Int} (ha : a.Nodup) (hb : b.Nodup) : (a.filter (fun v => !decide (v ∈ b)) ++ b.filter (fun v => !decide (v ∈ a))).Nodup := by
  rw [List.nodup_append]
  refine ⟨ha.sublist List.filter_sublist, hb.sublist List.filter_sublist, fun x hx y hy e => ?_⟩
  subst e
  rw [List.mem_filter] at hx hy
  simp at hx hy
  exact hx.2 hy.1
theorem sumS_SL {a b : List Int} (ha : SL a) (hb : SL b) : SL (sumS a b) := sortI_SL (sumS_nodup ha.nodup hb.nodup)
theorem mem_sumS {a b : List Int} {x : Int} : x ∈ sumS a b ↔ ((x ∈ a) ≠ (x ∈ b)) := by
  unfold sumS
  rw [mem_sortI, List.mem_append, List.mem_filter, List.mem_filter]
  by_cases h1 : x ∈ a <;> by_cases h2 : x ∈ b <;> simp [h1, h2]
/-- how many of a that are p, even or not -/
def par (p : Int → Bool) (l : List Int) : Bool := (l.filter p).length % 2 == 1
theorem filter_len_eq {a b : List Int} {p q : Int → Bool} (ha : a.Nodup) (hb : b.Nodup) (h : ∀ x, (x ∈ a ∧ p x = true) ↔ (x ∈ b ∧ q x = true)) : (a.filter p).length = (b.filter q).length :=
  ((List.perm_ext_iff_of_nodup (ha.sublist List.filter_sublist) (hb.sublist List.filter_sublist)).mpr fun x => by rw [List.mem_filter, List.mem_filter]; exact h x).length_eq
theorem len_split {α : Type} (q : α → Bool) (l : List α) : l.length = (l.filter q).length + (l.filter fun x => !q x).length := by
  rw [← List.length_append]; exact (List.filter_append_perm q l).length_eq.symm
theorem par_sum {a b c : List Int} {p : Int → Bool} (ha : a.Nodup) (hb : b.Nodup) (hc : c.Nodup) (h : ∀ x, x ∈ c ↔ ((x ∈ a) ≠ (x ∈ b))) : par p c = (par p a != par p b) := by
  have e1 := len_split (fun x => decide (x ∈ b)) (a.filter p)
  have e2 := len_split (fun x => decide (x ∈ a)) (b.filter p)
  have e3 := len_split (fun x => decide (x ∈ a)) (c.filter p)
  rw [List.filter_filter, List.filter_filter] at e1 e2 e3
  have f1 : (a.filter fun x => decide (x ∈ b) && p x).length = (b.filter fun x => decide (x ∈ a) && p x).length := filter_len_eq ha hb fun x => by
    by_cases h1 : x ∈ a <;> by_cases h2 : x ∈ b <;> simp [h1, h2]
  have f2 : (c.filter fun x => decide (x ∈ a) && p x).length = (a.filter fun x => !decide (x ∈ b) && p x).length := filter_len_eq hc ha fun x => by
    rw [h]
    by_cases h1 : x ∈ a <;> by_cases h2 : x ∈ b <;> simp [h1, h2]
  have f3 : (c.filter fun x => !decide (x ∈ a) && p x).length = (b.filter fun x => !decide (x ∈ a) && p x).length := filter_len_eq hc hb fun x => by
    rw [h]
    by_cases h1 : x ∈ a <;> by_cases h2 : x ∈ b <;> simp [h1, h2]
  unfold par
  rw [e3, f2, f3, e1, e2, f1]
  generalize (b.filter fun x => decide (x ∈ a) && p x).length = u
  generalize (a.filter fun x => !decide (x ∈ b) && p x).length = v
  generalize (b.filter fun x => !decide (x ∈ a) && p x).length = t
  rcases Nat.mod_two_eq_zero_or_one u with hu | hu <;> rcases Nat.mod_two_eq_zero_or_one v with hv | hv <;> rcases Nat.mod_two_eq_zero_or_one t with ht | ht <;> simp [Nat.add_mod, hu, hv, ht]
end Ab
namespace Ab
open PySem PySem.Spec PyProof.Rows L2
abbrev Gr := Int × List (Int × Int) × List Int × List Int × List Str
def nbr (g : Gr) (v : Int) : List Int := sortI ((g.2.1.filter fun e => decide (e.1 = v)).map (fun e => e.2) ++ (g.2.1.filter fun e => decide (e.2 = v)).map (fun e => e.1))
/-- vertices 0 .. n-1, edges told once, inputs and outputs rise -/
structure Good (g : Gr) : Prop where
  n0 : 0 ≤ g.1
  n1 : g.1 ≤ 64
  nd : g.2.1.Nodup
  eb : ∀ e ∈ g.2.1, 0 ≤ e.1 ∧ e.1 < e.2 ∧ e.2 < g.1
  el : g.2.1.length ≤ 4096
  ins : g.2.2.1.Sublist (rangeL 0 g.1.toNat)
  out : g.2.2.2.1.Sublist (rangeL 0 g.1.toNat)
theorem mem_nbr {g : Gr} {u v : Int} : u ∈ nbr g v ↔ ((v, u) ∈ g.2.1 ∨ (u, v) ∈ g.2.1) := by
  unfold nbr
  rw [mem_sortI, List.mem_append, List.mem_map, List.mem_map]
  constructor
  · rintro (⟨⟨a, b⟩, h, rfl⟩ | ⟨⟨a, b⟩, h, rfl⟩) <;> rw [List.mem_filter] at h <;> simp only [decide_eq_true_eq] at h
    · obtain ⟨h, rfl⟩ := h; exact .inl h
    · obtain ⟨h, rfl⟩ := h; exact .inr h
  · rintro (h | h)
    · exact .inl ⟨(v, u), by rw [List.mem_filter]; exact ⟨h, by simp⟩, rfl⟩
    · exact .inr ⟨(u, v), by rw [List.mem_filter]; exact ⟨h, by simp⟩, rfl⟩
theorem nodup_mapf {α : Type} {f : α → Int} {l : List α} (h : l.Nodup) (inj : ∀ x ∈ l, ∀ y ∈ l, f x = f y → x = y) : (l.map f).Nodup := by
  unfold List.Nodup
  rw [List.pairwise_map]
  exact List.Pairwise.imp_of_mem (fun {a b} ha hb hab e => hab (inj a ha b hb e)) h
theorem Good.nbr_SL {g : Gr} (G : Good g) (v : Int) : SL (nbr g v) := by
  refine sortI_SL ?_
  rw [List.nodup_append]
  refine ⟨nodup_mapf (G.nd.sublist List.filter_sublist) ?_, nodup_mapf (G.nd.sublist List.filter_sublist) ?_, ?_⟩
  · rintro ⟨a, b⟩ hx ⟨c, d⟩ hy e
    rw [List.mem_filter] at hx hy
    simp at hx hy e
    simp [hx.2, hy.2, e]
  · rintro ⟨a, b⟩ hx ⟨c, d⟩ hy e
    rw [List.mem_filter] at hx hy
    simp at hx hy e
    simp [hx.2, hy.2, e]
  · intro x hx y hy e
    subst e
    rw [List.mem_map] at hx hy
    obtain ⟨⟨a, b⟩, h1, rfl⟩ := hx
    obtain ⟨⟨c, d⟩, h2, e⟩ := hy
    rw [List.mem_filter] at h1 h2
    simp at h1 h2 e
    have q1 := G.eb _ h1.1
    have q2 := G.eb _ h2.1
    simp at q1 q2
    omega
theorem Good.nbr_in {g : Gr} (G : Good g) {u v : Int} (h : u ∈ nbr g v) : 0 ≤ u ∧ u < g.1 := by
  rw [mem_nbr] at h
  rcases h with h | h <;> have q := G.eb _ h <;> simp at q <;> omega
theorem nbr_sym {g : Gr} {u v : Int} : u ∈ nbr g v ↔ v ∈ nbr g u := by
  rw [mem_nbr, mem_nbr]; exact Or.comm
/-- the odd set -/
def oddS (g : Gr) (l : List Int) : List Int := l.foldl (fun t v => sumS t (nbr g v)) []
theorem odd_fold {g : Gr} (G : Good g) : ∀ (l t : List Int), SL t → SL (l.foldl (fun t v => sumS t (nbr g v)) t) ∧ ∀ x, x ∈ l.foldl (fun t v => sumS t (nbr g v)) t ↔ ((x ∈ t) ≠ (par (fun v => decide (x ∈ nbr g v)) l = true))
  | [], t, ht => ⟨ht, fun x => by simp [par]⟩
  | v :: l, t, ht => by
    obtain ⟨h1, h2⟩ := odd_fold G l (sumS t (nbr g v)) (sumS_SL ht (G.nbr_SL v))
    refine ⟨h1, fun x => ?_⟩
    rw [List.foldl_cons, h2, mem_sumS]
    have e : par (fun w => decide (x ∈ nbr g w)) (v :: l) = (decide (x ∈ nbr g v) != par (fun w => decide (x ∈ nbr g w)) l) := by
      unfold par
      by_cases h : x ∈ nbr g v
      · rw [List.filter_cons_of_pos (by simpa using h), List.length_cons, Nat.add_mod]
        rcases Nat.mod_two_eq_zero_or_one (l.filter fun w => decide (x ∈ nbr g w)).length with q | q <;> simp [q, h]
      · rw [List.filter_cons_of_neg (by simpa using h)]
        simp [h]
    rw [e]
    by_cases q1 : x ∈ t <;> by_cases q2 : x ∈ nbr g v <;> cases par (fun w => decide (x ∈ nbr g w)) l <;> simp [q1, q2]
theorem Good.odd_SL {g : Gr} (G : Good g) (l : List Int) : SL (oddS g l) := (odd_fold G l [] SL.nil).1
theorem Good.mem_odd {g : Gr} (G : Good g) {l : List Int} {x : Int} : x ∈ oddS g l ↔ par (fun v => decide (x ∈ nbr g v)) l = true := by
  have := (odd_fold G l [] SL.nil).2 x
  unfold oddS
  rw [this]
  simp
theorem par_pos {p : Int → Bool} {l : List Int} (h : par p l = true) : ∃ v ∈ l, p v = true := by
  unfold par at h
  cases e : l.filter p with
  | nil => rw [e] at h; simp at h
  | cons v t =>
    have : v ∈ l.filter p := by rw [e]; simp
    rw [List.mem_filter] at this
    exact ⟨v, this⟩
theorem Good.odd_in {g : Gr} (G : Good g) {l : List Int} {x : Int} (h : x ∈ oddS g l) : 0 ≤ x ∧ x < g.1 := by
  rw [G.mem_odd] at h
  obtain ⟨v, _, hv⟩ := par_pos h
  exact G.nbr_in (by simpa using hv)
/-- counted from the other end -/
theorem Good.odd_eq {g : Gr} (G : Good g) {l : List Int} (hl : l.Nodup) : oddS g l = (rangeL 0 g.1.toNat).filter fun x => par (fun v => decide (v ∈ l)) (nbr g x) := by
  refine SL.ext (G.odd_SL l) ((rangeL_SL _ _).filter _) fun x => ?_
  rw [List.mem_filter, mem_range0]
  have e : par (fun v => decide (x ∈ nbr g v)) l = par (fun v => decide (v ∈ l)) (nbr g x) := by
    unfold par
    rw [filter_len_eq hl (G.nbr_SL x).nodup fun y => ?_]
    simp only [decide_eq_true_eq]
    rw [nbr_sym (u := x)]
    exact And.comm
  constructor
  · intro h
    exact ⟨G.odd_in h, by rw [← e]; exact G.mem_odd.mp h⟩
  · rintro ⟨_, h⟩
    rw [G.mem_odd, e]; exact h
theorem Good.odd_sum {g : Gr} (G : Good g) {a b c : List Int} (ha : a.Nodup) (hb : b.Nodup) (hc : c.Nodup) (h : ∀ x, x ∈ c ↔ ((x ∈ a) ≠ (x ∈ b))) : sumS (oddS g a) (oddS g b) = oddS g c := by
  refine SL.ext (sumS_SL (G.odd_SL a) (G.odd_SL b)) (G.odd_SL c) fun x => ?_
  rw [mem_sumS, G.mem_odd, G.mem_odd, G.mem_odd, par_sum ha hb hc h]
  cases par (fun v => decide (x ∈ nbr g v)) a <;> cases par (fun v => decide (x ∈ nbr g v)) b <;> simp
theorem Good.len {g : Gr} (G : Good g) {l : List Int} (h : SL l) (b : ∀ x ∈ l, 0 ≤ x ∧ x < g.1) : l.length ≤ 64 := by
  have := h.len b
  have := G.n1
  have := G.n0
  omega
theorem Good.nbr_len {g : Gr} (G : Good g) (v : Int) : (nbr g v).length ≤ 64 := G.len (G.nbr_SL v) fun x hx => G.nbr_in hx
theorem Good.odd_len {g : Gr} (G : Good g) (l : List Int) : (oddS g l).length ≤ 64 := G.len (G.odd_SL l) fun x hx => G.odd_in hx
/-- the first of the sum of sets -/
def lessS (a b : List Int) : Bool := match sumS a b with | [] => false | x :: _ => decide (x ∈ b)
/-- all pairs -/
def pairsL (n : Int) : List (Int × Int) := (rangeL 0 n.toNat).flatMap fun i => (rangeL (i + 1) (n - (i + 1)).toNat).map fun j => (i, j)
theorem mem_pairs {n : Int} {e : Int × Int} : e ∈ pairsL n ↔ 0 ≤ e.1 ∧ e.1 < e.2 ∧ e.2 < n := by
  unfold pairsL
  rw [List.mem_flatMap]
  constructor
  · rintro ⟨i, hi, h⟩
    rw [List.mem_map] at h
    obtain ⟨j, hj, rfl⟩ := h
    rw [mem_range0] at hi
    rw [mem_rangeL] at hj
    simp only
    omega
  · rintro ⟨h1, h2, h3⟩
    exact ⟨e.1, by rw [mem_range0]; omega, by rw [List.mem_map]; exact ⟨e.2, by rw [mem_rangeL]; omega, rfl⟩⟩
theorem nodup_flat {f : Int → List (Int × Int)} : ∀ {l : List Int}, l.Nodup → (∀ i ∈ l, (f i).Nodup) → (∀ i ∈ l, ∀ e ∈ f i, e.1 = i) → (l.flatMap f).Nodup
  | [], _, _, _ => by simp
  | x :: l, h, h1, h2 => by
    rw [List.flatMap_cons, List.nodup_append]
    rw [List.nodup_cons] at h
    refine ⟨h1 x (by simp), nodup_flat h.2 (fun i hi => h1 i (by simp [hi])) (fun i hi => h2 i (by simp [hi])), fun a ha b hb e => ?_⟩
    subst e
    rw [List.mem_flatMap] at hb
    obtain ⟨i, hi, hb⟩ := hb
    have e1 := h2 x (by simp) a ha
    have e2 := h2 i (by simp [hi]) a hb
    rw [e1] at e2
    subst e2
    exact h.1 hi
theorem pairs_nodup (n : Int) : (pairsL n).Nodup := by
  refine nodup_flat (rangeL_SL _ _).nodup (fun i _ => ?_) (fun i _ e he => ?_)
  · unfold List.Nodup
    rw [List.pairwise_map]
    exact List.Pairwise.imp (fun {a b} h e => by simp at e; omega) (rangeL_SL (i + 1) (n - (i + 1)).toNat)
  · rw [List.mem_map] at he
    obtain ⟨j, _, rfl⟩ := he
    rfl
theorem pairs_len (n : Int) (h : n ≤ 64) : (pairsL n).length ≤ 4096 := by
  have gen : ∀ (l : List Int), (l.flatMap fun i => (rangeL (i + 1) (n - (i + 1)).toNat).map fun j => (i, j)).length ≤ l.length * 64 + l.foldl (fun s i => s + (0 - i).toNat) 0 := by
    intro l
    induction l with
    | nil => simp
    | cons x l ih =>
      have hf : ∀ (l : List Int) (s : Nat), l.foldl (fun s i => s + (0 - i).toNat) s = s + l.foldl (fun s i => s + (0 - i).toNat) 0 := by
        intro l
        induction l with
        | nil => simp
        | cons y l ih2 => intro s; rw [List.foldl_cons, List.foldl_cons, ih2, ih2 (0 + _)]; omega
      rw [List.flatMap_cons, List.length_append, List.length_map, rangeL_len, List.length_cons, List.foldl_cons, hf]
      have : (n - (x + 1)).toNat ≤ 64 + (0 - x).toNat := by omega
      have : (l.length + 1) * 64 = l.length * 64 + 64 := by omega
      omega
  have h2 : ∀ (l : List Int), (∀ x ∈ l, 0 ≤ x) → l.foldl (fun s i => s + (0 - i).toNat) 0 = 0 := by
    intro l
    induction l with
    | nil => simp
    | cons x l ih =>
      intro h
      have := h x (by simp)
      rw [List.foldl_cons, show (0 : Nat) + (0 - x).toNat = 0 by omega]
      exact ih fun y hy => h y (by simp [hy])
  have q := gen (rangeL 0 n.toNat)
  rw [h2 _ (fun x hx => (mem_range0.mp hx).1), rangeL_len] at q
  unfold pairsL
  omega
theorem flatMap_pre {β : Type} {f : Int → List β} {p xs : List Int} (h : p <+: xs) : (p.flatMap f).Sublist (xs.flatMap f) := by
  obtain ⟨t, rfl⟩ := h
  rw [List.flatMap_append]
  exact List.sublist_append_left _ _
end Ab
namespace Ab
open PySem PySem.Spec PyProof.Rows L2
/-! ### dicts whose keys are ints, or texts -/
section
variable {κ α : Type} [DecidableEq κ]
def getI (l : List (κ × α)) (k : κ) : Option α := (l.find? fun p => decide (p.1 = k)).map (·.2)
def putI (l : List (κ × α)) (k : κ) (v : α) : List (κ × α) := if (l.any fun p => decide (p.1 = k)) = true then l.map (fun p => if p.1 = k then (p.1, v) else p) else l ++ [(k, v)]
end
abbrev kI : Int → Key := Sum.inl
abbrev kS : Str → Key := Sum.inr
abbrev dtr {κ α : Type} (kf : κ → Key) (E : α → D) (l : List (κ × α)) : Tr := .dct (l.map fun p => (kf p.1, E p.2))
abbrev dv {κ α : Type} (i : Nat) (kf : κ → Key) (E : α → D) (l : List (κ × α)) : Nat × Option Tr := (i, some (dtr kf E l))
namespace Ty
abbrev dct {κ α : Type} (kf : κ → Key) (E : α → D) : List (κ × α) → D := fun l => .dict (l.map fun p => (keyD (kf p.1), E p.2))
end Ty
/-- a key is its data -/
structure Kf {κ : Type} [DecidableEq κ] (kf : κ → Key) (Ek : κ → D) : Prop where
  inj : ∀ x y, kf x = kf y → x = y
  dat : ∀ (K : KF) (H : Hp) (v : V) x, Rp K H v (Ek x) → v = kV (kf x)
theorem kf_int : Kf kI Ty.int := ⟨fun x y h => Sum.inl.inj h, fun K H v x r => by cases r; rfl⟩
theorem kf_str : Kf kS Ty.str := ⟨fun x y h => Sum.inr.inj h, fun K H v x r => by cases r; rfl⟩
section
variable {κ α : Type} [DecidableEq κ] {kf : κ → Key} {Ek : κ → D} {E : α → D}
theorem RpKv.val {K : KF} {H : Hp} (hk : Kf kf Ek) (x : κ) : ∀ {l : List (κ × α)} {ws : List (Key × V)}, RpKv K H ws (l.map fun p => (keyD (kf p.1), E p.2)) → (∀ k : Key, ∀ p ∈ l, keyD k = keyD (kf p.1) → k = kf p.1) →
    (match getI l x with | some a => ∃ v, valV ws (kf x) = some v ∧ Rp K H v (E a) | none => valV ws (kf x) = none)
  | [], ws, h, _ => by cases h; rfl
  | (k, a) :: l, ws, h, hi => by
    generalize hg : (keyD (kf k), E a) = q at h
    have hg' : ((k, a) :: l).map (fun p => (keyD (kf p.1), E p.2)) = q :: l.map fun p => (keyD (kf p.1), E p.2) := by rw [← hg]; rfl
    rw [hg'] at h
    cases h with
    | @cons k' v ws e kvs r t =>
      have e1 := Prod.mk.inj hg
      have hk' : k' = kf k := hi k' (k, a) (by simp) e1.1.symm
      subst hk'
      have ea : Rp K H v (E a) := by rw [e1.2]; exact r
      by_cases z : k = x
      · subst z
        have : getI ((k, a) :: l) k = some a := by simp [getI]
        rw [this]
        exact ⟨v, valV_pos rfl, ea⟩
      · have : getI ((k, a) :: l) x = getI l x := by simp [getI, List.find?_cons, z]
        rw [this, valV_neg (p := (kf k, v)) fun h => z (hk.inj _ _ h)]
        exact RpKv.val hk x t fun k p hp => hi k p (by simp [hp])
theorem keyD_inj : ∀ {a b : Key}, keyD a = keyD b → a = b
  | .inl i, .inl j, h => by cases h; rfl
  | .inr i, .inr j, h => by cases h; rfl
  | .inl i, .inr j, h => by cases h
  | .inr i, .inl j, h => by cases h
theorem RpKv.len {K : KF} {H : Hp} : ∀ {ws : List (Key × V)} {ds : List (D × D)}, RpKv K H ws ds → ws.length = ds.length
  | _, _, .nil => rfl
  | _, _, .cons _ t => congrArg (· + 1) (RpKv.len t)
theorem RpKv.of {K : KF} {H : Hp} : ∀ {ws : List (Key × V)} {kvs : List (Key × D)}, KvRp K H ws kvs → RpKv K H ws (kvs.map fun p => (keyD p.1, p.2))
  | _, _, .nil => .nil
  | (k, v) :: ws, (k', d) :: kvs, .cons h t => by
    obtain ⟨h1, h2⟩ := h
    have h1' : k = k' := h1
    subst h1'
    exact .cons h2 (RpKv.of t)
theorem RpKv.ofI {K : KF} {H : Hp} {ws : List (Key × V)} {l : List (κ × α)} (h : KvRp K H ws (l.map fun p => (kf p.1, E p.2))) : RpKv K H ws (l.map fun p => (keyD (kf p.1), E p.2)) := by
  have := RpKv.of h
  rw [List.map_map] at this
  exact this
theorem Rp.dct_inv {K : KF} {Hf : Hp} {v : V} {l : List (κ × α)} (r : Rp K Hf v (Ty.dct kf E l)) : ∃ p ws, v = .ref p ∧ Rd Hf p (.dK ws) ∧ RpKv K Hf ws (l.map fun p => (keyD (kf p.1), E p.2)) := by
  have r : Rp K Hf v (.dict (l.map fun p => (keyD (kf p.1), E p.2))) := r
  generalize hd : l.map (fun p => (keyD (kf p.1), E p.2)) = m at r
  cases r with
  | dct h ra => exact ⟨_, _, rfl, h, hd ▸ ra⟩
  | tupN _ _ _ _ =>
    cases l with
    | nil => cases hd
    | cons y l =>
      rw [List.map_cons] at hd
      have h1 := (List.cons.inj hd).1
      have h2 := (Prod.mk.inj h1).1
      cases e : kf y.1 with
      | inl i => rw [e] at h2; cases h2
      | inr i => rw [e] at h2; cases h2
theorem get_data {K : KF} {Hf : Hp} {v : V} {l : List (κ × α)} {x : κ} {a : α} (hk : Kf kf Ek) (r : Rp K Hf v (Ty.dct kf E l)) (h : getI l x = some a) : ∃ p ws u, v = .ref p ∧ Rd Hf p (.dK ws) ∧ valV ws (kf x) = some u ∧ Rp K Hf u (E a) := by
  obtain ⟨p, ws, rfl, hs, ra⟩ := Rp.dct_inv r
  · have := RpKv.val hk x ra fun k p _ => keyD_inj
    rw [h] at this
    obtain ⟨u, h1, h2⟩ := this
    exact ⟨p, ws, u, rfl, hs, h1, h2⟩
theorem in_data {K : KF} {Hf : Hp} {v : V} {l : List (κ × α)} {x : κ} (hk : Kf kf Ek) (r : Rp K Hf v (Ty.dct kf E l)) : ∃ p ws, v = .ref p ∧ Rd Hf p (.dK ws) ∧ (valV ws (kf x)).isSome = (getI l x).isSome := by
  obtain ⟨p, ws, rfl, hs, ra⟩ := Rp.dct_inv r
  · have := RpKv.val hk x ra fun k p _ => keyD_inj
    refine ⟨p, ws, rfl, hs, ?_⟩
    cases e : getI l x with
    | none => rw [e] at this; rw [this]; rfl
    | some a => rw [e] at this; obtain ⟨u, h1, _⟩ := this; rw [h1]; rfl
end
section
variable {X : Cx} {S : Type} {ι : Io S} {Δ : Dl} {s : S} {R : Type} {pos p : Pos} {a b c e : Expr} {k : Nat}
variable {κ α β : Type} [DecidableEq κ] {kf : κ → Key} {Ek : κ → D} {E : α → D} {F : β → D}
variable {Md : (List (κ × α) → S → Option R) → Option R} {Mk : S → (κ → S → Option R) → Option R}
variable {Mk0 : (κ → S → Option R) → Option R} {Md1 : S → (List (κ × α) → S → Option R) → Option R}
/-- d[k] -/
theorem ex_getD (hr : Room k X.A) (hk : Kf kf Ek) (ha : EX X ι Δ s a Md (Ty.dct kf E)) (hb : ∀ s1, EX X ι Δ s1 b (Mk s1) Ek) (hs : NoSl b := by exact fun _ _ => rfl) :
    EX X ι Δ s (.Subscript a b pos) (fun k => Md fun l s1 => Mk s1 fun x s2 => (getI l x).bind fun z => k z s2) E := by
  intro kk r hk' σ H Hf A Q st q
  refine tE_of (pe_dget (by have := hr.units; omega) (pE X a) (pE X b) hs) (ha _ r hk' σ H Hf A _ st fun l s1 hx v H1 Hf1 st1 e1 r1 => ?_)
  refine hb s1 _ r hx σ H1 Hf1 A _ st1 fun x s2 hy w H2 Hf2 st2 e2 r2 => ?_
  obtain ⟨z, h1, h2⟩ := bind_some hy
  obtain ⟨p, ws, u, rfl, hd, hv, ru⟩ := get_data hk (r1.up e2.grow) h1
  exact ⟨p, u, rfl, .inl ⟨ws, kf x, st2.sub.rd hd, hk.dat _ _ _ _ r2, hv.symm⟩, q z s2 h2 u H2 Hf2 st2 (e1.trans e2) ru⟩
/-- k in d -/
theorem ex_inD (hr : Room k X.A) (hk : Kf kf Ek) (ha : EX X ι Δ s a Mk0 Ek) (hb : ∀ s1, EX X ι Δ s1 b (Md1 s1) (Ty.dct kf E)) (h1 : behindInMarks .In b = false := by with_unfolding_all rfl) :
    EX X ι Δ s (.Compare a [.In] [b] pos) (fun k => Mk0 fun x s1 => Md1 s1 fun l s2 => k ((getI l x).isSome) s2) Ty.bool := by
  intro kk r hk' σ H Hf A Q st q
  refine tE_of (pe_cmp (pc_din (by have := hr.units; omega) (pE X a) (pE X b)) h1) (ha _ r hk' σ H Hf A _ st fun x s1 hx v H1 Hf1 st1 e1 r1 => ?_)
  refine hb s1 _ r hx σ H1 Hf1 A _ st1 fun l s2 hy w H2 Hf2 st2 e2 r2 => ?_
  obtain ⟨p, ws, rfl, hd, hv⟩ := in_data (x := x) hk r2
  refine ⟨p, _, rfl, .inl ⟨ws, kf x, st2.sub.rd hd, hk.dat _ _ _ _ r1, rfl⟩, ?_⟩
  rw [hv]
  exact q _ s2 hy _ H2 Hf2 st2 (e1.trans e2) (.bl _)
theorem tx_inD (hr : Room k X.A) (hk : Kf kf Ek) (ha : EX X ι Δ s a Mk0 Ek) (hb : ∀ s1, EX X ι Δ s1 b (Md1 s1) (Ty.dct kf E)) (h1 : behindInMarks .In b = false := by with_unfolding_all rfl) :
    TX X ι Δ s (.Compare a [.In] [b] pos) (fun k => Mk0 fun x s1 => Md1 s1 fun l s2 => k ((getI l x).isSome) s2) := by
  intro kk r hk' σ H Hf A Q st q
  refine tT_of (pt_cmp (pc_din (by have := hr.units; omega) (pE X a) (pE X b)) h1) (ha _ r hk' σ H Hf A _ st fun x s1 hx v H1 Hf1 st1 e1 r1 => ?_)
  refine hb s1 _ r hx σ H1 Hf1 A _ st1 fun l s2 hy w H2 Hf2 st2 e2 r2 => ?_
  obtain ⟨p, ws, rfl, hd, hv⟩ := in_data (x := x) hk r2
  refine ⟨p, _, rfl, .inl ⟨ws, kf x, st2.sub.rd hd, hk.dat _ _ _ _ r1, rfl⟩, _, rfl, ?_⟩
  rw [hv]
  exact q _ s2 hy H2 Hf2 st2 (e1.trans e2)
theorem ex_notInD (hr : Room k X.A) (hk : Kf kf Ek) (ha : EX X ι Δ s a Mk0 Ek) (hb : ∀ s1, EX X ι Δ s1 b (Md1 s1) (Ty.dct kf E)) (h1 : behindInMarks .NotIn b = false := by with_unfolding_all rfl) :
    EX X ι Δ s (.Compare a [.NotIn] [b] pos) (fun k => Mk0 fun x s1 => Md1 s1 fun l s2 => k (!(getI l x).isSome) s2) Ty.bool := by
  intro kk r hk' σ H Hf A Q st q
  refine tE_of (pe_cmp (pc_dnotin (by have := hr.units; omega) (pE X a) (pE X b)) h1) (ha _ r hk' σ H Hf A _ st fun x s1 hx v H1 Hf1 st1 e1 r1 => ?_)
  refine hb s1 _ r hx σ H1 Hf1 A _ st1 fun l s2 hy w H2 Hf2 st2 e2 r2 => ?_
  obtain ⟨p, ws, rfl, hd, hv⟩ := in_data (x := x) hk r2
  refine ⟨p, _, rfl, .inl ⟨ws, kf x, st2.sub.rd hd, hk.dat _ _ _ _ r1, rfl⟩, ?_⟩
  rw [hv]
  exact q _ s2 hy _ H2 Hf2 st2 (e1.trans e2) (.bl _)
theorem tx_notInD (hr : Room k X.A) (hk : Kf kf Ek) (ha : EX X ι Δ s a Mk0 Ek) (hb : ∀ s1, EX X ι Δ s1 b (Md1 s1) (Ty.dct kf E)) (h1 : behindInMarks .NotIn b = false := by with_unfolding_all rfl) :
    TX X ι Δ s (.Compare a [.NotIn] [b] pos) (fun k => Mk0 fun x s1 => Md1 s1 fun l s2 => k (!(getI l x).isSome) s2) := by
  intro kk r hk' σ H Hf A Q st q
  refine tT_of (pt_cmp (pc_dnotin (by have := hr.units; omega) (pE X a) (pE X b)) h1) (ha _ r hk' σ H Hf A _ st fun x s1 hx v H1 Hf1 st1 e1 r1 => ?_)
  refine hb s1 _ r hx σ H1 Hf1 A _ st1 fun l s2 hy w H2 Hf2 st2 e2 r2 => ?_
  obtain ⟨p, ws, rfl, hd, hv⟩ := in_data (x := x) hk r2
  refine ⟨p, _, rfl, .inl ⟨ws, kf x, st2.sub.rd hd, hk.dat _ _ _ _ r1, rfl⟩, _, rfl, ?_⟩
  rw [hv]
  exact q _ s2 hy H2 Hf2 st2 (e1.trans e2)
theorem call_lenDR : CallR X (.builtin "len") (fun xs H Q => ∃ a kvs, xs = [V.ref a] ∧ Rd H a (.dK kvs) ∧ Q (.int kvs.length) H) := by
  intro pins s σ H xs us Q I r h
  obtain ⟨a, kvs, rfl, ha, q⟩ := h
  obtain ⟨u, rfl, ru⟩ := vals1 r
  cases ru
  exact d_len I ha fun t s' I' => ⟨.int kvs.length, H, I', ⟨t, rfl⟩, q⟩
theorem ex_lenD (hm : X.mg "len" = none) (ha : EX X ι Δ s a Md (Ty.dct kf E)) (hgl : Gl X "len" := by rfl) (he : starEach [a] X.env = (false, eval a X.env) :: starEach [] X.env := by rfl) :
    EX X ι Δ s (.Call (.Name "len" p) [a] [] pos) (fun k => Md fun y s1 => k (y.length : Int) s1) Ty.int := by
  refine ex_callB1T (g := fun y : List (κ × α) => (y.length : Int)) call_lenDR hm Bo.len (fun y v H Hf Q sb rv q => ?_) ha hgl (by decide) (by decide) he rfl
  obtain ⟨p, ws, rfl, hs, ra⟩ := Rp.dct_inv rv
  · have hl := ra.len
    rw [List.length_map] at hl
    refine ⟨p, ws, rfl, sb.rd hs, ?_⟩
    rw [hl]
    exact q _ H Hf (Ext.refl _ _) sb (.int _)
/-- x.bit_length() -/
theorem ex_bits {Mi : (Int → S → Option R) → Option R} {apos : Pos} (ha : EX X ι Δ s a Mi Ty.int) (hbase : attributeBase a "bit_length" X.env (eval a X.env) = eval a X.env := by rfl) (hline : (apos.endLine == pos.line) = true := by rfl) :
    EX X ι Δ s (.Call (.Attribute a "bit_length" apos) [] [] pos) (fun k => Mi fun x s1 => k (Builtin.Int.intBits x : Int) s1) Ty.int := by
  intro kk r hk' σ H Hf A Q st q
  refine tE_of (pe_bits (pE X a) hbase hline) (ha _ r hk' σ H Hf A _ st fun x s1 hx v H1 Hf1 st1 e1 r1 => ?_)
  cases r1
  exact ⟨x, rfl, q _ s1 hx _ H1 Hf1 st1 e1 (.int _)⟩
/-- x is None, of something that may be -/
theorem non_of {K : KF} {H : Hp} {v : V} {o : Option α} (hz : ∀ x, E x ≠ .none) (r : Rp K H v (Ty.opt E o)) : decide (v = .non) = o.isNone := by
  cases o with
  | none => cases r; rfl
  | some a =>
    refine decide_eq_false fun e => ?_
    subst e
    have r' : Rp K H .non (E a) := r
    generalize hd : E a = d at r'
    cases r'
    exact hz a hd
variable {Mo : (Option α → S → Option R) → Option R}
theorem ex_isN {j : Nat} {pc : Pos} (hz : ∀ x, E x ≠ .none) (ha : EX X ι Δ s a Mo (Ty.opt E)) (h1 : behindInMarks .Is (.Constant .none j pc) = false := by rfl) : EX X ι Δ s (.Compare a [.Is] [.Constant .none j pc] pos) (fun k => Mo fun o s1 => k o.isNone s1) Ty.bool := by
  intro kk r hk' σ H Hf A Q st q
  refine tE_of (pe_cmp (pc_isN (pE X a)) h1) (ha _ r hk' σ H Hf A _ st fun o s1 hx v H1 Hf1 st1 e1 r1 => ?_)
  rw [non_of hz r1]
  exact q _ s1 hx _ H1 Hf1 st1 e1 (.bl _)
theorem tx_isN {j : Nat} {pc : Pos} (hz : ∀ x, E x ≠ .none) (ha : EX X ι Δ s a Mo (Ty.opt E)) (h1 : behindInMarks .Is (.Constant .none j pc) = false := by rfl) : TX X ι Δ s (.Compare a [.Is] [.Constant .none j pc] pos) (fun k => Mo fun o s1 => k o.isNone s1) := by
  intro kk r hk' σ H Hf A Q st q
  refine tT_of (pt_cmp (pc_isN (pE X a)) h1) (ha _ r hk' σ H Hf A _ st fun o s1 hx v H1 Hf1 st1 e1 r1 => ?_)
  rw [non_of hz r1]
  exact ⟨_, rfl, q _ s1 hx H1 Hf1 st1 e1⟩
theorem ex_notN {j : Nat} {pc : Pos} (hz : ∀ x, E x ≠ .none) (ha : EX X ι Δ s a Mo (Ty.opt E)) (h1 : behindInMarks .IsNot (.Constant .none j pc) = false := by rfl) : EX X ι Δ s (.Compare a [.IsNot] [.Constant .none j pc] pos) (fun k => Mo fun o s1 => k (!o.isNone) s1) Ty.bool := by
  intro kk r hk' σ H Hf A Q st q
  refine tE_of (pe_cmp (pc_notN (pE X a)) h1) (ha _ r hk' σ H Hf A _ st fun o s1 hx v H1 Hf1 st1 e1 r1 => ?_)
  rw [non_of hz r1]
  exact q _ s1 hx _ H1 Hf1 st1 e1 (.bl _)
theorem tx_notN {j : Nat} {pc : Pos} (hz : ∀ x, E x ≠ .none) (ha : EX X ι Δ s a Mo (Ty.opt E)) (h1 : behindInMarks .IsNot (.Constant .none j pc) = false := by rfl) : TX X ι Δ s (.Compare a [.IsNot] [.Constant .none j pc] pos) (fun k => Mo fun o s1 => k (!o.isNone) s1) := by
  intro kk r hk' σ H Hf A Q st q
  refine tT_of (pt_cmp (pc_notN (pE X a)) h1) (ha _ r hk' σ H Hf A _ st fun o s1 hx v H1 Hf1 st1 e1 r1 => ?_)
  rw [non_of hz r1]
  exact ⟨_, rfl, q _ s1 hx H1 Hf1 st1 e1⟩
/-- isinstance of something that may be None -/
theorem ex_isiO {t T : String} {Tn : Str} {r0 : Bool} {pT : Pos} (hm : X.mg "isinstance" = none) (hmT : X.mg Tn = none) (hT : bootBuiltins Tn = some (.type T)) (ty : TyD E t) (ha : EX X ι Δ s a Mo (Ty.opt E)) (hk : kitB t T = some r0 := by decide +kernel) (hk0 : kitB "NoneType" T = some false := by decide +kernel) (hgl : Gl X "isinstance" := by rfl) (hglT : Gl X Tn := by rfl)
    (hnT : Tn ≠ "__name__" := by decide) (hdT : (Tn == ("__debug__" : Str)) = false := by decide)
    (he : starEach (a :: [.Name Tn pT]) X.env = (false, eval a X.env) :: starEach [.Name Tn pT] X.env := by rfl) (he2 : starEach [.Name Tn pT] X.env = (false, eval (.Name Tn pT) X.env) :: starEach [] X.env := by rfl) (hpl : (backTo pos (starEach [.Name Tn pT] X.env)).any (·.1) = false := by rfl) :
    EX X ι Δ s (.Call (.Name "isinstance" p) [a, .Name Tn pT] [] pos) (fun k => Mo fun y s1 => k (y.isSome && r0) s1) Ty.bool := by
  intro k r hk' σ H Hf A Q st q
  refine tE_of (pe_callB call_isi hgl hm Bo.isinstance (pa_cons (pE X a) (pa_cons (pe_bltn (v := .ty T) hglT hmT hT rfl hnT hdT) pa_nil he2) he) (by decide) (by decide) he hpl) ?_
  refine ha _ r hk' σ H Hf A _ st fun y s1 hx v H1 Hf1 st1 e1 r1 => ?_
  cases y with
  | none =>
    cases r1
    exact ⟨_, .ty T, _, _, false, rfl, .ty T, .base .non, kit_ty hk0, q _ s1 hx _ H1 Hf1 st1 e1 (.bl _)⟩
  | some y =>
    exact ⟨v, .ty T, _, _, r0, rfl, .ty T, ty X.K H1 v y (Rp.up r1 st1.sub), kit_ty hk, q _ s1 (by simpa using hx) _ H1 Hf1 st1 e1 (.bl _)⟩
end
end Ab
namespace Ab
open PySem PySem.Spec PyProof.Rows L2
/-! ### dicts of one's own -/
theorem mapD {κ α : Type} {kf : κ → Key} {E : α → D} {l : List (κ × α)} : ((l.map fun p => (kf p.1, E p.2)).map fun p => (keyD p.1, p.2)) = l.map fun p => (keyD (kf p.1), E p.2) := by rw [List.map_map]; rfl
theorem Sat.dctAt {K : KF} {σ : L2.St} {H Hf : Hp} {Δ : Dl} {A : Nat → List Addr} {i : Nat} {kvs : List (Key × D)} (st : Sat K σ H Hf Δ A) (h : lk Δ i = some (.dct kvs)) : ∃ l vs, σ[i]? = some (some (.ref l)) ∧ A i = [l] ∧ H l = some (.dK vs) ∧ KvRp K Hf vs kvs := by
  obtain ⟨v, h1, a, xs, rfl, h2, h3, h4⟩ := st.slotC i _ h
  exact ⟨a, xs, h1, h2, h3, h4⟩
theorem Sat.thawD {K : KF} {σ : L2.St} {H Hf : Hp} {P Δ : Dl} {A : Nat → List Addr} {i : Nat} {l : Addr} {vs : List (Key × V)} {kvs : List (Key × D)} (st : Sat K σ H Hf (P ++ Δ) A) (hP : i ∉ P.map (·.1)) (hA : A i = [l]) (hσ : σ[i]? = some (some (.ref l)))
    (hl : H l = some (.dK vs)) (ra : KvRp K Hf vs kvs) : Sat K σ H (upd Hf l (.dK vs)) (P ++ (i, some (.imm (.dict (kvs.map fun p => (keyD p.1, p.2))))) :: Δ) (cut A i []) := by
  have hn : Hf l = none := (st.own i l (by rw [hA]; simp)).1
  have gr : Sub Hf (upd Hf l (.dK vs)) := fun b u h => .self (by rw [upd_ne (ne_of_none h hn)]; exact h)
  have hin : ∀ j a, a ∈ cut A i [] j → a ∈ A j ∧ j ≠ i := fun j a h => by
    by_cases z : j = i
    · subst z; rw [cut_self] at h; simp at h
    · rw [cut_ne z] at h; exact ⟨h, z⟩
  refine ⟨fun a u h => ?_, fun j T h => ?_, fun j a h => ?_, fun j k a h1 h2 => st.inj j k a (hin j a h1).1 (hin k a h2).1⟩
  · by_cases q : a = l
    · subst q; rw [upd_same] at h; exact .self (hl.trans h)
    · rw [upd_ne q] at h; exact st.sub a u h
  · by_cases z : j = i
    · subst z
      rw [lk_append_out hP, lk_self] at h
      cases h
      exact ⟨_, fun _ => hσ, by rw [cut_self], .dct (.inl upd_same) (RpKv.of (KvRp.up ra gr))⟩
    · have h' : lk (P ++ Δ) j = some T := by
        by_cases m : j ∈ P.map (·.1)
        · rw [lk_append_in (Δ' := Δ) m] at h; exact h
        · rw [lk_append_out m] at h ⊢; rw [lk_ne z] at h; exact h
      obtain ⟨v, h1, h2⟩ := st.slot j T h'
      rw [cut_ne z]
      exact ⟨v, h1, h2.up gr fun a _ u q => .self q⟩
  · obtain ⟨m, z⟩ := hin j a h
    obtain ⟨n1, n2⟩ := st.own j a m
    refine ⟨?_, n2⟩
    by_cases q : a = l
    · subst q; exact absurd (st.inj j i a m (by rw [hA]; simp)) z
    · rw [upd_ne q]; exact n1
theorem tup_offD {K : KF} {H : Hp} {l a : Addr} {vs : List (Key × V)} {xs : List V} (hl : H l = some (.dK vs)) (h : SqT K H a xs) : SqT K (off H l) a xs := by
  rcases h with (h | ⟨o, h⟩) | h
  · exact .inl (.inl (by rw [off_ne (fun z => by rw [z, hl] at h; cases h)]; exact h))
  · exact .inl (.inr ⟨o, by rw [off_ne (fun z => by rw [z, hl] at h; cases h)]; exact h⟩)
  · exact .inr h
mutual
theorem Rp.offD {K : KF} {H : Hp} {l : Addr} {vs : List (Key × V)} (hl : H l = some (.dK vs)) : ∀ (d : D) (v : V), flatD d = true → Rp K H v d → Rp K (off H l) v d
  | .none, _, _, h => by cases h; exact .non
  | .bool b, _, _, h => by cases h; exact .bl b
  | .int i, _, _, h => by cases h; exact .int i
  | .str x, _, _, h => by cases h with | str _ ok => exact .str x ok
  | .list ds, _, f, h => by cases f
  | .tuple ds, _, f, h => by cases h with | tup s z r => exact .tup (tup_offD hl s) z (RpAll.offD hl ds _ f r)
  | .dict _, _, f, h => by cases f
theorem RpAll.offD {K : KF} {H : Hp} {l : Addr} {vs : List (Key × V)} (hl : H l = some (.dK vs)) : ∀ (ds : List D) (ws : List V), flatDs ds = true → RpAll K H ws ds → RpAll K (off H l) ws ds
  | [], _, _, h => by cases h; exact .nil
  | d :: ds, _, f, h => by
    have f1 : (flatD d && flatDs ds) = true := f
    rw [Bool.and_eq_true] at f1
    cases h with | cons r t => exact .cons (Rp.offD hl d _ f1.1 r) (RpAll.offD hl ds _ f1.2 t)
end
section
variable {X : Cx} {S : Type} {ι : Io S} {Δ : Dl} {s : S} {R : Type} {out : R → Out S} {st : List Stmt} {m : Option R} {pos : Pos} {e : Expr}
variable {κ α β : Type} [DecidableEq κ] {kf : κ → Key} {E : α → D} {F : β → D}
theorem bx_freezeD (i : Nat) {l : List (κ × α)} (hl : lk (ι.tr s ++ Δ) i = some (dtr kf E l)) (h : BX X ι (iv i (Ty.dct kf E) l :: Δ) s st m out) (hix : i ∉ ι.ix := by first | decide | exact of_decide_eq_true rfl) : BX X ι Δ s st m out := by
  intro r hr σ H Hf A Dn sat p
  obtain ⟨a, vs, h1, h2, h3, h5⟩ := sat.dctAt hl
  have hn : Hf a = none := (sat.own i a (by rw [h2]; simp)).1
  have gr : Sub Hf (upd Hf a (.dK vs)) := fun b u h => .self (by rw [upd_ne (ne_of_none h hn)]; exact h)
  have st2 := sat.thawD (P := ι.tr s) (by rw [ι.keys]; exact hix) h2 h1 h3 h5
  rw [mapD] at st2
  refine h r hr σ H _ _ Dn st2 (p.step ⟨fun _ _ => rfl, fun _ _ _ h => .self h, fun _ h => h, gr, fun b hb => ?_, fun j b hb => ?_, fun j hj => cut_ne (ne_mem hj hix)⟩)
  · by_cases z : b = a
    · subst z; exact .inr (.inr ⟨i, hix, by rw [h2]; simp⟩)
    · rw [upd_ne z] at hb; exact .inl hb
  · by_cases z : j = i
    · subst z; rw [cut_self] at hb; simp at hb
    · rw [cut_ne z] at hb; exact .inl ⟨j, hb, fun _ => rfl⟩
theorem peek_backD {K : KF} {σ : L2.St} {H Hf H' Hf' : Hp} {A : Nat → List Addr} {i : Nat} {a : Addr} {vs : List (Key × V)} {d0 : D} {s' : S} (fr : ι.free) (st : Sat K σ H Hf (ι.tr s ++ Δ) A) (hix : i ∉ ι.ix) (h2 : A i = [a]) (h3 : H a = some (.dK vs))
    (st' : Sat K σ H' Hf' (ι.tr s' ++ (i, some (.imm d0)) :: Δ) (cut A i [])) (e' : ExtA ι.ix (cut A i []) H (upd Hf a (.dK vs)) H' Hf') : Hf' a = some (.dK vs) ∧ Sat K σ H' (off Hf' a) (ι.tr s' ++ Δ) A ∧ ExtA ι.ix A H Hf H' (off Hf' a) := by
  have hn : Hf a = none := (st.own i a (by rw [h2]; simp)).1
  have hfa : Hf' a = some (.dK vs) := e'.grow _ _ upd_same
  have hsub : Sub Hf (off Hf' a) := fun b u h => by
    have ne : b ≠ a := ne_of_none h hn
    exact (e'.grow b u (by rw [upd_ne ne]; exact h)).same (off_ne ne)
  have kp : ∀ j, j ∉ ι.ix → ∀ b ∈ A j, ∀ o, H b = some o → KeepO o H' b := fun j hj b hb o ho => e'.keep b o (fun j' hj' m => by
    by_cases z : j' = i
    · subst z; exact hix hj'
    · rw [cut_ne z] at m
      have := st.inj j j' b hb m
      subst this
      exact hj hj') ho
  refine ⟨hfa, ⟨fun b u h => ?_, fun j T hj => ?_, fun j b hb => ?_, st.inj⟩, ⟨fun b o m h => e'.keep b o (fun j hj hm => ?_) h, e'.there, hsub, fun b hb => ?_⟩⟩
  · by_cases z : b = a
    · subst z; rw [off_same] at h; cases h
    · rw [off_ne z] at h; exact st'.sub b u h
  · by_cases m : j ∈ ι.ix
    · have z : j ≠ i := fun z => hix (z ▸ m)
      have m1 : j ∈ (ι.tr s').map (·.1) := by rw [ι.keys]; exact m
      have hj2 : lk (ι.tr s' ++ (i, some (.imm d0)) :: Δ) j = some T := by rw [lk_append_in (Δ' := Δ) m1]; exact hj
      obtain ⟨v, g1, g2⟩ := st'.slot j T hj2
      rw [cut_ne z] at g2
      have hj3 : lk (ι.tr s') j = some T := by
        have := lk_append_in (Δ := Δ) (Δ' := []) m1
        rw [List.append_nil] at this
        rw [← this]; exact hj
      exact ⟨v, g1, fr s' j T hj3 _ _ _ _ _ _ g2⟩
    · have m0 : j ∉ (ι.tr s).map (·.1) := by rw [ι.keys]; exact m
      have m1 : j ∉ (ι.tr s').map (·.1) := by rw [ι.keys]; exact m
      rw [lk_append_out m1] at hj
      obtain ⟨v, g1, g2⟩ := st.slot j T (by rw [lk_append_out m0]; exact hj)
      exact ⟨v, g1, g2.up hsub fun b hb o ho => kp j m b hb o ho⟩
  · refine ⟨?_, e'.there b (st.own j b hb).2⟩
    by_cases z : b = a
    · subst z; exact off_same
    · rw [off_ne z]
      by_cases zj : j = i
      · subst zj; rw [h2] at hb; exact absurd (by simpa using hb) z
      · exact (st'.own j b (by rw [cut_ne zj]; exact hb)).1
  · by_cases z : j = i
    · subst z; exact hix hj
    · rw [cut_ne z] at hm; exact m j hj hm
  · by_cases z : b = a
    · subst z; rw [off_same] at hb; exact absurd rfl hb
    · rw [off_ne z] at hb
      rcases e'.news b hb with q | q
      · rw [upd_ne z] at q; exact .inl q
      · exact .inr q
theorem ex_peekD (i : Nat) {l : List (κ × α)} (fr : ι.free) {M : (β → S → Option R) → Option R} (hl : lk (ι.tr s ++ Δ) i = some (dtr kf E l)) (h : EX X ι (iv i (Ty.dct kf E) l :: Δ) s e M F) (hF : ∀ x, flatD (F x) = true) (hix : i ∉ ι.ix := by first | decide | exact of_decide_eq_true rfl) : EX X ι Δ s e M F := by
  intro k r hk σ H Hf A Q st q
  obtain ⟨a, vs, h1, h2, h3, h5⟩ := st.dctAt hl
  refine h k r hk σ H _ _ Q (by have z := st.thawD (P := ι.tr s) (by rw [ι.keys]; exact hix) h2 h1 h3 h5; rw [mapD] at z; exact z) fun x s' hx v H' Hf' st' e' r' => ?_
  obtain ⟨hfa, st2, e2⟩ := peek_backD fr st hix h2 h3 st' e'
  exact q x s' hx v H' _ st2 e2 (Rp.offD hfa _ _ (hF x) r')
theorem tx_peekD (i : Nat) {l : List (κ × α)} (fr : ι.free) {M : (Bool → S → Option R) → Option R} (hl : lk (ι.tr s ++ Δ) i = some (dtr kf E l)) (h : TX X ι (iv i (Ty.dct kf E) l :: Δ) s e M) (hix : i ∉ ι.ix := by first | decide | exact of_decide_eq_true rfl) : TX X ι Δ s e M := by
  intro k r hk σ H Hf A Q st q
  obtain ⟨a, vs, h1, h2, h3, h5⟩ := st.dctAt hl
  refine h k r hk σ H _ _ Q (by have z := st.thawD (P := ι.tr s) (by rw [ι.keys]; exact hix) h2 h1 h3 h5; rw [mapD] at z; exact z) fun x s' hx H' Hf' st' e' => ?_
  obtain ⟨hfa, st2, e2⟩ := peek_backD fr st hix h2 h3 st' e'
  exact q x s' hx H' _ st2 e2
theorem eo_peekD (i : Nat) {l : List (κ × α)} (fr : ι.free) {M : (List β → S → Option R) → Option R} (hl : lk (ι.tr s ++ Δ) i = some (dtr kf E l)) (h : EO X ι (iv i (Ty.dct kf E) l :: Δ) s e M F) (hF : ∀ x, flatD (F x) = true) (hix : i ∉ ι.ix := by first | decide | exact of_decide_eq_true rfl) : EO X ι Δ s e M F := by
  intro k r hk σ H Hf A Q st q
  obtain ⟨a, vs, h1, h2, h3, h5⟩ := st.dctAt hl
  refine h k r hk σ H _ _ Q (by have z := st.thawD (P := ι.tr s) (by rw [ι.keys]; exact hix) h2 h1 h3 h5; rw [mapD] at z; exact z) fun x s' hx b ws H' Hf' st' e' hb hz r' hn hf => ?_
  obtain ⟨hfa, st2, e2⟩ := peek_backD fr st hix h2 h3 st' e'
  refine q x s' hx b ws H' _ st2 e2 hb hz (RpAll.offD hfa _ _ (flat_map hF x) r') ?_ hf
  have : b ≠ a := fun z => by rw [z, h3] at hf; cases hf
  rw [off_ne this]; exact hn
theorem lo_peekD (i : Nat) {l : List (κ × α)} (fr : ι.free) {elt tg iter : Expr} {ifs : List Expr} {scope : Scope} {own : List (Str × Nat)} {M : (List β → S → Option R) → Option R} (hl : lk (ι.tr s ++ Δ) i = some (dtr kf E l)) (h : LO X ι (iv i (Ty.dct kf E) l :: Δ) s elt tg iter ifs scope own M F) (hF : ∀ x, flatD (F x) = true) (hix : i ∉ ι.ix := by first | decide | exact of_decide_eq_true rfl) : LO X ι Δ s elt tg iter ifs scope own M F := by
  refine ⟨h.hN, h.ok, h.hc, h.hs, ?_⟩
  intro k r hk σ H Hf A Q st q
  obtain ⟨a, vs, h1, h2, h3, h5⟩ := st.dctAt hl
  refine h.read k r hk σ H _ _ Q (by have z := st.thawD (P := ι.tr s) (by rw [ι.keys]; exact hix) h2 h1 h3 h5; rw [mapD] at z; exact z) fun x s' hx b ws H' Hf' st' e' hb hz r' hn hf => ?_
  obtain ⟨hfa, st2, e2⟩ := peek_backD fr st hix h2 h3 st' e'
  refine q x s' hx b ws H' _ st2 e2 hb hz (RpAll.offD hfa _ _ (flat_map hF x) r') ?_ hf
  have : b ≠ a := fun z => by rw [z, h3] at hf; cases hf
  rw [off_ne this]; exact hn
end
theorem Sat.redct {K : KF} {σ : L2.St} {H Hf : Hp} {P Δ : Dl} {A : Nat → List Addr} {i : Nat} {l : Addr} {vs : List (Key × V)} {kvs : List (Key × D)} (st : Sat K σ H Hf (P ++ Δ) A) (hP : i ∉ P.map (·.1)) (hA : A i = [l]) (hσ : σ[i]? = some (some (.ref l)))
    (ra : KvRp K Hf vs kvs) : Sat K σ (upd H l (.dK vs)) Hf (P ++ (i, some (.dct kvs)) :: Δ) A where
  sub := fun a u e => by
    have : a ≠ l := fun z => by
      have := (st.own i l (by rw [hA]; simp)).1
      rw [z, this] at e; cases e
    exact (st.sub a u e).same (upd_ne this)
  slot := fun j T hj => by
    by_cases e : j = i
    · subst e
      rw [lk_append_out hP, lk_self] at hj
      cases hj
      exact ⟨_, fun _ => hσ, l, vs, rfl, hA, upd_same, ra⟩
    · have hj' : lk (P ++ Δ) j = some T := by
        by_cases m : j ∈ P.map (·.1)
        · rw [lk_append_in (Δ' := Δ) m] at hj; exact hj
        · rw [lk_append_out m, lk_ne e] at hj; rw [lk_append_out m]; exact hj
      obtain ⟨w, h1, h2⟩ := st.slot j T hj'
      refine ⟨w, h1, h2.up (Sub.refl _) fun a ha u hu => ?_⟩
      have : a ≠ l := fun z => e (st.inj j i a ha (by rw [hA, z]; simp))
      exact .self (by rw [upd_ne this]; exact hu)
  own := fun j a ha => by
    refine ⟨(st.own j a ha).1, ?_⟩
    by_cases z : a = l
    · subst z; rw [upd_same]; simp
    · rw [upd_ne z]; exact (st.own j a ha).2
  inj := st.inj
/-! a dict's pairs, put in -/
theorem KvRp.any {K : KF} {Hf : Hp} {κ α : Type} [DecidableEq κ] {kf : κ → Key} (inj : ∀ x y, kf x = kf y → x = y) {E : α → D} (x : κ) : ∀ {l : List (κ × α)} {ws : List (Key × V)}, KvRp K Hf ws (l.map fun p => (kf p.1, E p.2)) → (ws.any fun kv => decide (kv.1 = kf x)) = l.any fun p => decide (p.1 = x)
  | [], _, .nil => rfl
  | (k, a) :: l, (k', v) :: ws, .cons h t => by
    obtain ⟨h1, _⟩ := h
    have h1' : k' = kf k := h1
    subst h1'
    rw [List.any_cons, List.any_cons, KvRp.any inj x t]
    have : decide (kf k = kf x) = decide (k = x) := by
      by_cases z : k = x
      · subst z; simp
      · simp [z]; exact fun q => z (inj _ _ q)
    show (decide (kf k = kf x) || _) = (decide (k = x) || _)
    rw [this]
theorem KvRp.mapx {K : KF} {Hf : Hp} {κ α : Type} [DecidableEq κ] {kf : κ → Key} (inj : ∀ x y, kf x = kf y → x = y) {E : α → D} {x : κ} {a : α} {v : V} (rv : Rp K Hf v (E a)) : ∀ {l : List (κ × α)} {ws : List (Key × V)}, KvRp K Hf ws (l.map fun p => (kf p.1, E p.2)) → KvRp K Hf (ws.map fun kv => if kv.1 = kf x then (kv.1, v) else kv) ((l.map fun p => if p.1 = x then (p.1, a) else p).map fun p => (kf p.1, E p.2))
  | [], _, .nil => .nil
  | (k, b) :: l, (k', u) :: ws, .cons h t => by
    obtain ⟨h1, h2⟩ := h
    have h1' : k' = kf k := h1
    subst h1'
    refine .cons ?_ (KvRp.mapx inj rv t)
    by_cases z : k = x
    · subst z; simp; exact rv
    · have : ¬ kf k = kf x := fun q => z (inj _ _ q)
      simp [z, this]; exact h2
theorem KvRp.snoc {K : KF} {Hf : Hp} {k : Key} {v : V} {d : D} (r : Rp K Hf v d) : ∀ {ws : List (Key × V)} {l : List (Key × D)}, KvRp K Hf ws l → KvRp K Hf (ws ++ [(k, v)]) (l ++ [(k, d)]) := fun h => Paired.snoc h ⟨rfl, r⟩
theorem KvRp.put {K : KF} {Hf : Hp} {κ α : Type} [DecidableEq κ] {kf : κ → Key} (inj : ∀ x y, kf x = kf y → x = y) {E : α → D} {x : κ} {a : α} {v : V} (rv : Rp K Hf v (E a)) {l : List (κ × α)} {ws : List (Key × V)} (h : KvRp K Hf ws (l.map fun p => (kf p.1, E p.2))) :
    KvRp K Hf (putK ws (kf x) v) ((putI l x a).map fun p => (kf p.1, E p.2)) := by
  unfold putK putI
  rw [KvRp.any inj x h]
  split
  · exact KvRp.mapx inj rv h
  · rw [List.map_append]
    exact KvRp.snoc rv h
theorem KvRp.len {K : KF} {H : Hp} {ws : List (Key × V)} {l : List (Key × D)} (h : KvRp K H ws l) : ws.length = l.length := Paired.length h
/-- xs[i] = v -/
def setI {α : Type} (l : List α) (i : Int) (v : α) : Option (List α) := (ixN l.length i).map fun j => l.set j v
section
variable {X : Cx} {S : Type} {ι : Io S} {Δ : Dl} {s : S} {R : Type} {out : R → Out S} {rest : List Stmt} {pos pos' po : Pos} {e b : Expr}
variable {κ α β : Type} [DecidableEq κ] {kf : κ → Key} {Ek : κ → D} {E : α → D} {k : Nat}
/-- x = {} -/
theorem bx_setD (i : Nat) {x : Str} {kk : S → Option R} (kf : κ → Key) (E : α → D) (hN : X.N.Nodup) (q : ∀ s', BX X ι (dv i kf E ([] : List (κ × α)) :: Δ) s' rest (kk s') out) (hi : X.N[i]? = some x := by rfl) (hx : Loc X.env.scope x := by first | exact Or.inl rfl | exact Or.inr rfl)
    (hs : swapsWith (.Dict [] [] po) (some (.Name x pos')) pos.line X.env = pure false := by rfl) (hf : X.fn x = true ∨ X.env.scope.names.lookup x = some .local := by first | exact .inl rfl | exact .inr rfl) (hix : i ∉ ι.ix := by first | decide | exact of_decide_eq_true rfl) :
    BX X ι Δ s (.Assign [.Name x pos'] (.Dict [] [] po) pos :: rest) (kk s) out := by
  intro r hr σ H Hf A Dn st p
  refine tS_inv fun pins sh I => tS_cons (ps_set hN hi hx pe_dnewK hs hf) (fun l nl => ?_)
  have ex := Ext.newO (o := .dK []) (Hf := Hf) nl
  have st' := st.up ex (Sub.newO nl st.sub)
  have hn : Hf l = none := st.sub.non nl
  have hlen : i < σ.length := by rw [I.len]; exact (List.getElem?_eq_some_iff.mp hi).1
  have nA : ∀ j, l ∉ A j := fun j m => (st.own j l m).2 nl
  have e' := ex.toA (ix := ι.ix) (A := A)
  refine q s r hr _ _ Hf _ _ (st'.set (P := ι.tr s) (as := [l]) hlen (by rw [ι.keys]; exact hix) ⟨l, [], rfl, rfl, upd_same, .nil⟩ (fun b hb => by
    have : b = l := by simpa using hb
    subst this
    exact ⟨hn, fun j _ => nA j⟩)) (p.step ⟨fun j hj => List.getElem?_set_ne (ne_mem hj hix).symm, fun a o m h => e'.keep a o (fun i _ => m i) h, e'.there, e'.grow, fun b hb => (e'.news b hb).elim .inl fun z => .inr (.inl z), fun j b hb => ?_, fun j hj => cut_ne (ne_mem hj hix)⟩)
  by_cases z : j = i
  · subst z
    rw [cut_self] at hb
    have : b = l := by simpa using hb
    subst this
    exact .inr nl
  · rw [cut_ne z] at hb
    exact .inl ⟨j, hb, fun _ => rfl⟩
/-- d[k] = v, d one's own -/
theorem bx_putD (i : Nat) {x : Str} {px : Pos} {l : List (κ × α)} {Mv : (α → S → Option R) → Option R} {Mk : S → (κ → S → Option R) → Option R} {kk : List (κ × α) → S → Option R} (hr : Room k X.A) (hk : Kf kf Ek) (hl : lk (ι.tr s ++ Δ) i = some (dtr kf E l)) (hv : EX X ι Δ s e Mv E) (hb : ∀ s1, EX X ι Δ s1 b (Mk s1) Ek)
    (q : ∀ a s', BX X ι (dv i kf E a :: Δ) s' rest (kk a s') out) (hN : X.N[i]? = some x := by rfl)
    (hvis : Vis X.env.scope x := by first | exact Or.inl rfl | exact Or.inr (Or.inl rfl) | exact Or.inr (Or.inr rfl)) (hd : (x == ("__debug__" : Str)) = false := by decide) (hcd : (x == ("__classdict__" : Str)) = false := by decide) (hix : i ∉ ι.ix := by first | decide | exact of_decide_eq_true rfl)
    (hs : swapsWith e (some (.Subscript (.Name x px) b pos')) pos.line X.env = pure false := by rfl) :
    BX X ι Δ s (.Assign [.Subscript (.Name x px) b pos'] e pos :: rest) (Mv fun v s1 => Mk s1 fun y s2 => guardM (l.length < Line) (letM (putI l y v) fun a => kk a s2)) out := by
  intro r hr' σ H Hf A Dn st p
  obtain ⟨a, vs, h1, h2, h3, h5⟩ := st.dctAt hl
  refine tS_cons (ps_dput (by have := hr.units; omega) (pe_var hN hvis hd hcd) (pE X b) (pE X e) hs) ?_
  refine hv _ r hr' σ H Hf A _ st fun v s1 hx w H1 Hf1 st1 e1 r1 => ?_
  refine ⟨_, h1, ?_⟩
  refine hb s1 _ r hx σ H1 Hf1 A _ st1 fun y s2 hy w2 H2 Hf2 st2 e2 r2 => ?_
  obtain ⟨c, hy⟩ := guardM_some hy
  have hl2 : lk (ι.tr s2 ++ Δ) i = some (dtr kf E l) := by rw [← lk_tail (s := s) hix]; exact hl
  obtain ⟨a', vs', g1, g2, g3, g5⟩ := st2.dctAt hl2
  rw [h1] at g1
  cases g1
  have hlen := g5.len
  rw [List.length_map] at hlen
  have key := hk.dat _ _ _ _ r2
  subst key
  refine ⟨a, _, rfl, DPut.k g3 (lt_line (by rw [hlen]; exact c)), ?_⟩
  refine q _ s2 r hy σ _ Hf2 A Dn (st2.redct (P := ι.tr s2) (by rw [ι.keys]; exact hix) g2 h1 (KvRp.put hk.inj (r1.up e2.grow) g5)) (p.step (((e1.trans e2).stp _ _).trans (stp_poke (i := i) (by rw [g2]; simp))))
/-- xs[i] = v, xs one's own -/
theorem bx_putL (i : Nat) {x : Str} {px : Pos} {l : List α} {Mv : (α → S → Option R) → Option R} {Mk : S → (Int → S → Option R) → Option R} {kk : List α → S → Option R} (hl : lk (ι.tr s ++ Δ) i = some (.lst (l.map E))) (hv : EX X ι Δ s e Mv E) (hb : ∀ s1, EX X ι Δ s1 b (Mk s1) Ty.int)
    (q : ∀ a s', BX X ι (ov i E a :: Δ) s' rest (kk a s') out) (hN : X.N[i]? = some x := by rfl)
    (hvis : Vis X.env.scope x := by first | exact Or.inl rfl | exact Or.inr (Or.inl rfl) | exact Or.inr (Or.inr rfl)) (hd : (x == ("__debug__" : Str)) = false := by decide) (hcd : (x == ("__classdict__" : Str)) = false := by decide) (hix : i ∉ ι.ix := by first | decide | exact of_decide_eq_true rfl)
    (hs : swapsWithSole [.Subscript (.Name x px) b pos'] e pos.line X.env = pure false := by rfl) (hw : swappedStores [.Subscript (.Name x px) b pos'] e X.env = pure none := by rfl)
    (h1' : (assignEach [.Subscript (.Name x px) b pos'] X.env).map (·.2) = [assign (.Subscript (.Name x px) b pos') X.env] := by rfl)
    (ha : ∀ v, assign (.Subscript (.Name x px) b pos') X.env v = (do
      let ov ← holding [v] (eval (.Name x px) X.env)
      let iv ← holding [v, ov] (eval b X.env)
      standAt pos'
      holding [v, ov, iv] (setItem ov iv v)
      release [v, ov, iv] []) := by intro _; rfl) :
    BX X ι Δ s (.Assign [.Subscript (.Name x px) b pos'] e pos :: rest) (Mv fun v s1 => Mk s1 fun y s2 => (setI l y v).bind fun a => kk a s2) out := by
  intro r hr' σ H Hf A Dn st p
  obtain ⟨a, vs, h1, h2, h3, h4, h5⟩ := st.lstAt hl
  refine tS_cons (ps_asg (pE X e) (pg_sub (pe_var hN hvis hd hcd) (pE X b) set_list ha) hs hw h1') ?_
  refine hv _ r hr' σ H Hf A _ st fun v s1 hx w H1 Hf1 st1 e1 r1 => ?_
  refine ⟨_, h1, ?_⟩
  refine hb s1 _ r hx σ H1 Hf1 A _ st1 fun y s2 hy w2 H2 Hf2 st2 e2 r2 => ?_
  obtain ⟨l2, hs2, hy⟩ := bind_some hy
  have hl2 : lk (ι.tr s2 ++ Δ) i = some (.lst (l.map E)) := by rw [← lk_tail (s := s) hix]; exact hl
  obtain ⟨a', vs', g1, g2, g3, g4, g5⟩ := st2.lstAt hl2
  rw [h1] at g1
  cases g1
  have hlen := g5.len
  rw [List.length_map] at hlen
  cases r2
  unfold setI at hs2
  cases hj : ixN l.length y with
  | none => rw [hj] at hs2; cases hs2
  | some j =>
    rw [hj] at hs2
    cases hs2
    refine ⟨a, vs', y, j, rfl, rfl, g3, by rw [hlen]; exact hj, ?_⟩
    refine q _ s2 r hy σ _ Hf2 A Dn (st2.relst (P := ι.tr s2) (by rw [ι.keys]; exact hix) g2 h1 (by rw [List.length_set]; exact g4) ?_) (p.step (((e1.trans e2).stp _ _).trans (stp_poke (i := i) (by rw [g2]; simp))))
    rw [List.map_set]
    exact g5.set (r1.up e2.grow) j
/-- what may be None is something, from here on -/
theorem bx_narrow (i : Nat) {st : List Stmt} {o : Option α} {m : α → Option R} (hl : lk (ι.tr s ++ Δ) i = some (.imm (Ty.opt E o))) (h : ∀ a, BX X ι (iv i E a :: Δ) s st (m a) out) (hix : i ∉ ι.ix := by first | decide | exact of_decide_eq_true rfl) : BX X ι Δ s st (o.bind m) out := by
  intro r hr σ H Hf A Dn sat p
  obtain ⟨a, rfl, h2⟩ := bind_some hr
  refine h a r h2 σ H Hf A Dn (sat.weak fun j T hj => ?_) p
  by_cases z : j = i
  · subst z
    rw [lk_append_out (by rw [ι.keys]; exact hix), lk_self] at hj
    cases hj
    exact hl
  · by_cases m : j ∈ (ι.tr s).map (·.1)
    · rw [lk_append_in (Δ' := Δ) m] at hj; exact hj
    · rw [lk_append_out m, lk_ne z] at hj
      rw [lk_append_out m]; exact hj
end
end Ab
namespace Ab
open PySem PySem.Spec PyProof.Rows L2
/-- a member -/
abbrev memB {α : Type} [DecidableEq α] (x : α) (l : List α) : Bool := decide (x ∈ l)
section
variable {α β γ δ ε : Type} {E : α → D} {F : β → D} {G : γ → D} {I : δ → D} {J : ε → D}
theorem fl_tup (h : ∀ x, flatD (E x) = true) : ∀ x, flatD (Ty.tup E x) = true := fun x => flat_map h x
theorem fl_opt (h : ∀ x, flatD (E x) = true) : ∀ x, flatD (Ty.opt E x) = true := fun x => by cases x with | none => rfl | some a => exact h a
theorem fl_p2 (h : ∀ x, flatD (E x) = true) (k : ∀ x, flatD (F x) = true) : ∀ x, flatD (Ty.p2 E F x) = true := fun x => by
  show (flatD (E x.1) && (flatD (F x.2) && true)) = true; rw [h, k]; rfl
theorem fl_p3 (h : ∀ x, flatD (E x) = true) (k : ∀ x, flatD (F x) = true) (l : ∀ x, flatD (G x) = true) : ∀ x, flatD (Ty.p3 E F G x) = true := fun x => by
  show (flatD (E x.1) && (flatD (F x.2.1) && (flatD (G x.2.2) && true))) = true; rw [h, k, l]; rfl
theorem fl_p4 (h : ∀ x, flatD (E x) = true) (k : ∀ x, flatD (F x) = true) (l : ∀ x, flatD (G x) = true) (m : ∀ x, flatD (I x) = true) : ∀ x, flatD (Ty.p4 E F G I x) = true := fun x => by
  show (flatD (E x.1) && (flatD (F x.2.1) && (flatD (G x.2.2.1) && (flatD (I x.2.2.2) && true)))) = true; rw [h, k, l, m]; rfl
theorem fl_p5 (h : ∀ x, flatD (E x) = true) (k : ∀ x, flatD (F x) = true) (l : ∀ x, flatD (G x) = true) (m : ∀ x, flatD (I x) = true) (n : ∀ x, flatD (J x) = true) : ∀ x, flatD (Ty.p5 E F G I J x) = true := fun x => by
  show (flatD (E x.1) && (flatD (F x.2.1) && (flatD (G x.2.2.1) && (flatD (I x.2.2.2.1) && (flatD (J x.2.2.2.2) && true))))) = true; rw [h, k, l, m, n]; rfl
end
end Ab
namespace Ab
open PySem PySem.Spec PyProof.Rows L2
/-! ### while loops that end -/
theorem Y.iter {W Rr : Type} {f : W → Option (Fl W Rr)} {P : W → Prop} (I : W → Prop) (μ : W → Nat) (k : ∀ w, I w → Y (f w) (fun o => (∃ w', o = .brk w' ∧ P w') ∨ ∃ w', (o = .next w' ∨ o = .cont w') ∧ I w' ∧ μ w' < μ w)) : ∀ (n : Nat) (w : W), μ w < n → I w → ∃ m w', iterW f m w = some (.next w') ∧ P w'
  | 0, w, h, _ => absurd h (Nat.not_lt_zero _)
  | n + 1, w, h, hi => by
    obtain ⟨o, h1, h2⟩ := k w hi
    rcases h2 with ⟨w', rfl, hp⟩ | ⟨w', h2, hi', hm⟩
    · exact ⟨1, w', by show (f w).bind _ = _; rw [h1]; rfl, hp⟩
    · obtain ⟨m, w2, h3, h4⟩ := Y.iter (f := f) I μ k n w' (by omega) hi'
      refine ⟨m + 1, w2, ?_, h4⟩
      show (f w).bind _ = _
      rw [h1]
      rcases h2 with rfl | rfl <;> exact h3
theorem Y.while {W Rr R : Type} {f : W → Option (Fl W Rr)} {K : W → Option R} {kr : Rr → R} {Q : R → Prop} {w : W} (P : W → Prop) (I : W → Prop) (μ : W → Nat) (hi : I w) (k : ∀ w, I w → Y (f w) (fun o => (∃ w', o = .brk w' ∧ P w') ∨ ∃ w', (o = .next w' ∨ o = .cont w') ∧ I w' ∧ μ w' < μ w))
    (q : ∀ w, P w → Y (K w) Q) : Y ((whileM f w).bind (flK K kr)) Q := by
  obtain ⟨m, w', h1, h2⟩ := Y.iter (f := f) I μ k _ w (Nat.lt_succ_self _) hi
  exact Y.bindE (whileM_of h1) (q w' h2)
/-! ### masks -/
theorem bits_nat (n : Nat) : Builtin.Int.intBits (n : Int) = if n = 0 then 0 else n.log2 + 1 := by
  unfold Builtin.Int.intBits
  by_cases h : n = 0
  · subst h; rfl
  · have : ((n : Int) == 0) = false := by simp; omega
    rw [this, if_neg h, if_neg Bool.false_ne_true]
    simp
theorem xor_nat (a b : Nat) : Builtin.bitXor (a : Int) (b : Int) = ((a ^^^ b : Nat) : Int) := by
  rw [Bits.bitXor_pp (Int.natCast_nonneg _) (Int.natCast_nonneg _)]; simp
theorem and_nat (a b : Nat) : Builtin.bitAnd (a : Int) (b : Int) = ((a &&& b : Nat) : Int) := by
  unfold Builtin.bitAnd
  rw [decide_eq_true (Int.natCast_nonneg a), decide_eq_true (Int.natCast_nonneg b)]
  simp
theorem xor_top {s n : Nat} (hs : s ≠ 0) (hn : n ≠ 0) (h : n.log2 = s.log2) : s ^^^ n < 2 ^ s.log2 := by
  refine Nat.lt_pow_two_of_testBit _ fun i hi => ?_
  rw [Nat.testBit_xor]
  by_cases e : i = s.log2
  · subst e
    rw [Nat.testBit_log2 hs, ← h, Nat.testBit_log2 hn]; rfl
  · have h1 : s < 2 ^ i := Nat.lt_of_lt_of_le Nat.lt_log2_self (Nat.pow_le_pow_right (by decide) (by omega))
    have h2 : n < 2 ^ i := Nat.lt_of_lt_of_le Nat.lt_log2_self (Nat.pow_le_pow_right (by decide) (by omega))
    rw [Nat.testBit_lt_two_pow h1, Nat.testBit_lt_two_pow h2]; rfl
theorem xor_lt {s n : Nat} (hs : s ≠ 0) (hn : n ≠ 0) (h : n.log2 = s.log2) : s ^^^ n < s := Nat.lt_of_lt_of_le (xor_top hs hn h) (Nat.log2_self_le hs)
theorem log_xor {s t : Nat} (ht : t ≠ 0) (h : s = 0 ∨ s.log2 < t.log2) : s ^^^ t ≠ 0 ∧ (s ^^^ t).log2 = t.log2 := by
  have hs : s < 2 ^ t.log2 := by
    rcases h with rfl | h
    · exact Nat.pow_pos (by decide)
    · exact Nat.lt_of_lt_of_le Nat.lt_log2_self (Nat.pow_le_pow_right (by decide) h)
  have b : (s ^^^ t).testBit t.log2 = true := by
    rw [Nat.testBit_xor, Nat.testBit_lt_two_pow hs, Nat.testBit_log2 ht]; rfl
  have nz : s ^^^ t ≠ 0 := fun e => by rw [e, Nat.zero_testBit] at b; cases b
  refine ⟨nz, (Nat.log2_eq_iff nz).mpr ⟨Nat.ge_two_pow_of_testBit b, Nat.xor_lt_two_pow ?_ Nat.lt_log2_self⟩⟩
  exact Nat.lt_of_lt_of_le hs (Nat.pow_le_pow_right (by decide) (by omega))
/-- even or odd -/
def pcb (m : Nat) : Bool := ((List.range 64).filter fun i => m.testBit i).length % 2 == 1
theorem filter_xor (p q : Nat → Bool) : ∀ l : List Nat, ((l.filter fun i => p i ^^ q i).length % 2 == 1) = (((l.filter p).length % 2 == 1) ^^ ((l.filter q).length % 2 == 1))
  | [] => rfl
  | x :: l => by
    have ih := filter_xor p q l
    have e : ∀ (r : Nat → Bool), (((x :: l).filter r).length % 2 == 1) = (r x ^^ ((l.filter r).length % 2 == 1)) := fun r => by
      cases h : r x with
      | true =>
        rw [List.filter_cons_of_pos h, List.length_cons, Nat.add_mod]
        rcases Nat.mod_two_eq_zero_or_one (l.filter r).length with q | q <;> simp [q]
      | false => rw [List.filter_cons_of_neg (by simp [h])]; simp
    rw [e, e, e, ih]
    cases p x <;> cases q x <;> simp
theorem pcb_xor (a b : Nat) : pcb (a ^^^ b) = (pcb a ^^ pcb b) := by
  unfold pcb
  rw [← filter_xor]
  simp only [Nat.testBit_xor]
def dot (r x : Nat) : Bool := pcb (r &&& x)
theorem and_xor (a b x : Nat) : (a ^^^ b) &&& x = (a &&& x) ^^^ (b &&& x) := Nat.eq_of_testBit_eq fun i => by
  simp only [Nat.testBit_and, Nat.testBit_xor]
  cases a.testBit i <;> cases b.testBit i <;> cases x.testBit i <;> rfl
theorem dot_xor (a b x : Nat) : dot (a ^^^ b) x = (dot a x ^^ dot b x) := by unfold dot; rw [and_xor, pcb_xor]
theorem dot_comm (a x : Nat) : dot a x = dot x a := by unfold dot; rw [Nat.and_comm]
theorem dot_xor' (a x y : Nat) : dot a (x ^^^ y) = (dot a x ^^ dot a y) := by rw [dot_comm, dot_xor, dot_comm x, dot_comm y]
theorem dot_zero (x : Nat) : dot 0 x = false := by unfold dot; rw [Nat.zero_and]; rfl
/-! ### a basis: rows by their greatest member -/
abbrev BL := List (Int × (Int × Int))
structure Bas (L : BL) : Prop where
  ok : ∀ k r b, getI L k = some (r, b) → ∃ n : Nat, r = n ∧ n ≠ 0 ∧ k = (n.log2 : Int) ∧ (b = 0 ∨ b = 1) ∧ n < 2 ^ 63
inductive R0 (L : BL) : Nat → Prop
  | z : R0 L 0
  | st {s n : Nat} {b : Int} : s ≠ 0 → getI L (s.log2 : Int) = some ((n : Int), b) → R0 L (s ^^^ n) → R0 L s
theorem Bas.at {L : BL} (B : Bas L) {s n : Nat} {b : Int} (h : getI L (s.log2 : Int) = some ((n : Int), b)) : n ≠ 0 ∧ n.log2 = s.log2 ∧ (b = 0 ∨ b = 1) ∧ n < 2 ^ 63 := by
  obtain ⟨m, h1, h2, h3, h4, h5⟩ := B.ok _ _ _ h
  have : n = m := by omega
  subst this
  exact ⟨h2, by omega, h4, h5⟩
theorem Bas.nil : Bas ([] : BL) := ⟨fun k r b h => by simp [getI] at h⟩
theorem R0.xor {L : BL} (B : Bas L) : ∀ (m s t : Nat), s + t ≤ m → R0 L s → R0 L t → R0 L (s ^^^ t) := by
  intro m
  induction m with
  | zero =>
    intro s t h _ _
    have h1 : s = 0 := by omega
    have h2 : t = 0 := by omega
    subst h1; subst h2
    exact .z
  | succ m ih =>
    intro s t h hs ht
    cases hs with
    | z => rw [Nat.zero_xor]; exact ht
    | @st _ n b hz hg hr =>
      cases ht with
      | z => rw [Nat.xor_zero]; exact .st hz hg hr
      | @st _ n' b' hz' hg' hr' =>
        obtain ⟨a1, a2, _⟩ := B.at hg
        obtain ⟨b1, b2, _⟩ := B.at hg'
        have l1 := xor_lt hz a1 a2
        have l2 := xor_lt hz' b1 b2
        rcases Nat.lt_trichotomy s.log2 t.log2 with q | q | q
        · obtain ⟨c1, c2⟩ := log_xor hz' (.inr q)
          refine .st c1 (by rw [c2]; exact hg') ?_
          rw [Nat.xor_assoc]
          exact ih s (t ^^^ n') (by omega) (.st hz hg hr) hr'
        · rw [q, hg'] at hg
          have e : n' = n := by have := (Prod.mk.inj (Option.some.inj hg)).1; omega
          subst e
          have : s ^^^ t = (s ^^^ n') ^^^ (t ^^^ n') := by
            rw [Nat.xor_comm t n', Nat.xor_assoc, ← Nat.xor_assoc n', Nat.xor_self, Nat.zero_xor]
          rw [this]
          exact ih _ _ (by omega) hr hr'
        · obtain ⟨c1, c2⟩ := log_xor hz (.inr q)
          rw [Nat.xor_comm t s] at c1 c2
          refine .st c1 (by rw [c2]; exact hg) ?_
          have : s ^^^ t ^^^ n = (s ^^^ n) ^^^ t := by rw [Nat.xor_assoc, Nat.xor_comm t n, ← Nat.xor_assoc]
          rw [this]
          exact ih (s ^^^ n) t (by omega) hr (.st hz' hg' hr')
theorem R0.xor' {L : BL} (B : Bas L) {s t : Nat} (hs : R0 L s) (ht : R0 L t) : R0 L (s ^^^ t) := R0.xor B _ s t (Nat.le_refl _) hs ht
theorem R0.row {L : BL} (B : Bas L) {n : Nat} {k b : Int} (h : getI L k = some ((n : Int), b)) : R0 L n := by
  obtain ⟨m, h1, h2, h3, _⟩ := B.ok _ _ _ h
  have : n = m := by omega
  subst this
  subst h3
  exact .st h2 h (by rw [Nat.xor_self]; exact .z)
theorem R0.top {L : BL} (B : Bas L) {s : Nat} (h : R0 L s) (hz : s ≠ 0) : (getI L (s.log2 : Int)).isSome = true := by
  cases h with
  | z => exact absurd rfl hz
  | st _ hg _ => rw [hg]; rfl
theorem R0.next {L : BL} (B : Bas L) {s n : Nat} {b : Int} (h : R0 L s) (hz : s ≠ 0) (hg : getI L (s.log2 : Int) = some ((n : Int), b)) : R0 L (s ^^^ n) := R0.xor' B h (R0.row B hg)
/-- what solves all rows of a basis -/
def Sol (L : BL) (x : Nat) : Prop := ∀ k (n : Nat) b, getI L k = some ((n : Int), b) → dot n x = (b == 1)
theorem getI_put {κ α : Type} [DecidableEq κ] (k j : κ) (v : α) (l : List (κ × α)) : getI (putI l k v) j = if j = k then some v else getI l j := by
  unfold putI
  split
  · rename_i h
    induction l with
    | nil => simp at h
    | cons p l ih =>
      obtain ⟨a, b⟩ := p
      rw [List.map_cons]
      by_cases e : a = k
      · subst e
        by_cases e2 : j = a
        · subst e2; simp [getI]
        · have e3 : ¬ a = j := fun z => e2 z.symm
          have gen : ∀ l : List (κ × α), getI (l.map fun p => if p.1 = a then (p.1, v) else p) j = getI l j := by
            intro l
            induction l with
            | nil => rfl
            | cons q l ih2 =>
              obtain ⟨c, d⟩ := q
              by_cases e4 : c = j
              · subst e4; simp [getI, e2]
              · by_cases e5 : c = a
                · subst e5; simp only [getI, List.map_cons, if_pos] at ih2 ⊢; simp [List.find?_cons, e4]; simpa [getI] using ih2
                · simp only [getI, List.map_cons] at ih2 ⊢; simp [List.find?_cons, e4, e5]; simpa [getI] using ih2
          have g2 := gen l
          simp only [getI] at g2 ⊢
          simp [List.find?_cons, e2, e3]
          simpa using g2
      · have h' : (l.any fun p => decide (p.1 = k)) = true := by simpa [e] using h
        have ih' := ih h'
        by_cases e2 : a = j
        · subst e2; simp [getI, e]
        · simp only [getI] at ih' ⊢
          simp [List.find?_cons, e, e2]
          simpa using ih'
  · rename_i h
    have hn : ∀ p ∈ l, ¬ p.1 = k := fun p hp e => h (List.any_eq_true.mpr ⟨p, hp, by simpa using e⟩)
    unfold getI
    rw [List.find?_append]
    by_cases e : j = k
    · subst e
      have : l.find? (fun p => decide (p.1 = j)) = none := List.find?_eq_none.mpr fun p hp => by simpa using hn p hp
      rw [this]; simp
    · have e3 : ¬ k = j := fun z => e z.symm
      cases hf : l.find? (fun p => decide (p.1 = j)) with
      | none => simp [e, e3]
      | some p => simp [e]
theorem putI_new {κ α : Type} [DecidableEq κ] {k : κ} {v : α} {l : List (κ × α)} (h : getI l k = none) : putI l k v = l ++ [(k, v)] := by
  unfold putI
  rw [if_neg]
  intro h2
  rw [List.any_eq_true] at h2
  obtain ⟨p, hp, e⟩ := h2
  unfold getI at h
  rw [Option.map_eq_none_iff, List.find?_eq_none] at h
  exact h p hp e
theorem bx01 {c d : Int} (hc : c = 0 ∨ c = 1) (hd : d = 0 ∨ d = 1) : (Builtin.bitXor c d = 0 ∨ Builtin.bitXor c d = 1) ∧ (Builtin.bitXor c d == 1) = ((c == 1) ^^ (d == 1)) := by
  rcases hc with rfl | rfl <;> rcases hd with rfl | rfl <;> decide
/-! comprehensions that are known -/
theorem compM_eqF {α β S : Type} {f : α → S → Option (Option β × S)} {q : α → Bool} {g : α → β} : ∀ {xs : List α} {s : S}, (∀ x ∈ xs, ∀ s, f x s = if q x = true then some (some (g x), s) else some (none, s)) → compM f xs s = some ((xs.filter q).map g, s)
  | [], s, _ => rfl
  | x :: xs, s, h => by
    have h1 := h x (by simp) s
    have ih := compM_eqF (f := f) (q := q) (g := g) (xs := xs) (s := s) fun y hy => h y (by simp [hy])
    show (f x s).bind _ = _
    rw [h1]
    cases hq : q x with
    | true =>
      rw [if_pos rfl, List.filter_cons_of_pos hq]
      show (compM f xs s).bind _ = _
      rw [ih]; rfl
    | false =>
      rw [if_neg Bool.false_ne_true, List.filter_cons_of_neg (by simp [hq])]
      show (compM f xs s).bind _ = _
      rw [ih]; rfl
theorem compM_eqM {α β S : Type} {f : α → S → Option (Option β × S)} {g : α → β} {xs : List α} {s : S} (h : ∀ x ∈ xs, ∀ s, f x s = some (some (g x), s)) : compM f xs s = some (xs.map g, s) := by
  have := compM_eqF (f := f) (q := fun _ => true) (g := g) (xs := xs) (s := s) fun x hx s => by rw [if_pos rfl]; exact h x hx s
  rw [this]
  congr 2
  congr 1
  exact List.filter_eq_self.mpr fun _ _ => rfl
theorem compM_eqI {α S : Type} {f : α → S → Option (Option α × S)} {q : α → Bool} {xs : List α} {s : S} (h : ∀ x ∈ xs, ∀ s, f x s = if q x = true then some (some x, s) else some (none, s)) : compM f xs s = some (xs.filter q, s) := by
  have := compM_eqF (f := f) (q := q) (g := fun x => x) (xs := xs) (s := s) h
  rw [this, List.map_id']
/-- loops with a way out -/
theorem Y.forG {α W R Rr : Type} {f : W → α → Option (Fl W Rr)} {K : W → Option R} {kr : Rr → R} {P : R → Prop} (I : List α → W → Prop) (J : W → Prop) (PR : Rr → Prop) : ∀ (xs pre : List α) (w : W), I pre w →
    (∀ p x w, p ++ [x] <+: pre ++ xs → I p w → Y (f w x) (fun o => (∃ w', (o = .next w' ∨ o = .cont w') ∧ I (p ++ [x]) w') ∨ (∃ w', o = .brk w' ∧ J w') ∨ ∃ r, o = .ret r ∧ PR r)) →
    (∀ w, I (pre ++ xs) w → Y (K w) P) → (∀ w, J w → Y (K w) P) → (∀ r, PR r → P (kr r)) → Y ((Ab.forE f xs w).bind (flK K kr)) P
  | [], pre, w, h, _, q, _, _ => by rw [List.append_nil] at q; exact q w h
  | x :: xs, pre, w, h, k, q, qb, qr => by
    obtain ⟨o, h1, h2⟩ := k pre x w ⟨xs, by simp⟩ h
    have go : ∀ w', I (pre ++ [x]) w' → Y ((Ab.forE f xs w').bind (flK K kr)) P := fun w' hi => Y.forG I J PR xs (pre ++ [x]) w' hi (fun p y w2 hp => k p y w2 (by simpa using hp)) (fun w hw => q w (by simpa using hw)) qb qr
    show Y (((f w x).bind _).bind _) P
    rw [h1]
    rcases h2 with ⟨w', rfl | rfl, hi⟩ | ⟨w', rfl, hj⟩ | ⟨r, rfl, hr⟩
    · exact go w' hi
    · exact go w' hi
    · exact qb w' hj
    · exact Y.ok (qr r hr)
theorem Y.forR {α W R Rr : Type} {f : W → α → Option (Fl W Rr)} {xs : List α} {w : W} {K : W → Option R} {kr : Rr → R} {P : R → Prop} (I : List α → W → Prop) (PR : Rr → Prop) (h : I [] w)
    (k : ∀ p x w, p ++ [x] <+: xs → I p w → Y (f w x) (fun o => (∃ w', (o = .next w' ∨ o = .cont w') ∧ I (p ++ [x]) w') ∨ ∃ r, o = .ret r ∧ PR r))
    (q : ∀ w, I xs w → Y (K w) P) (qr : ∀ r, PR r → P (kr r)) : Y ((Ab.forE f xs w).bind (flK K kr)) P :=
  Y.forG I (fun _ => False) PR xs [] w h (fun p x w hp hi => (k p x w (by simpa using hp) hi).mono fun o ho => ho.elim .inl fun z => .inr (.inr z)) (by simpa using q) (fun _ h => h.elim) qr
/-! members -/
theorem range_filter {m : Nat} {k : Nat} (h : m < 2 ^ k) : ∀ d : Nat, (List.range (k + d)).filter (fun i => m.testBit i) = (List.range k).filter fun i => m.testBit i
  | 0 => rfl
  | d + 1 => by
    rw [← Nat.add_assoc, List.range_succ, List.filter_append, range_filter h d]
    have : m.testBit (k + d) = false := Nat.testBit_lt_two_pow (Nat.lt_of_lt_of_le h (Nat.pow_le_pow_right (by decide) (by omega)))
    rw [List.filter_cons_of_neg (by simp [this])]
    simp
def membL (m : Nat) : List Int := ((List.range 64).filter fun i => m.testBit i).map fun (i : Nat) => (i : Int)
theorem membL_len (m : Nat) : ((membL m).length : Int).fmod 2 = if pcb m = true then 1 else 0 := by
  unfold membL pcb
  rw [List.length_map, Int.fmod_eq_emod_of_nonneg _ (by decide)]
  generalize ((List.range 64).filter fun i => m.testBit i).length = k
  rcases Nat.mod_two_eq_zero_or_one k with q | q
  · rw [q]; simp; omega
  · rw [q]; simp; omega
theorem bit_div (m i : Nat) : decide ((((m : Int) / 2 ^ i).fmod 2) = 1) = m.testBit i := by
  rw [Nat.testBit_eq_decide_div_mod_eq, Int.fmod_eq_emod_of_nonneg _ (by decide)]
  have e : ((m : Int) / 2 ^ i) = ((m / 2 ^ i : Nat) : Int) := by simp
  rw [e]
  congr 1
  apply propext
  omega
theorem log_lt {m : Nat} (h : m < 2 ^ 63) : (if m = 0 then 0 else m.log2 + 1) ≤ 63 ∧ m < 2 ^ (if m = 0 then 0 else m.log2 + 1) := by
  by_cases e : m = 0
  · subst e; simp
  · rw [if_neg e]
    exact ⟨by have := (Nat.log2_lt e).mpr h; omega, Nat.lt_log2_self⟩
theorem mem_membL {m : Nat} {x : Int} (hm : m < 2 ^ 63) : x ∈ membL m ↔ 0 ≤ x ∧ m.testBit x.toNat = true := by
  unfold membL
  rw [List.mem_map]
  constructor
  · rintro ⟨i, hi, rfl⟩
    rw [List.mem_filter] at hi
    exact ⟨by omega, by simpa using hi.2⟩
  · rintro ⟨h0, h1⟩
    refine ⟨x.toNat, ?_, by omega⟩
    rw [List.mem_filter, List.mem_range]
    have := Nat.ge_two_pow_of_testBit h1
    have : x.toNat < 63 := by
      apply Classical.byContradiction
      intro h
      have : 2 ^ 63 ≤ 2 ^ x.toNat := Nat.pow_le_pow_right (by decide) (by omega)
      omega
    exact ⟨by omega, by simpa using h1⟩
theorem membL_SL (m : Nat) : SL (membL m) := by
  unfold membL SL
  rw [List.pairwise_map]
  exact (List.pairwise_lt_range.filter _).imp fun h => by omega
/-- the mask of a row of members -/
def maskL : List Int → Nat
  | [] => 0
  | x :: l => 2 ^ x.toNat + maskL l
theorem dot_pow {n v : Nat} (hv : v < 64) : dot n (2 ^ v) = n.testBit v := by
  unfold dot pcb
  have e : (List.range 64).filter (fun i => (n &&& 2 ^ v).testBit i) = (List.range 64).filter fun i => decide (i = v) && n.testBit v := by
    congr 1; funext i
    rw [Nat.testBit_and, Nat.testBit_two_pow]
    by_cases h : v = i
    · subst h; simp
    · have : ¬ i = v := fun z => h z.symm
      simp [h, this]
  rw [e]
  cases n.testBit v with
  | false =>
    rw [List.filter_eq_nil_iff.mpr (fun i _ => by simp)]; rfl
  | true =>
    have e2 : (fun i : Nat => decide (i = v) && true) = fun i => i == v := by funext i; rw [Bool.and_true, Bool.beq_eq_decide_eq]
    have e3 : ((List.range 64).filter fun i => i == v).length = 1 := by
      rw [← List.count_eq_length_filter, List.nodup_range.count, if_pos (List.mem_range.mpr hv)]
    rw [e2, e3]; rfl
theorem dot_ext {n x y : Nat} (h : ∀ i, n.testBit i = true → x.testBit i = y.testBit i) : dot n x = dot n y := by
  unfold dot
  congr 1
  refine Nat.eq_of_testBit_eq fun i => ?_
  rw [Nat.testBit_and, Nat.testBit_and]
  cases e : n.testBit i with
  | false => rfl
  | true => rw [h i e]
theorem add_pow {t v : Nat} (h : t < 2 ^ v) : t + 2 ^ v = t ^^^ 2 ^ v := by
  have := Nat.two_pow_add_eq_or_of_lt h 1
  rw [Nat.mul_one] at this
  rw [Nat.add_comm, this]
  refine Nat.eq_of_testBit_eq fun i => ?_
  rw [Nat.testBit_or, Nat.testBit_xor, Nat.testBit_two_pow]
  by_cases e : v = i
  · subst e; rw [Nat.testBit_lt_two_pow h]; simp
  · simp [e]
end Ab
namespace Ab
open PySem PySem.Spec PyProof.Rows L2
/-! ### rows of members and their masks -/
def Within (l : List Int) (n : Int) : Prop := ∀ x ∈ l, 0 ≤ x ∧ x < n
theorem SL.snoc {l : List Int} {k : Int} (h : SL l) (b : ∀ x ∈ l, x < k + 1) (m : k ∈ l) : l = l.filter (fun x => decide (x < k)) ++ [k] := by
  refine SL.ext h ?_ fun x => ?_
  · unfold SL
    rw [List.pairwise_append]
    refine ⟨h.filter _, by simp, fun a ha c hc => ?_⟩
    rw [List.mem_filter] at ha
    have : c = k := by simpa using hc
    subst this
    simpa using ha.2
  · rw [List.mem_append, List.mem_filter, List.mem_singleton]
    constructor
    · intro hx
      have := b x hx
      by_cases e : x = k
      · exact .inr e
      · exact .inl ⟨hx, by simp; omega⟩
    · rintro (h | rfl)
      · exact h.1
      · exact m
theorem maskL_app : ∀ (a b : List Int), maskL (a ++ b) = maskL a + maskL b
  | [], b => by simp [maskL]
  | x :: a, b => by show 2 ^ x.toNat + maskL (a ++ b) = 2 ^ x.toNat + maskL a + maskL b; rw [maskL_app a b]; omega
theorem mask_bits : ∀ (k : Nat) (l : List Int), SL l → Within l k → maskL l < 2 ^ k ∧ ∀ i : Nat, (maskL l).testBit i = decide ((i : Int) ∈ l)
  | 0, l, _, h => by
    cases l with
    | nil => exact ⟨by simp [maskL], fun i => by simp [maskL]⟩
    | cons x l => have := h x (by simp); omega
  | k + 1, l, hs, h => by
    by_cases m : (k : Int) ∈ l
    · have e := hs.snoc (k := k) (fun x hx => by have := h x hx; omega) m
      have ih := mask_bits k (l.filter fun x => decide (x < (k : Int))) (hs.filter _) (fun x hx => by
        rw [List.mem_filter] at hx
        have := h x hx.1
        have := hx.2
        simp at this
        omega)
      have e2 : maskL l = maskL (l.filter fun x => decide (x < (k : Int))) ^^^ 2 ^ k := by
        rw [← add_pow ih.1]
        conv => lhs; rw [e]
        rw [maskL_app]
        simp [maskL]
      rw [e2]
      refine ⟨Nat.xor_lt_two_pow (Nat.lt_trans ih.1 (Nat.pow_lt_pow_right (by decide) (by omega))) (Nat.pow_lt_pow_right (by decide) (by omega)), fun i => ?_⟩
      rw [Nat.testBit_xor, ih.2, Nat.testBit_two_pow]
      by_cases q : k = i
      · subst q
        have : ¬ (k : Int) ∈ l.filter (fun x => decide (x < (k : Int))) := fun z => by rw [List.mem_filter] at z; simp at z
        simp [this, m]
      · have q2 : ((i : Int) ∈ l.filter fun x => decide (x < (k : Int))) ↔ (i : Int) ∈ l := by
          rw [List.mem_filter]
          refine ⟨fun z => z.1, fun z => ⟨z, ?_⟩⟩
          have := h _ z
          simp; omega
        have e3 : decide ((i : Int) ∈ l.filter fun x => decide (x < (k : Int))) = decide ((i : Int) ∈ l) := decide_eq_decide.mpr q2
        rw [e3]
        simp [q]
    · have ih := mask_bits k l hs (fun x hx => by
        have := h x hx
        refine ⟨this.1, ?_⟩
        have ne : x ≠ (k : Int) := fun z => m (z ▸ hx)
        omega)
      exact ⟨Nat.lt_trans ih.1 (Nat.pow_lt_pow_right (by decide) (by omega)), ih.2⟩
theorem mask_mem {k : Nat} {l : List Int} (hs : SL l) (h : Within l k) (hk : k ≤ 63) : membL (maskL l) = l := by
  obtain ⟨h1, h2⟩ := mask_bits k l hs h
  have h63 : maskL l < 2 ^ 63 := Nat.lt_of_lt_of_le h1 (Nat.pow_le_pow_right (by decide) hk)
  refine SL.ext (membL_SL _) hs fun x => ?_
  rw [mem_membL h63, h2, decide_eq_true_eq]
  constructor
  · rintro ⟨a, b⟩
    have : ((x.toNat : Nat) : Int) = x := by omega
    rw [this] at b; exact b
  · intro hx
    have := h x hx
    refine ⟨this.1, ?_⟩
    have e : ((x.toNat : Nat) : Int) = x := by omega
    rw [e]; exact hx
theorem mask_inj {k : Nat} {a b : List Int} (ha : SL a) (hb : SL b) (wa : Within a k) (wb : Within b k) (hk : k ≤ 63) (h : maskL a = maskL b) : a = b := by
  rw [← mask_mem ha wa hk, ← mask_mem hb wb hk, h]
theorem memb_mask {m k : Nat} (h : m < 2 ^ k) (hk : k ≤ 63) : Within (membL m) k ∧ maskL (membL m) = m := by
  have h63 : m < 2 ^ 63 := Nat.lt_of_lt_of_le h (Nat.pow_le_pow_right (by decide) hk)
  have w : Within (membL m) k := fun x hx => by
    rw [mem_membL h63] at hx
    refine ⟨hx.1, ?_⟩
    apply Classical.byContradiction
    intro hc
    rw [Nat.testBit_lt_two_pow (Nat.lt_of_lt_of_le h (Nat.pow_le_pow_right (by decide) (by omega)))] at hx
    exact absurd hx.2 (by simp)
  refine ⟨w, Nat.eq_of_testBit_eq fun i => ?_⟩
  rw [(mask_bits k _ (membL_SL m) w).2]
  cases e : m.testBit i with
  | true => exact decide_eq_true ((mem_membL h63).mpr ⟨by omega, by simpa using e⟩)
  | false => exact decide_eq_false fun z => by rw [mem_membL h63] at z; simp [e] at z
theorem mask_sum {k : Nat} {a b : List Int} (ha : SL a) (hb : SL b) (wa : Within a k) (wb : Within b k) : Within (sumS a b) k ∧ maskL (sumS a b) = maskL a ^^^ maskL b := by
  have w : Within (sumS a b) k := fun x hx => by
    rw [mem_sumS] at hx
    by_cases h1 : x ∈ a
    · exact wa x h1
    · by_cases h2 : x ∈ b
      · exact wb x h2
      · simp [h1, h2] at hx
  refine ⟨w, Nat.eq_of_testBit_eq fun i => ?_⟩
  rw [(mask_bits k _ (sumS_SL ha hb) w).2, Nat.testBit_xor, (mask_bits k a ha wa).2, (mask_bits k b hb wb).2]
  by_cases h1 : (i : Int) ∈ a <;> by_cases h2 : (i : Int) ∈ b <;> simp [mem_sumS, h1, h2]
theorem pcb_len (m : Nat) : pcb m = ((membL m).length % 2 == 1) := by unfold pcb membL; rw [List.length_map]
theorem par_dot {k : Nat} {a b : List Int} (ha : SL a) (hb : SL b) (wa : Within a k) (wb : Within b k) (hk : k ≤ 63) : par (fun v => decide (v ∈ b)) a = dot (maskL a) (maskL b) := by
  obtain ⟨a1, a2⟩ := mask_bits k a ha wa
  obtain ⟨b1, b2⟩ := mask_bits k b hb wb
  unfold dot
  rw [pcb_len]
  have h63 : maskL a &&& maskL b < 2 ^ 63 := Nat.and_lt_two_pow _ (Nat.lt_of_lt_of_le b1 (Nat.pow_le_pow_right (by decide) hk))
  have : membL (maskL a &&& maskL b) = a.filter fun v => decide (v ∈ b) := SL.ext (membL_SL _) (ha.filter _) fun x => by
    rw [mem_membL h63, List.mem_filter, Nat.testBit_and, a2, b2]
    simp only [Bool.and_eq_true, decide_eq_true_eq]
    constructor
    · rintro ⟨h0, h1, h2⟩
      have e : ((x.toNat : Nat) : Int) = x := by omega
      rw [e] at h1 h2
      exact ⟨h1, h2⟩
    · rintro ⟨h1, h2⟩
      have := wa x h1
      have e : ((x.toNat : Nat) : Int) = x := by omega
      rw [e]
      exact ⟨this.1, h1, h2⟩
  rw [this]
  rfl
/-! ### all sets, the less heavy ones first -/
def setsS (n : Int) : Nat → List (List Int)
  | 0 => [[]]
  | k + 1 => setsS n k ++ (setsS n k).map fun s => (n - 1 - (k : Int)) :: s
/-- a is less heavy than b -/
def Less (a b : List Int) : Prop := ∃ i : Int, i ∉ a ∧ i ∈ b ∧ ∀ j, j < i → (j ∈ a ↔ j ∈ b)
theorem setsS_len (n : Int) : ∀ k, (setsS n k).length = 2 ^ k
  | 0 => rfl
  | k + 1 => by show (setsS n k ++ _).length = _; rw [List.length_append, List.length_map, setsS_len n k, Nat.pow_succ]; omega
theorem setsS_in (n : Int) : ∀ (k : Nat) (s : List Int), s ∈ setsS n k ↔ (SL s ∧ ∀ x ∈ s, n - (k : Int) ≤ x ∧ x < n)
  | 0, s => by
    unfold setsS
    rw [List.mem_singleton]
    constructor
    · rintro rfl; exact ⟨SL.nil, by simp⟩
    · rintro ⟨_, h⟩
      cases s with
      | nil => rfl
      | cons x s => have := h x (by simp); omega
  | k + 1, s => by
    show s ∈ setsS n k ++ _ ↔ _
    rw [List.mem_append, List.mem_map, setsS_in n k]
    constructor
    · rintro (⟨h1, h2⟩ | ⟨t, ht, rfl⟩)
      · exact ⟨h1, fun x hx => by have := h2 x hx; omega⟩
      · obtain ⟨h1, h2⟩ := (setsS_in n k t).mp ht
        refine ⟨List.pairwise_cons.mpr ⟨fun y hy => by have := h2 y hy; omega, h1⟩, fun x hx => ?_⟩
        have hx' : x = n - 1 - (k : Int) ∨ x ∈ t := by simpa using hx
        rcases hx' with rfl | hx'
        · omega
        · have := h2 x hx'; omega
    · rintro ⟨h1, h2⟩
      cases s with
      | nil => exact .inl ⟨SL.nil, by simp⟩
      | cons x t =>
        have hc := List.pairwise_cons.mp h1
        have hx := h2 x (by simp)
        by_cases e : x = n - 1 - (k : Int)
        · refine .inr ⟨t, (setsS_in n k t).mpr ⟨hc.2, fun y hy => ?_⟩, by rw [e]⟩
          have := hc.1 y hy
          have := h2 y (by simp [hy])
          omega
        · refine .inl ⟨h1, fun y hy => ?_⟩
          have hy' : y = x ∨ y ∈ t := by simpa using hy
          rcases hy' with rfl | hy'
          · omega
          · have := hc.1 y hy'
            have := h2 y hy
            omega
theorem setsS_less (n : Int) : ∀ k : Nat, (setsS n k).Pairwise Less
  | 0 => by simp [setsS]
  | k + 1 => by
    show (setsS n k ++ _).Pairwise Less
    rw [List.pairwise_append]
    refine ⟨setsS_less n k, ?_, ?_⟩
    · rw [List.pairwise_map]
      refine List.Pairwise.imp_of_mem (fun {a b} ha hb h => ?_) (setsS_less n k)
      obtain ⟨i, h1, h2, h3⟩ := h
      have hb2 := ((setsS_in n k b).mp hb).2 i h2
      refine ⟨i, ?_, by simp [h2], fun j hj => ?_⟩
      · intro z
        have z' : i = n - 1 - (k : Int) ∨ i ∈ a := by simpa using z
        rcases z' with z | z
        · omega
        · exact h1 z
      · have := h3 j hj
        simp [this]
    · intro a ha b hb
      rw [List.mem_map] at hb
      obtain ⟨t, ht, rfl⟩ := hb
      have h1 := ((setsS_in n k a).mp ha).2
      have h2 := ((setsS_in n k t).mp ht).2
      refine ⟨n - 1 - (k : Int), fun z => by have := h1 _ z; omega, by simp, fun j hj => ⟨fun z => by have := h1 _ z; omega, fun z => ?_⟩⟩
      have z' : j = n - 1 - (k : Int) ∨ j ∈ t := by simpa using z
      rcases z' with z | z
      · omega
      · have := h2 _ z; omega
theorem Less.irr {a : List Int} (h : Less a a) : False := by
  obtain ⟨i, h1, h2, _⟩ := h
  exact h1 h2
theorem Less.asym {a b : List Int} (h : Less a b) (k : Less b a) : False := by
  obtain ⟨i, h1, h2, h3⟩ := h
  obtain ⟨j, k1, k2, k3⟩ := k
  rcases Int.lt_trichotomy i j with q | q | q
  · exact h1 ((k3 i q).mp h2)
  · subst q; exact k1 h2
  · exact k1 ((h3 j q).mp k2)
/-- the first that does -/
theorem find_first {P : List Int → Bool} : ∀ {l : List (List Int)}, l.Pairwise Less → ∀ {t : List Int}, t ∈ l → P t = true → (∀ s ∈ l, P s = true → s = t ∨ Less t s) → l.find? P = some t
  | [], _, t, h, _, _ => by cases h
  | x :: l, hp, t, ht, hP, hm => by
    rw [List.pairwise_cons] at hp
    cases e : P x with
    | true =>
      rw [List.find?_cons_of_pos e]
      rcases hm x (by simp) e with rfl | h
      · rfl
      · have ht' : t = x ∨ t ∈ l := by simpa using ht
        rcases ht' with rfl | ht'
        · rfl
        · exact (Less.asym h (hp.1 t ht')).elim
    | false =>
      rw [List.find?_cons_of_neg (by simp [e])]
      have ht' : t = x ∨ t ∈ l := by simpa using ht
      rcases ht' with rfl | ht'
      · rw [e] at hP; cases hP
      · exact find_first hp.2 ht' hP fun s hs => hm s (by simp [hs])
theorem less_mask {k : Nat} {a b : List Int} (ha : SL a) (hb : SL b) (wa : Within a k) (wb : Within b k) (h : (∀ j, j < k → (maskL a).testBit j = (maskL b).testBit j) ∨ ∃ i, i < k ∧ (maskL b).testBit i = false ∧ (maskL a).testBit i = true ∧ ∀ j, j < i → (maskL a).testBit j = (maskL b).testBit j) : a = b ∨ Less b a := by
  have a2 := (mask_bits k a ha wa).2
  have b2 := (mask_bits k b hb wb).2
  rcases h with h | ⟨i, hi, h1, h2, h3⟩
  · refine .inl (SL.ext ha hb fun x => ?_)
    constructor
    · intro hx
      have w := wa x hx
      have := h x.toNat (by omega)
      rw [a2, b2] at this
      have e : ((x.toNat : Nat) : Int) = x := by omega
      rw [e] at this
      simpa [hx] using this
    · intro hx
      have w := wb x hx
      have := h x.toNat (by omega)
      rw [a2, b2] at this
      have e : ((x.toNat : Nat) : Int) = x := by omega
      rw [e] at this
      simpa [hx] using this
  · refine .inr ⟨(i : Int), ?_, ?_, fun j hj => ?_⟩
    · rw [b2] at h1; simpa using h1
    · rw [a2] at h2; simpa using h2
    · by_cases h0 : 0 ≤ j
      · have := h3 j.toNat (by omega)
        rw [a2, b2] at this
        have e : ((j.toNat : Nat) : Int) = j := by omega
        rw [e, decide_eq_decide] at this
        exact this.symm
      · constructor
        · intro z; have := wb _ z; omega
        · intro z; have := wa _ z; omega
end Ab
namespace Ab
open PySem PySem.Spec PyProof.Rows L2
/-! ### values of any shape -/
namespace Ty
abbrev dyn : D → D := fun d => d
end Ty
/-- the items of a list or a tuple -/
def itY : D → Option (List D)
  | .list ds => some ds
  | .tuple ds => some ds
  | _ => none
def ixY (d : D) (i : Int) : Option D := (itY d).bind fun ds => atI ds i
def lenY (d : D) : Option Int := (itY d).map fun ds => (ds.length : Int)
section
variable {X : Cx} {tg : Expr}
/-- a list or a tuple, walked -/
theorem pi_any {l : Expr} {tl : TE} (hl : PE X l tl) : PI X tg l (fun σ H R => tl σ H fun x H1 => ∃ a, x = .ref a ∧ ((∃ xs, SqL X.K H1 a xs ∧ R (Itl X.K a) H1) ∨ ∃ xs, SqT X.K H1 a xs ∧ R (Itt X.K a) H1)) := by
  refine ⟨fun pins s σ H R I h => thn (hl.run pins s σ H _ I h) fun v s1 ⟨x, H1, I1, r1, a, ex, q⟩ => ?_⟩
  subst ex; cases r1
  have own : ∀ b ∈ [s1.heap.objs.size], b = s1.heap.objs.size := fun b hb => List.mem_singleton.mp hb
  have lay : ∀ o, Inv X pins σ H1 { s1 with heap := s1.heap.push o, toks := s1.toks } := fun o => I1.kept fun b u e => Heap.get?_push_of_some _ e
  rcases q with ⟨xs, hq, q⟩ | ⟨xs, hq, q⟩
  · obtain ⟨its, rv, p, hz⟩ := I1.list hq
    refine wpAny_pyIter_list p.isList ⟨s1.heap.objs.size, [s1.heap.objs.size], _, _, H1, rfl, lay _, turn_list a _, ⟨_, Heap.get?_push_size _ rfl, rfl, rfl⟩, fun b hb => ?_, q⟩
    rw [own b hb]; exact I1.fpOk (Nat.le_refl _) (I1.hok.fresh (Nat.le_refl _))
  · obtain ⟨its, rv, p, hz⟩ := I1.tuple hq
    refine wpAny_pyIter_tuple (show s1.heap.IsTuple a its.toArray from p) ⟨s1.heap.objs.size, [s1.heap.objs.size], _, _, H1, rfl, lay _, turn_tuple a _, ⟨_, Heap.get?_push_size _ rfl, rfl, rfl⟩, fun b hb => ?_, q⟩
    rw [own b hb]; exact I1.fpOk (Nat.le_refl _) (I1.hok.fresh (Nat.le_refl _))
end
section
variable {X : Cx} {S : Type} {ι : Io S} {Δ : Dl} {s : S} {R : Type} {pos p : Pos} {a b c e tg : Expr} {k : Nat}
variable {α β γ : Type} {E : α → D} {F : β → D} {M : (α → S → Option R) → Option R} {Md : (D → S → Option R) → Option R}
theorem ex_dyn (h : EX X ι Δ s e M E) : EX X ι Δ s e (fun k => M fun x s1 => k (E x) s1) Ty.dyn := fun k r hk σ H Hf A Q st q => h _ r hk σ H Hf A Q st fun x s1 hx v H1 Hf1 st1 e1 r1 => q (E x) s1 hx v H1 Hf1 st1 e1 r1
theorem ex_dec (dec : D → Option α) (hd : ∀ d a, dec d = some a → E a = d) (h : EX X ι Δ s e Md Ty.dyn) : EX X ι Δ s e (fun k => Md fun d s1 => (dec d).bind fun a => k a s1) E := fun k r hk σ H Hf A Q st q => h _ r hk σ H Hf A Q st fun d s1 hx v H1 Hf1 st1 e1 r1 => by
  obtain ⟨x, h1, h2⟩ := bind_some hx
  refine q x s1 h2 v H1 Hf1 st1 e1 ?_
  rw [hd d x h1]; exact r1
theorem it_dyn (h : EX X ι Δ s e Md Ty.dyn) : IX X ι Δ s tg e (fun k => Md fun d s1 => (itY d).bind fun ds => k ds s1) Ty.dyn := by
  intro k r hk σ H Hf A Rr st q
  refine tI_of (pi_any (pE X e)) (h _ r hk σ H Hf A _ st fun d s1 hx v H1 Hf1 st1 e1 r1 => ?_)
  obtain ⟨ds, h1, h2⟩ := bind_some hx
  cases d with
  | list ds' =>
    cases h1
    cases r1 with
    | @lst a vs _ hs hz ra =>
      have hl := ra.len
      exact ⟨a, rfl, .inl ⟨vs, .inl (st1.sub.rd hs), q ds s1 h2 _ H1 Hf1 st1 e1 (walks_list (E := Ty.dyn) hs (by rw [List.map_id']; exact ra) (by rw [← hl]; exact hz))⟩⟩
  | tuple ds' =>
    cases h1
    cases r1 with
    | @tup a vs _ hs hz ra =>
      have hl := ra.len
      exact ⟨a, rfl, .inr ⟨vs, st1.sub.tup hs, q ds s1 h2 _ H1 Hf1 st1 e1 (walks_tup (E := Ty.dyn) hs (by rw [List.map_id']; exact ra) (by rw [← hl]; exact hz))⟩⟩
  | _ => cases h1
end
end Ab
namespace Ab
open PySem PySem.Spec PyProof.Rows L2
/-! ### enumerate(tuple) -/
abbrev enI (t : Addr) : Obj := { cls := .type "tuple_iterator", data := .fields #[.ref t, .int 0 0] }
abbrev enO (it : Addr) : Obj := { cls := .type "enumerate", data := .fields #[.none, .bool false, .ref it, rawInt 0, .none, .none] }
theorem meets_enT (t : Addr) (o : Obj) (items : Array Value) (hc : o.cls = .type "tuple") (n : Nat) (hd : o.data = .seq items n) : Meets (Builtin.«enumerate.__new__» ⟨[.type "enumerate", .ref t], []⟩) (fun _ R s =>
    s.heap.get? t = some o ∧ R (.ok (.ret (.ref (s.heap.push (enI t)).objs.size))) { s with heap := (s.heap.push (enI t)).push (enO s.heap.objs.size) }) := .of_wp fun prog w A R s h => by
  obtain ⟨hp, g, d, tk, os⟩ := s
  obtain ⟨hl, h⟩ := h
  have hsub := sub_enumerate
  have hT : Heap.IsTuple (Shared.heap ⟨hp, g, d, tk, os⟩) t items := ⟨o, hl, hc, n, hd⟩
  wp_walk using AutoSeq1.wpAny_loadPart' hl
  refine wpAny_stack_any fun st => wpAny_pure ?_
  split
  · rename_i c _ _ _ _ _
    cases (c == Value.type "enumerate") <;> (wp_walk using AutoSeq1.wpAny_loadPart' hl, wpAny_pyIter_tuple hT) <;> exact ⟨_, rfl, h⟩
  · wp_walk using AutoSeq1.wpAny_loadPart' hl, wpAny_pyIter_tuple hT
    exact ⟨_, rfl, h⟩
theorem call_enT {prog : Program} {w : World} {A : Around} {E : Value → Shared → Prop} {s : Shared} {t : Addr} {items : Array Value} {Q : Value → Shared → Prop} (hT : s.heap.IsTuple t items)
    (h : ∀ h', IsEnum h' (s.heap.objs.size + 1) s.heap.objs.size 0 .none → h'.IsTupleIter s.heap.objs.size t 0 → h'.objs.size = s.heap.objs.size + 2 → (∀ b o, s.heap.get? b = some o → h'.get? b = some o) → Q (.ref (s.heap.objs.size + 1)) { s with heap := h' }) :
    wpAny (model prog w) A (call (.type "enumerate") [.ref t]) Q E s := by
  obtain ⟨o, hl, hc, n, hd⟩ := hT
  have z : (s.heap.push (enI t)).objs.size = s.heap.objs.size + 1 := Heap.size_push ..
  have ho : ((s.heap.push (enI t)).push (enO s.heap.objs.size)).get? (s.heap.objs.size + 1) = some (enO s.heap.objs.size) := by
    rw [← z]; exact Heap.get?_push_size _ rfl
  refine callType_new F.called_enumerate (by decide) (F.typeCall_enumerate_1 _) (F.newCall_enumerate_1 _) (fun obj => F.args_object_init_2 obj _) F.entry_enumerate_new (meets_enT t o items hc n hd) ⟨hl, ?_⟩
  show _ ∧ _
  rw [z]
  refine ⟨⟨_, ho, rfl⟩, h _ ho ⟨_, Heap.get?_push_of_some _ (Heap.get?_push_size _ rfl), rfl, rfl⟩ ?_ fun b u q => Heap.get?_push_of_some _ (Heap.get?_push_of_some _ q)⟩
  rw [Heap.size_push, z]
/-- the end of such a walk -/
theorem next_enT_end {prog : Program} {w : World} {A : Around} {E : Value → Shared → Prop} {s : Shared} {e it t : Addr} {i : Nat} {items : Array Value} {c : Int} {old : Value} {Q : Option Value → Shared → Prop} (hh : A.handled = none) (he : IsEnum s.heap e it c old) (hit : s.heap.IsTupleIter it t i) (ht : s.heap.IsTuple t items) (hx : items[i]? = none)
    (hQ : ∀ h', Heap.ExtBut it s.heap h' → Q none { s with heap := h' }) : wpAny (model prog w) A (pyNext (.ref e)) Q E s := by
  have ty : s.TypeIs (.ref e) "enumerate" := ⟨_, he, rfl⟩
  unfold pyNext
  refine wpAny_bind (wpAny_attempt (wpAny_callSpecial?_slot (name := Str.ofString "__next__") ty F.slot_enumerate_next (wpAny_call_entry F.slot_enumerate_next ty F.entry_enumerate_next ?_ (F.args_enumerate_next_1 _))))
  show wpAny _ _ (field (.ref e) 2 >>= _) _ _ s
  refine wpAny_bind (wpAny_field he rfl (x := .ref it) rfl (wpAny_bind (wpAny_nextOf_tuple_end hh hit ht hx fun h' x e1 ⟨o, ho, hc⟩ => ?_)))
  exact wpAny_bind (wpAny_isInstance (T := "StopIteration") (b := true) ⟨o, ho, hc⟩ isSubtype_stop (wpAny_pure (hQ _ e1)))
/-- the tuple at a, each item in a new pair with its place -/
def IteT (K : KF) (a : Addr) : It :=
  ⟨fun i H => ∃ (xs : List V) (x : V), SqT K H a xs ∧ xs[i]? = some x, fun i H v H' => ∃ T x, v = .ref T ∧ H T = none ∧ H' = upd H T (.tup [.int (i : Nat), x]) ∧ ∀ xs, SqT K H a xs → xs[i]? = some x,
    fun i H => ∃ xs : List V, SqT K H a xs ∧ xs.length ≤ i⟩
theorem turn_enT {P : Program} {w : World} {K : KF} {elts : List Expr} {kk : Nat} {tpos : Pos} (a e it : Addr) (hne : e ≠ it) (hea : a ≠ e) (hia : a ≠ it) :
    Turn P w K (.Tuple elts kk tpos) (IteT K a) [e, it] e (fun i h => (∃ old, IsEnum h e it ((i : Nat) : Int) old) ∧ h.IsTupleIter it a i) where
  mem := by simp
  obj := fun i h ⟨⟨old, he⟩, ⟨o, ho, _, hd⟩⟩ b hb => by
    rcases (show b = e ∨ b = it by simpa using hb) with rfl | rfl
    · exact ⟨_, he, fun v q => nomatch q⟩
    · exact ⟨o, ho, fun v q => by rw [hd] at q; cases q⟩
  keep := fun i h h' ⟨⟨old, he⟩, hi⟩ k => ⟨⟨old, k e (by simp) _ he⟩, hi.at fun o q => k it (by simp) o q⟩
  item := fun X hP hw hK hc i pins s σ H E I hf ⟨⟨old, he⟩, hit⟩ ⟨xs, x, hq, hx⟩ => by
    subst hP hw hK
    obtain ⟨its, rv, p, hz⟩ := I.tuple hq
    obtain ⟨u, hu, ru⟩ := rv.get hx
    have hel : e < s.heap.objs.size := Heap.lt_size he
    have hil : it < s.heap.objs.size := let ⟨_, q, _⟩ := hit; Heap.lt_size q
    have hu2 : its.toArray[i]? = some u := by simpa using hu
    have hlt : i < its.toArray.size := (Array.getElem?_eq_some_iff.mp hu2).1
    refine wpAny_pyNext_enum_itemD (Draws.tuple (A := X.A.in1) (show X.A.in1.handled = none from I.ok.hd hc) it a hia its.toArray) he ⟨hit, show s.heap.IsTuple a its.toArray from p⟩ hlt hne (by simp; exact ⟨hne, Ne.symm hea⟩) fun u' h' tk hP ho hst hT hsz hk => ?_
    have eu : u' = u := Option.some.inj (hP.symm.trans hu2)
    subst eu
    refine ⟨_, rfl, wpAny_letOwnedTupleGo_enum (s := { s with heap := h', toks := tk + 1 }) ho fun h2 he2 sb => ?_⟩
    have hT2 : h2.get? s.heap.objs.size = some { cls := .type "tuple", data := .seq #[.int i tk, u'] } := (sb.2 _ (Nat.ne_of_gt hel)).trans hT
    have I1 : Inv X pins σ (upd H s.heap.objs.size (.tup [.int (i : Nat), x])) { s with heap := h2, toks := tk + 1 } :=
      I.turnedNew (ch := [e, it]) (fun b ob hb q => (sb.2 b fun z => hb (by simp [z])).trans (hk b ob (fun z => hb (by simp [z])) (fun z => hb (by simp [z])) q)) hf (Nat.le_refl _)
        ⟨by show 2 ≤ sizeLine; decide, [.int i tk, u'], .cons ⟨_, rfl⟩ (.cons ru .nil), ⟨_, hT2, rfl, _, rfl⟩⟩
    refine ⟨.ref s.heap.objs.size, _, I1, rfl, ⟨_, x, rfl, I.hok.fresh (Nat.le_refl _), rfl, fun ys hy => by rw [I.tuple_inj hy hq]; exact hx⟩, ⟨⟨u', by rw [show ((i + 1 : Nat) : Int) = (i : Int) + 1 by omega]; exact he2⟩, hst.1.at fun o q => (sb.2 it (Ne.symm hne)).trans q⟩, fun b hb => ?_⟩
    have hb' : b < s.heap.objs.size := by
      rcases (show b = e ∨ b = it by simpa using hb) with z | z <;> rw [z]
      · exact hel
      · exact hil
    rw [upd_ne (Nat.ne_of_lt hb')]; exact (hf b hb).1
  done := fun X hP hw hK hc i pins s σ H E I hf ⟨⟨old, he⟩, hit⟩ ⟨xs, hq, hx⟩ => by
    subst hP hw hK
    obtain ⟨its, rv, p, hz⟩ := I.tuple hq
    obtain ⟨f0, f1, f2, f3, f4, f5⟩ := hf it (by simp)
    have hl := rv.length
    exact next_enT_end (I.ok.hd hc) he hit (show s.heap.IsTuple a its.toArray from p) (by simp; omega) fun h' eb => ⟨rfl, I.turned (t' := s.toks) (fun b o hb q => eb b o hb q) f0 f1 f3 f4 f5⟩
  self := fun A i s Q E ⟨⟨_, he⟩, _⟩ h => wpAny_pyIter_enum he h
theorem pi_enT {X : Cx} {e : Expr} {ta : TA} {p pos tpos : Pos} {elts : List Expr} {kk : Nat} (hg : Gl X "enumerate") (hm : X.mg "enumerate" = none) (ha : PA X [e] ta) (hs : starEach [e] X.env = [(false, eval e X.env)] := by rfl) :
    PI X (.Tuple elts kk tpos) (.Call (.Name "enumerate" p) [e] [] pos) (fun σ H R => ta σ H fun vs H1 => ∃ a xs, vs = [.ref a] ∧ SqT X.K H1 a xs ∧ R (IteT X.K a) H1) := by
  refine ⟨fun pins s σ H R I h => Call_ (ld_blt I hg hm boot_enumerate (PyProof.Rows.callWith_type1 (thn (ha.run pos pins s σ H _ I h) fun us s1 ⟨vs, H1, I1, r1, a, xs, ex, hq, q⟩ => ?_) hs rfl))⟩
  subst ex
  obtain ⟨u, rfl, ru⟩ := vals1 r1
  cases ru
  obtain ⟨its, rv, p', hz⟩ := I1.tuple hq
  have pT : s1.heap.IsTuple a its.toArray := p'
  refine call_enT pT fun h' he hit hsz hk => wpAny_pyIter_enum he ?_
  have hal : a < s1.heap.objs.size := let ⟨o, ho, _⟩ := pT; Heap.lt_size ho
  refine ⟨s1.heap.objs.size + 1, [s1.heap.objs.size + 1, s1.heap.objs.size], _, _, H1, rfl, I1.kept (t' := s1.toks) hk, turn_enT a (s1.heap.objs.size + 1) s1.heap.objs.size (Nat.succ_ne_self _) (Nat.ne_of_lt (Nat.lt_succ_of_lt hal)) (Nat.ne_of_lt hal), ⟨⟨.none, he⟩, hit⟩, fun b hb => ?_, q⟩
  have hle : s1.heap.objs.size ≤ b := by
    rcases (show b = s1.heap.objs.size + 1 ∨ b = s1.heap.objs.size by simpa using hb) with z | z <;> rw [z]
    · exact Nat.le_add_right _ _
    · exact Nat.le_refl _
  exact I1.fpOk hle (I1.hok.fresh hle)
end Ab
namespace Ab
open PySem PySem.Spec PyProof.Rows L2
/-! ### items with their places -/
def enumF {α : Type} : Nat → List α → List (Int × α)
  | _, [] => []
  | i, x :: xs => ((i : Int), x) :: enumF (i + 1) xs
def enumL {α : Type} (xs : List α) : List (Int × α) := enumF 0 xs
theorem enumF_len {α : Type} : ∀ (i : Nat) (xs : List α), (enumF i xs).length = xs.length
  | _, [] => rfl
  | i, x :: xs => congrArg (· + 1) (enumF_len (i + 1) xs)
theorem enumF_get {α : Type} : ∀ (i : Nat) (xs : List α) (j : Nat), (enumF i xs)[j]? = xs[j]?.map fun x => (((i + j : Nat) : Int), x)
  | _, [], j => by simp [enumF]
  | i, x :: xs, 0 => by simp [enumF]
  | i, x :: xs, j + 1 => by
    show (enumF (i + 1) xs)[j]? = _
    rw [enumF_get (i + 1) xs j, List.getElem?_cons_succ]
    congr 1; funext y; congr 1; omega
theorem enumL_get {α : Type} {xs : List α} {j : Nat} {p : Int × α} (h : (enumL xs)[j]? = some p) : p.1 = j ∧ xs[j]? = some p.2 := by
  unfold enumL at h
  rw [enumF_get] at h
  cases e : xs[j]? with
  | none => rw [e] at h; cases h
  | some x => rw [e] at h; cases h; exact ⟨by simp, rfl⟩
section
variable {K : KF} {α : Type} {E : α → D}
theorem pair_new {H Hf : Hp} {T : Addr} {i : Nat} {x : V} {y : α} (n : H T = none) (sb : Sub Hf H) (r : Rp K Hf x (E y)) :
    Ext H Hf (upd H T (.tup [.int (i : Nat), x])) (upd Hf T (.tup [.int (i : Nat), x])) ∧ Sub (upd Hf T (.tup [.int (i : Nat), x])) (upd H T (.tup [.int (i : Nat), x])) ∧ Rp K (upd Hf T (.tup [.int (i : Nat), x])) (.ref T) (Ty.p2 Ty.int E ((i : Int), y)) := by
  have ex := Ext.new (o := .tup [.int (i : Nat), x]) n sb
  exact ⟨ex, Sub.new sb, .tup (.inl (.inl upd_same)) (by show 2 ≤ 16777216; decide) (.cons (.int _) (.one (r.up ex.grow)))⟩
theorem walks_enL {a : Addr} {xs : List α} {vs : List V} {Hf : Hp} (h' : Rd Hf a (.lst vs)) (r : RpAll K Hf vs (xs.map E)) (hz : xs.length ≤ Line) : Walks K (Ite K a) (enumL xs) (Ty.p2 Ty.int E) Hf where
  go := fun i H' Hf' e1 e2 hi => ⟨vs, vs[i]'(by rw [r.len]; simpa [enumL, enumF_len] using hi), .inl ((e1.trans e2).rd h'), by rw [List.getElem?_eq_getElem]⟩
  stop := fun i H' Hf' e1 e2 hi => ⟨vs, .inl ((e1.trans e2).rd h'), by rw [r.len]; simpa [enumL, enumF_len] using hi⟩
  yld := fun i p v H' H3 Hf' e1 e2 hx hy => by
    obtain ⟨T, x, rfl, nT, rfl, f⟩ := hy
    obtain ⟨p1, p2⟩ := enumL_get hx
    obtain ⟨d, hd, rd⟩ := r.getV (f vs (.inl ((e1.trans e2).rd h')))
    rw [List.getElem?_map, p2] at hd
    cases hd
    obtain ⟨q1, q2, q3⟩ := pair_new (i := i) (y := p.2) nT e2 (rd.up e1)
    refine ⟨_, q1, q2, ?_⟩
    have : p = ((i : Int), p.2) := by rw [← p1]
    rw [this]; exact q3
  size := by unfold enumL; rw [enumF_len]; exact hz
theorem walks_enT {a : Addr} {xs : List α} {vs : List V} {Hf : Hp} (h' : SqT K Hf a vs) (r : RpAll K Hf vs (xs.map E)) (hz : xs.length ≤ Line) : Walks K (IteT K a) (enumL xs) (Ty.p2 Ty.int E) Hf where
  go := fun i H' Hf' e1 e2 hi => ⟨vs, vs[i]'(by rw [r.len]; simpa [enumL, enumF_len] using hi), (e1.trans e2).tup h', by rw [List.getElem?_eq_getElem]⟩
  stop := fun i H' Hf' e1 e2 hi => ⟨vs, (e1.trans e2).tup h', by rw [r.len]; simpa [enumL, enumF_len] using hi⟩
  yld := fun i p v H' H3 Hf' e1 e2 hx hy => by
    obtain ⟨T, x, rfl, nT, rfl, f⟩ := hy
    obtain ⟨p1, p2⟩ := enumL_get hx
    obtain ⟨d, hd, rd⟩ := r.getV (f vs ((e1.trans e2).tup h'))
    rw [List.getElem?_map, p2] at hd
    cases hd
    obtain ⟨q1, q2, q3⟩ := pair_new (i := i) (y := p.2) nT e2 (rd.up e1)
    refine ⟨_, q1, q2, ?_⟩
    have : p = ((i : Int), p.2) := by rw [← p1]
    rw [this]; exact q3
  size := by unfold enumL; rw [enumF_len]; exact hz
end
/-- a, a - 1, .. -/
def downL (hi : Int) (n : Nat) : List Int := (List.range n).map fun (i : Nat) => hi - (i : Int)
theorem downL_len (hi : Int) (n : Nat) : (downL hi n).length = n := by simp [downL]
theorem walks_down {K : KF} {hi : Int} {n : Nat} {Hf : Hp} (hz : n ≤ Line) : Walks K (Itc hi (-1) n) (downL hi n) Ty.int Hf where
  go := fun i H' Hf' e1 e2 h => by rw [downL_len] at h; exact h
  stop := fun i H' Hf' e1 e2 h => by rw [downL_len] at h; exact h
  yld := fun i x v H' H3 Hf' e1 e2 hx hy => by
    obtain ⟨rfl, rfl⟩ := hy
    have hx' : x = hi - (i : Int) := by
      unfold downL at hx
      rw [List.getElem?_map] at hx
      cases e : (List.range n)[i]? with
      | none => rw [e] at hx; cases hx
      | some j =>
        rw [e] at hx
        have := (List.getElem?_eq_some_iff.mp e).2
        simp at this
        cases hx
        rw [this]
    subst hx'
    refine ⟨Hf', Ext.refl _ _, e2, ?_⟩
    have e : hi + (i : Int) * -1 = hi - (i : Int) := by omega
    rw [e]; exact .int _
  size := by rw [downL_len]; exact hz
section
variable {X : Cx} {S : Type} {ι : Io S} {Δ : Dl} {s : S} {R : Type} {pos p tpos : Pos} {a b c e : Expr} {elts : List Expr} {kk : Nat}
variable {α : Type} {E : α → D} {M : (List α → S → Option R) → Option R}
theorem it_enumL (hm : X.mg "enumerate" = none) (h : EX X ι Δ s e M (Ty.lst E)) (hg : Gl X "enumerate" := by rfl) (hs : starEach [e] X.env = [(false, eval e X.env)] := by rfl) :
    IX X ι Δ s (.Tuple elts kk tpos) (.Call (.Name "enumerate" p) [e] [] pos) (fun k => M fun xs s1 => k (enumL xs) s1) (Ty.p2 Ty.int E) := by
  intro k r hk σ H Hf A Rr st q
  refine tI_of (pi_enum hg hm (pA X [e]) hs) ?_
  refine ax_cons h (fun s1 => ax_nil) hs (fun p s' => k (enumL p.1) s') r hk σ H Hf A _ st fun x s1 hx vs H1 Hf1 st1 e1 r1 => ?_
  obtain ⟨v, rfl, rv⟩ := one_arg r1
  cases rv with
  | @lst ad ws _ h1 hz ra =>
    have hl := ra.len
    rw [List.length_map] at hl
    exact ⟨ad, ws, rfl, .inl (st1.sub.rd h1), q _ s1 hx _ H1 Hf1 st1 e1 (walks_enL h1 ra (by rw [← hl]; exact hz))⟩
theorem it_enumT (hm : X.mg "enumerate" = none) (h : EX X ι Δ s e M (Ty.tup E)) (hg : Gl X "enumerate" := by rfl) (hs : starEach [e] X.env = [(false, eval e X.env)] := by rfl) :
    IX X ι Δ s (.Tuple elts kk tpos) (.Call (.Name "enumerate" p) [e] [] pos) (fun k => M fun xs s1 => k (enumL xs) s1) (Ty.p2 Ty.int E) := by
  intro k r hk σ H Hf A Rr st q
  refine tI_of (pi_enT hg hm (pA X [e]) hs) ?_
  refine ax_cons h (fun s1 => ax_nil) hs (fun p s' => k (enumL p.1) s') r hk σ H Hf A _ st fun x s1 hx vs H1 Hf1 st1 e1 r1 => ?_
  obtain ⟨v, rfl, rv⟩ := one_arg r1
  cases rv with
  | @tup ad ws _ h1 hz ra =>
    have hl := ra.len
    rw [List.length_map] at hl
    exact ⟨ad, ws, rfl, st1.sub.tup h1, q _ s1 hx _ H1 Hf1 st1 e1 (walks_enT h1 ra (by rw [← hl]; exact hz))⟩
/-- range(a, b, -1) -/
theorem it_down {tg : Expr} {j : Nat} {pc pu : Pos} {Ma : (Int → S → Option R) → Option R} {Mb : S → (Int → S → Option R) → Option R} (hm : X.mg "range" = none) (h : EX X ι Δ s a Ma Ty.int) (hb : ∀ s1, EX X ι Δ s1 b (Mb s1) Ty.int) (hg : Gl X "range" := by rfl)
    (hs : starEach [a, b, .UnaryOp .USub (.Constant (.int 1) j pc) pu] X.env = (false, eval a X.env) :: starEach [b, .UnaryOp .USub (.Constant (.int 1) j pc) pu] X.env := by rfl)
    (hs2 : starEach [b, .UnaryOp .USub (.Constant (.int 1) j pc) pu] X.env = (false, eval b X.env) :: starEach [.UnaryOp .USub (.Constant (.int 1) j pc) pu] X.env := by rfl)
    (hs3 : starEach [.UnaryOp .USub (.Constant (.int 1) j pc) pu] X.env = (false, eval (.UnaryOp .USub (.Constant (.int 1) j pc) pu) X.env) :: starEach [] X.env := by rfl)
    (hpl : (backTo pos (starEach [b, .UnaryOp .USub (.Constant (.int 1) j pc) pu] X.env)).any (·.1) = false := by rfl) :
    IX X ι Δ s tg (.Call (.Name "range" p) [a, b, .UnaryOp .USub (.Constant (.int 1) j pc) pu] [] pos) (fun k => Ma fun n s1 => Mb s1 fun m s2 => guardM (n.natAbs ≤ Line ∧ m.natAbs ≤ Line ∧ n - m ≤ (Line : Int)) (k (downL n (n - m).toNat) s2)) Ty.int := by
  intro k r hk σ H Hf A Rr st q
  refine tI_of (pi_range3 hg hm (pA X _) hs hpl) ?_
  have hq : AX X ι Δ s [a, b, .UnaryOp .USub (.Constant (.int 1) j pc) pu] (R := R) (fun k => Ma fun n s1 => Mb s1 fun m s2 => k (n, m, -1, ()) s2) (fun p => [.int p.1, .int p.2.1, .int p.2.2.1]) := ax_cons h (fun s1 => ax_cons (hb s1) (fun s2 => ax_cons (ex_neg ex_int) (fun s3 => ax_nil) hs3) hs2) hs
  refine hq (fun p s2 => if p.2.2.1 = -1 then guardM (p.1.natAbs ≤ Line ∧ p.2.1.natAbs ≤ Line ∧ p.1 - p.2.1 ≤ (Line : Int)) (k (downL p.1 (p.1 - p.2.1).toNat) s2) else none) r hk σ H Hf A _ st fun x s1 hx vs H1 Hf1 st1 e1 r1 => ?_
  obtain ⟨n, m, t, u⟩ := x
  have ht : t = -1 := by
    apply Classical.byContradiction
    intro z
    have hx' : (if t = -1 then _ else none) = some r := hx
    rw [if_neg z] at hx'
    cases hx'
  subst ht
  have hx' : (if (-1 : Int) = -1 then guardM (n.natAbs ≤ Line ∧ m.natAbs ≤ Line ∧ n - m ≤ (Line : Int)) (k (downL n (n - m).toNat) s1) else none) = some r := hx
  rw [if_pos rfl] at hx'
  obtain ⟨c, hx2⟩ := guardM_some hx'
  obtain ⟨c1, c2, c3⟩ := c
  have d1 : n.natAbs ≤ 16777216 := c1
  have d2 : m.natAbs ≤ 16777216 := c2
  have d3 : n - m ≤ (16777216 : Nat) := c3
  cases r1 with
  | cons ra r1 =>
    cases r1 with
    | cons rb r1 =>
      cases r1 with
      | cons rc r1 =>
        cases r1
        cases ra; cases rb; cases rc
        exact ⟨n, m, -1, (n - m).toNat, rfl, RgC.neg (by omega) (by omega) (by omega) (by omega), q _ s1 hx2 _ H1 Hf1 st1 e1 (walks_down (by show (n - m).toNat ≤ 16777216; omega))⟩
end
end Ab
namespace Ab
open PySem PySem.Spec PyProof.Rows L2
/-! ### sorted(..) of a list or a tuple -/
theorem sorted_seq {prog : Program} {w : World} {A : Around} {E : Value → Shared → Prop} {s : Shared} {l : Addr} {T : String} {o : Obj} {vs : List Value} {n : Nat} {ltv : Value → Value → Bool} {Q : Value → Shared → Prop} (O : SrtO.Swo ltv)
    (hT : T = "list" ∨ T = "tuple") (ho : s.heap.get? l = some o) (hc : o.cls = .type T) (hd : o.data = .seq vs.toArray n) (hz : vs.length ≤ sizeLine)
    (hS : 2 ≤ vs.length → ∀ (h₁ : Heap) (a : Addr), h₁.get? a = some (seqObj "list" vs.toArray 0) → (∀ b o, s.heap.get? b = some o → b ≠ a ∧ h₁.get? b = some o) → SrtO.SortableO prog w A.in1.in1 { s with heap := h₁ } a vs ltv)
    (h : ∀ (out : List Value) (h' h2 : Heap) (ep : Nat), SrtO.Srtd ltv out → SrtO.Stb ltv out vs → (∀ b o, s.heap.get? b = some o → h2.get? b = some o) → s.heap.get? h2.objs.size = none → (∀ b o, s.heap.get? b = some o → h'.get? b = some o) → h'.get? h2.objs.size = some (seqObj "list" out.toArray ep) → Q (.ref h2.objs.size) { s with heap := h' }) :
    wpAny (model prog w) A (call (.builtin "sorted") [.ref l]) Q E s := by
  refine Calls.call_function_entry kind_sorted plain_sorted entry_sorted (args_sorted1 _) ?_
  unfold Builtin.«sorted»
  refine wpAny_bind (m := checkCount "sorted" 1 1 _) (wpAny_pure (wpAny_bind (wpAny_collect_seq l hT ho hc hd (fun h2 hk => ?_) (by rw [List.size_toArray]; exact hz))))
  rw [List.toList_toArray]
  have k2 : ∀ b o, s.heap.get? b = some o → b ≠ h2.objs.size ∧ (h2.push (seqObj "list" vs.toArray 0)).get? b = some o := fun b u q => ⟨Nat.ne_of_lt (Heap.lt_size (hk b u q)), Heap.get?_push_of_some _ (hk b u q)⟩
  have hL : (h2.push (seqObj "list" vs.toArray 0)).get? h2.objs.size = some (seqObj "list" vs.toArray 0) := Heap.get?_push_size _ rfl
  refine wpAny_bind (wpAny_newList ?_ hz)
  show wpAny _ _ _ _ _ { s with heap := h2.push (seqObj "list" vs.toArray 0) }
  refine wpAny_bind (wpAny_holding (wpAny_call_entry slot_list_sort ⟨_, hL, rfl⟩ entry_list_sort (SrtO.list_sort_ord O hL hz (fun q => hS q _ _ hL k2) fun out hs hb => ⟨_, rfl, ?_⟩) (args_list_sort _)))
  obtain ⟨ep, he⟩ := sortedHeap_at (vs := vs) (out := out.toArray) hL
  refine wpAny_pure ⟨_, rfl, h out _ h2 ep hs hb hk ?_ (fun b u q => ?_) he⟩
  · cases q : s.heap.get? h2.objs.size with
    | none => rfl
    | some u => exact absurd rfl (k2 _ u q).1
  · rw [sortedHeap_old (k2 b u q).1 (Heap.lt_size (k2 b u q).2)]
    exact (k2 b u q).2
/-! ### sorted: ints and pairs of ints, of lists and tuples -/
def lexP (p q : Int × Int) : Bool := SrtO.lexB p q
def insP (x : Int × Int) : List (Int × Int) → List (Int × Int)
  | [] => [x]
  | y :: ys => if lexP y x = true then y :: insP x ys else x :: y :: ys
def sortP : List (Int × Int) → List (Int × Int)
  | [] => []
  | x :: xs => insP x (sortP xs)
theorem insP_perm (x : Int × Int) : ∀ ys, (insP x ys).Perm (x :: ys)
  | [] => List.Perm.refl _
  | y :: ys => by
    unfold insP
    split
    · exact ((insP_perm x ys).cons y).trans (List.Perm.swap x y ys)
    · exact List.Perm.refl _
theorem sortP_perm : ∀ xs, (sortP xs).Perm xs
  | [] => List.Perm.refl _
  | x :: xs => (insP_perm x _).trans ((sortP_perm xs).cons x)
/-- not greater -/
def LeP (p q : Int × Int) : Prop := p.1 < q.1 ∨ (p.1 = q.1 ∧ p.2 ≤ q.2)
theorem lexP_no {p q : Int × Int} : lexP p q = false ↔ LeP q p := by
  unfold lexP LeP
  rw [SrtO.lexB_no]
  omega
theorem LeP.anti {p q : Int × Int} (h : LeP p q) (k : LeP q p) : p = q := by
  unfold LeP at h k
  apply Prod.ext <;> omega
theorem insP_sorted (x : Int × Int) : ∀ ys : List (Int × Int), ys.Pairwise LeP → (insP x ys).Pairwise LeP
  | [], _ => by simp [insP]
  | y :: ys, h => by
    rw [List.pairwise_cons] at h
    unfold insP
    cases e : lexP y x with
    | true =>
      rw [if_pos rfl, List.pairwise_cons]
      refine ⟨fun z hz => ?_, insP_sorted x ys h.2⟩
      rcases (List.Perm.mem_iff (insP_perm x ys)).mp hz with _ | ⟨_, hz⟩
      · have := SrtO.lexB_iff.mp e
        unfold LeP; omega
      · exact h.1 z hz
    | false =>
      rw [if_neg Bool.false_ne_true, List.pairwise_cons]
      have l := lexP_no.mp e
      refine ⟨fun z hz => ?_, List.pairwise_cons.mpr h⟩
      rcases List.mem_cons.mp hz with rfl | hz
      · exact l
      · have := h.1 z hz
        unfold LeP at *; omega
theorem sortP_sorted : ∀ xs, (sortP xs).Pairwise LeP
  | [] => List.Pairwise.nil
  | x :: xs => insP_sorted x _ (sortP_sorted xs)
theorem sortP_unique {xs ys : List (Int × Int)} (h : ys.Perm xs) (hs : ys.Pairwise LeP) : ys = sortP xs :=
  List.Perm.eq_of_pairwise (le := LeP) (fun a b _ _ h k => h.anti k) hs (sortP_sorted xs) (h.trans (sortP_perm xs).symm)
section
variable {X : Cx}
/-- a list or a tuple at a, its items xs -/
abbrev SqA (K : KF) (H : Hp) (a : Addr) (xs : List V) : Prop := SqL K H a xs ∨ SqT K H a xs
theorem sqA_at {pins : List (Addr × Obj)} {σ : L2.St} {H : Hp} {s : Shared} {a : Addr} {xs : List V} (I : Inv X pins σ H s) (h : SqA X.K H a xs) : ∃ (its : List Value) (T : String) (o : Obj) (n : Nat), Vals xs its ∧ (T = "list" ∨ T = "tuple") ∧ s.heap.get? a = some o ∧ o.cls = .type T ∧ o.data = .seq its.toArray n ∧ its.length ≤ sizeLine := by
  rcases h with h | h
  · obtain ⟨its, rv, p, hz⟩ := I.list h
    obtain ⟨o, ho, hc, n, hd⟩ := p.isList
    exact ⟨its, "list", o, n, rv, .inl rfl, ho, hc, hd, by rw [← rv.length]; exact hz⟩
  · obtain ⟨its, rv, p, hz⟩ := I.tuple h
    obtain ⟨o, ho, hc, n, hd⟩ := (show s.heap.IsTuple a its.toArray from p)
    exact ⟨its, "tuple", o, n, rv, .inr rfl, ho, hc, hd, by rw [← rv.length]; exact hz⟩
theorem call_sortI : CallR X (.builtin "sorted") (fun vs H Q => ∃ (a : Addr) (ns : List Int), vs = [V.ref a] ∧ SqA X.K H a (ns.map V.int) ∧ ∀ p, H p = none → Q (.ref p) (upd H p (.lst ((sortI ns).map V.int)))) := by
  intro pins s σ H vs us Q I r h
  obtain ⟨a, ns, rfl, hs, q⟩ := h
  obtain ⟨its, T, o, n, rv, hT, ho, hc, hd, hz⟩ := sqA_at I hs
  obtain ⟨u, rfl, ru⟩ := vals1 r
  cases ru
  have hi := rv.ints
  refine sorted_seq SrtO.swo_int hT ho hc hd hz (fun h2 h₁ a' _ _ => SrtO.ints_sortable hi h2) fun out h' h2 ep k1 k2 hk2 hno hk he => ?_
  obtain ⟨m1, m2, m3⟩ := SrtO.ints_out hi k1 k2
  have hn : H h2.objs.size = none := (I.hok.kept hk2).fresh (Nat.le_refl _)
  have e : out.map SrtO.iv = sortI ns := sorted_unique (m2.trans (sortI_perm ns).symm) m3 (sortI_sorted ns)
  rw [e] at m1
  have hl : ((sortI ns).map V.int).length ≤ sizeLine := by
    have := rv.length
    rw [List.length_map] at this ⊢
    rw [(sortI_perm ns).length_eq, this]; exact hz
  exact ⟨.ref _, _, I.laidN (t' := s.toks) (o := .lst ((sortI ns).map V.int)) hk hno hn ⟨hl, out, ep, vals_of_ints m1, he⟩, rfl, q _ hn⟩
end
/-! pairs -/
abbrev E2 : Int × Int → D := Ty.p2 Ty.int Ty.int
theorem isPair_inj {h : Heap} {v : Value} {i j i' j' : Int} (a : Srt.IsPair h v i j) (b : Srt.IsPair h v i' j') : i = i' ∧ j = j' := by
  obtain ⟨x, o, t, u, n, rfl, ho, hc, hd⟩ := a
  obtain ⟨x', o', t', u', n', e, ho', hc', hd'⟩ := b
  cases e
  rw [ho] at ho'
  cases ho'
  rw [hd] at hd'
  cases hd'
  exact ⟨rfl, rfl⟩
open Classical in
/-- the pair at a value -/
noncomputable def pairAt (h : Heap) (v : Value) : Int × Int := if q : ∃ p : Int × Int, Srt.IsPair h v p.1 p.2 then q.choose else (0, 0)
theorem pairAt_eq {h : Heap} {v : Value} {i j : Int} (a : Srt.IsPair h v i j) : pairAt h v = (i, j) := by
  unfold pairAt
  have q : ∃ p : Int × Int, Srt.IsPair h v p.1 p.2 := ⟨(i, j), a⟩
  rw [dif_pos q]
  obtain ⟨e1, e2⟩ := isPair_inj q.choose_spec a
  exact Prod.ext e1 e2
section
variable {X : Cx}
theorem pair_of {pins : List (Addr × Obj)} {σ : L2.St} {H Hf : Hp} {s : Shared} (I : Inv X pins σ H s) (sb : Sub Hf H) {x : V} {p : Int × Int} (r : Rp X.K Hf x (E2 p)) : ∃ t, x = .ref t ∧ Srt.IsPair s.heap (.ref t) p.1 p.2 := by
  cases r with
  | @tup t xs _ hs hz ra =>
    obtain ⟨v, w, rfl, rv, rw'⟩ := two_args ra
    cases rv; cases rw'
    obtain ⟨its, rr, pp, _⟩ := I.tuple (sb.tup hs)
    obtain ⟨o, ho, hc, n, hd⟩ := (show s.heap.IsTuple t its.toArray from pp)
    obtain ⟨u1, u2, rfl, ri, rj⟩ := vals2 rr
    obtain ⟨t1, rfl⟩ := ri
    obtain ⟨t2, rfl⟩ := rj
    exact ⟨t, rfl, t, o, t1, t2, n, rfl, ho, hc, hd⟩
theorem pairs_of {pins : List (Addr × Obj)} {σ : L2.St} {H Hf : Hp} {s : Shared} (I : Inv X pins σ H s) (sb : Sub Hf H) : ∀ {xs : List V} {ps : List (Int × Int)} {its : List Value}, RpAll X.K Hf xs (ps.map E2) → Vals xs its →
    its.map (pairAt s.heap) = ps ∧ ∀ v ∈ its, Srt.IsPair s.heap v (pairAt s.heap v).1 (pairAt s.heap v).2 ∧ ∃ t, v = .ref t ∧ Rp X.K Hf (.ref t) (E2 (pairAt s.heap v))
  | _, [], _, h, r => by cases h; cases r; exact ⟨rfl, by simp⟩
  | _, p :: ps, _, h, r => by
    cases h with
    | cons h1 h2 =>
      cases r with
      | cons r1 r2 =>
        obtain ⟨a, b⟩ := pairs_of I sb h2 r2
        obtain ⟨t, rfl, hp⟩ := pair_of I sb h1
        cases r1
        have e := pairAt_eq hp
        refine ⟨by rw [List.map_cons, a, e], fun v hv => ?_⟩
        rcases List.mem_cons.mp hv with rfl | hv
        · rw [e]; exact ⟨hp, t, rfl, h1⟩
        · exact b v hv
theorem rp_back {K : KF} {Hf : Hp} {f : Value → Int × Int} : ∀ {out : List Value}, (∀ v ∈ out, ∃ t, v = .ref t ∧ Rp K Hf (.ref t) (E2 (f v))) → ∃ ys, Vals ys out ∧ RpAll K Hf ys ((out.map f).map E2)
  | [], _ => ⟨[], .nil, .nil⟩
  | v :: out, h => by
    obtain ⟨ys, a, b⟩ := rp_back (f := f) (out := out) fun u hu => h u (by simp [hu])
    obtain ⟨t, rfl, r⟩ := h v (by simp)
    exact ⟨.ref t :: ys, .cons rfl a, .cons r b⟩
theorem call_sortP : CallR X (.builtin "sorted") (fun vs H Q => ∃ (a : Addr) (xs : List V) (ps : List (Int × Int)) (Hf : Hp), vs = [V.ref a] ∧ SqA X.K H a xs ∧ Sub Hf H ∧ RpAll X.K Hf xs (ps.map E2) ∧
    ∀ p ys, H p = none → RpAll X.K Hf ys ((sortP ps).map E2) → Q (.ref p) (upd H p (.lst ys))) := by
  intro pins s σ H vs us Q I r h
  obtain ⟨a, xs, ps, Hf, rfl, hs, sb, ra, q⟩ := h
  obtain ⟨its, T, o, n, rv, hT, ho, hc, hd, hz⟩ := sqA_at I hs
  obtain ⟨u, rfl, ru⟩ := vals1 r
  cases ru
  obtain ⟨em, hp⟩ := pairs_of I sb ra rv
  refine sorted_seq (SrtO.swo_lex (pairAt s.heap)) hT ho hc hd hz (fun h2 h₁ a' ha' hk' => ?_) fun out h' h2 ep k1 k2 hk2 hno hk he => ?_
  · refine SrtO.pairs_sortableO (by omega) (fun v hv => (hp v hv).1.keeps fun b ob q _ => (hk' b ob q).2) fun ob q => ?_
    rw [show ({ s with heap := h₁ } : Shared).heap = h₁ from rfl] at q
    rw [ha'] at q
    cases q
    show Value.type "list" ≠ Value.type "tuple"
    decide
  · have hpm : ∀ v ∈ out, ∃ t, v = .ref t ∧ Rp X.K Hf (.ref t) (E2 (pairAt s.heap v)) := fun v hv => (hp v (k2.perm.mem_iff.mp hv)).2
    obtain ⟨ys, y1, y2⟩ := rp_back hpm
    have e : out.map (pairAt s.heap) = sortP ps := by
      refine sortP_unique ?_ ?_
      · have := k2.perm.map (pairAt s.heap)
        rw [em] at this; exact this
      · rw [List.pairwise_map]
        exact k1.imp fun h => lexP_no.mp h
    rw [e] at y2
    have hn : H h2.objs.size = none := (I.hok.kept hk2).fresh (Nat.le_refl _)
    have hl : ys.length ≤ sizeLine := by rw [y1.length, k2.perm.length_eq]; exact hz
    exact ⟨.ref _, _, I.laidN (t' := s.toks) (o := .lst ys) hk hno hn ⟨hl, out, ep, y1, he⟩, rfl, q _ ys hn y2⟩
end
section
variable {X : Cx} {S : Type} {ι : Io S} {Δ : Dl} {s : S} {R : Type} {pos p : Pos} {a : Expr}
variable {Mi : (List Int → S → Option R) → Option R} {Mp : (List (Int × Int) → S → Option R) → Option R}
theorem ex_sortT (hm : X.mg "sorted" = none) (ha : EX X ι Δ s a Mi (Ty.tup Ty.int)) (hgl : Gl X "sorted" := by rfl) (he : starEach [a] X.env = (false, eval a X.env) :: starEach [] X.env := by rfl) :
    EX X ι Δ s (.Call (.Name "sorted" p) [a] [] pos) (fun k => Mi fun y s1 => k (sortI y) s1) (Ty.lst Ty.int) := by
  refine ex_callB1T (g := sortI) call_sortI hm Bo.sorted (fun y v H Hf Q sb rv q => ?_) ha hgl (by decide) (by decide) he rfl
  cases rv with
  | @tup ad vs _ hs hz ra =>
    have ev := ra.ints
    subst ev
    refine ⟨ad, y, rfl, .inr (sb.tup hs), fun l nl => ?_⟩
    have ex := Ext.new (o := .lst ((sortI y).map V.int)) nl sb
    refine q _ _ _ ex (Sub.new sb) (.lst (.inl upd_same) ?_ (.ofInts _))
    rw [List.length_map] at hz ⊢
    rw [(sortI_perm y).length_eq]
    exact hz
theorem sortP_rp {K : KF} {Hf : Hp} {l : Addr} {ys : List V} {ps : List (Int × Int)} (hl : Hf l = none) (hz : ps.length ≤ Line) (r : RpAll K Hf ys ((sortP ps).map E2)) : Rp K (upd Hf l (.lst ys)) (.ref l) (Ty.lst E2 (sortP ps)) := by
  have gr : Sub Hf (upd Hf l (.lst ys)) := fun b u h => .self (by rw [upd_ne (ne_of_none h hl)]; exact h)
  refine .lst (.inl upd_same) ?_ (r.up gr)
  rw [r.len, List.length_map, (sortP_perm ps).length_eq]; exact hz
theorem ex_sortPL (hm : X.mg "sorted" = none) (ha : EX X ι Δ s a Mp (Ty.lst E2)) (hgl : Gl X "sorted" := by rfl) (he : starEach [a] X.env = (false, eval a X.env) :: starEach [] X.env := by rfl) :
    EX X ι Δ s (.Call (.Name "sorted" p) [a] [] pos) (fun k => Mp fun y s1 => k (sortP y) s1) (Ty.lst E2) := by
  refine ex_callB1T (g := sortP) call_sortP hm Bo.sorted (fun y v H Hf Q sb rv q => ?_) ha hgl (by decide) (by decide) he rfl
  cases rv with
  | @lst ad vs _ hs hz ra =>
    have hl := ra.len
    rw [List.length_map] at hl
    exact ⟨ad, vs, y, Hf, rfl, .inl (.inl (sb.rd hs)), sb, ra, fun l ys nl r => q _ _ _ (Ext.new (o := .lst ys) nl sb) (Sub.new sb) (sortP_rp (sb.non nl) (by rw [← hl]; exact hz) r)⟩
theorem ex_sortPT (hm : X.mg "sorted" = none) (ha : EX X ι Δ s a Mp (Ty.tup E2)) (hgl : Gl X "sorted" := by rfl) (he : starEach [a] X.env = (false, eval a X.env) :: starEach [] X.env := by rfl) :
    EX X ι Δ s (.Call (.Name "sorted" p) [a] [] pos) (fun k => Mp fun y s1 => k (sortP y) s1) (Ty.lst E2) := by
  refine ex_callB1T (g := sortP) call_sortP hm Bo.sorted (fun y v H Hf Q sb rv q => ?_) ha hgl (by decide) (by decide) he rfl
  cases rv with
  | @tup ad vs _ hs hz ra =>
    have hl := ra.len
    rw [List.length_map] at hl
    exact ⟨ad, vs, y, Hf, rfl, .inr (sb.tup hs), sb, ra, fun l ys nl r => q _ _ _ (Ext.new (o := .lst ys) nl sb) (Sub.new sb) (sortP_rp (sb.non nl) (by rw [← hl]; exact hz) r)⟩
/-! any, all of a list of bools; max of a list of ints -/
theorem RpAll.bools {K : KF} {H : Hp} : ∀ {bs : List Bool} {vs : List V}, RpAll K H vs (bs.map PyData.bool) → vs = bs.map V.bl
  | [], _, h => by cases h; rfl
  | b :: bs, _, h => by
    cases h with | cons r t =>
    cases r
    rw [RpAll.bools t]
    rfl
variable {Mb : (List Bool → S → Option R) → Option R}
theorem ex_allL (hc : X.calm = true) (hm : X.mg "all" = none) (ha : EX X ι Δ s a Mb (Ty.lst Ty.bool)) (hgl : Gl X "all" := by rfl) (he : starEach [a] X.env = (false, eval a X.env) :: starEach [] X.env := by rfl) :
    EX X ι Δ s (.Call (.Name "all" p) [a] [] pos) (fun k => Mb fun y s1 => k (y.all id) s1) Ty.bool := by
  refine ex_callB1T (g := fun y : List Bool => y.all id) (cr_all hc) hm Bo.all (fun y v H Hf Q sb rv q => ?_) ha hgl (by decide) (by decide) he rfl
  cases rv with
  | @lst ad vs _ hs hz ra =>
    have ev := RpAll.bools ra
    subst ev
    exact ⟨ad, y, rfl, .inl (sb.rd hs), q _ H Hf (Ext.refl _ _) sb (.bl _)⟩
theorem ex_anyL (hc : X.calm = true) (hm : X.mg "any" = none) (ha : EX X ι Δ s a Mb (Ty.lst Ty.bool)) (hgl : Gl X "any" := by rfl) (he : starEach [a] X.env = (false, eval a X.env) :: starEach [] X.env := by rfl) :
    EX X ι Δ s (.Call (.Name "any" p) [a] [] pos) (fun k => Mb fun y s1 => k (y.any id) s1) Ty.bool := by
  refine ex_callB1T (g := fun y : List Bool => y.any id) (cr_any hc) hm Bo.any (fun y v H Hf Q sb rv q => ?_) ha hgl (by decide) (by decide) he rfl
  cases rv with
  | @lst ad vs _ hs hz ra =>
    have ev := RpAll.bools ra
    subst ev
    exact ⟨ad, y, rfl, .inl (sb.rd hs), q _ H Hf (Ext.refl _ _) sb (.bl _)⟩
end
end Ab
namespace Ab
open PySem PySem.Spec PyProof.Rows L2
/-! ### sorted(set(..)) of ints -/
def uniqI : List Int → List Int
  | [] => []
  | x :: xs => if x ∈ uniqI xs then uniqI xs else x :: uniqI xs
theorem mem_uniqI {x : Int} : ∀ {l : List Int}, x ∈ uniqI l ↔ x ∈ l
  | [] => Iff.rfl
  | y :: l => by
    unfold uniqI
    have ih := mem_uniqI (x := x) (l := l)
    split
    · rename_i h
      rw [ih, List.mem_cons]
      refine ⟨.inr, fun z => z.elim (fun e => ?_) id⟩
      subst e; exact ih.mp h
    · rw [List.mem_cons, List.mem_cons, ih]
theorem nodup_uniqI : ∀ l : List Int, (uniqI l).Nodup
  | [] => List.Pairwise.nil
  | y :: l => by
    unfold uniqI
    split
    · exact nodup_uniqI l
    · exact List.nodup_cons.mpr ⟨by assumption, nodup_uniqI l⟩
theorem uniqI_len : ∀ l : List Int, (uniqI l).length ≤ l.length
  | [] => Nat.le_refl _
  | y :: l => by
    unfold uniqI
    have := uniqI_len l
    split <;> simp <;> omega
def sortU (l : List Int) : List Int := sortI (uniqI l)
theorem sortU_SL (l : List Int) : SL (sortU l) := sortI_SL (nodup_uniqI l)
theorem mem_sortU {l : List Int} {x : Int} : x ∈ sortU l ↔ x ∈ l := by unfold sortU; rw [mem_sortI, mem_uniqI]
theorem sortU_len (l : List Int) : (sortU l).length ≤ l.length := by unfold sortU; rw [(sortI_perm _).length_eq]; exact uniqI_len l
theorem sortU_id {l : List Int} (h : SL l) : sortU l = l := SL.ext (sortU_SL l) h fun x => mem_sortU
section
variable {X : Cx}
theorem call_setT (hc : X.calm = true) : CallR X (.type "set") (fun xs H Q => ∃ (l : Addr) (ns : List Int), xs = [.ref l] ∧ SqT X.K H l (ns.map V.int) ∧ ns.length ≤ 1000 ∧ ∀ p c, H p = none → c ≤ ns.length → Q (.ref p) (upd H p (SetO X.w p (fun j => decide (j ∈ ns)) c))) := by
  intro pins s σ H vs us Q I r h
  obtain ⟨l, ns, rfl, hq, hl, q⟩ := h
  obtain ⟨u, rfl, ru⟩ := vals1 r
  cases ru
  obtain ⟨its, rv, pt, hz⟩ := I.tuple hq
  refine call_set_tupI ns (I.ok.hd hc) (show s.heap.IsTuple l its.toArray from pt) (ints_of_vals rv) (by unfold scanBound; omega) fun h' tk c R1 hcn k => ?_
  exact ⟨.ref _, _, I.laid (t' := tk) (o := SetO X.w s.heap.objs.size (fun j => decide (j ∈ ns)) c) k (Nat.le_refl _) (setO_new R1), rfl, q _ c (I.hok.fresh (Nat.le_refl _)) hcn⟩
variable {S : Type} {ι : Io S} {Δ : Dl} {s : S} {R : Type} {pos pos2 p p2 : Pos} {a : Expr} {Mi : (List Int → S → Option R) → Option R}
theorem boot_set2 : bootBuiltins "set" = some (.type "set") := by decide +kernel
theorem ex_sortSetT (hc : X.calm = true) (hm : X.mg "sorted" = none) (hm2 : X.mg "set" = none) (ha : EX X ι Δ s a Mi (Ty.tup Ty.int)) (hgl : Gl X "sorted" := by rfl) (hgl2 : Gl X "set" := by rfl) (he : starEach [a] X.env = (false, eval a X.env) :: starEach [] X.env := by rfl)
    (he2 : starEach [.Call (.Name "set" p2) [a] [] pos2] X.env = (false, eval (.Call (.Name "set" p2) [a] [] pos2) X.env) :: starEach [] X.env := by rfl) :
    EX X ι Δ s (.Call (.Name "sorted" p) [.Call (.Name "set" p2) [a] [] pos2] [] pos) (fun k => Mi fun y s1 => guardM (y.length < 64) (k (sortU y) s1)) (Ty.lst Ty.int) := by
  intro k r hk σ H Hf A Q st q
  refine tE_of (pe_callB (cr_sortedSet hc) hgl hm Bo.sorted (pa_cons (pe_callTy (call_setT hc) hgl2 hm2 boot_set2 (pa_cons (pE X a) pa_nil he) (by decide) (by decide) he rfl) pa_nil he2) (by decide) (by decide) he2 rfl) ?_
  refine ha _ r hk σ H Hf A _ st fun y s1 hx v H1 Hf1 st1 e1 r1 => ?_
  obtain ⟨c, hx⟩ := guardM_some hx
  cases r1 with
  | @tup ad vs _ hs hz ra =>
    have ev := ra.ints
    subst ev
    refine ⟨ad, y, rfl, st1.sub.tup hs, by omega, fun p1 n np hn => ?_⟩
    refine ⟨p1, _, n, rfl, upd_same, by omega, fun ns l so me le nl => ?_⟩
    have e : ns = sortU y := SL.ext so (sortU_SL y) fun x => by rw [me, mem_sortU, decide_eq_true_eq]
    subst e
    have ex0 := Ext.newO (o := SetO X.w p1 (fun j => decide (j ∈ y)) n) (Hf := Hf1) np
    have sb0 := Sub.newO (o := SetO X.w p1 (fun j => decide (j ∈ y)) n) np st1.sub
    have ex := Ext.new (o := .lst ((sortU y).map V.int)) nl sb0
    refine q _ s1 hx _ _ _ ((st1.up ex0 sb0).up ex (Sub.new sb0)) ((e1.trans ex0.toA).trans ex.toA) (.lst (.inl upd_same) ?_ (.ofInts _))
    have := sortU_len y
    rw [List.length_map]
    show _ ≤ 16777216
    omega
end
/-! ### sorted(set(..)) of small pairs -/
def uniqP : List (Int × Int) → List (Int × Int)
  | [] => []
  | x :: xs => if x ∈ uniqP xs then uniqP xs else x :: uniqP xs
theorem mem_uniqP {x : Int × Int} : ∀ {l : List (Int × Int)}, x ∈ uniqP l ↔ x ∈ l
  | [] => Iff.rfl
  | y :: l => by
    unfold uniqP
    have ih := mem_uniqP (x := x) (l := l)
    split
    · rename_i h
      rw [ih, List.mem_cons]
      refine ⟨.inr, fun z => z.elim (fun e => ?_) id⟩
      subst e; exact ih.mp h
    · rw [List.mem_cons, List.mem_cons, ih]
theorem nodup_uniqP : ∀ l : List (Int × Int), (uniqP l).Nodup
  | [] => List.Pairwise.nil
  | y :: l => by
    unfold uniqP
    split
    · exact nodup_uniqP l
    · exact List.nodup_cons.mpr ⟨by assumption, nodup_uniqP l⟩
def sortPU (l : List (Int × Int)) : List (Int × Int) := sortP (uniqP l)
theorem mem_sortPU {l : List (Int × Int)} {x : Int × Int} : x ∈ sortPU l ↔ x ∈ l := by unfold sortPU; rw [(sortP_perm _).mem_iff, mem_uniqP]
theorem sortPU_nodup (l : List (Int × Int)) : (sortPU l).Nodup := (sortP_perm _).nodup_iff.mpr (nodup_uniqP l)
def smallP (l : List (Int × Int)) : Bool := l.all fun p => decide (0 ≤ p.1) && decide (p.1 < 64) && decide (0 ≤ p.2) && decide (p.2 < 64)
theorem pairs_ks {K : KF} {Hf : Hp} : ∀ {vs : List V} {ps : List (Int × Int)}, RpAll K Hf vs (ps.map E2) → ∃ ks : List (Addr × List Int), vs = ks.map (fun q => V.ref q.1) ∧ ks.map (fun q => q.2) = ps.map (fun p => [p.1, p.2]) ∧ (∀ q ∈ ks, SqT K Hf q.1 (q.2.map V.int)) ∧ ks.length = ps.length
  | _, [], h => by cases h; exact ⟨[], rfl, rfl, by simp, rfl⟩
  | _, p :: ps, h => by
    cases h with
    | cons h1 h2 =>
      obtain ⟨ks, a, b, c, d⟩ := pairs_ks h2
      cases h1 with
      | @tup t xs _ hs hz ra =>
        obtain ⟨v, w, rfl, rv, rw'⟩ := two_args ra
        cases rv; cases rw'
        refine ⟨(t, [p.1, p.2]) :: ks, by rw [a]; rfl, by rw [List.map_cons, b]; rfl, fun q hq => ?_, by simp [d]⟩
        rcases List.mem_cons.mp hq with rfl | hq
        · exact hs
        · exact c q hq
/-- the pair of a row of two -/
def prOf : List Int → Int × Int
  | [x, y] => (x, y)
  | _ => (0, 0)
theorem rows_rp {K : KF} {Hf : Hp} : ∀ {L : List (Addr × List Int)}, (∀ q ∈ L, SqT K Hf q.1 (q.2.map V.int) ∧ ∃ p : Int × Int, q.2 = [p.1, p.2]) → RpAll K Hf (L.map fun q => V.ref q.1) ((L.map fun q => prOf q.2).map E2)
  | [], _ => .nil
  | q :: L, h => by
    obtain ⟨h1, p, hp⟩ := h q (by simp)
    refine .cons ?_ (rows_rp fun r hr => h r (by simp [hr]))
    show Rp K Hf (.ref q.1) (E2 (prOf q.2))
    rw [hp] at h1 ⊢
    exact .tup h1 (by show 2 ≤ 16777216; decide) (.cons (.int _) (.one (.int _)))
section
variable {X : Cx} {S : Type} {ι : Io S} {Δ : Dl} {s : S} {R : Type} {pos pos2 p p2 : Pos} {a : Expr} {k : Nat} {Mp : (List (Int × Int) → S → Option R) → Option R}
theorem ex_sortSetP (hc : X.calm = true) (hr : Room k X.A) (hm : X.mg "sorted" = none) (hm2 : X.mg "set" = none) (ha : EX X ι Δ s a Mp (Ty.lst E2)) (hgl : Gl X "sorted" := by rfl) (hgl2 : Gl X "set" := by rfl) (he : starEach [a] X.env = (false, eval a X.env) :: starEach [] X.env := by rfl)
    (he2 : starEach [.Call (.Name "set" p2) [a] [] pos2] X.env = (false, eval (.Call (.Name "set" p2) [a] [] pos2) X.env) :: starEach [] X.env := by rfl) :
    EX X ι Δ s (.Call (.Name "sorted" p) [.Call (.Name "set" p2) [a] [] pos2] [] pos) (fun k => Mp fun y s1 => guardM (y.length < 64 ∧ smallP y = true) (k (sortPU y) s1)) (Ty.lst E2) := by
  intro kk r hk σ H Hf A Q st q
  refine tE_of (pe_callB (cr_sortedT hc) hgl hm Bo.sorted (pa_cons (pe_callTy (cr_setOfT hc hr.units) hgl2 hm2 boot_set2 (pa_cons (pE X a) pa_nil he) (by decide) (by decide) he rfl) pa_nil he2) (by decide) (by decide) he2 rfl) ?_
  refine ha _ r hk σ H Hf A _ st fun y s1 hx v H1 Hf1 st1 e1 r1 => ?_
  obtain ⟨⟨c, sm⟩, hx⟩ := guardM_some hx
  cases r1 with
  | @lst ad vs _ hs hz ra =>
    obtain ⟨ks, rfl, k2, k3, k4⟩ := pairs_ks ra
    refine ⟨ad, ks, rfl, .inl (st1.sub.rd hs), fun q hq => st1.sub.tup (k3 q hq), by omega, fun p1 L np l1 l2 => ?_⟩
    have kp : ∀ q ∈ ks, ∃ w : Int × Int, w ∈ y ∧ q.2 = [w.1, w.2] := fun q hq => by
      have : q.2 ∈ ks.map fun q => q.2 := List.mem_map.mpr ⟨q, hq, rfl⟩
      rw [k2, List.mem_map] at this
      obtain ⟨w, h1, h2⟩ := this
      exact ⟨w, h1, h2.symm⟩
    have ex0 := Ext.newO (o := SetTO X.prog X.w p1 L) (Hf := Hf1) np
    have sb0 := Sub.newO (o := SetTO X.prog X.w p1 L) np st1.sub
    refine ⟨p1, L, 2, 64, rfl, upd_same, fun q hq => sb0.tup (k3 q (l1 q hq)), by decide, fun q hq => ?_, fun L' l pm nd few so nl => ?_⟩
    · obtain ⟨w, h1, h2⟩ := kp q (l1 q hq)
      have := List.all_eq_true.mp sm w h1
      simp only [Bool.and_eq_true, decide_eq_true_eq] at this
      refine ⟨by rw [h2]; rfl, ?_⟩
      rw [h2]
      intro x hx
      have hx' : x = w.1 ∨ x = w.2 := by simpa using hx
      rcases hx' with rfl | rfl <;> omega
    · have lp : ∀ q ∈ L', ∃ w : Int × Int, w ∈ y ∧ q.2 = [w.1, w.2] := fun q hq => kp q (l1 q (pm.mem_iff.mp hq))
      have e : (L'.map fun q => prOf q.2) = sortPU y := by
        refine sortP_unique ?_ ?_
        · refine (List.perm_ext_iff_of_nodup ?_ (nodup_uniqP y)).mpr fun w => ?_
          · unfold List.Nodup at nd ⊢
            rw [List.pairwise_map] at nd ⊢
            refine List.Pairwise.imp_of_mem (fun {u v} hu hv h e => h ?_) nd
            obtain ⟨w1, _, h1⟩ := lp u hu
            obtain ⟨w2, _, h2⟩ := lp v hv
            rw [h1, h2] at e ⊢
            have e' := Prod.mk.inj (show (w1.1, w1.2) = (w2.1, w2.2) from e)
            rw [e'.1, e'.2]
          · rw [mem_uniqP, List.mem_map]
            constructor
            · rintro ⟨q, hq, rfl⟩
              obtain ⟨w1, h0, h1⟩ := lp q hq
              rw [h1]; exact h0
            · intro hw
              have hw2 : [w.1, w.2] ∈ ks.map fun q => q.2 := by rw [k2]; exact List.mem_map.mpr ⟨w, hw, rfl⟩
              rw [List.mem_map] at hw2
              obtain ⟨q, hq, e⟩ := hw2
              have := l2 q hq
              rw [List.mem_map] at this
              obtain ⟨q', hq', e'⟩ := this
              refine ⟨q', pm.mem_iff.mpr hq', ?_⟩
              rw [e', e]; rfl
        · rw [List.pairwise_map]
          refine List.Pairwise.imp_of_mem (fun {u v} hu hv h => ?_) so
          obtain ⟨w1, m1, h1⟩ := lp u hu
          obtain ⟨w2, m2, h2⟩ := lp v hv
          rw [h1, h2] at h ⊢
          rw [code_pair, code_pair] at h
          have b1 := List.all_eq_true.mp sm w1 m1
          have b2 := List.all_eq_true.mp sm w2 m2
          simp only [Bool.and_eq_true, decide_eq_true_eq] at b1 b2
          show LeP (w1.1, w1.2) (w2.1, w2.2)
          unfold LeP
          simp only
          omega
      have rr := rows_rp (K := X.K) (Hf := Hf1) (L := L') fun q hq => ⟨k3 q (l1 q (pm.mem_iff.mp hq)), by obtain ⟨w, _, h⟩ := lp q hq; exact ⟨w, h⟩⟩
      rw [e] at rr
      have ex := Ext.new (o := .lst (L'.map fun q => V.ref q.1)) nl sb0
      refine q _ s1 hx _ _ _ ((st1.up ex0 sb0).up ex (Sub.new sb0)) ((e1.trans ex0.toA).trans ex.toA) (.lst (.inl upd_same) ?_ (rr.up ex.grow))
      rw [List.length_map]
      show _ ≤ 16777216
      omega
end
end Ab
namespace Ab
open PySem PySem.Spec PyProof.Rows L2
/-! ### the first place of an int -/
def idxI : List Int → Int → Option Nat
  | [], _ => none
  | y :: l, x => if y = x then some 0 else (idxI l x).map (· + 1)
theorem idxI_get : ∀ {l : List Int} {x : Int} {j : Nat}, idxI l x = some j → l[j]? = some x ∧ ∀ m, m < j → l[m]? ≠ some x
  | [], x, j, h => by cases h
  | y :: l, x, j, h => by
    unfold idxI at h
    split at h
    · cases h; rename_i e; subst e; exact ⟨rfl, fun m hm => absurd hm (Nat.not_lt_zero _)⟩
    · rename_i e
      cases e2 : idxI l x with
      | none => rw [e2] at h; cases h
      | some i =>
        rw [e2] at h
        obtain rfl : i + 1 = j := Option.some.inj h
        obtain ⟨h1, h2⟩ := idxI_get e2
        refine ⟨h1, fun m hm => ?_⟩
        cases m with
        | zero => simpa using e
        | succ m => exact h2 m (by omega)
section
variable {X : Cx}
theorem mt_tupIx : MtR X "tuple.index" (fun x xs H Q => ∃ (a : Addr) (ns : List Int) (n : Int) (j : Nat), x = .ref a ∧ xs = [.int n] ∧ SqT X.K H a (ns.map V.int) ∧ ns[j]? = some n ∧ (∀ m, m < j → ns[m]? ≠ some n) ∧ Q (.int (j : Nat)) H) := by
  intro pins s σ H x xs v us Q I rx rs h
  obtain ⟨a, ns, n, j, rfl, rfl, hs, hj0, hno, q⟩ := h
  cases rx
  obtain ⟨uy, rfl, ry⟩ := vals1 rs
  obtain ⟨its, rv, ⟨⟨cls, dd, data, sl⟩, ho, hc, c, hd⟩, hz⟩ := I.tuple hs
  simp only at hc hd
  subst hc hd
  have fl : (ns.map V.int).all flatV = true := by rw [List.all_map]; exact List.all_eq_true.mpr fun _ _ => rfl
  have hvl := rv.length
  rw [List.length_map] at hvl
  have hj : j < its.toArray.size := by
    have := (List.getElem?_eq_some_iff.mp hj0).1
    rw [List.size_toArray]; omega
  have val : ∀ (m : Nat) (hm : m < its.toArray.size), ∃ k, ns[m]? = some k ∧ eqU (.int n) its.toArray[m] = eqV (.int k) (.int n) := fun m hm => by
    have hml : m < ns.length := by rw [List.size_toArray] at hm; omega
    obtain ⟨u2, hu2, ru2⟩ := rv.get (i := m) (x := .int ns[m]) (by simp [hml])
    have e1 : its.toArray[m] = u2 := by
      have := (List.getElem?_eq_some_iff.mp hu2).2
      simpa using this
    exact ⟨ns[m], List.getElem?_eq_getElem hml, by rw [e1, eqU_of ru2 rfl]⟩
  refine call_meets PySem.F.slot_tuple_index ⟨_, ho, rfl⟩ PySem.F.entry_tuple_index (PySem.F.args_tuple_index_2 _ _) (TI.tuple_indexAt a its.toArray c dd sl uy (eqU (.int n)) j hj ?_ ?_)
    ⟨ho, fun u' hu' => mem_eqAt ry rfl rv fl u' (by simpa using hu'), ⟨.int (j : Nat), H, I.tok _, ⟨_, rfl⟩, q⟩⟩
  · obtain ⟨k, h1, h2⟩ := val j hj
    rw [h2]
    rw [hj0] at h1
    cases h1
    show (n == n) = true
    simp
  · intro m hm hmj
    obtain ⟨k, h1, h2⟩ := val m hm
    rw [h2]
    have ne : k ≠ n := fun e => hno m hmj (by rw [h1, e])
    show (k == n) = false
    simpa using ne
end
end Ab
namespace Ab
open PySem PySem.Spec PyProof.Rows L2
/-! ### tuples of which it is known that they have no dict -/
theorem call_tupN {X : Cx} : CallR X (.type "tuple") (fun xs H Q => ∃ p ys, xs = [V.ref p] ∧ SqL X.K H p ys ∧ ∀ l o, H l = none → o.dict = none → Q (.ref l) (upd H l (.frz o (.tup ys)))) := by
  intro pins s σ H xs us Q I r h
  obtain ⟨p, ys, rfl, hq, q⟩ := h
  obtain ⟨u, rfl, rx⟩ := vals1 r
  cases rx
  obtain ⟨its, rv, pl, hz⟩ := I.list hq
  have hlen := rv.length
  refine call_tuple_list pl.isList (fun h' kp => ?_) (by simp only [List.size_toArray] <;> omega)
  have I1 : Inv X pins σ H { s with heap := h' } := I.kept (t' := s.toks) kp
  have new : ObjOk X.prog X.w (upd H h'.objs.size (.frz { cls := .type "tuple", data := .seq its.toArray } (.tup ys))) (h'.push { cls := .type "tuple", data := .seq its.toArray }) h'.objs.size (.frz { cls := .type "tuple", data := .seq its.toArray } (.tup ys)) :=
    ⟨Heap.get?_push_size _ rfl, ⟨hz, its, rv, IsTup.new _ _⟩⟩
  exact ⟨.ref _, _, I1.laid (t' := s.toks) (fun b o e => Heap.get?_push_of_some _ e) (Nat.le_refl _) new, rfl, q _ _ (I1.hok.fresh (Nat.le_refl _)) rfl⟩
section
variable {X : Cx} {S : Type} {ι : Io S} {Δ : Dl} {s : S} {R : Type} {out : R → Out S} {rest : List Stmt} {pos pos' p apos : Pos} {a b e : Expr} {k : Nat}
variable {α β : Type} {E : α → D} {F : β → D} {M : (List α → S → Option R) → Option R}
abbrev nv (i : Nat) (E : α → D) (l : List α) : Nat × Option Tr := (i, some (.immN (l.map E)))
/-- an expression whose value is such a tuple -/
def EN (X : Cx) {S : Type} (ι : Io S) (Δ : Dl) (s : S) (e : Expr) {α R : Type} (M : (List α → S → Option R) → Option R) (E : α → D) : Prop :=
  ∀ k r, M k = some r → ∀ (σ : L2.St) (H Hf : Hp) (A : Nat → List Addr) (Q : VK), Sat X.K σ H Hf (ι.tr s ++ Δ) A →
    (∀ x s', k x s' = some r → ∀ v H' Hf', Sat X.K σ H' Hf' (ι.tr s' ++ Δ) A → ExtA ι.ix A H Hf H' Hf' → Holds X.K Hf' H' v (.immN (x.map E)) [] → Q v H') → tE X e σ H Q
theorem immN_rp {K : KF} {Hf H : Hp} {v : V} {l : List α} {as : List Addr} (h : Holds K Hf H v (.immN (l.map E)) as) : as = [] ∧ Rp K Hf v (Ty.tup E l) := by
  obtain ⟨e, ad, xs, o, rfl, h1, _, hz, ra⟩ := h
  exact ⟨e, .tup (.inl (.inr ⟨o, h1⟩)) hz ra⟩
theorem EN.ex (h : EN X ι Δ s e M E) : EX X ι Δ s e M (Ty.tup E) := fun k r hk σ H Hf A Q st q => h k r hk σ H Hf A Q st fun x s1 hx v H1 Hf1 st1 e1 r1 => q x s1 hx v H1 Hf1 st1 e1 (immN_rp r1).2
theorem en_var (i : Nat) {x : Str} {l : List α} (hl : lk (ι.tr s ++ Δ) i = some (.immN (l.map E))) (hN : X.N[i]? = some x := by rfl)
    (hv : Vis X.env.scope x := by first | exact Or.inl rfl | exact Or.inr (Or.inl rfl) | exact Or.inr (Or.inr rfl)) (hd : (x == ("__debug__" : Str)) = false := by decide) (hcd : (x == ("__classdict__" : Str)) = false := by decide) : EN X ι Δ s (.Name x pos) (R := R) (fun k => k l s) E := by
  intro k r hk σ H Hf A Q st h
  obtain ⟨v, h1, h2⟩ := st.slotC i _ hl
  have e := (immN_rp h2).1
  rw [e] at h2
  exact tE_of (pe_var hN hv hd hcd) ⟨v, h1, h l s hk v H Hf st (ExtA.refl _ _ _ _) h2⟩
theorem en_tupleL (hm : X.mg "tuple" = none) (ha : EX X ι Δ s a M (Ty.lst E)) (hgl : Gl X "tuple" := by rfl) (he : starEach [a] X.env = (false, eval a X.env) :: starEach [] X.env := by rfl) : EN X ι Δ s (.Call (.Name "tuple" p) [a] [] pos) M E := by
  intro k r hk σ H Hf A Q st q
  refine tE_of (pe_callTy call_tupN hgl hm Bo.tuple (pa_cons (pE X a) pa_nil he) (by decide) (by decide) he rfl) (ha _ r hk σ H Hf A _ st fun x s1 hx v H1 Hf1 st1 e1 r1 => ?_)
  cases r1 with
  | @lst ad vs _ hs hz ra =>
    refine ⟨ad, vs, rfl, .inl (st1.sub.rd hs), fun l o nl hd => ?_⟩
    have ex := Ext.new (o := .frz o (.tup vs)) nl st1.sub
    exact q x s1 hx _ _ _ (st1.up ex (Sub.new st1.sub)) (e1.trans ex.toA) ⟨rfl, l, vs, o, rfl, upd_same, hd, hz, ra.up ex.grow⟩
/-- x = such a tuple -/
theorem bx_setN (i : Nat) {x : Str} {kk : List α → S → Option R} (hN : X.N.Nodup) (h : EN X ι Δ s e M E) (q : ∀ a s', BX X ι (nv i E a :: Δ) s' rest (kk a s') out) (hi : X.N[i]? = some x := by rfl) (hx : Loc X.env.scope x := by first | exact Or.inl rfl | exact Or.inr rfl)
    (hs : swapsWith e (some (.Name x pos')) pos.line X.env = pure false := by rfl) (hf : X.fn x = true ∨ X.env.scope.names.lookup x = some .local := by first | exact .inl rfl | exact .inr rfl) (hix : i ∉ ι.ix := by first | decide | exact of_decide_eq_true rfl) :
    BX X ι Δ s (.Assign [.Name x pos'] e pos :: rest) (M fun a s' => letM a fun a => kk a s') out := by
  intro r hr σ H Hf A Dn st p
  refine tS_inv fun pins sh I => tS_cons (ps_set hN hi hx (pE X e) hs hf) (h _ r hr σ H Hf A _ st fun a s' ha v H' Hf' st' e' r' => ?_)
  have hlen : i < σ.length := by rw [I.len]; exact (List.getElem?_eq_some_iff.mp hi).1
  exact q a s' r ha _ H' Hf' _ _ (st'.set (P := ι.tr s') (as := []) hlen (by rw [ι.keys]; exact hix) r' (fun b hb => by simp at hb)) (p.step ((e'.stp ι.ix σ).trans (stp_cut hix)))
/-- t.index(x) of such a tuple -/
theorem pe_tm {o c : Expr} {es : List Expr} {to : TE} {t : TA} {r : V → List V → Hp → VK → Prop} (hm : MtR X "tuple.index" r) (ho : PE X o to) (ha : PA X (c :: es) t)
    (hbase : attributeBase o "index" X.env (eval o X.env) = eval o X.env := by rfl)
    (hfew : ((backTo pos (starEach (c :: es) X.env)).all (fun x => !x.1) && (backToKw pos (keywordEach [] X.env)).all (fun x => x.1.isSome)
      && decide ((c :: es).length + ([] : List Keyword).length + (if ([] : List Keyword).isEmpty then 0 else 1) < 30)) = true := by rfl)
    (hline : (apos.endLine == pos.line) = true := by rfl) (hs : starEach (c :: es) X.env = (false, eval c X.env) :: starEach es X.env := by rfl) (hplain : (backTo pos (starEach es X.env)).any (·.1) = false := by rfl) :
    PE X (.Call (.Attribute o "index" apos) (c :: es) [] pos) (fun σ H Q => to σ H fun x H1 => (∃ ad ob ys, x = .ref ad ∧ H1 ad = some (.frz ob (.tup ys)) ∧ ob.dict = none) ∧ t σ H1 fun xs H2 => r x xs H2 Q) := by
  refine ⟨fun pins s σ H Q I h => wpAny_Call_method_late hbase hfew hline rfl (thn (ho.run pins s σ H _ I h) fun v s1 ⟨x, H1, I1, r1, ⟨ad, ob, ys, ex, hob, hd⟩, q1⟩ => ?_)⟩
  subst ex
  obtain rfl : v = Value.ref ad := r1
  obtain ⟨g1, g2⟩ := I1.hok ad _ hob
  obtain ⟨_, its, _, o2, ho2, hc2, _⟩ := g2
  rw [g1] at ho2
  cases ho2
  refine ⟨"tuple", "tuple.index", PySem.F.plainAttrs_tuple, PySem.F.slot_tuple_index, PySem.F.type_tuple_index, ⟨ob, g1, hc2⟩, fun b e => by cases e; exact ⟨ob, g1, hd⟩, ?_⟩
  have hA := ha.run pos pins s1 σ H1 _ I1 q1
  rw [hs] at hA ⊢
  refine Calls.callWith_builtin (by show (false || (backTo pos (starEach es X.env)).any (·.1)) = false; rw [hplain] <;> rfl) (Calls.evalArgs_plain (thn hA fun us s2 ⟨vs, H2, I2, r2, q2⟩ => ?_))
  exact hm pins s2 σ H2 (.ref ad) vs (.ref ad) us Q I2 rfl r2 q2
theorem ex_tupIx {Ml : (List Int → S → Option R) → Option R} {Mi : S → (Int → S → Option R) → Option R} (ha : EN X ι Δ s a Ml Ty.int) (hb : ∀ s1, EX X ι Δ s1 b (Mi s1) Ty.int) (he : starEach [b] X.env = (false, eval b X.env) :: starEach [] X.env := by rfl)
    (hpb : ∀ {t : TA} {to : TE} {r : V → List V → Hp → VK → Prop}, MtR X "tuple.index" r → PE X a to → PA X [b] t → PE X (.Call (.Attribute a "index" apos) [b] [] pos) (fun σ H Q => to σ H fun x H1 => (∃ ad ob ys, x = .ref ad ∧ H1 ad = some (.frz ob (.tup ys)) ∧ ob.dict = none) ∧ t σ H1 fun xs H2 => r x xs H2 Q) := by
      intro _ _ _ hm ho ha; exact pe_tm hm ho ha) :
    EX X ι Δ s (.Call (.Attribute a "index" apos) [b] [] pos) (fun k => Ml fun l s1 => Mi s1 fun x s2 => (idxI l x).bind fun j => k (j : Int) s2) Ty.int := by
  intro k r hk σ H Hf A Q st q
  refine tE_of (hpb mt_tupIx (pE X a) (pA X [b])) (ha _ r hk σ H Hf A _ st fun l s1 hx v H1 Hf1 st1 e1 r1 => ?_)
  obtain ⟨_, ad, vs, o, rfl, h1, hd, hz, ra⟩ := r1
  have ev := ra.ints
  subst ev
  refine ⟨⟨ad, o, _, rfl, st1.sub _ _ h1, hd⟩, ?_⟩
  refine ax_cons (hb s1) (fun s2 => ax_nil) he (fun pp s' => (idxI l pp.1).bind fun j => k (j : Int) s') r hx σ H1 Hf1 A _ st1 fun y s2 hy ws H2 Hf2 st2 e2 r2 => ?_
  obtain ⟨v2, rfl, rv⟩ := one_arg r2
  obtain ⟨j, hj, hy⟩ := bind_some hy
  obtain ⟨g1, g2⟩ := idxI_get hj
  cases rv
  exact ⟨ad, l, y.1, j, rfl, rfl, .inl (.inr ⟨o, st2.sub _ _ (e2.grow _ _ h1)⟩), g1, g2, q _ s2 hy _ H2 Hf2 st2 (e1.trans e2) (.int _)⟩
end
/-! ### defs that are handed such tuples -/
inductive Ar where
  | i (d : D)
  | n (ds : List D)
def Ar.tr : Ar → Tr
  | .i d => .imm d
  | .n ds => .immN ds
def argA : Nat → List Ar → Dl
  | _, [] => []
  | i, a :: as => (i, some a.tr) :: argA (i + 1) as
inductive HA (K : KF) (Hf : Hp) : List V → List Ar → Prop
  | nil : HA K Hf [] []
  | cons {v : V} {vs : List V} {a : Ar} {as : List Ar} : (∀ H, Holds K Hf H v a.tr []) → HA K Hf vs as → HA K Hf (v :: vs) (a :: as)
theorem HA.len {K : KF} {Hf : Hp} : ∀ {vs : List V} {as : List Ar}, HA K Hf vs as → vs.length = as.length
  | _, _, .nil => rfl
  | _, _, .cons _ t => congrArg (· + 1) t.len
theorem HA.get {K : KF} {Hf : Hp} : ∀ {vs : List V} {as : List Ar} {i : Nat} {a : Ar}, HA K Hf vs as → as[i]? = some a → ∃ v, vs[i]? = some v ∧ ∀ H, Holds K Hf H v a.tr []
  | _, _, i, a, .nil, e => by simp at e
  | _, _, 0, a, .cons h _, e => by
    simp at e; subst e
    exact ⟨_, rfl, h⟩
  | _, _, i + 1, a, .cons _ t, e => by
    obtain ⟨v, h1, h2⟩ := t.get (i := i) (by simpa using e)
    exact ⟨v, by simpa using h1, h2⟩
theorem lk_argA : ∀ (as : List Ar) (j i : Nat) (T : Tr), lk (argA j as) i = some T → j ≤ i ∧ ∃ a : Ar, as[i - j]? = some a ∧ T = a.tr
  | [], j, i, T, h => by cases h
  | a :: as, j, i, T, h => by
    unfold argA at h
    by_cases e : i = j
    · subst e
      rw [lk_self] at h
      cases h
      exact ⟨Nat.le_refl _, a, by simp, rfl⟩
    · rw [lk_ne e] at h
      obtain ⟨h1, a', h2, h3⟩ := lk_argA as (j + 1) i T h
      refine ⟨by omega, a', ?_, h3⟩
      rw [show i - j = (i - (j + 1)) + 1 by omega, List.getElem?_cons_succ]
      exact h2
def spT (K : KF) {P C : Type} (argE : P → List Ar) (f : P → Option C) (E : C → D) : Sp := fun vs H Q _ =>
  ∃ (p : P) (c : C) (Hf : Hp), Sub Hf H ∧ HA K Hf vs (argE p) ∧ f p = some c ∧ ∀ v H' Hf', Sub Hf' H' → Ext H Hf H' Hf' → Rp K Hf' v (E c) → Q v H'
section
variable {Pg : Program} {w : World} {K : KF} {mg : Str → Option Value} {base : Heap}
theorem fn_pureT {x qual : Str} {st : Stmt} {f : Addr} {fd : FuncData} {N ps : List Str} {k : Nat} {P C : Type} {argE : P → List Ar} {g : P → Option C} {E : C → D} (F : Fun K x qual st f fd) (S : FnScope N ps (defScope st))
    (len : ∀ p, (argE p).length = ps.length)
    (body : ∀ (p : P) (cdv : Value) (A : Around) (outer : List Env) (s : Shared) (H : Hp) (E' : XK), Room k (A.deeper (envOfC qual (defScope st) s.heap.objs.size f cdv)) →
      BX (cxOf CX0 Pg w K mg base N qual (defScope st) f cdv A outer s H E').nox io0 (argA 0 (argE p)) () (defBody st) (g p) (fun c => Out.ret (E c) ())) :
    FnOk Pg w K mg base CX0 (k + 1) f fd ps (spT K argE g E) := by
  refine F.ok S (fun vs H Q E' h => ?_) (fun cdv A outer s H vs Q E' hr h => ?_)
  · obtain ⟨p, c, Hf, _, r, _⟩ := h
    rw [r.len, len p]
  · obtain ⟨p, c, Hf, sb, r, hc, q⟩ := h
    refine ⟨_, pS _ _, ?_⟩
    refine body p cdv A outer s H E' hr c hc _ H Hf (fun _ => []) _ ⟨sb, fun i T hi => ?_, fun i a h => by simp at h, fun i j a h => by simp at h⟩ ?_
    · obtain ⟨_, a, h1, rfl⟩ := lk_argA (argE p) 0 i T hi
      obtain ⟨v, h2, h3⟩ := r.get (i := i) h1
      refine ⟨v, fun _ => ?_, h3 H⟩
      have hi' : i < vs.length := (List.getElem?_eq_some_iff.mp h2).1
      unfold L2.start
      rw [List.getElem?_append_left (by simpa using hi'), List.getElem?_map, h2]
      rfl
    · intro v σ' H' Hf' A' h1 h2 h3
      refine q v H' Hf' h1.sub ⟨fun a o e => h2.keep a o (fun i hi => by simp at hi) e, h2.grow, fun a ha => ?_⟩ h3
      rcases h2.news a ha with z | z | ⟨i, _, z⟩
      · exact .inl z
      · exact .inr z
      · simp at z
end
section
variable {X : Cx} {S : Type} {ι : Io S} {Δ : Dl} {s : S} {R : Type} {pos p : Pos} {e : Expr} {es : List Expr} {k : Nat} {α β : Type} {E : α → D}
def AT (X : Cx) {S : Type} (ι : Io S) (Δ : Dl) (s : S) (es : List Expr) {α R : Type} (M : (α → S → Option R) → Option R) (G : α → List Ar) : Prop :=
  ∀ k r, M k = some r → ∀ (σ : L2.St) (H Hf : Hp) (A : Nat → List Addr) (Q : List V → Hp → Prop), Sat X.K σ H Hf (ι.tr s ++ Δ) A →
    (∀ x s', k x s' = some r → ∀ vs H' Hf', Sat X.K σ H' Hf' (ι.tr s' ++ Δ) A → ExtA ι.ix A H Hf H' Hf' → HA X.K Hf' vs (G x) → Q vs H') → tA X es σ H Q
theorem HA.up {K : KF} {H H' : Hp} : ∀ {vs : List V} {as : List Ar}, HA K H vs as → Sub H H' → HA K H' vs as
  | _, _, .nil, _ => .nil
  | _, _, .cons h t, e => .cons (fun H => (h H).up e fun a ha => by simp at ha) (t.up e)
theorem at_nil : AT X ι Δ s [] (R := R) (fun k => k () s) (fun _ => []) := by
  intro k r hk σ H Hf A Q st q
  exact tA_of pa_nil (q () s hk [] H Hf st (ExtA.refl _ _ _ _) .nil)
theorem at_cons {Ma : (α → S → Option R) → Option R} {Mb : S → (β → S → Option R) → Option R} {F : β → List Ar} (ha : EX X ι Δ s e Ma E) (hb : ∀ s1, AT X ι Δ s1 es (Mb s1) F) (hs : starEach (e :: es) X.env = (false, eval e X.env) :: starEach es X.env := by rfl) :
    AT X ι Δ s (e :: es) (fun k => Ma fun x s1 => Mb s1 fun y s2 => k (x, y) s2) (fun p => .i (E p.1) :: F p.2) := by
  intro k r hk σ H Hf A Q st q
  refine tA_of (pa_cons (pE X e) (pA X es) hs) (ha _ r hk σ H Hf A _ st fun x s1 hx v H1 Hf1 st1 e1 r1 => ?_)
  refine hb s1 _ r hx σ H1 Hf1 A _ st1 fun y s2 hy vs H2 Hf2 st2 e2 r2 => ?_
  exact q (x, y) s2 hy (v :: vs) H2 Hf2 st2 (e1.trans e2) (.cons (fun _ => ⟨rfl, r1.up e2.grow⟩) r2)
theorem at_consN {Ma : (List α → S → Option R) → Option R} {Mb : S → (β → S → Option R) → Option R} {F : β → List Ar} (ha : EN X ι Δ s e Ma E) (hb : ∀ s1, AT X ι Δ s1 es (Mb s1) F) (hs : starEach (e :: es) X.env = (false, eval e X.env) :: starEach es X.env := by rfl) :
    AT X ι Δ s (e :: es) (fun k => Ma fun x s1 => Mb s1 fun y s2 => k (x, y) s2) (fun p => .n (p.1.map E) :: F p.2) := by
  intro k r hk σ H Hf A Q st q
  refine tA_of (pa_cons (pE X e) (pA X es) hs) (ha _ r hk σ H Hf A _ st fun x s1 hx v H1 Hf1 st1 e1 r1 => ?_)
  refine hb s1 _ r hx σ H1 Hf1 A _ st1 fun y s2 hy vs H2 Hf2 st2 e2 r2 => ?_
  refine q (x, y) s2 hy (v :: vs) H2 Hf2 st2 (e1.trans e2) (.cons (fun H => ?_) r2)
  obtain ⟨z, a, xs, o, h0, h1, h2, h3, h4⟩ := r1
  exact ⟨z, a, xs, o, h0, e2.grow _ _ h1, h2, h3, h4.up e2.grow⟩
theorem ex_callT {x : Str} {f : Addr} {fd : FuncData} {ps : List Str} {P C : Type} {argE : P → List Ar} {g : P → Option C} {E : C → D} {M : (P → S → Option R) → Option R} {e1 : Expr}
    (F : FnOk X.prog X.w X.K X.mg X.base CX0 k f fd ps (spT X.K argE g E)) (hr : Room k X.A) (hm : X.mg x = some (.ref f)) (hk : PySem.W.keepIn X.K (.ref f) = true) (hb : Binds X.K fd ps [])
    (ha : AT X ι Δ s (e1 :: es) M argE) (hg : Gl X x := by rfl) (hdb : (x == ("__debug__" : Str)) = false := by decide) (he : starEach (e1 :: es) X.env = (false, eval e1 X.env) :: starEach es X.env := by rfl) (hpl : (backTo pos (starEach es X.env)).any (·.1) = false := by rfl) :
    EX X ι Δ s (.Call (.Name x p) (e1 :: es) [] pos) (fun k => M fun y s1 => (g y).bind fun z => k z s1) E := by
  intro k r hk' σ H Hf A Q st q
  refine tE_of (pe_call F hr hg hm hk hb .nil pass0 (pA X _) hdb he hpl) (ha _ r hk' σ H Hf A _ st fun y s1 hx vs H1 Hf1 st1 e1 r1 => ?_)
  obtain ⟨z, h1, h2⟩ := bind_some hx
  rw [List.append_nil]
  exact ⟨y, z, Hf1, st1.sub, r1, h1, fun v H2 Hf2 sb ex rv => q z s1 h2 v H2 Hf2 (st1.up ex sb) (e1.trans ex.toA) rv⟩
end
end Ab
namespace Ab
open PySem PySem.Spec PyProof.Rows L2
section
variable {X : Cx} {S : Type} {ι : Io S} {Δ : Dl} {s : S} {R : Type} {out : R → Out S} {rest : List Stmt} {pos : Pos} {e1 e2 b1 b2 : Expr}
variable {α β : Type} {E : α → D} {F : β → D}
/-- xs[i], ys[j] = a, b; both one's own -/
theorem bx_putLL (i j : Nat) {x y : Str} {px py p1 p2 pt pv : Pos} {kt kv : Nat} {l1 : List α} {l2 : List β} {Mx : (α → S → Option R) → Option R} {My : S → (β → S → Option R) → Option R} {Mi : S → (Int → S → Option R) → Option R} {Mj : S → List α → (Int → S → Option R) → Option R} {kk : List α → List β → S → Option R}
    (hl1 : ∀ s1, lk (ι.tr s1 ++ Δ) i = some (.lst (l1.map E))) (hl2 : ∀ s1, lk (ι.tr s1 ++ Δ) j = some (.lst (l2.map F))) (hij : j ≠ i)
    (hx : EX X ι Δ s e1 Mx E) (hy : ∀ s1, EX X ι Δ s1 e2 (My s1) F) (hi : ∀ s1, EX X ι Δ s1 b1 (Mi s1) Ty.int) (hj : ∀ s1 l, EX X ι (ov i E l :: Δ) s1 b2 (Mj s1 l) Ty.int)
    (q : ∀ a b s', BX X ι (ov j F b :: ov i E a :: Δ) s' rest (kk a b s') out) (hc : X.calm = true := by rfl) (hN1 : X.N[i]? = some x := by rfl) (hN2 : X.N[j]? = some y := by rfl)
    (hv1 : Vis X.env.scope x := by first | exact Or.inl rfl | exact Or.inr (Or.inl rfl) | exact Or.inr (Or.inr rfl)) (hd1 : (x == ("__debug__" : Str)) = false := by decide) (hcd1 : (x == ("__classdict__" : Str)) = false := by decide) (hix1 : i ∉ ι.ix := by first | decide | exact of_decide_eq_true rfl)
    (hv2 : Vis X.env.scope y := by first | exact Or.inl rfl | exact Or.inr (Or.inl rfl) | exact Or.inr (Or.inr rfl)) (hd2 : (y == ("__debug__" : Str)) = false := by decide) (hcd2 : (y == ("__classdict__" : Str)) = false := by decide) (hix2 : j ∉ ι.ix := by first | decide | exact of_decide_eq_true rfl)
    (hs0 : starEach [e1, e2] X.env = (false, eval e1 X.env) :: starEach [e2] X.env := by rfl) (hs1 : starEach [e2] X.env = (false, eval e2 X.env) :: starEach [] X.env := by rfl)
    (hs : swapsWithSole [.Tuple [.Subscript (.Name x px) b1 p1, .Subscript (.Name y py) b2 p2] kt pt] (.Tuple [e1, e2] kv pv) pos.line X.env = pure false := by rfl)
    (hw : swappedStores [.Tuple [.Subscript (.Name x px) b1 p1, .Subscript (.Name y py) b2 p2] kt pt] (.Tuple [e1, e2] kv pv) X.env = pure none := by rfl)
    (ha0 : (assignEach [.Tuple [.Subscript (.Name x px) b1 p1, .Subscript (.Name y py) b2 p2] kt pt] X.env).map (·.2) = [assign (.Tuple [.Subscript (.Name x px) b1 p1, .Subscript (.Name y py) b2 p2] kt pt) X.env] := by rfl)
    (ha1 : (assignEach [.Subscript (.Name x px) b1 p1, .Subscript (.Name y py) b2 p2] X.env).map (·.2) = assign (.Subscript (.Name x px) b1 p1) X.env :: (assignEach [.Subscript (.Name y py) b2 p2] X.env).map (·.2) := by rfl)
    (ha2 : (assignEach [.Subscript (.Name y py) b2 p2] X.env).map (·.2) = assign (.Subscript (.Name y py) b2 p2) X.env :: (assignEach [] X.env).map (·.2) := by rfl)
    (hst : (assignEach [.Subscript (.Name x px) b1 p1, .Subscript (.Name y py) b2 p2] X.env).findIdx? (·.1) = none := by rfl)
    (hln : (assignEach [.Subscript (.Name x px) b1 p1, .Subscript (.Name y py) b2 p2] X.env).length = 2 := by rfl)
    (hb1 : ∀ v, assign (.Subscript (.Name x px) b1 p1) X.env v = (do
      let ov ← holding [v] (eval (.Name x px) X.env)
      let iv ← holding [v, ov] (eval b1 X.env)
      standAt p1
      holding [v, ov, iv] (setItem ov iv v)
      release [v, ov, iv] []) := by intro _; rfl)
    (hb2 : ∀ v, assign (.Subscript (.Name y py) b2 p2) X.env v = (do
      let ov ← holding [v] (eval (.Name y py) X.env)
      let iv ← holding [v, ov] (eval b2 X.env)
      standAt p2
      holding [v, ov, iv] (setItem ov iv v)
      release [v, ov, iv] []) := by intro _; rfl) :
    BX X ι Δ s (.Assign [.Tuple [.Subscript (.Name x px) b1 p1, .Subscript (.Name y py) b2 p2] kt pt] (.Tuple [e1, e2] kv pv) pos :: rest)
      (Mx fun v1 s1 => My s1 fun v2 s2 => Mi s2 fun n1 s3 => (setI l1 n1 v1).bind fun a => letM a fun a => Mj s3 a fun n2 s4 => (setI l2 n2 v2).bind fun b => letM b fun b => kk a b s4) out := by
  intro r hr σ H Hf A Dn st p
  refine tS_cons (ps_asg (pE X _) (pg_tup hc (pgs_cons (pg_sub (pe_var hN1 hv1 hd1 hcd1) (pE X b1) set_list hb1) (pgs_cons (pg_sub (pe_var hN2 hv2 hd2 hcd2) (pE X b2) set_list hb2) pgs_nil ha2) ha1) rfl hst) hs hw ha0) ?_
  have hT : EX X ι Δ s (.Tuple [e1, e2] kv pv) (R := R) (fun k => Mx fun v1 s1 => My s1 fun v2 s2 => k (v1, v2) s2) (Ty.p2 E F) := ex_tup (ax_cons (F := fun q => [F q]) hx (fun s1 => ax_one (hy s1) hs1) hs0) (fun _ => rfl) (fun _ => Nat.le_of_ble_eq_true rfl)
  refine hT (fun v s2 => Mi s2 fun n1 s3 => (setI l1 n1 v.1).bind fun a => letM a fun a => Mj s3 a fun n2 s4 => (setI l2 n2 v.2).bind fun b => letM b fun b => kk a b s4) r hr σ H Hf A _ st fun v s2 hv w H1 Hf1 st1 x1 r1 => ?_
  cases r1 with
  | @tup t vs _ hts hz ra =>
    obtain ⟨u1, u2, rfl, ru1, ru2⟩ := two_args ra
    obtain ⟨a1, ws1, g1, g2, g3, g4, g5⟩ := st1.lstAt (hl1 s2)
    refine ⟨t, [u1, u2], rfl, st1.sub.tup hts, by rw [hln]; rfl, u1, [u2], rfl, _, g1, ?_⟩
    refine hi s2 _ r hv σ H1 Hf1 A _ st1 fun n1 s3 hv2 z1 H2 Hf2 st2 x2 r2 => ?_
    obtain ⟨la, hla, hv3⟩ := bind_some hv2
    obtain ⟨a1', ws1', k1, k2, k3, k4, k5⟩ := st2.lstAt (hl1 s3)
    rw [g1] at k1
    cases k1
    cases r2
    have hlen := k5.len
    rw [List.length_map] at hlen
    unfold setI at hla
    cases hj1 : ixN l1.length n1 with
    | none => rw [hj1] at hla; cases hla
    | some j1 =>
      rw [hj1] at hla
      cases hla
      refine ⟨a1, ws1', n1, j1, rfl, rfl, k3, by rw [hlen]; exact hj1, ?_⟩
      have st3 : Sat X.K σ (upd H2 a1 (.lst (ws1'.set j1 u1))) Hf2 (ι.tr s3 ++ ov i E (l1.set j1 v.1) :: Δ) A := by
        refine st2.relst (P := ι.tr s3) (by rw [ι.keys]; exact hix1) k2 g1 (by rw [List.length_set]; exact k4) ?_
        rw [List.map_set]
        exact k5.set (ru1.up x2.grow) j1
      have sp3 : Stp ι.ix σ A H Hf σ A (upd H2 a1 (.lst (ws1'.set j1 u1))) Hf2 := ((x1.trans x2).stp _ _).trans (stp_poke (i := i) (by rw [k2]; simp))
      have l2at : ∀ s4 (l : List α), lk (ι.tr s4 ++ ov i E l :: Δ) j = some (.lst (l2.map F)) := fun s4 l => by
        have m0 : j ∉ (ι.tr s4).map (·.1) := by rw [ι.keys]; exact hix2
        have := hl2 s4
        rw [lk_append_out m0] at this ⊢
        rw [lk_ne hij]; exact this
      obtain ⟨a2, ws2, c1, c2, c3, c4, c5⟩ := st3.lstAt (l2at s3 _)
      refine ⟨u2, [], rfl, _, c1, ?_⟩
      refine hj s3 (l1.set j1 v.1) _ r hv3 σ _ Hf2 A _ st3 fun n2 s4 hv4 z2 H4 Hf4 st4 x4 r4 => ?_
      obtain ⟨lb, hlb, hv5⟩ := bind_some hv4
      obtain ⟨a2', ws2', d1, d2, d3, d4, d5⟩ := st4.lstAt (l2at s4 _)
      rw [c1] at d1
      cases d1
      cases r4
      have hlen2 := d5.len
      rw [List.length_map] at hlen2
      unfold setI at hlb
      cases hj2 : ixN l2.length n2 with
      | none => rw [hj2] at hlb; cases hlb
      | some j2 =>
        rw [hj2] at hlb
        cases hlb
        refine ⟨a2, ws2', n2, j2, rfl, rfl, d3, by rw [hlen2]; exact hj2, rfl, ?_⟩
        have st5 : Sat X.K σ (upd H4 a2 (.lst (ws2'.set j2 u2))) Hf4 (ι.tr s4 ++ ov j F (l2.set j2 v.2) :: ov i E (l1.set j1 v.1) :: Δ) A := by
          refine st4.relst (P := ι.tr s4) (by rw [ι.keys]; exact hix2) d2 c1 (by rw [List.length_set]; exact d4) ?_
          rw [List.map_set]
          exact d5.set (ru2.up (x2.grow.trans x4.grow)) j2
        exact q _ _ s4 r hv5 σ _ Hf4 A Dn st5 (p.step ((sp3.trans (x4.stp _ _)).trans (stp_poke (i := j) (by rw [d2]; simp))))
end
end Ab
set_option maxHeartbeats 1000000
namespace Ab
open PySem PySem.Spec PyProof.Rows L2
/-! ### __init__ of an exception class that begins with super().__init__(e) -/
theorem rev_lookup {l : List (Str × Value)} (nd : (l.map (·.1)).Nodup) {y : Str} {u : Value} (h : (y, u) ∈ l) : l.reverse.lookup y = some u := by
  induction l with
  | nil => cases h
  | cons p l ih =>
    rw [List.reverse_cons, List.lookup_append]
    rw [List.map_cons, List.nodup_cons] at nd
    rcases List.mem_cons.mp h with z | z
    · have n : l.reverse.lookup y = none := by
        rw [List.lookup_eq_none_iff]
        intro q hq
        have hq' : q ∈ l := by simpa using hq
        have : q.1 ∈ l.map (·.1) := List.mem_map_of_mem hq'
        rw [← z] at nd
        simp only [bne_iff_ne, ne_eq]
        intro e
        exact nd.1 (e ▸ this)
      rw [n, ← z]
      simp [List.lookup]
    · rw [ih nd.2 z]
      rfl
/-- a look at the names of such a scope -/
structure SupScope (N ps : List Str) (sc : Scope) : Prop where
  kind : sc.kind = .function
  co : sc.isCoroutine = false
  gen : sc.isGenerator = false
  nd : N.Nodup
  pre : N.take ps.length = ps
  par : ∀ y ∈ ps, sc.names.lookup y = some .local
  nocell : ∀ y ∈ sc.names, y.2 ≠ .cell
  free : ∀ y ∈ sc.names, y.2 = .free → y.1 = "__class__"
def supC (N ps : List Str) (sc : Scope) : Bool :=
  decide (sc.kind = .function) && (!sc.isCoroutine && (!sc.isGenerator && (decide N.Nodup && (decide (N.take ps.length = ps) && (ps.all (fun x => decide (sc.names.lookup x = some .local)) && (sc.names.all (fun y => !decide (y.2 = .cell)) &&
    sc.names.all (fun y => !decide (y.2 = .free) || decide (y.1 = "__class__"))))))))
theorem supC_ok {N ps : List Str} {sc : Scope} (h : supC N ps sc = true) : SupScope N ps sc := by
  unfold supC at h
  simp only [Bool.and_eq_true, Bool.not_eq_true', decide_eq_true_eq, List.all_eq_true, Bool.or_eq_true, decide_eq_false_iff_not] at h
  obtain ⟨h1, h2, h3, h4, h5, h6, h7, h8⟩ := h
  exact ⟨h1, h2, h3, h4, h5, h6, h7, fun y hy e => (h8 y hy).resolve_left fun z => z e⟩
/-- the context of its body -/
def cxS (P : Program) (w : World) (K : KF) (mg : Str → Option Value) (base : Heap) (N : List Str) (qual : Str) (scope : Scope) (f : Addr) (cd : Value) (cc : Addr) (A : Around) (outer : List Env) (s : Shared) (H : Hp) : Cx where
  prog := P
  w := w
  K := K
  mg := mg
  base := base
  A := A.deeper (PySem.W.envX qual scope s.heap.objs.size f cd [("__class__", cc)])
  N := N
  s_0 := s
  H_0 := H
  env := PySem.W.envX qual scope s.heap.objs.size f cd [("__class__", cc)]
  outer := outer
  stack := PySem.W.envX qual scope s.heap.objs.size f cd [("__class__", cc)] :: outer
  ex := []
  calm := true
  fn := fun x => x != "__class__"
  pn := []
  xe := fun _ _ => False
/-- a method of the text that closes over __class__ alone -/
structure SupFn (K : KF) (prog : Program) (x qual : Str) (st : Stmt) (f cc D : Addr) (fd : FuncData) : Prop where
  ex : ∃ (oc : Value) (od : Option Addr) (dV kV doc pm : Value) (an : Option Addr) (cda : Addr) (ct : Value) (osl : Array (Option Value)) (vs : Array Value) (ccl : Value) (cdd : Option Addr) (ccs : Array (Option Value)) (file : Str) (tf : Tok),
    fd = PySem.W.fnX x qual (defArgs st) (defBody st) (defScope st) [("__class__", cc)] dV kV doc pm an (.ref cda) ct ∧ K.lookup f = some ⟨oc, od, .func fd, osl⟩ ∧ PySem.W.codeIn K (.ref cda) qual = true ∧
      K.lookup cda = some ⟨ccl, cdd, .fields vs, ccs⟩ ∧ vs[2]? = some (.str file tf) ∧ ((prog.main.file : Str) == file) = true
  cell : ∃ (cl : Value) (cld : Option Addr) (csl : Array (Option Value)), K.lookup cc = some ⟨cl, cld, .cell (some (.ref D)), csl⟩
  cls : ∃ cdD, PySem.W.clsIn K D = some cdD
  noany : PySem.W.nsIn K cStatics "thirdparty.any" = some none
  top : (prog.main.scope.names.lookup ("super" : Str)).isSome = false
section
variable {P : Program} {w : World} {K : KF} {mg : Str → Option Value} {base : Heap} {N ps : List Str} {x qual : Str} {st : Stmt} {f cc D : Addr} {fd : FuncData}
theorem supInv {scope : Scope} {cdv : Value} {A : Around} {outer : List Env} {s : Shared} {H : Hp} {us : List Value} {vs : List V} {h0 : Heap} {tk : Nat} {oc : Value} {od : Option Addr} {osl : Array (Option Value)} (S : SupScope N ps scope) (hd : A.handled = none)
    (e0 : Env0 P w K mg base A outer s H) (hl : vs.length = ps.length) (r : Vals vs us) (hc : K.lookup cc = some ⟨oc, od, .cell (some (.ref D)), osl⟩)
    (hns : h0.Ns s.heap.objs.size (fun y => (ps.zip us).reverse.lookup y)) (hk : ∀ b o, s.heap.get? b = some o → h0.get? b = some o) :
    Inv (cxS P w K mg base N qual scope f cdv cc A outer s H) [] (L2.start N vs) H { s with heap := h0, toks := tk } := by
  have hpl : ps.length ≤ N.length := by have := congrArg List.length S.pre; rw [List.length_take] at this; omega
  have hlu : us.length = ps.length := by rw [← r.length]; exact hl
  have ndP : ps.Nodup := by rw [← S.pre]; exact S.nd.sublist (List.take_sublist _ _)
  have lkc : ∀ y c, ([("__class__", cc)] : List (Str × Addr)).lookup y = some c → y = "__class__" ∧ c = cc := fun y c h => by
    by_cases e : y = "__class__"
    · subst e
      simp [List.lookup] at h
      exact ⟨rfl, h.symm⟩
    · have e' : (y == ("__class__" : Str)) = false := by simpa using e
      simp [List.lookup, e'] at h
  have kin : K.In s.heap := e0.mod.kin.keeps fun b o e => (e0.bs b o e).1
  have hcb : base.get? cc = some ⟨oc, od, .cell (some (.ref D)), osl⟩ := e0.mod.kin _ _ hc
  refine ⟨⟨e0.mod, S.kind, rfl, rfl, Nat.le_refl _, fun y z c h1 h2 => ?_, fun y hy => ?_, fun y c h1 h2 => ?_, fun _ => hd, Around.frames_deeper e0.frames, .inr ⟨rfl, rfl⟩, fun b z => ?_, e0.bs, e0.bsz, fun b _ _ => ?_, fun b z => ?_, e0.funs, e0.frf⟩,
    rfl, e0.bare, Un.kept hk, ⟨_, hns, fun i y v h1 h2 h3 => ?_⟩, fun y c h => ?_, e0.hok.fresh (Nat.le_refl _), fun y c h => ?_, fun p hp => absurd (show p ∈ ([] : List (Addr × Obj)) from hp) (by simp), e0.hok.kept hk, ?_⟩
  · rw [(lkc y c h1).1, (lkc z c h2).1]
  · have hy : scope.names.lookup y = some .cell ∨ scope.names.lookup y = some .free := hy
    rcases hy with hy | hy
    · exact absurd rfl (S.nocell _ (PySem.mem_of_lookup hy))
    · have := S.free _ (PySem.mem_of_lookup hy) rfl
      exact ⟨cc, by show ([("__class__", cc)] : List (Str × Addr)).lookup y = _; rw [show y = "__class__" from this]; rfl⟩
  · have h1 : (y != ("__class__" : Str)) = true := h1
    rw [(lkc y c h2).1] at h1
    exact absurd h1 (by decide)
  · exact absurd (show b ∈ ([] : List Addr) from z) (by simp)
  · show b ∉ ([] : List Addr)
    simp
  · exact absurd (show b ∈ ([] : List Addr) from z) (by simp)
  · have hi : i < vs.length := by
      unfold L2.start at h2
      by_cases hi : i < vs.length
      · exact hi
      · rw [List.getElem?_append_right (by simpa using hi)] at h2
        rw [List.getElem?_replicate] at h2
        split at h2 <;> cases h2
    have ha : vs[i]? = some v := by
      unfold L2.start at h2
      rw [List.getElem?_append_left (by simpa using hi), List.getElem?_map] at h2
      cases e : vs[i]? with
      | none => rw [e] at h2; cases h2
      | some a => rw [e] at h2; cases h2; rfl
    obtain ⟨u, hu, rv⟩ := r.get ha
    have hp : ps[i]? = some y := by
      rw [← S.pre, List.getElem?_take_of_lt (by omega)]; exact h1
    refine ⟨u, rv, .inl ⟨S.par y (List.mem_of_getElem? hp), ?_⟩⟩
    refine rev_lookup ?_ ?_
    · rw [List.map_fst_zip (by omega)]
      exact ndP
    · refine List.mem_of_getElem? (i := i) ?_
      rw [List.getElem?_zip_eq_some]
      exact ⟨hp, hu⟩
  · obtain ⟨_, rfl⟩ := lkc y c h
    exact ⟨_, _, hk _ _ (kin _ _ hc), rfl⟩
  · obtain ⟨_, rfl⟩ := lkc y c h
    exact (e0.bs _ _ hcb).2
  · unfold L2.start
    show _ = N.length
    rw [List.length_append, List.length_map, List.length_replicate]
    omega
end
def argsOf (ps : Arguments) : Option Arg := (ps.posonlyargs ++ ps.args).head?
section
variable {X : Cx} {pins : List (Addr × Obj)} {σ : L2.St} {H : Hp} {s : Shared}
/-- the super object called: the exception's args are laid anew -/
theorem call_mw {E : Value → Shared → Prop} {a C u : Addr} {us : List Value} {Q : Value → Shared → Prop} (T : OexC X.K C) (I : Inv X pins σ H s) (e : H a = some (exo a C none)) (hu : s.heap.get? u = some (PySem.W.kxs_mw "ValueError.__init__" a))
    (hl : us.length ≤ sizeLine) (h : ∀ s', Inv X pins σ H s' → Q .none s') : wpAny (model X.prog X.w) X.A (call (.ref u) us) Q E s := by
  obtain ⟨nm, q, N, bs, bm, sn, sub, ab, col, dd, k0, k1, k2, k3, k5, hC, hbm⟩ := T.cls
  obtain ⟨t1, ho⟩ := exo_at I.hok e
  have hCs := I.kIn _ _ hC
  obtain ⟨hp, g, d, t, os⟩ := s
  refine wpAny_call (codeAny_of_tree ?_)
  show wpAny _ X.A.in1 (callAny (.ref u) ⟨us, []⟩) _ _ _
  simp only [callAny]
  refine wpAny_bind (wpAny_load hu ?_)
  simp only [PySem.W.kxs_mw, show (Value.type "method-wrapper" == Value.type "method" || Value.type "method-wrapper" == Value.type "builtin_function_or_method" || Value.type "method-wrapper" == Value.type "method-wrapper") = true by decide, if_true]
  refine PySem.W.KFB.if_so (by decide) ?_
  refine wpAny_bind (PySem.W.check_bound_init F.excBase_ValueError.toExcCallFacts hCs ho rfl ?_)
  refine wpAny_bind (wpAny_pure (wpAny_pure ?_))
  refine ⟨plainId_quiet F.excBase_ValueError.init.plain _, codeAny_builtin F.excBase_ValueError.initEntry ?_⟩
  refine PySem.W.exc_init_tree (cls := .ref C) (t0 := t1) (dv := none) (c2 := .none) (c3 := .none) (b4 := .bool false) ho hl fun h' k hx _ => ?_
  have J := I.write (t' := t) (x := a) (e := a) (o := exo a C none) (by rw [e]; exact True.intro) (.inl rfl) k ⟨_, hx⟩ (exo_ok hx)
  have eu : upd H a (exo a C none) = H := by
    funext b
    by_cases hb : b = a
    · rw [hb, upd_same, e]
    · rw [upd_ne hb]
  rw [eu] at J
  exact h _ J
end
section
variable {X : Cx} {pins : List (Addr × Obj)} {σ : L2.St} {H : Hp} {s : Shared}
/-- the first statement, then the others -/
theorem sup_run {body : List Stmt} {e : Expr} {p0 p1 p2 p3 p4 : Pos} {rest : List Stmt} {ta : TA} {t : TS} {Dn : Ends} {a C D f cc cda : Addr} {ar : Arg} {oc ccl cl : Value} {od cdd cld : Option Addr} {fd : FuncData} {osl ccs csl : Array (Option Value)} {cvs : Array Value} {file : Str} {tf : Tok} {cdD : ClassData}
    (T : OexC X.K C) (hsub : PySem.W.mroIn X.K C (.ref D) = some true) (hm : PySem.W.ks_superIn X.K C D "__init__" = some (some (.builtin "ValueError.__init__"))) (hB : PySem.W.subIn X.K (.ref C) (.type "ValueError") = some true)
    (hks : X.env.kindOf "super" = some .globalImplicit) (hkc : X.env.kindOf "__class__" = some .free) (hka : X.env.kindOf ar.arg = some .local) (hsup : X.mg "super" = none)
    (hfu : X.env.func = some f) (lk : X.K.lookup f = some ⟨oc, od, .func fd, osl⟩) (hp : (fd.params.posonlyargs ++ fd.params.args).head? = some ar) (hco : X.env.code = .ref cda) (hcda : X.K.lookup cda = some ⟨ccl, cdd, .fields cvs, ccs⟩) (hvs : cvs[2]? = some (.str file tf))
    (hfile : ((X.prog.main.file : Str) == file) = true) (htop : (X.prog.main.scope.names.lookup ("super" : Str)).isSome = false) (hcell : X.K.lookup cc = some ⟨cl, cld, .cell (some (.ref D)), csl⟩) (hcc : X.env.cells.lookup ("__class__" : Str) = some cc)
    (hD : PySem.W.clsIn X.K D = some cdD) (hany : PySem.W.nsIn X.K cStatics "thirdparty.any" = some none) (h0 : X.N[0]? = some ar.arg)
    (he : PA X [e] ta) (hr : PSs X rest t) (I : Inv X pins σ H s) (hσ : σ[0]? = some (some (.ref a))) (ea : H a = some (exo a C none))
    (hq : ta σ H fun xs H1 => xs.length ≤ 1000 ∧ H1 a = some (exo a C none) ∧ t Dn σ H1) (hint : interactive X.env = false) (hsw : ∀ p, swapsWith (.Call (.Attribute (.Call (.Name "super" p0) [] [] p1) "__init__" p2) [e] [] p3) none p X.env = pure false)
    (hst : starEach [e] X.env = (false, eval e X.env) :: starEach [] X.env)
    (hev : eval (.Call (.Attribute (.Call (.Name "super" p0) [] [] p1) "__init__" p2) [e] [] p3) X.env = (do
      let ov ← attributeBase (.Call (.Name "super" p0) [] [] p1) "__init__" X.env (eval (.Call (.Name "super" p0) [] [] p1) X.env)
      standAt p2.atName
      let (f, first) ← holding [ov] (getMethod ov "__init__" (pure false))
      callWith p3 f first (backTo p3 (starEach [e] X.env)) [])) :
    _root_.PySem.wpAt (model X.prog X.w) X.A (.func body X.env) (execs (.Expr (.Call (.Attribute (.Call (.Name "super" p0) [] [] p1) "__init__" p2) [e] [] p3) p4 :: rest) X.env) (SP X pins Dn) X.xe s := by
  have KX := I.kIn
  obtain ⟨m, hns, hlk⟩ := id I.loc
  obtain ⟨u0, ru0, hu0⟩ := hlk 0 ar.arg (.ref a) h0 hσ (.inl hka)
  obtain rfl : u0 = Value.ref a := ru0
  have hself : m ar.arg = some (.ref a) := by
    rcases hu0 with ⟨_, q⟩ | ⟨q, _⟩
    · exact q
    · rw [hka] at q
      rcases q with q | q <;> cases q
  obtain ⟨mb, hb1, hb2⟩ := I.mod.blt
  obtain ⟨oD, hD1, hD2⟩ : ∃ oD, s.heap.get? D = some oD ∧ oD.data = .cls cdD := by
    unfold PySem.W.clsIn at hD
    split at hD
    · rename_i c d cd' sl ho
      cases hD
      exact ⟨_, KX _ _ ho, rfl⟩
    · cases hD
  obtain ⟨t1, ho⟩ := exo_at I.hok ea
  refine ks_wpAt_execs_cons (ks_wpAt_Expr_any (ks_wpAt_MethodCall ?_ hev) hint (hsw _))
  refine ks_wpAt_super_base hks hkc rfl hfu (KX _ _ lk) rfl hp hco (KX _ _ hcda) rfl hvs hfile htop ?_
  refine PySem.W.ks_loadName_global I.ok.kind hks (Calls.loadGlobal_builtin (by rw [I.ok.glob]; exact I.mod.glob.keeps I.bk) hsup (by rw [I.ok.blt]; exact hb1.keeps I.bk) ((hb2 _ (by decide)).trans (show bootBuiltins "super" = some (.type "super") from by first | rfl | kernel_rfl)) ⟨rfl, ?_⟩)
  refine wpAny_loadName_free I.ok.kind hkc hcc ⟨_, KX _ _ hcell, rfl⟩ ?_
  refine wpAny_loadName_local I.ok.kind hka hns hself ?_
  obtain ⟨hh, g, d, tk, os⟩ := s
  refine ks_wpAny_isType_cls hD1 hD2 ⟨rfl, ?_⟩
  refine ks_wpAny_call_super hD1 hD2 ho rfl (fun c z => by cases z) (PySem.W.looks_mroIn KX hsub) (fun h' eso kp => ?_)
  have I1 : Inv X pins σ H ⟨h', g, d, tk, os⟩ := I.kept (t' := tk) kp
  have KX1 := I1.kIn
  obtain ⟨t2, ho2⟩ := exo_at I1.hok ea
  cases hc : PySem.W.clsIn X.K C with
  | none => unfold PySem.W.ks_superIn at hm; rw [hc] at hm; cases hm
  | some cd =>
    unfold PySem.W.ks_superIn at hm
    rw [hc] at hm
    have IA : PySem.W.InstAt h' a _ C none := ⟨ho2, rfl, rfl, trivial⟩
    have hI : PySem.W.Looks (model X.prog X.w) h' (isInstance (.ref a) (.type "ValueError")) true := IA.type.andThen (PySem.W.looks_subIn KX1 hB)
    refine PySem.W.kxs_getMethod PySem.W.kxs_ValueError eso (PySem.W.looks_opaque KX1 hany) (l₀ := cd.mro) ?_ rfl KX1 hm hI (PySem.W.ks_ne KX1 IA hc) rfl ?_
    · exact fun A Q E s k q => wpAny_bind ((PySem.W.looks_clsIn KX1 hc) A _ E s k (wpAny_pure q))
    · have hu : (h'.push (PySem.W.kxs_mw "ValueError.__init__" a)).get? h'.objs.size = some (PySem.W.kxs_mw "ValueError.__init__" a) := Heap.get?_push_at rfl rfl
      have I2 : Inv X pins σ H ⟨h'.push (PySem.W.kxs_mw "ValueError.__init__" a), g, d, tk + 1, os⟩ := I1.kept (t' := tk + 1) fun b o z => Heap.get?_push_of_some _ z
      have I3 : Inv X ((h'.objs.size, PySem.W.kxs_mw "ValueError.__init__" a) :: pins) σ H ⟨h'.push (PySem.W.kxs_mw "ValueError.__init__" a), g, d, tk + 1, os⟩ := I2.pins_of fun q hq => by
        rcases List.mem_cons.mp hq with rfl | hq
        · obtain ⟨m', ⟨oL, _, _, hL, _⟩, _⟩ := id I1.loc
          refine ⟨hu, I1.hok.fresh (Nat.le_refl _), fun z => ?_, I1.nofs (Nat.le_refl _), fun v z => by cases z⟩
          have := Heap.lt_size hL
          rw [← z] at this
          exact absurd this (Nat.lt_irrefl _)
        · exact I2.pin q (List.mem_append_right _ hq)
      rw [hst]
      have hrun := he.run p3 ((h'.objs.size, PySem.W.kxs_mw "ValueError.__init__" a) :: pins) _ σ H _ I3 hq
      rw [hst] at hrun
      refine PySem.W.kxs_callWith (i := "ValueError.__init__") (x := a) rfl (Calls.evalArgs_plain (thn hrun fun us s3 hz => ?_))
      obtain ⟨vs, H3, I4, rv, hlen, ea3, ht⟩ := hz
      obtain ⟨g4, _⟩ := I4.pin (h'.objs.size, PySem.W.kxs_mw "ValueError.__init__" a) (List.mem_append_right _ List.mem_cons_self)
      refine ⟨g4, ?_⟩
      have I5 : Inv X pins σ H3 s3 := I4.pins_of fun q hq => I4.pin q (List.mem_append_right _ (List.mem_cons_of_mem _ hq))
      refine call_mw T I5 ea3 g4 (by show us.length ≤ sizeLine; rw [← rv.length, sizeLine_eq]; omega) fun s6 I6 => ?_
      exact wpAt_of_wpAny (hr.run pins s6 σ H3 Dn I6 ht)
end
section
variable {P : Program} {w : World} {K : KF} {mg : Str → Option Value} {base : Heap} {N ps : List Str} {x qual : Str} {st : Stmt} {f cc D C : Addr} {fd : FuncData} {k : Nat}
/-- what such an __init__ does -/
def spX (N ps : List Str) (C : Addr) (ta : TA) (t : TS) : Sp := fun vs H Q _ => vs.length = ps.length ∧ ∃ a ws, vs = V.ref a :: ws ∧ H a = some (exo a C none) ∧
  ta (L2.start N vs) H fun xs H1 => xs.length ≤ 1000 ∧ H1 a = some (exo a C none) ∧ t { nx := fun _ H' => Q .non H', rt := Q } (L2.start N vs) H1
theorem sup_ok {ar : Arg} {e : Expr} {p0 p1 p2 p3 p4 : Pos} {rest : List Stmt} {ta : TA} {t : TS} (F : SupFn K P x qual st f cc D fd) (S : SupScope N ps (defScope st))
    (hbody : defBody st = .Expr (.Call (.Attribute (.Call (.Name "super" p0) [] [] p1) "__init__" p2) [e] [] p3) p4 :: rest) (har : argsOf (defArgs st) = some ar) (h0 : N[0]? = some ar.arg) (hl0 : (defScope st).names.lookup ar.arg = some .local)
    (T : OexC K C) (hsub : PySem.W.mroIn K C (.ref D) = some true) (hm : PySem.W.ks_superIn K C D "__init__" = some (some (.builtin "ValueError.__init__"))) (hB : PySem.W.subIn K (.ref C) (.type "ValueError") = some true)
    (hks : (defScope st).names.lookup ("super" : Str) = some .globalImplicit) (hkc : (defScope st).names.lookup ("__class__" : Str) = some .free) (hsup : mg "super" = none)
    (he : ∀ (cdv : Value) (A : Around) (outer : List Env) (s : Shared) (H : Hp), PA (cxS P w K mg base N qual (defScope st) f cdv cc A outer s H) [e] ta)
    (hr : ∀ (cdv : Value) (A : Around) (outer : List Env) (s : Shared) (H : Hp), PSs (cxS P w K mg base N qual (defScope st) f cdv cc A outer s H) rest t)
    (hsw : ∀ (env : Env) (p : Nat), swapsWith (.Call (.Attribute (.Call (.Name "super" p0) [] [] p1) "__init__" p2) [e] [] p3) none p env = pure false)
    (hst : ∀ env : Env, starEach [e] env = (false, eval e env) :: starEach [] env)
    (hev : ∀ env : Env, eval (.Call (.Attribute (.Call (.Name "super" p0) [] [] p1) "__init__" p2) [e] [] p3) env = (do
      let ov ← attributeBase (.Call (.Name "super" p0) [] [] p1) "__init__" env (eval (.Call (.Name "super" p0) [] [] p1) env)
      standAt p2.atName
      let (f, first) ← holding [ov] (getMethod ov "__init__" (pure false))
      callWith p3 f first (backTo p3 (starEach [e] env)) [])) :
    FnOk P w K mg base CX0 (k + 1) f fd ps (spX N ps C ta t) := by
  refine ⟨fun vs H Q E h => h.1, fun A outer s H args us vs Q E hrm e0 hb r hsp => ?_⟩
  obtain ⟨hl, a, ws, rfl, ea, hq⟩ := hsp
  obtain ⟨oc, od, dV, kV, doc, pm, an, cda, ct, osl, cvs, ccl, cdd, ccs, file, tf, rfl, lk, hcd, hcda, hvs, hfile⟩ := F.ex
  obtain ⟨cl, cld, csl, hcell⟩ := F.cell
  obtain ⟨cdD, hD⟩ := F.cls
  have KX : K.In s.heap := e0.mod.kin.keeps fun b o e => (e0.bs b o e).1
  have lim : s.heap.NoLimit := e0.mod.nolimit.keeps fun b o e => (e0.bs b o e).1
  refine ks_codeAny_call_defAt hrm.depth (KX _ _ lk) rfl lim (PySem.W.codeRec_of KX hcd) rfl hb S.nocell (fun y hy => S.par _ (List.of_mem_zip hy).1) (fun h1 hns hk => ?_) S.co S.gen S.kind
  have I0 := supInv (P := P) (w := w) (K := K) (mg := mg) (base := base) (qual := qual) (f := f) (cdv := .ref cda) (tk := s.toks + (ps.zip us).length) S hrm.hd e0 hl r hcell hns hk
  have hps : 0 < ps.length := by rw [← hl]; simp
  have run := sup_run (X := cxS P w K mg base N qual (defScope st) f (.ref cda) cc A outer s H) (pins := []) (σ := L2.start N (.ref a :: ws)) (H := H) (body := defBody st) (p4 := p4)
    (Dn := { nx := fun _ H' => Q .non H', rt := Q }) T hsub hm hB hks hkc hl0 hsup rfl lk har rfl hcda hvs hfile F.top hcell rfl hD F.noany h0 (he _ A outer s H) (hr _ A outer s H) I0 rfl ea hq (by show ((defScope st).kind == .module && _) = false; rw [S.kind]; rfl) (hsw _) (hst _) (hev _)
  rw [← hbody] at run
  refine ks_wpAt_mono run (fun fl s' hs => ?_) fun _ _ z => False.elim z
  have fin : ∀ {σ' : L2.St} {H' : Hp} {v : V} {u : Value}, Inv (cxS P w K mg base N qual (defScope st) f (.ref cda) cc A outer s H) [] σ' H' s' → RelV v u → Q v H' → CE outer P w H s Q u s' :=
    fun {σ' H' v u} J rv q => ⟨v, H', J.os, J.bare, J.base, J.hok, rv, q⟩
  cases fl with
  | ret u =>
    obtain ⟨v, σ', H', J, rv, q⟩ := hs
    exact fin J rv q
  | next =>
    obtain ⟨σ', H', J, q⟩ := hs
    exact fin (v := V.non) (u := Value.none) J rfl q
  | brk =>
    obtain ⟨_, _, _, q⟩ := hs
    exact False.elim q
  | cont =>
    obtain ⟨_, _, _, q⟩ := hs
    exact False.elim q
end
end Ab
namespace Ab
open PySem PySem.Spec PyProof.Rows L2
/-! ### from values of any shape to known ones -/
def decI : D → Option Int | .int i => some i | _ => none
def decB : D → Option Bool | .bool i => some i | _ => none
def decS : D → Option Str | .str i => some i | _ => none
def decN : D → Option Unit | .none => some () | _ => none
def decTd : D → Option (List D) | .tuple ds => some ds | _ => none
def decLd : D → Option (List D) | .list ds => some ds | _ => none
def decAll {α : Type} (dec : D → Option α) : List D → Option (List α)
  | [] => some []
  | d :: ds => (dec d).bind fun a => (decAll dec ds).bind fun l => some (a :: l)
def decT {α : Type} (dec : D → Option α) (d : D) : Option (List α) := (decTd d).bind (decAll dec)
def decL {α : Type} (dec : D → Option α) (d : D) : Option (List α) := (decLd d).bind (decAll dec)
def decP2 {α β : Type} (da : D → Option α) (db : D → Option β) : D → Option (α × β)
  | .tuple [a, b] => (da a).bind fun x => (db b).bind fun y => some (x, y)
  | _ => none
def decP3 {α β γ : Type} (da : D → Option α) (db : D → Option β) (dc : D → Option γ) : D → Option (α × β × γ)
  | .tuple [a, b, c] => (da a).bind fun x => (db b).bind fun y => (dc c).bind fun z => some (x, y, z)
  | _ => none
/-- what is read is what was there -/
abbrev DecOk {α : Type} (dec : D → Option α) (E : α → D) : Prop := ∀ d a, dec d = some a → E a = d
/-- what was written is read -/
abbrev DecTo {α : Type} (dec : D → Option α) (E : α → D) : Prop := ∀ a, dec (E a) = some a
section
variable {α β γ : Type} {da : D → Option α} {db : D → Option β} {dc : D → Option γ} {E : α → D} {F : β → D} {G : γ → D}
theorem decI_ok : DecOk decI Ty.int := fun d a h => by cases d <;> cases h; rfl
theorem decB_ok : DecOk decB Ty.bool := fun d a h => by cases d <;> cases h; rfl
theorem decS_ok : DecOk decS Ty.str := fun d a h => by cases d <;> cases h; rfl
theorem decN_ok : DecOk decN Ty.none := fun d a h => by cases d <;> cases h; rfl
theorem map_dyn (l : List D) : l.map Ty.dyn = l := List.map_id' l
theorem decTd_ok : DecOk decTd (Ty.tup Ty.dyn) := fun d a h => by
  cases d <;> cases h
  show PyData.tuple (a.map Ty.dyn) = _
  rw [map_dyn]
theorem decLd_ok : DecOk decLd (Ty.lst Ty.dyn) := fun d a h => by
  cases d <;> cases h
  show PyData.list (a.map Ty.dyn) = _
  rw [map_dyn]
theorem decAll_ok (h : DecOk da E) : ∀ (ds : List D) (l : List α), decAll da ds = some l → l.map E = ds
  | [], l, e => by cases e; rfl
  | d :: ds, l, e => by
    unfold decAll at e
    obtain ⟨a, h1, e⟩ := bind_some e
    obtain ⟨l', h2, e⟩ := bind_some e
    cases e
    rw [List.map_cons, h d a h1, decAll_ok h ds l' h2]
theorem decT_ok (h : DecOk da E) : DecOk (decT da) (Ty.tup E) := fun d a e => by
  obtain ⟨ds, h1, h2⟩ := bind_some e
  cases d <;> cases h1
  show PyData.tuple (a.map E) = _
  rw [decAll_ok h _ _ h2]
theorem decL_ok (h : DecOk da E) : DecOk (decL da) (Ty.lst E) := fun d a e => by
  obtain ⟨ds, h1, h2⟩ := bind_some e
  cases d <;> cases h1
  show PyData.list (a.map E) = _
  rw [decAll_ok h _ _ h2]
theorem decP2_ok (h : DecOk da E) (k : DecOk db F) : DecOk (decP2 da db) (Ty.p2 E F) := fun d a e => by
  unfold decP2 at e
  split at e
  · obtain ⟨x, h1, e⟩ := bind_some e
    obtain ⟨y, h2, e⟩ := bind_some e
    cases e
    show PyData.tuple [E x, F y] = _
    rw [h _ _ h1, k _ _ h2]
  · cases e
theorem decP3_ok (h : DecOk da E) (k : DecOk db F) (l : DecOk dc G) : DecOk (decP3 da db dc) (Ty.p3 E F G) := fun d a e => by
  unfold decP3 at e
  split at e
  · obtain ⟨x, h1, e⟩ := bind_some e
    obtain ⟨y, h2, e⟩ := bind_some e
    obtain ⟨z, h3, e⟩ := bind_some e
    cases e
    show PyData.tuple [E x, F y, G z] = _
    rw [h _ _ h1, k _ _ h2, l _ _ h3]
  · cases e
theorem decI_to : DecTo decI Ty.int := fun _ => rfl
theorem decB_to : DecTo decB Ty.bool := fun _ => rfl
theorem decS_to : DecTo decS Ty.str := fun _ => rfl
theorem decTd_to : DecTo decTd (Ty.tup Ty.dyn) := fun a => by show some (a.map Ty.dyn) = _; rw [map_dyn]
theorem decAll_to (h : DecTo da E) : ∀ l : List α, decAll da (l.map E) = some l
  | [] => rfl
  | a :: l => by
    rw [List.map_cons]
    unfold decAll
    rw [h a, decAll_to h l]
    rfl
theorem decT_to (h : DecTo da E) : DecTo (decT da) (Ty.tup E) := fun a => decAll_to h a
theorem decL_to (h : DecTo da E) : DecTo (decL da) (Ty.lst E) := fun a => decAll_to h a
theorem decP2_to (h : DecTo da E) (k : DecTo db F) : DecTo (decP2 da db) (Ty.p2 E F) := fun a => by
  show (da (E a.1)).bind _ = _
  rw [h a.1]
  show (db (F a.2)).bind _ = _
  rw [k a.2]
  rfl
theorem decP3_to (h : DecTo da E) (k : DecTo db F) (l : DecTo dc G) : DecTo (decP3 da db dc) (Ty.p3 E F G) := fun a => by
  show (da (E a.1)).bind _ = _
  rw [h a.1]
  show (db (F a.2.1)).bind _ = _
  rw [k a.2.1]
  show (dc (G a.2.2)).bind _ = _
  rw [l a.2.2]
  rfl
end
/-! ### == of values of any shape -/
def okY (d : D) : Bool := noD d && decide (d.depth ≤ 64)
section
variable {X : Cx} {S : Type} {ι : Io S} {Δ : Dl} {s : S} {R : Type} {pos p : Pos} {a b c e tg : Expr} {k : Nat}
variable {Md : (D → S → Option R) → Option R} {Me : S → (D → S → Option R) → Option R}
theorem opD_eqY : OpD X.K (rEqD X.K) Ty.dyn Ty.dyn Ty.bool (fun x y => okY x = true ∧ okY y = true) (fun x y => PyData.eqv x y) :=
  opD_of fun x y v w H Hf Q c sb rv rw' => ⟨.bl (PyData.eqv x y), .bl _, fun q => by
    obtain ⟨c1, c2⟩ := c
    unfold okY at c1 c2
    rw [Bool.and_eq_true, decide_eq_true_eq] at c1 c2
    have h1 := Rp.dp _ _ c1.1 (rv.up sb)
    have h2 := Rp.dp _ _ c2.1 (rw'.up sb)
    refine ⟨_, _, h1.1, h2.1, ?_, ?_, q⟩
    · unfold SeqAt.shaped; rw [h1.2, decide_eq_true c1.2]; rfl
    · unfold SeqAt.shaped; rw [h2.2, decide_eq_true c2.2]; rfl⟩
theorem opD_neY : OpD X.K (rNeD X.K) Ty.dyn Ty.dyn Ty.bool (fun x y => okY x = true ∧ okY y = true) (fun x y => !PyData.eqv x y) :=
  opD_of fun x y v w H Hf Q c sb rv rw' => ⟨.bl (!PyData.eqv x y), .bl _, fun q => by
    obtain ⟨c1, c2⟩ := c
    unfold okY at c1 c2
    rw [Bool.and_eq_true, decide_eq_true_eq] at c1 c2
    have h1 := Rp.dp _ _ c1.1 (rv.up sb)
    have h2 := Rp.dp _ _ c2.1 (rw'.up sb)
    refine ⟨_, _, h1.1, h2.1, ?_, ?_, q⟩
    · unfold SeqAt.shaped; rw [h1.2, decide_eq_true c1.2]; rfl
    · unfold SeqAt.shaped; rw [h2.2, decide_eq_true c2.2]; rfl⟩
theorem ex_eqY (hr : Room k X.A) (ha : EX X ι Δ s a Md Ty.dyn) (hb : ∀ s1, EX X ι Δ s1 b (Me s1) Ty.dyn) :
    EX X ι Δ s (.Compare a [.Eq] [b] pos) (fun k => Md fun x s1 => Me s1 fun y s2 => guardM (okY x = true ∧ okY y = true) (k (PyData.eqv x y) s2)) Ty.bool :=
  ex_binG (pe_cmpR (op_eqD hr.units) (pE X a) (pE X b) (nomark _)) opD_eqY ha hb
theorem ex_neY (hr : Room k X.A) (ha : EX X ι Δ s a Md Ty.dyn) (hb : ∀ s1, EX X ι Δ s1 b (Me s1) Ty.dyn) :
    EX X ι Δ s (.Compare a [.NotEq] [b] pos) (fun k => Md fun x s1 => Me s1 fun y s2 => guardM (okY x = true ∧ okY y = true) (k (!PyData.eqv x y) s2)) Ty.bool :=
  ex_binG (pe_cmpR (op_neD hr.units) (pE X a) (pE X b) (nomark _)) opD_neY ha hb
/-! ### isinstance -/
def tyY : D → String
  | .none => "NoneType"
  | .bool _ => "bool"
  | .int _ => "int"
  | .str _ => "str"
  | .list _ => "list"
  | .tuple _ => "tuple"
  | .dict _ => "dict"
def isD : D → Bool | .dict _ => true | _ => false
def isiY (T : String) (d : D) : Option Bool := if isD d then none else kitB (tyY d) T
theorem tyY_ok : ∀ {d : D}, isD d = false → ∀ (K : KF) (H : Hp) (v : V), Rp K H v d → TyX K H v (.type (tyY d))
  | .none, _, K, H, v, r => by cases r; exact .base .non
  | .bool b, _, K, H, v, r => tyd_bool K H v b r
  | .int b, _, K, H, v, r => tyd_int K H v b r
  | .str b, _, K, H, v, r => tyd_str K H v b r
  | .list b, _, K, H, v, r => tyd_lst (Ea := Ty.dyn) K H v b (by show Rp K H v (.list (b.map Ty.dyn)); rw [map_dyn]; exact r)
  | .tuple b, _, K, H, v, r => tyd_tup (Ea := Ty.tup Ty.dyn) (fun l => l.map Ty.dyn) (fun _ => rfl) K H v b (by show Rp K H v (.tuple (b.map Ty.dyn)); rw [map_dyn]; exact r)
  | .dict _, h, _, _, _, _ => by cases h
theorem ex_isiY {T : String} {Tn : Str} {pT : Pos} (hm : X.mg "isinstance" = none) (hmT : X.mg Tn = none) (hT : bootBuiltins Tn = some (.type T)) (ha : EX X ι Δ s a Md Ty.dyn) (hgl : Gl X "isinstance" := by rfl) (hglT : Gl X Tn := by rfl)
    (hnT : Tn ≠ "__name__" := by decide) (hdT : (Tn == ("__debug__" : Str)) = false := by decide)
    (he : starEach (a :: [.Name Tn pT]) X.env = (false, eval a X.env) :: starEach [.Name Tn pT] X.env := by rfl) (he2 : starEach [.Name Tn pT] X.env = (false, eval (.Name Tn pT) X.env) :: starEach [] X.env := by rfl) (hpl : (backTo pos (starEach [.Name Tn pT] X.env)).any (·.1) = false := by rfl) :
    EX X ι Δ s (.Call (.Name "isinstance" p) [a, .Name Tn pT] [] pos) (fun k => Md fun y s1 => (isiY T y).bind fun b => k b s1) Ty.bool := by
  intro k r hk' σ H Hf A Q st q
  refine tE_of (pe_callB call_isi hgl hm Bo.isinstance (pa_cons (pE X a) (pa_cons (pe_bltn (v := .ty T) hglT hmT hT rfl hnT hdT) pa_nil he2) he) (by decide) (by decide) he hpl) ?_
  refine ha _ r hk' σ H Hf A _ st fun y s1 hx v H1 Hf1 st1 e1 r1 => ?_
  obtain ⟨b, hb, hx⟩ := bind_some hx
  unfold isiY at hb
  split at hb
  · cases hb
  · rename_i hd
    exact ⟨v, .ty T, _, _, b, rfl, .ty T, tyY_ok (by simpa using hd) X.K H1 v (r1.up st1.sub), kit_ty hb, q b s1 hx _ H1 Hf1 st1 e1 (.bl b)⟩
end
end Ab
namespace Ab
open PySem PySem.Spec PyProof.Rows L2
/-! ### lists of parts of several kinds -/
namespace Ty
abbrev q2 {α β : Type} (E : α → D) (F : β → D) : α × β → D := fun p => .list [E p.1, F p.2]
abbrev q3 {α β γ : Type} (E : α → D) (F : β → D) (G : γ → D) : α × β × γ → D := fun p => .list [E p.1, F p.2.1, G p.2.2]
abbrev q4 {α β γ δ : Type} (E : α → D) (F : β → D) (G : γ → D) (I : δ → D) : α × β × γ × δ → D := fun p => .list [E p.1, F p.2.1, G p.2.2.1, I p.2.2.2]
abbrev q5 {α β γ δ ε : Type} (E : α → D) (F : β → D) (G : γ → D) (I : δ → D) (J : ε → D) : α × β × γ × δ × ε → D := fun p => .list [E p.1, F p.2.1, G p.2.2.1, I p.2.2.2.1, J p.2.2.2.2]
end Ty
section
variable {X : Cx} {S : Type} {ι : Io S} {Δ : Dl} {s : S} {R : Type} {pos p : Pos} {a b c e tg : Expr} {k : Nat}
variable {α β γ : Type} {E : α → D} {F : β → D} {Ea : α → D} {Eb : β → D} {Ma : (α → S → Option R) → Option R}
theorem ex_lstQ {es : List Expr} {M : (α → S → Option R) → Option R} {G : α → List D} (h : AX X ι Δ s es M G) (hE : ∀ x, E x = .list (G x)) (hn : ∀ x, (G x).length ≤ Line := by intro _; decide) : EX X ι Δ s (.List es pos) M E := by
  intro k r hk σ H Hf A Q st q
  refine tE_of (pe_lst (pA X es)) (h _ r hk σ H Hf A _ st fun x s1 hx vs H1 Hf1 st1 e1 r1 => ⟨le_line (r1.len ▸ hn x), fun p np => ?_⟩)
  have ex := Ext.new (o := .lst vs) np st1.sub
  refine q _ s1 hx _ _ _ (st1.up ex (Sub.new st1.sub)) (e1.trans ex.toA) ?_
  rw [hE]
  exact .lst (.inl upd_same) (r1.len ▸ hn x) (r1.up ex.grow)
theorem gx_lst {ts : List Expr} {k : Nat} {ixs : List Nat} {b : α → Dl} {F : α → List D} (h : GXs X ι ts ixs b F) (he : ∀ x, E x = .list (F x)) (hl : ∀ x, (F x).length = (assignEach ts X.env).length) (hc : X.calm = true := by rfl)
    (hst : (assignEach ts X.env).findIdx? (·.1) = none := by rfl) : GX X ι (.Tuple ts k pos) ixs b E := by
  intro x v σ H Hf Δ A s Q st r q
  rw [he] at r
  cases r with
  | @lst a vs _ hs hz ra =>
    exact tG_of (pg_unl hc (pGs X ts) rfl hst) ⟨a, vs, rfl, .inl (st.sub.rd hs), ra.len.trans (hl x), h x vs σ H Hf Δ A s Q st ra q⟩
theorem ex_prjL {i : Int} (f : α → β) {F : α → List D} (hE : ∀ x, Ea x = .list (F x)) (hf : ∀ x, atI (F x) i = some (Eb (f x))) {j : Nat} {p' : Pos} (ha : EX X ι Δ s a Ma Ea) (hs : PlainIx (.Constant (.int i) j p') := by exact fun _ _ => rfl) :
    EX X ι Δ s (.Subscript a (.Constant (.int i) j p') pos) (fun k => Ma fun x s1 => k (f x) s1) Eb := by
  intro k r hk σ H Hf A Q st h
  refine tE_of (pe_ix L2.ix_list (pE X a) pe_int hs) (ha _ r hk σ H Hf A _ st fun x s1 hx v H1 Hf1 st1 e1 r1 => ?_)
  rw [hE] at r1
  cases r1 with
  | @lst p vs _ hs hl ra =>
    obtain ⟨u, h1, h2⟩ := atI_rp ra (hf x)
    exact ⟨p, vs, i, u, rfl, rfl, .inl (st1.sub.rd hs), h1, h _ s1 hx u H1 Hf1 st1 e1 h2⟩
end
end Ab
namespace Ab
open PySem PySem.Spec PyProof.Rows L2
/-! ### None or something, known to be something, within an expression -/
section
variable {X : Cx} {S : Type} {ι : Io S} {Δ : Dl} {s : S} {R : Type} {e : Expr} {α β : Type} {E : α → D} {F : β → D}
theorem lk_nar {i : Nat} {a : α} {s s' : S} (hl : lk (ι.tr s ++ Δ) i = some (.imm (Ty.opt E (some a)))) (hix : i ∉ ι.ix) : ∀ j T, lk (ι.tr s' ++ Δ) j = some T ↔ lk (ι.tr s' ++ iv i E a :: Δ) j = some T := fun j T => by
  by_cases z : j = i
  · subst z
    rw [lk_append_out (by rw [ι.keys]; exact hix)] at hl
    rw [lk_append_out (by rw [ι.keys]; exact hix), lk_append_out (by rw [ι.keys]; exact hix), lk_self, hl]
  · by_cases m : j ∈ (ι.tr s').map (·.1)
    · rw [lk_append_in (Δ := Δ) (Δ' := iv i E a :: Δ) m]
    · rw [lk_append_out m, lk_append_out m, lk_ne z]
theorem tx_narrow (i : Nat) {o : Option α} {M : α → (Bool → S → Option R) → Option R} (hl : lk (ι.tr s ++ Δ) i = some (.imm (Ty.opt E o))) (h : ∀ a, TX X ι (iv i E a :: Δ) s e (M a)) (hix : i ∉ ι.ix := by first | decide | exact of_decide_eq_true rfl) : TX X ι Δ s e (fun k => o.bind fun a => M a k) := by
  intro k r hk σ H Hf A Q st q
  obtain ⟨a, rfl, hk⟩ := bind_some hk
  exact h a k r hk σ H Hf A Q (st.weak fun j T => (lk_nar hl hix j T).mpr) fun x s' hx H' Hf' st' e' => q x s' hx H' Hf' (st'.weak fun j T => (lk_nar hl hix j T).mp) e'
theorem wx_narrow (i : Nat) {o : Option α} {M : α → (Bool → S → Option R) → Option R} (hl : lk (ι.tr s ++ Δ) i = some (.imm (Ty.opt E o))) (h : ∀ a, WX X ι (iv i E a :: Δ) s e (M a)) (hix : i ∉ ι.ix := by first | decide | exact of_decide_eq_true rfl) : WX X ι Δ s e (fun k => o.bind fun a => M a k) := by
  intro k r hk σ H Hf A Q st q
  obtain ⟨a, rfl, hk⟩ := bind_some hk
  exact h a k r hk σ H Hf A Q (st.weak fun j T => (lk_nar hl hix j T).mpr) fun x s' hx H' Hf' st' e' => q x s' hx H' Hf' (st'.weak fun j T => (lk_nar hl hix j T).mp) e'
theorem ex_narrow (i : Nat) {o : Option α} {M : α → (β → S → Option R) → Option R} (hl : lk (ι.tr s ++ Δ) i = some (.imm (Ty.opt E o))) (h : ∀ a, EX X ι (iv i E a :: Δ) s e (M a) F) (hix : i ∉ ι.ix := by first | decide | exact of_decide_eq_true rfl) : EX X ι Δ s e (fun k => o.bind fun a => M a k) F := by
  intro k r hk σ H Hf A Q st q
  obtain ⟨a, rfl, hk⟩ := bind_some hk
  exact h a k r hk σ H Hf A Q (st.weak fun j T => (lk_nar hl hix j T).mpr) fun x s' hx v H' Hf' st' e' => q x s' hx v H' Hf' (st'.weak fun j T => (lk_nar hl hix j T).mp) e'
theorem ex_unopt {M : (Option α → S → Option R) → Option R} (h : EX X ι Δ s e M (Ty.opt E)) : EX X ι Δ s e (fun k => M fun o s1 => o.bind fun a => k a s1) E := fun k r hk σ H Hf A Q st q => h _ r hk σ H Hf A Q st fun x s1 hx v H1 Hf1 st1 e1 r1 => by
  obtain ⟨a, rfl, h2⟩ := bind_some hx
  exact q a s1 h2 v H1 Hf1 st1 e1 r1
end
end Ab
namespace Ab
open PySem PySem.Spec PyProof.Rows L2
/-! ### max and min of ints -/
def maxI : List Int → Option Int | [] => none | n :: ns => some (ns.foldl max n)
def minI : List Int → Option Int | [] => none | n :: ns => some (ns.foldl min n)
theorem alike_ints (ns : List Int) : PySem.W.AlikeAll (ns.map PyData.int) := by
  refine ⟨fun x hx y hy => ?_, fun x hx => ?_⟩
  · obtain ⟨a, _, rfl⟩ := List.mem_map.mp hx
    obtain ⟨b, _, rfl⟩ := List.mem_map.mp hy
    rfl
  · obtain ⟨a, _, rfl⟩ := List.mem_map.mp hx
    nofun
theorem depth_ints : ∀ ns : List Int, PyData.depthAll (ns.map PyData.int) = 0
  | [] => rfl
  | n :: ns => by
    show max 0 (PyData.depthAll (ns.map PyData.int)) = 0
    rw [depth_ints ns]; rfl
theorem readsAll_ints {h : Heap} : ∀ {ns : List Int} {us : List Value}, Vals (ns.map V.int) us → ReadsAll h us (ns.map PyData.int) []
  | [], _, r => by cases r; exact .nil
  | n :: ns, _, r => by
    cases r with
    | cons a b =>
      obtain ⟨t, rfl⟩ := a
      exact ReadsAll.cons (.int n t) (readsAll_ints b)
section
variable {X : Cx} {k : Nat}
theorem call_maxA (hc : X.calm = true) (hr : Room k X.A) : CallR X (.builtin "max") (fun vs H Q => ∃ (a : Addr) (n : Int) (ns : List Int), vs = [V.ref a] ∧ SqA X.K H a ((n :: ns).map V.int) ∧ Q (.int (ns.foldl max n)) H) := by
  intro pins s σ H vs us Q I r h
  obtain ⟨a, n, ns, rfl, hs, q⟩ := h
  rw [Vals.ref1 r]
  have hu : X.A.units + 1 + PyData.depthAll ((n :: ns).map PyData.int) < cLine := by rw [depth_ints]; have := hr.un; omega
  have fin : ∀ (i : Nat) (v : Value) h' tk bs, Reads h' v (PySem.W.maxD (.int n) (ns.map .int)) bs → (∀ b o, s.heap.get? b = some o → h'.get? b = some o) → ∃ v' H', Inv X pins σ H' { s with heap := h', toks := tk } ∧ RelV v' v ∧ Q v' H' := fun i v h' tk bs rd hk => by
    rw [PySem.W.maxD_ints] at rd
    cases rd
    exact ⟨.int _, H, I.kept hk, ⟨_, rfl⟩, q⟩
  rcases hs with hs | hs
  · obtain ⟨its, rv, hl, _⟩ := I.list hs
    exact PySem.W.max_list_data (I.ok.hd hc) hl.isList (by simpa using readsAll_ints (h := s.heap) rv) (alike_ints (n :: ns)) hu fun i v h' tk bs _ rd hk => fin i v h' tk bs rd hk
  · obtain ⟨its, rv, hl, _⟩ := I.tuple hs
    exact PySem.W.max_tuple_data (I.ok.hd hc) (show s.heap.IsTuple a its.toArray from hl) (by simpa using readsAll_ints (h := s.heap) rv) (alike_ints (n :: ns)) hu fun i v h' tk bs _ rd hk => fin i v h' tk bs rd hk
theorem call_minA (hc : X.calm = true) (hr : Room k X.A) : CallR X (.builtin "min") (fun vs H Q => ∃ (a : Addr) (n : Int) (ns : List Int), vs = [V.ref a] ∧ SqA X.K H a ((n :: ns).map V.int) ∧ Q (.int (ns.foldl min n)) H) := by
  intro pins s σ H vs us Q I r h
  obtain ⟨a, n, ns, rfl, hs, q⟩ := h
  rw [Vals.ref1 r]
  have hu : X.A.units + 1 + PyData.depthAll ((n :: ns).map PyData.int) < cLine := by rw [depth_ints]; have := hr.un; omega
  have fin : ∀ (i : Nat) (v : Value) h' tk bs, Reads h' v (PySem.W.minD (.int n) (ns.map .int)) bs → (∀ b o, s.heap.get? b = some o → h'.get? b = some o) → ∃ v' H', Inv X pins σ H' { s with heap := h', toks := tk } ∧ RelV v' v ∧ Q v' H' := fun i v h' tk bs rd hk => by
    rw [PySem.W.minD_ints] at rd
    cases rd
    exact ⟨.int _, H, I.kept hk, ⟨_, rfl⟩, q⟩
  rcases hs with hs | hs
  · obtain ⟨its, rv, hl, _⟩ := I.list hs
    exact PySem.W.min_list_data (I.ok.hd hc) hl.isList (by simpa using readsAll_ints (h := s.heap) rv) (alike_ints (n :: ns)) hu fun i v h' tk bs _ rd hk => fin i v h' tk bs rd hk
  · obtain ⟨its, rv, hl, _⟩ := I.tuple hs
    exact PySem.W.min_tuple_data (I.ok.hd hc) (show s.heap.IsTuple a its.toArray from hl) (by simpa using readsAll_ints (h := s.heap) rv) (alike_ints (n :: ns)) hu fun i v h' tk bs _ rd hk => fin i v h' tk bs rd hk
end
section
variable {X : Cx} {S : Type} {ι : Io S} {Δ : Dl} {s : S} {R : Type} {a : Expr} {k : Nat} {p pos : Pos} {Ml : (List Int → S → Option R) → Option R}
theorem ex_callA {fn : String} {w : Str} {mI : List Int → Option Int} {g : Int → List Int → Int} (hcall : CallR X (.builtin fn) (fun vs H Q => ∃ (a : Addr) (n : Int) (ns : List Int), vs = [V.ref a] ∧ SqA X.K H a ((n :: ns).map V.int) ∧ Q (.int (g n ns)) H))
    (h0 : mI [] = none) (h1 : ∀ n ns, mI (n :: ns) = some (g n ns)) (hm : X.mg w = none) (hb : bootBuiltins w = some (.builtin fn)) (E : List Int → D) (hE : (∀ l, E l = .list (l.map PyData.int)) ∨ (∀ l, E l = .tuple (l.map PyData.int))) (ha : EX X ι Δ s a Ml E) (hgl : Gl X w := by rfl)
    (hd1 : w ≠ "__name__" := by decide) (hd2 : (w == ("__debug__" : Str)) = false := by decide) (he : starEach [a] X.env = (false, eval a X.env) :: starEach [] X.env := by rfl) :
    EX X ι Δ s (.Call (.Name w p) [a] [] pos) (fun k => Ml fun l s1 => (mI l).bind fun m => k m s1) Ty.int := by
  intro k r hk σ H Hf A Q st q
  refine tE_of (pe_callB hcall hgl hm hb (pa_cons (pE X a) pa_nil he) hd1 hd2 he rfl) (ha _ r hk σ H Hf A _ st fun l s1 hx v H1 Hf1 st1 e1 r1 => ?_)
  obtain ⟨m, hm', hx⟩ := bind_some hx
  cases l with
  | nil => rw [h0] at hm'; cases hm'
  | cons n ns =>
    rw [h1] at hm'
    cases hm'
    have sq : ∃ ad, v = .ref ad ∧ SqA X.K H1 ad ((n :: ns).map V.int) := by
      rcases hE with hE | hE
      · rw [hE] at r1
        cases r1 with
        | @lst ad vs _ hs hz ra =>
          refine ⟨ad, rfl, .inl (.inl ?_)⟩
          rw [← ra.ints]; exact st1.sub.rd hs
      · rw [hE] at r1
        cases r1 with
        | @tup ad vs _ hs hz ra =>
          refine ⟨ad, rfl, .inr ?_⟩
          rw [← ra.ints]; exact st1.sub.tup hs
    obtain ⟨ad, rfl, sq⟩ := sq
    exact ⟨ad, n, ns, rfl, sq, q _ s1 hx _ H1 Hf1 st1 e1 (.int _)⟩
theorem ex_maxT (hc : X.calm = true) (hr : Room k X.A) (hm : X.mg "max" = none) (ha : EX X ι Δ s a Ml (Ty.tup Ty.int)) (hgl : Gl X "max" := by rfl) (he : starEach [a] X.env = (false, eval a X.env) :: starEach [] X.env := by rfl) :
    EX X ι Δ s (.Call (.Name "max" p) [a] [] pos) (fun k => Ml fun l s1 => (maxI l).bind fun m => k m s1) Ty.int := ex_callA (call_maxA hc hr) rfl (fun _ _ => rfl) hm Bo.max _ (.inr fun _ => rfl) ha hgl (by decide) (by decide) he
theorem ex_maxL (hc : X.calm = true) (hr : Room k X.A) (hm : X.mg "max" = none) (ha : EX X ι Δ s a Ml (Ty.lst Ty.int)) (hgl : Gl X "max" := by rfl) (he : starEach [a] X.env = (false, eval a X.env) :: starEach [] X.env := by rfl) :
    EX X ι Δ s (.Call (.Name "max" p) [a] [] pos) (fun k => Ml fun l s1 => (maxI l).bind fun m => k m s1) Ty.int := ex_callA (call_maxA hc hr) rfl (fun _ _ => rfl) hm Bo.max _ (.inl fun _ => rfl) ha hgl (by decide) (by decide) he
theorem ex_minT (hc : X.calm = true) (hr : Room k X.A) (hm : X.mg "min" = none) (ha : EX X ι Δ s a Ml (Ty.tup Ty.int)) (hgl : Gl X "min" := by rfl) (he : starEach [a] X.env = (false, eval a X.env) :: starEach [] X.env := by rfl) :
    EX X ι Δ s (.Call (.Name "min" p) [a] [] pos) (fun k => Ml fun l s1 => (minI l).bind fun m => k m s1) Ty.int := ex_callA (call_minA hc hr) rfl (fun _ _ => rfl) hm Bo.min _ (.inr fun _ => rfl) ha hgl (by decide) (by decide) he
theorem ex_minL (hc : X.calm = true) (hr : Room k X.A) (hm : X.mg "min" = none) (ha : EX X ι Δ s a Ml (Ty.lst Ty.int)) (hgl : Gl X "min" := by rfl) (he : starEach [a] X.env = (false, eval a X.env) :: starEach [] X.env := by rfl) :
    EX X ι Δ s (.Call (.Name "min" p) [a] [] pos) (fun k => Ml fun l s1 => (minI l).bind fun m => k m s1) Ty.int := ex_callA (call_minA hc hr) rfl (fun _ _ => rfl) hm Bo.min _ (.inl fun _ => rfl) ha hgl (by decide) (by decide) he
end
end Ab
namespace Ab
open PySem PySem.Spec PyProof.Rows L2
/-! ### sums over two elements -/
section
variable {α β : Type}
def xs (f : α → Bool) : List α → Bool
  | [] => false
  | c :: l => f c ^^ xs f l
theorem xs_congr {f g : α → Bool} : ∀ {l : List α}, (∀ x ∈ l, f x = g x) → xs f l = xs g l
  | [], _ => rfl
  | c :: l, h => by
    unfold xs
    rw [h c List.mem_cons_self, xs_congr fun x hx => h x (List.mem_cons_of_mem _ hx)]
theorem xs_xor (f g : α → Bool) : ∀ l : List α, xs (fun x => f x ^^ g x) l = (xs f l ^^ xs g l)
  | [] => rfl
  | c :: l => by
    unfold xs
    rw [xs_xor f g l]
    cases f c <;> cases g c <;> cases xs f l <;> cases xs g l <;> rfl
theorem xs_and (s : Bool) (f : α → Bool) : ∀ l : List α, xs (fun x => s && f x) l = (s && xs f l)
  | [] => by cases s <;> rfl
  | c :: l => by
    unfold xs
    rw [xs_and s f l]
    cases s <;> cases f c <;> cases xs f l <;> rfl
theorem xs_zero {f : α → Bool} {l : List α} (h : ∀ x ∈ l, f x = false) : xs f l = false := by
  induction l with
  | nil => rfl
  | cons c l ih =>
    unfold xs
    rw [h c List.mem_cons_self, ih fun x hx => h x (List.mem_cons_of_mem _ hx)]
    rfl
theorem xs_one [DecidableEq α] {f : α → Bool} {p : α} : ∀ {l : List α}, l.Nodup → p ∈ l → xs (fun r => decide (r = p) && f r) l = f p
  | c :: l, nd, m => by
    rw [List.nodup_cons] at nd
    unfold xs
    by_cases e : c = p
    · subst e
      rw [xs_zero fun x hx => ?_]
      · simp
      · have : ¬ x = c := fun z => nd.1 (z ▸ hx)
        simp [this]
    · rw [xs_one nd.2 ((List.mem_cons.mp m).resolve_left fun z => e z.symm)]
      simp [e]
theorem xs_map (f : β → Bool) (g : α → β) : ∀ l : List α, xs f (l.map g) = xs (fun x => f (g x)) l
  | [] => rfl
  | c :: l => by
    show (f (g c) ^^ xs f (l.map g)) = _
    rw [xs_map f g l]; rfl
theorem xs_filter (f q : α → Bool) : ∀ l : List α, xs f (l.filter q) = xs (fun x => q x && f x) l
  | [] => rfl
  | c :: l => by
    rw [List.filter_cons]
    split
    · rename_i h
      unfold xs
      rw [xs_filter f q l, h]
      rfl
    · rename_i h
      have h' : q c = false := by simpa using h
      rw [xs_filter f q l]
      show _ = (q c && f c ^^ xs (fun x => q x && f x) l)
      rw [h']
      cases xs (fun x => q x && f x) l <;> rfl
theorem par_xs (p : Int → Bool) : ∀ l : List Int, par p l = xs p l
  | [] => rfl
  | c :: l => by
    have ih := par_xs p l
    unfold par at ih ⊢
    unfold xs
    rw [List.filter_cons]
    split
    · rename_i h
      rw [h, ← ih, List.length_cons]
      rcases Nat.mod_two_eq_zero_or_one (l.filter p).length with e | e
      · rw [show ((l.filter p).length + 1) % 2 = 1 by omega, e]; rfl
      · rw [show ((l.filter p).length + 1) % 2 = 0 by omega, e]; rfl
    · rename_i h
      have h' : p c = false := by simpa using h
      rw [h', ih]
      cases xs p l <;> rfl
/-- equations over two elements have a solution, or a sum of them says 0 = 1 -/
theorem fredholm {ρ : Type} [DecidableEq ρ] (rows : List ρ) (nr : rows.Nodup) : ∀ (cols : List Int), cols.Nodup → ∀ (a : ρ → Int → Bool) (b : ρ → Bool),
    (∃ x : Int → Bool, ∀ r ∈ rows, xs (fun c => a r c && x c) cols = b r) ∨
    ∃ y : ρ → Bool, (∀ c ∈ cols, xs (fun r => a r c && y r) rows = false) ∧ xs (fun r => b r && y r) rows = true
  | [], _, a, b => by
    by_cases h : ∃ r ∈ rows, b r = true
    · obtain ⟨r, hr, hb⟩ := h
      refine .inr ⟨fun z => decide (z = r), fun c hc => by simp at hc, ?_⟩
      have := xs_one (f := b) nr hr
      rw [hb] at this
      rw [← this]
      exact xs_congr fun x _ => Bool.and_comm _ _
    · refine .inl ⟨fun _ => false, fun r hr => ?_⟩
      cases e : b r with
      | false => rfl
      | true => exact absurd ⟨r, hr, e⟩ h
  | c :: cs, nc, a, b => by
    rw [List.nodup_cons] at nc
    by_cases hp : ∃ p ∈ rows, a p c = true
    · obtain ⟨p, hp, hpc⟩ := hp
      have key : ∀ (d : Int) (y : ρ → Bool), xs (fun r => (a r d ^^ (a r c && a p d)) && y r) rows = (xs (fun r => a r d && y r) rows ^^ (a p d && xs (fun r => a r c && y r) rows)) := fun d y => by
        rw [← xs_and, ← xs_xor]
        exact xs_congr fun x _ => by cases a x d <;> cases a x c <;> cases a p d <;> cases y x <;> rfl
      have keyb : ∀ (y : ρ → Bool), xs (fun r => (b r ^^ (a r c && b p)) && y r) rows = (xs (fun r => b r && y r) rows ^^ (b p && xs (fun r => a r c && y r) rows)) := fun y => by
        rw [← xs_and, ← xs_xor]
        exact xs_congr fun x _ => by cases b x <;> cases a x c <;> cases b p <;> cases y x <;> rfl
      rcases fredholm rows nr cs nc.2 (fun r d => a r d ^^ (a r c && a p d)) (fun r => b r ^^ (a r c && b p)) with ⟨x, hx⟩ | ⟨y, h1, h2⟩
      · refine .inl ⟨fun d => if d = c then b p ^^ xs (fun d => a p d && x d) cs else x d, fun r hr => ?_⟩
        show (a r c && (if c = c then b p ^^ xs (fun d => a p d && x d) cs else x c) ^^ xs (fun d => a r d && (if d = c then b p ^^ xs (fun d => a p d && x d) cs else x d)) cs) = b r
        rw [if_pos rfl]
        have e1 : xs (fun d => a r d && (if d = c then b p ^^ xs (fun d => a p d && x d) cs else x d)) cs = xs (fun d => a r d && x d) cs := xs_congr fun d hd => by
          have : d ≠ c := fun z => nc.1 (z ▸ hd)
          rw [if_neg this]
        rw [e1]
        have e2 := hx r hr
        have e3 : xs (fun d => (a r d ^^ (a r c && a p d)) && x d) cs = (xs (fun d => a r d && x d) cs ^^ (a r c && xs (fun d => a p d && x d) cs)) := by
          rw [← xs_and, ← xs_xor]
          exact xs_congr fun d _ => by cases a r d <;> cases a r c <;> cases a p d <;> cases x d <;> rfl
        rw [e3] at e2
        revert e2
        cases a r c <;> cases b p <;> cases xs (fun d => a p d && x d) cs <;> cases xs (fun d => a r d && x d) cs <;> cases b r <;> simp
      · have one : ∀ (f : ρ → Bool) (s : Bool), xs (fun r => f r && (y r ^^ (s && decide (r = p)))) rows = (xs (fun r => f r && y r) rows ^^ (s && f p)) := fun f s => by
          have e := xs_one (f := f) nr hp
          rw [← e, ← xs_and, ← xs_xor]
          exact xs_congr fun r _ => by cases f r <;> cases y r <;> cases s <;> cases decide (r = p) <;> rfl
        refine .inr ⟨fun r => y r ^^ (xs (fun r => a r c && y r) rows && decide (r = p)), fun d hd => ?_, ?_⟩
        · rw [one]
          rcases List.mem_cons.mp hd with rfl | hd
          · rw [hpc]; cases xs (fun r => a r d && y r) rows <;> rfl
          · have := h1 d hd
            rw [key] at this
            revert this
            cases xs (fun r => a r d && y r) rows <;> cases a p d <;> cases xs (fun r => a r c && y r) rows <;> simp
        · rw [one]
          rw [keyb] at h2
          revert h2
          cases xs (fun r => b r && y r) rows <;> cases b p <;> cases xs (fun r => a r c && y r) rows <;> simp
    · have z : ∀ r ∈ rows, a r c = false := fun r hr => by
        cases e : a r c with
        | false => rfl
        | true => exact absurd ⟨r, hr, e⟩ hp
      rcases fredholm rows nr cs nc.2 a b with ⟨x, hx⟩ | ⟨y, h1, h2⟩
      · refine .inl ⟨x, fun r hr => ?_⟩
        unfold xs
        rw [z r hr, hx r hr]
        cases b r <;> rfl
      · refine .inr ⟨y, fun d hd => ?_, h2⟩
        rcases List.mem_cons.mp hd with rfl | hd
        · exact xs_zero fun r hr => by rw [z r hr]; rfl
        · exact h1 d hd
end
end Ab
namespace Ab
open PySem PySem.Spec PyProof.Rows L2
/-! ### parts of a rising list, by masks of places -/
def atD (C : List Int) (i : Int) : Int := C.getD i.toNat 0
def sel (C : List Int) (x : Nat) : List Int := (membL x).map (atD C)
/-- the places at which p holds -/
def plc (p : Int → Bool) (C : List Int) : List Int := ((enumL C).filter fun q => p q.2).map fun q => q.1
theorem enum_fst (C : List Int) : (enumL C).map (fun q => q.1) = rangeL 0 C.length := by
  refine List.ext_getElem? fun j => ?_
  rw [List.getElem?_map]
  unfold enumL
  rw [enumF_get]
  unfold rangeL
  rw [List.getElem?_map]
  cases h : C[j]? with
  | none =>
    have := List.getElem?_eq_none_iff.mp h
    rw [List.getElem?_eq_none (by rw [List.length_range]; exact this)]; rfl
  | some c =>
    have := (List.getElem?_eq_some_iff.mp h).1
    rw [List.getElem?_range this]
    simp
theorem mem_plc {p : Int → Bool} {C : List Int} {i : Int} : i ∈ plc p C ↔ ∃ j : Nat, ∃ c, i = j ∧ C[j]? = some c ∧ p c = true := by
  unfold plc
  rw [List.mem_map]
  constructor
  · rintro ⟨q, h, rfl⟩
    rw [List.mem_filter] at h
    obtain ⟨j, hj⟩ := List.getElem?_of_mem h.1
    obtain ⟨h1, h2⟩ := enumL_get hj
    exact ⟨j, q.2, h1, h2, h.2⟩
  · rintro ⟨j, c, rfl, h1, h2⟩
    refine ⟨((j : Int), c), ?_, rfl⟩
    rw [List.mem_filter]
    refine ⟨?_, h2⟩
    refine List.mem_of_getElem? (i := j) ?_
    unfold enumL
    rw [enumF_get, h1]
    simp
theorem plc_SL (p : Int → Bool) (C : List Int) : SL (plc p C) := by
  refine SL.sub (rangeL_SL 0 C.length) ?_
  rw [← enum_fst]
  exact List.Sublist.map _ List.filter_sublist
theorem plc_in {p : Int → Bool} {C : List Int} : Within (plc p C) C.length := fun i h => by
  obtain ⟨j, c, rfl, h1, _⟩ := mem_plc.mp h
  have := (List.getElem?_eq_some_iff.mp h1).1
  omega
theorem plc_len (p : Int → Bool) (C : List Int) : (plc p C).length ≤ C.length := by
  unfold plc
  rw [List.length_map]
  refine Nat.le_trans (List.length_filter_le _ _) ?_
  have := congrArg List.length (enum_fst C)
  rw [List.length_map, rangeL_len] at this
  omega
theorem atD_get {C : List Int} {j : Nat} {c : Int} (h : C[j]? = some c) : atD C j = c := by
  unfold atD
  rw [List.getD_eq_getElem?_getD, show ((j : Int).toNat) = j from rfl, h]; rfl
theorem mem_memb {x k : Nat} {i : Int} (hx : x < 2 ^ k) (hk : k ≤ 62) : i ∈ membL x ↔ ∃ j : Nat, i = j ∧ j < k ∧ x.testBit j = true := by
  rw [mem_membL (Nat.lt_of_lt_of_le hx (Nat.pow_le_pow_right (by decide) (by omega)))]
  constructor
  · rintro ⟨h1, h2⟩
    refine ⟨i.toNat, by omega, ?_, h2⟩
    apply Classical.byContradiction
    intro hc
    rw [Nat.testBit_lt_two_pow (Nat.lt_of_lt_of_le hx (Nat.pow_le_pow_right (by decide) (by omega)))] at h2
    cases h2
  · rintro ⟨j, rfl, _, h⟩
    exact ⟨by omega, h⟩
theorem mem_sel {C : List Int} {x : Nat} {c : Int} (hx : x < 2 ^ C.length) (hk : C.length ≤ 62) : c ∈ sel C x ↔ ∃ j : Nat, C[j]? = some c ∧ x.testBit j = true := by
  unfold sel
  rw [List.mem_map]
  constructor
  · rintro ⟨i, h, rfl⟩
    obtain ⟨j, rfl, hj, hb⟩ := (mem_memb hx hk).mp h
    exact ⟨j, by rw [atD_get (List.getElem?_eq_getElem hj)]; exact List.getElem?_eq_getElem hj, hb⟩
  · rintro ⟨j, h, hb⟩
    exact ⟨j, (mem_memb hx hk).mpr ⟨j, rfl, (List.getElem?_eq_some_iff.mp h).1, hb⟩, atD_get h⟩
theorem SL.lt_get {C : List Int} (h : SL C) {i j : Nat} {a b : Int} (hi : C[i]? = some a) (hj : C[j]? = some b) (hij : i < j) : a < b := by
  obtain ⟨h1, rfl⟩ := List.getElem?_eq_some_iff.mp hi
  obtain ⟨h2, rfl⟩ := List.getElem?_eq_some_iff.mp hj
  exact List.pairwise_iff_getElem.mp h i j h1 h2 hij
theorem SL.get_inj {C : List Int} (h : SL C) {i j : Nat} {a : Int} (hi : C[i]? = some a) (hj : C[j]? = some a) : i = j := by
  rcases Nat.lt_trichotomy i j with z | z | z
  · have := h.lt_get hi hj z; omega
  · exact z
  · have := h.lt_get hj hi z; omega
theorem sel_SL {C : List Int} (hC : SL C) {x : Nat} (hx : x < 2 ^ C.length) (hk : C.length ≤ 62) : SL (sel C x) := by
  unfold sel SL
  rw [List.pairwise_map]
  refine List.Pairwise.imp_of_mem (fun {a b} ha hb hab => ?_) (membL_SL x)
  obtain ⟨i, rfl, hi, _⟩ := (mem_memb hx hk).mp ha
  obtain ⟨j, rfl, hj, _⟩ := (mem_memb hx hk).mp hb
  rw [atD_get (List.getElem?_eq_getElem hi), atD_get (List.getElem?_eq_getElem hj)]
  exact hC.lt_get (List.getElem?_eq_getElem hi) (List.getElem?_eq_getElem hj) (by omega)
theorem sel_sub {C : List Int} {x : Nat} (hx : x < 2 ^ C.length) (hk : C.length ≤ 62) {c : Int} (h : c ∈ sel C x) : c ∈ C := by
  obtain ⟨j, h, _⟩ := (mem_sel hx hk).mp h
  exact List.mem_of_getElem? h
/-- the mask of the places at which p holds -/
theorem mask_plc {C : List Int} (p : Int → Bool) (hk : C.length ≤ 62) : maskL (plc p C) < 2 ^ C.length ∧ ∀ j : Nat, (maskL (plc p C)).testBit j = true ↔ ∃ c, C[j]? = some c ∧ p c = true := by
  obtain ⟨h1, h2⟩ := mask_bits C.length (plc p C) (plc_SL p C) plc_in
  refine ⟨h1, fun j => ?_⟩
  rw [h2, decide_eq_true_eq, mem_plc]
  constructor
  · rintro ⟨i, c, e, h3, h4⟩
    have : j = i := by omega
    subst this
    exact ⟨c, h3, h4⟩
  · rintro ⟨c, h3, h4⟩
    exact ⟨j, c, rfl, h3, h4⟩
theorem sel_plc {C : List Int} (hC : SL C) (p : Int → Bool) (hk : C.length ≤ 62) : sel C (maskL (plc p C)) = C.filter p := by
  obtain ⟨h1, h2⟩ := mask_plc p hk
  refine SL.ext (sel_SL hC h1 hk) (hC.filter _) fun c => ?_
  rw [mem_sel h1 hk, List.mem_filter]
  constructor
  · rintro ⟨j, h3, h4⟩
    obtain ⟨c', h5, h6⟩ := (h2 j).mp h4
    rw [h3] at h5
    cases h5
    exact ⟨List.mem_of_getElem? h3, h6⟩
  · rintro ⟨h3, h4⟩
    obtain ⟨j, hj⟩ := List.getElem?_of_mem h3
    exact ⟨j, hj, (h2 j).mpr ⟨c, hj, h4⟩⟩
theorem dot_plc {C : List Int} (p : Int → Bool) {x : Nat} (hx : x < 2 ^ C.length) (hk : C.length ≤ 62) : dot (maskL (plc p C)) x = xs p (sel C x) := by
  obtain ⟨w, e⟩ := memb_mask (k := C.length) hx (by omega)
  have h := par_dot (k := C.length) (membL_SL x) (plc_SL p C) w plc_in (by omega)
  rw [e, dot_comm] at h
  rw [← h, par_xs]
  unfold sel
  rw [xs_map]
  refine xs_congr fun i hi => ?_
  obtain ⟨j, rfl, hj, hb⟩ := (mem_memb hx hk).mp hi
  have hg := List.getElem?_eq_getElem hj
  rw [atD_get hg, Bool.eq_iff_iff, decide_eq_true_eq, mem_plc]
  constructor
  · rintro ⟨i, c, e, h3, h4⟩
    have : j = i := by omega
    subst this
    rw [hg] at h3
    cases h3
    exact h4
  · intro h4
    exact ⟨j, _, rfl, hg, h4⟩
/-- the lighter mask is the lighter set -/
theorem sel_less {C : List Int} (hC : SL C) (hk : C.length ≤ 62) {x t : Nat} (hx : x < 2 ^ C.length) (ht : t < 2 ^ C.length)
    (h : (∀ j, j < C.length → x.testBit j = t.testBit j) ∨ ∃ i, i < C.length ∧ t.testBit i = false ∧ x.testBit i = true ∧ ∀ j, j < i → x.testBit j = t.testBit j) :
    sel C x = sel C t ∨ ∃ c ∈ C, c ∉ sel C t ∧ c ∈ sel C x ∧ ∀ d, d < c → (d ∈ sel C t ↔ d ∈ sel C x) := by
  rcases h with h | ⟨i, h1, h2, h3, h4⟩
  · left
    refine SL.ext (sel_SL hC hx hk) (sel_SL hC ht hk) fun c => ?_
    rw [mem_sel hx hk, mem_sel ht hk]
    constructor
    · rintro ⟨j, a, b⟩; exact ⟨j, a, by rw [← h j (List.getElem?_eq_some_iff.mp a).1]; exact b⟩
    · rintro ⟨j, a, b⟩; exact ⟨j, a, by rw [h j (List.getElem?_eq_some_iff.mp a).1]; exact b⟩
  · right
    have hg := List.getElem?_eq_getElem h1
    refine ⟨_, List.mem_of_getElem? hg, fun m => ?_, (mem_sel hx hk).mpr ⟨i, hg, h3⟩, fun d hd => ?_⟩
    · obtain ⟨j, a, b⟩ := (mem_sel ht hk).mp m
      have := hC.get_inj a hg
      subst this
      rw [h2] at b; cases b
    · rw [mem_sel hx hk, mem_sel ht hk]
      have low : ∀ j, C[j]? = some d → j < i := fun j hj => by
        rcases Nat.lt_trichotomy i j with z | z | z
        · have := hC.lt_get hg hj z; omega
        · subst z; rw [hg] at hj; cases hj; omega
        · exact z
      constructor
      · rintro ⟨j, a, b⟩; exact ⟨j, a, by rw [h4 j (low j a)]; exact b⟩
      · rintro ⟨j, a, b⟩; exact ⟨j, a, by rw [← h4 j (low j a)]; exact b⟩
end Ab
namespace Ab
open PySem PySem.Spec PyProof.Rows L2
/-! ### corrections and barriers, without any program -/
theorem xs_perm {α : Type} {f : α → Bool} {a b : List α} (h : a.Perm b) : xs f a = xs f b := by
  induction h with
  | nil => rfl
  | cons x _ ih => unfold xs; rw [ih]
  | swap x y l => unfold xs; unfold xs; cases f x <;> cases f y <;> cases xs f l <;> rfl
  | trans _ _ h1 h2 => exact h1.trans h2
theorem xs_append {α : Type} {f : α → Bool} : ∀ a b : List α, xs f (a ++ b) = (xs f a ^^ xs f b)
  | [], b => by show xs f b = (false ^^ xs f b); cases xs f b <;> rfl
  | c :: a, b => by
    show (f c ^^ xs f (a ++ b)) = _
    rw [xs_append a b]
    show _ = ((f c ^^ xs f a) ^^ xs f b)
    cases f c <;> cases xs f a <;> cases xs f b <;> rfl
def pl (g : Gr) (v : Int) : Str := (atI g.2.2.2.2 v).getD ""
structure Gd (g : Gr) : Prop extends Good g where
  n2 : g.1 ≤ 30
  pn : g.2.2.2.2.length = g.1.toNat
  po : ∀ v ∈ g.2.2.2.1, pl g v = ""
  pp : ∀ v, 0 ≤ v → v < g.1 → v ∉ g.2.2.2.1 → pl g v = "XY" ∨ (v ∉ g.2.2.1 ∧ (pl g v = "XZ" ∨ pl g v = "YZ"))
theorem atI_in {α : Type} {l : List α} {i : Int} (h0 : 0 ≤ i) (h : i < l.length) : ∃ x, atI l i = some x ∧ l[i.toNat]? = some x := by
  have hi : i.toNat < l.length := by omega
  refine ⟨l[i.toNat], ?_, List.getElem?_eq_getElem hi⟩
  unfold atI
  have : ixN l.length i = some i.toNat := by
    unfold ixN
    rw [if_pos h0, if_pos h]
  rw [this]
  exact List.getElem?_eq_getElem hi
theorem Gd.pl_at {g : Gr} (G : Gd g) {v : Int} (h0 : 0 ≤ v) (h : v < g.1) : atI g.2.2.2.2 v = some (pl g v) := by
  obtain ⟨x, hx, _⟩ := atI_in (l := g.2.2.2.2) h0 (by rw [G.pn]; omega)
  unfold pl
  rw [hx]; rfl
def nee (g : Gr) (v : Int) : Bool := memB (pl g v) [("XZ" : Str), ("YZ" : Str)]
def odn (g : Gr) (v : Int) : Bool := memB (pl g v) [("XY" : Str), ("XZ" : Str)]
def isy (g : Gr) (v : Int) : Bool := decide (pl g v = ("YZ" : Str))
theorem Gd.odn_isy {g : Gr} (G : Gd g) {v : Int} (h0 : 0 ≤ v) (h : v < g.1) (ho : v ∉ g.2.2.2.1) : odn g v = !isy g v := by
  unfold odn isy
  rcases G.pp v h0 h ho with e | ⟨_, e | e⟩ <;> rw [e] <;> decide +kernel
theorem Gd.nee_in {g : Gr} (G : Gd g) {v : Int} (h0 : 0 ≤ v) (h : v < g.1) (ho : v ∉ g.2.2.2.1) (hn : nee g v = true) : v ∉ g.2.2.1 := by
  rcases G.pp v h0 h ho with e | ⟨h1, _⟩
  · unfold nee at hn
    rw [e] at hn
    exact absurd hn (by decide +kernel)
  · exact h1
def adj (g : Gr) (x u : Int) : Bool := decide (x ∈ nbr g u)
theorem adj_sym (g : Gr) (x u : Int) : adj g x u = adj g u x := by
  unfold adj
  rw [Bool.eq_iff_iff, decide_eq_true_eq, decide_eq_true_eq]
  exact nbr_sym
theorem Gd.adj_self {g : Gr} (G : Gd g) (x : Int) : adj g x x = false := by
  unfold adj
  rw [decide_eq_false_iff_not, mem_nbr]
  rintro (h | h)
  · have := G.eb _ h; omega
  · have := G.eb _ h; omega
theorem Gd.mem_oddX {g : Gr} (G : Gd g) {l : List Int} {x : Int} : x ∈ oddS g l ↔ xs (adj g x) l = true := by
  rw [G.toGood.mem_odd, par_xs]; rfl
theorem Gd.out_SL {g : Gr} (G : Gd g) : SL g.2.2.2.1 := (rangeL_SL 0 g.1.toNat).sub G.out
theorem Gd.out_in {g : Gr} (G : Gd g) {x : Int} (h : x ∈ g.2.2.2.1) : 0 ≤ x ∧ x < g.1 := mem_range0.mp (G.out.mem h)
theorem Gd.ins_in {g : Gr} (G : Gd g) {x : Int} (h : x ∈ g.2.2.1) : 0 ≤ x ∧ x < g.1 := mem_range0.mp (G.ins.mem h)
theorem Gd.ins_SL {g : Gr} (G : Gd g) : SL g.2.2.1 := (rangeL_SL 0 g.1.toNat).sub G.ins
structure Does (g : Gr) (v : Int) (S : List Int) (L : Int → Prop) : Prop where
  inp : ∀ x ∈ S, x ∉ g.2.2.1
  own : v ∈ S ↔ nee g v = true
  odd : v ∈ oddS g S ↔ odn g v = true
  lat : ∀ x ∈ S, x = v ∨ L x
  lao : ∀ x ∈ oddS g S, x = v ∨ L x
theorem Does.mono {g : Gr} {v : Int} {S : List Int} {L L' : Int → Prop} (h : Does g v S L) (k : ∀ x, L x → L' x) : Does g v S L' :=
  ⟨h.inp, h.own, h.odd, fun x hx => (h.lat x hx).imp id (k x), fun x hx => (h.lao x hx).imp id (k x)⟩
def Corr (g : Gr) (v : Int) (S : List Int) (L : Int → Prop) : Prop := SL S ∧ Within S g.1 ∧ Does g v S L
theorem Corr.mono {g : Gr} {v : Int} {S : List Int} {L L' : Int → Prop} (h : Corr g v S L) (k : ∀ x, L x → L' x) : Corr g v S L' := ⟨h.1, h.2.1, h.2.2.mono k⟩
/-- the columns -/
def colC (g : Gr) (later : List Int) : List Int := later.filter fun x => !decide (x ∈ g.2.2.1)
def mkC (g : Gr) (v : Int) (T : List Int) : List Int := sortI (if nee g v = true then T ++ [v] else T)
theorem mem_mkC {g : Gr} {v : Int} {T : List Int} {x : Int} : x ∈ mkC g v T ↔ x ∈ T ∨ (nee g v = true ∧ x = v) := by
  unfold mkC
  rw [mem_sortI]
  split
  · rename_i h; simp [h]
  · rename_i h; simp [h]
def bitC (g : Gr) (v u : Int) : Bool := (decide (u = v) && !isy g v) ^^ (nee g v && adj g u v)
/-- what the equations say of a part T of the columns -/
def RowsT (g : Gr) (v : Int) (later T : List Int) : Prop := ∀ u, 0 ≤ u → u < g.1 → u ∉ later → xs (adj g u) T = bitC g v u
theorem xs_mkC {g : Gr} {v : Int} {T : List Int} (f : Int → Bool) : xs f (mkC g v T) = (xs f T ^^ (nee g v && f v)) := by
  unfold mkC
  rw [xs_perm (sortI_perm _)]
  split
  · rename_i h
    rw [xs_append, h]
    show (_ ^^ (f v ^^ false)) = _
    cases xs f T <;> cases f v <;> rfl
  · rename_i h
    have h' : nee g v = false := by simpa using h
    rw [h']; cases xs f T <;> rfl
section
variable {g : Gr} (G : Gd g) {v : Int} {later : List Int} (h0 : 0 ≤ v) (h1 : v < g.1) (ho : v ∉ g.2.2.2.1) (hl : SL later) (hw : Within later g.1) (hv : v ∉ later)
include G h0 h1 ho hl hw hv
theorem corr_of {T : List Int} (hT : SL T) (hs : ∀ x ∈ T, x ∈ colC g later) (hr : RowsT g v later T) : Corr g v (mkC g v T) (· ∈ later) := by
  have inl : ∀ x ∈ T, x ∈ later ∧ x ∉ g.2.2.1 := fun x hx => by
    have := hs x hx
    unfold colC at this
    rw [List.mem_filter] at this
    exact ⟨this.1, by simpa using this.2⟩
  have vT : v ∉ T := fun h => hv (inl v h).1
  have sm : SL (mkC g v T) := by
    unfold mkC
    refine sortI_SL ?_
    split
    · rw [List.nodup_append]
      exact ⟨hT.nodup, by simp, fun a ha b hb => by simp at hb; subst hb; intro e; exact vT (e ▸ ha)⟩
    · exact hT.nodup
  have od : ∀ u, 0 ≤ u → u < g.1 → u ∉ later → (u ∈ oddS g (mkC g v T) ↔ (u = v ∧ isy g v = false)) := fun u a b c => by
    rw [G.mem_oddX, xs_mkC, hr u a b c]
    unfold bitC
    by_cases e : u = v <;> cases isy g v <;> cases nee g v <;> cases adj g u v <;> simp [e]
  refine ⟨sm, fun x hx => ?_, ⟨fun x hx => ?_, ?_, ?_, fun x hx => ?_, fun x hx => ?_⟩⟩
  · rcases mem_mkC.mp hx with h | ⟨_, rfl⟩
    · exact hw x (inl x h).1
    · exact ⟨h0, h1⟩
  · rcases mem_mkC.mp hx with h | ⟨h, rfl⟩
    · exact (inl x h).2
    · exact G.nee_in h0 h1 ho h
  · rw [mem_mkC]
    exact ⟨fun h => (h.resolve_left vT).1, fun h => .inr ⟨h, rfl⟩⟩
  · rw [od v h0 h1 hv, G.odn_isy h0 h1 ho]
    cases isy g v <;> simp
  · rcases mem_mkC.mp hx with h | ⟨_, rfl⟩
    · exact .inr (inl x h).1
    · exact .inl rfl
  · by_cases c : x ∈ later
    · exact .inr c
    · have := G.toGood.odd_in hx
      exact .inl ((od x this.1 this.2 c).mp hx).1
theorem corr_to {S : List Int} (h : Corr g v S (· ∈ later)) : ∃ T, SL T ∧ (∀ x ∈ T, x ∈ colC g later) ∧ RowsT g v later T ∧ S = mkC g v T := by
  obtain ⟨hS, hwS, D⟩ := h
  have eq : S = mkC g v (S.filter fun x => !decide (x = v)) := by
    have hT : SL (S.filter fun x => !decide (x = v)) := hS.filter _
    refine SL.ext hS ?_ fun x => ?_
    · unfold mkC
      refine sortI_SL ?_
      split
      · rw [List.nodup_append]
        exact ⟨hT.nodup, by simp, fun a ha b hb => by simp at hb; subst hb; simp at ha; exact ha.2⟩
      · exact hT.nodup
    · rw [mem_mkC, List.mem_filter]
      constructor
      · intro hx
        by_cases e : x = v
        · subst e; exact .inr ⟨D.own.mp hx, rfl⟩
        · exact .inl ⟨hx, by simpa using e⟩
      · rintro (h | ⟨h, rfl⟩)
        · exact h.1
        · exact D.own.mpr h
  refine ⟨S.filter fun x => !decide (x = v), hS.filter _, fun x hx => ?_, fun u a b c => ?_, eq⟩
  · rw [List.mem_filter] at hx
    have hxv : x ≠ v := by simpa using hx.2
    unfold colC
    rw [List.mem_filter]
    exact ⟨(D.lat x hx.1).resolve_left hxv, by simpa using D.inp x hx.1⟩
  · have od : u ∈ oddS g S ↔ (u = v ∧ isy g v = false) := by
      constructor
      · intro h
        have e := (D.lao u h).resolve_right c
        subst e
        refine ⟨rfl, ?_⟩
        have := D.odd.mp h
        rw [G.odn_isy h0 h1 ho] at this
        simpa using this
      · rintro ⟨rfl, e⟩
        rw [D.odd, G.odn_isy h0 h1 ho, e]; rfl
    rw [eq, G.mem_oddX, xs_mkC] at od
    unfold bitC
    by_cases e : u = v <;> revert od <;> cases isy g v <;> cases nee g v <;> cases adj g u v <;> cases xs (adj g u) (S.filter fun x => !decide (x = v)) <;> simp [e]
/-- the less heavy part gives the less heavy correction -/
theorem mkC_less {T T' : List Int} (h : T' = T ∨ ∃ c ∈ colC g later, c ∉ T ∧ c ∈ T' ∧ ∀ d, d < c → (d ∈ T ↔ d ∈ T')) : mkC g v T' = mkC g v T ∨ Less (mkC g v T) (mkC g v T') := by
  rcases h with rfl | ⟨c, hc, a, b, d⟩
  · exact .inl rfl
  · right
    have cl : c ∈ later := (List.mem_filter.mp hc).1
    have cv : c ≠ v := fun e => hv (e ▸ cl)
    refine ⟨c, fun h => ?_, mem_mkC.mpr (.inl b), fun j hj => ?_⟩
    · rcases mem_mkC.mp h with h | ⟨_, h⟩
      · exact a h
      · exact cv h
    · rw [mem_mkC, mem_mkC, d j hj]
end
/-! barriers -/
def qB (g : Gr) (v w : Int) : Bool := (nee g v && adj g w v) ^^ (!isy g v && decide (w = v))
structure Bar (g : Gr) (held : List Int) (v : Int) (T : List Int) : Prop where
  sl : SL T
  sub : ∀ x ∈ T, x ∈ held
  out : ∀ o, 0 ≤ o → o < g.1 → o ∉ held → o ∉ g.2.2.1 → xs (adj g o) T = false
  odd : xs (qB g v) T = true
theorem bar_of {g : Gr} (G : Gd g) {v : Int} {later held : List Int} (h0 : 0 ≤ v) (h1 : v < g.1) (ho : v ∉ g.2.2.2.1) (hl : SL later) (hw : Within later g.1) (hv : v ∉ later)
    (hh : SL held) (hm : ∀ x, x ∈ held ↔ (0 ≤ x ∧ x < g.1 ∧ x ∉ later)) (no : ∀ S, ¬ Corr g v S (· ∈ later)) : ∃ T, Bar g held v T := by
  have hb : ∀ u, bitC g v u = qB g v u := fun u => by
    unfold bitC qB
    cases isy g v <;> cases nee g v <;> cases adj g u v <;> cases decide (u = v) <;> rfl
  rcases fredholm held hh.nodup (colC g later) (hl.filter _).nodup (adj g) (bitC g v) with ⟨x, hx⟩ | ⟨y, h2, h3⟩
  · exfalso
    refine no _ (corr_of G h0 h1 ho hl hw hv (T := (colC g later).filter x) ((hl.filter _).filter _) (fun c hc => (List.mem_filter.mp hc).1) fun u a b c => ?_)
    rw [xs_filter, ← hx u ((hm u).mpr ⟨a, b, c⟩)]
    exact xs_congr fun c _ => Bool.and_comm _ _
  · refine ⟨held.filter y, hh.filter _, fun x hx => (List.mem_filter.mp hx).1, fun o a b c d => ?_, ?_⟩
    · rw [xs_filter, ← h2 o ?_]
      · exact xs_congr fun r _ => by rw [adj_sym g o r, Bool.and_comm]
      · unfold colC
        rw [List.mem_filter]
        refine ⟨Classical.byContradiction fun z => c ((hm o).mpr ⟨a, b, z⟩), by simpa using d⟩
    · rw [xs_filter, ← h3]
      exact xs_congr fun r _ => by rw [hb r, Bool.and_comm]
end Ab
namespace Ab
open PySem PySem.Spec PyProof.Rows L2
/-! ### loops that may be left with an answer -/
theorem Y.iterR {W Rr : Type} {f : W → Option (Fl W Rr)} {P : W → Prop} {PR : Rr → Prop} (I : W → Prop) (μ : W → Nat) (k : ∀ w, I w → Y (f w) (fun o => (∃ w', o = .brk w' ∧ P w') ∨ (∃ r, o = .ret r ∧ PR r) ∨ ∃ w', (o = .next w' ∨ o = .cont w') ∧ I w' ∧ μ w' < μ w)) :
    ∀ (n : Nat) (w : W), μ w < n → I w → ∃ m, (∃ w', iterW f m w = some (.next w') ∧ P w') ∨ ∃ r, iterW f m w = some (.ret r) ∧ PR r
  | 0, w, h, _ => absurd h (Nat.not_lt_zero _)
  | n + 1, w, h, hi => by
    obtain ⟨o, h1, h2⟩ := k w hi
    rcases h2 with ⟨w', rfl, hp⟩ | ⟨r, rfl, hp⟩ | ⟨w', h2, hi', hm⟩
    · exact ⟨1, .inl ⟨w', by show (f w).bind _ = _; rw [h1]; rfl, hp⟩⟩
    · exact ⟨1, .inr ⟨r, by show (f w).bind _ = _; rw [h1]; rfl, hp⟩⟩
    · obtain ⟨m, h3⟩ := Y.iterR (f := f) I μ k n w' (by omega) hi'
      have e : iterW f (m + 1) w = iterW f m w' := by
        show (f w).bind _ = _
        rw [h1]
        rcases h2 with rfl | rfl <;> rfl
      refine ⟨m + 1, ?_⟩
      rw [e]; exact h3
theorem Y.whileR {W Rr R : Type} {f : W → Option (Fl W Rr)} {K : W → Option R} {kr : Rr → R} {Q : R → Prop} {w : W} (P : W → Prop) (PR : Rr → Prop) (I : W → Prop) (μ : W → Nat) (hi : I w) (k : ∀ w, I w → Y (f w) (fun o => (∃ w', o = .brk w' ∧ P w') ∨ (∃ r, o = .ret r ∧ PR r) ∨ ∃ w', (o = .next w' ∨ o = .cont w') ∧ I w' ∧ μ w' < μ w))
    (q : ∀ w, P w → Y (K w) Q) (qr : ∀ r, PR r → Q (kr r)) : Y ((whileM f w).bind (flK K kr)) Q := by
  obtain ⟨m, h⟩ := Y.iterR (f := f) I μ k _ w (Nat.lt_succ_self _) hi
  rcases h with ⟨w', h1, h2⟩ | ⟨r, h1, h2⟩
  · exact Y.bindE (whileM_of h1) (q w' h2)
  · exact Y.bindE (whileM_of h1) (Y.ok (qr r h2))
theorem Y.mapO {α β : Type} {f : α → β} {m : Option α} {Q : β → Prop} (h : Y m (fun x => Q (f x))) : Y (Option.map f m) Q := by
  obtain ⟨a, h1, h2⟩ := h
  exact ⟨f a, by rw [h1]; rfl, h2⟩
theorem setI_in {α : Type} {l : List α} {i : Int} {x : α} (h0 : 0 ≤ i) (h : i < l.length) : setI l i x = some (l.set i.toNat x) := by
  unfold setI ixN
  rw [if_pos h0, if_pos h]; rfl
theorem compM_choice {α β : Type} [Inhabited β] {f : α → Unit → Option (Option β × Unit)} {P : α → β → Prop} {xs : List α} (h : ∀ x ∈ xs, Y (f x ()) (fun o => ∃ y, o.1 = some y ∧ P x y)) : Y (compM f xs ()) (fun o => ∃ F : α → β, o.1 = xs.map F ∧ ∀ x ∈ xs, P x (F x)) := by
  classical
  cases xs with
  | nil => exact ⟨([], ()), rfl, fun _ => default, rfl, fun x hx => by simp at hx⟩
  | cons a l =>
    have ex : ∀ x ∈ a :: l, ∃ y, f x () = some (some y, ()) ∧ P x y := fun x hx => by
      obtain ⟨⟨o, u⟩, h1, y, h2, h3⟩ := h x hx
      simp only at h2
      subst h2
      exact ⟨y, h1, h3⟩
    obtain ⟨y0, _⟩ := ex a List.mem_cons_self
    let F : α → β := fun x => if hx : x ∈ a :: l then (ex x hx).choose else y0
    have hF : ∀ x ∈ a :: l, f x () = some (some (F x), ()) ∧ P x (F x) := fun x hx => by
      show f x () = some (some (if hx : x ∈ a :: l then (ex x hx).choose else y0), ()) ∧ P x (if hx : x ∈ a :: l then (ex x hx).choose else y0)
      rw [dif_pos hx]
      exact (ex x hx).choose_spec
    exact ⟨_, compM_eqM (g := F) fun x hx _ => (hF x hx).1, F, rfl, fun x hx => (hF x hx).2⟩
/-! ### the soonest flow -/
def Soon (g : Gr) : Nat → Int → Prop
  | 0, v => v ∈ g.2.2.2.1
  | k + 1, v => Soon g k v ∨ (0 ≤ v ∧ v < g.1 ∧ ∃ S, Corr g v S (Soon g k))
theorem Soon.up {g : Gr} {v : Int} {j : Nat} (h : Soon g j v) : ∀ {k : Nat}, j ≤ k → Soon g k v := by
  intro k hk
  induction hk with
  | refl => exact h
  | step _ ih => exact .inl ih
theorem Soon.inside {g : Gr} (G : Gd g) : ∀ {k : Nat} {v : Int}, Soon g k v → 0 ≤ v ∧ v < g.1
  | 0, v, h => G.out_in h
  | k + 1, v, h => by
    rcases h with h | h
    · exact Soon.inside G h
    · exact ⟨h.1, h.2.1⟩
/-- what a told correction has to be, the vertices of L being later -/
def Best (g : Gr) (v : Int) (S : List Int) (L : Int → Prop) : Prop := Corr g v S L ∧ ∀ S', Corr g v S' L → S' = S ∨ Less S S'
/-- what stands at v behind layer k -/
def Entry (g : Gr) (k : Nat) (v : Int) (S : List Int) (l : Int) : Prop :=
  ((v ∈ g.2.2.2.1 ∨ ¬ Soon g k v) ∧ S = [] ∧ l = 0) ∨ (v ∉ g.2.2.2.1 ∧ ∃ j : Nat, j < k ∧ l = ((j + 1 : Nat) : Int) ∧ ¬ Soon g j v ∧ Best g v S (Soon g j))
theorem Entry.grow {g : Gr} {k : Nat} {v : Int} {S : List Int} {l : Int} (h : Entry g k v S l) (hs : Soon g (k + 1) v → Soon g k v) : Entry g (k + 1) v S l := by
  rcases h with ⟨h, a, b⟩ | ⟨h, j, a, b, c, d⟩
  · refine .inl ⟨?_, a, b⟩
    rcases h with h | h
    · exact .inl h
    · exact .inr fun z => h (hs z)
  · exact .inr ⟨h, j, by omega, b, c, d⟩
theorem Entry.new {g : Gr} {k : Nat} {v : Int} {S : List Int} (ho : v ∉ g.2.2.2.1) (hn : ¬ Soon g k v) (h : Best g v S (Soon g k)) : Entry g (k + 1) v S ((k + 1 : Nat) : Int) := .inr ⟨ho, k, Nat.lt_succ_self _, rfl, hn, h⟩
structure Tab (g : Gr) (kf : Int → Nat) (sets : List (List Int)) (layers : List Int) : Prop where
  ls : sets.length = g.1.toNat
  ll : layers.length = g.1.toNat
  en : ∀ v, 0 ≤ v → v < g.1 → ∃ S l, sets[v.toNat]? = some S ∧ layers[v.toNat]? = some l ∧ Entry g (kf v) v S l
theorem Tab.set {g : Gr} {kf kf' : Int → Nat} {sets : List (List Int)} {layers : List Int} {v : Int} {S : List Int} {l : Int} (h : Tab g kf sets layers) (h0 : 0 ≤ v) (h1 : v < g.1) (he : Entry g (kf' v) v S l) (ho : ∀ x, x ≠ v → kf' x = kf x) : Tab g kf' (sets.set v.toNat S) (layers.set v.toNat l) := by
  refine ⟨by rw [List.length_set]; exact h.ls, by rw [List.length_set]; exact h.ll, fun x a b => ?_⟩
  by_cases e : x = v
  · subst e
    refine ⟨S, l, ?_, ?_, he⟩
    · rw [List.getElem?_set_self (by rw [h.ls]; omega)]
    · rw [List.getElem?_set_self (by rw [h.ll]; omega)]
  · obtain ⟨S', l', e1, e2, e3⟩ := h.en x a b
    have ne : v.toNat ≠ x.toNat := by omega
    exact ⟨S', l', by rw [List.getElem?_set_ne ne]; exact e1, by rw [List.getElem?_set_ne ne]; exact e2, by rw [ho x e]; exact e3⟩
theorem Tab.keep {g : Gr} {kf kf' : Int → Nat} {sets : List (List Int)} {layers : List Int} (h : Tab g kf sets layers) (k : ∀ v, 0 ≤ v → v < g.1 → ∀ S l, Entry g (kf v) v S l → Entry g (kf' v) v S l) : Tab g kf' sets layers :=
  ⟨h.ls, h.ll, fun v a b => by
    obtain ⟨S, l, e1, e2, e3⟩ := h.en v a b
    exact ⟨S, l, e1, e2, k v a b S l e3⟩⟩
def BestBar (g : Gr) (held : List Int) (v : Int) (T : List Int) : Prop := Bar g held v T ∧ ∀ T', Bar g held v T' → T' = T ∨ Less T T'
/-- what find_flow tells -/
inductive Told (g : Gr) : D → Prop
  | flow (k : Nat) (sets : List (List Int)) (layers : List Int) : k ≤ g.1.toNat → (∀ v, 0 ≤ v → v < g.1 → Soon g k v) → Tab g (fun _ => k) sets layers → Told g (Ty.p3 Ty.str (Ty.tup (Ty.tup Ty.int)) (Ty.tup Ty.int) (("flow" : Str), sets, layers))
  | barrier (k : Nat) (held : List Int) (F : Int → List Int) : held ≠ [] → SL held → (∀ x, x ∈ held ↔ (0 ≤ x ∧ x < g.1 ∧ ¬ Soon g k x)) → (∀ v, Soon g (k + 1) v → Soon g k v) → (∀ v ∈ held, BestBar g held v (F v)) →
      Told g (Ty.p3 Ty.str (Ty.tup Ty.int) (Ty.tup (Ty.tup Ty.int)) (("barrier" : Str), held, held.map F))
theorem SL.all {l : List Int} {n : Int} (h : SL l) (w : Within l n) (hn : n ≤ l.length) : ∀ x, 0 ≤ x → x < n → x ∈ l := fun x a b => Classical.byContradiction fun c => by
  have s : SL (sortI (x :: l)) := sortI_SL (List.nodup_cons.mpr ⟨c, h.nodup⟩)
  have e : (sortI (x :: l)).length = l.length + 1 := (sortI_perm _).length_eq
  have := s.len (n := n) fun y hy => by
    rcases List.mem_cons.mp (mem_sortI.mp hy) with rfl | hy
    · exact ⟨a, b⟩
    · exact w y hy
  omega
end Ab
namespace Ab
open PySem PySem.Spec PyProof.Rows L2
/-- the word that stands at v -/
def PlOk (all : Bool) (outs ins : List Int) (v : Int) (x : Str) : Prop :=
  (v ∈ outs ∧ x = "") ∨ (v ∉ outs ∧ v ∈ ins ∧ x = "XY") ∨ (v ∉ outs ∧ v ∉ ins ∧ (all = true ∨ x = "XY") ∧ (x = "XY" ∨ x = "XZ" ∨ x = "YZ"))
theorem PlOk.weak {all : Bool} {outs ins : List Int} {v : Int} {x : Str} (h : PlOk all outs ins v x) : PlOk true outs ins v x := by
  rcases h with h | h | ⟨a, b, _, d⟩
  · exact .inl h
  · exact .inr (.inl h)
  · exact .inr (.inr ⟨a, b, .inl rfl, d⟩)
theorem atI_of {α : Type} {l : List α} {v : Int} {x : α} (h0 : 0 ≤ v) (h : l[v.toNat]? = some x) : atI l v = some x := by
  obtain ⟨hl, _⟩ := List.getElem?_eq_some_iff.mp h
  obtain ⟨y, h1, h2⟩ := atI_in (l := l) h0 (by omega)
  rw [h2] at h
  cases h
  exact h1
theorem pl_of {g : Gr} {v : Int} {x : Str} (h0 : 0 ≤ v) (h : g.2.2.2.2[v.toNat]? = some x) : pl g v = x := by
  unfold pl
  rw [atI_of h0 h]; rfl
theorem rangeL_at {v n : Int} (a : 0 ≤ v) (b : v < n) : (rangeL 0 n.toNat)[v.toNat]? = some v := by
  unfold rangeL
  rw [List.getElem?_map, List.getElem?_range (by omega)]
  simp
  omega
theorem Gd.mk' {g : Gr} (G : Good g) (n2 : g.1 ≤ 30) (pn : g.2.2.2.2.length = g.1.toNat) (h : ∀ v, 0 ≤ v → v < g.1 → ∃ x, g.2.2.2.2[v.toNat]? = some x ∧ PlOk true g.2.2.2.1 g.2.2.1 v x) : Gd g where
  toGood := G
  n2 := n2
  pn := pn
  po := fun v hv => by
    have := mem_range0.mp (G.out.mem hv)
    obtain ⟨x, h1, h2⟩ := h v this.1 this.2
    rw [pl_of this.1 h1]
    rcases h2 with ⟨_, h⟩ | ⟨h, _⟩ | ⟨h, _⟩
    · exact h
    · exact absurd hv h
    · exact absurd hv h
  pp := fun v a b c => by
    obtain ⟨x, h1, h2⟩ := h v a b
    rw [pl_of a h1]
    rcases h2 with ⟨h, _⟩ | ⟨_, _, h⟩ | ⟨_, h, _, k⟩
    · exact absurd h c
    · exact .inl h
    · rcases k with k | k
      · exact .inl k
      · exact .inr ⟨h, k⟩
theorem Gd.plOk {g : Gr} (G : Gd g) {v : Int} (a : 0 ≤ v) (b : v < g.1) : ∃ x, g.2.2.2.2[v.toNat]? = some x ∧ PlOk true g.2.2.2.1 g.2.2.1 v x := by
  have hl : v.toNat < g.2.2.2.2.length := by rw [G.pn]; omega
  have hx := List.getElem?_eq_getElem hl
  refine ⟨_, hx, ?_⟩
  rw [← pl_of (g := g) a hx]
  by_cases ho : v ∈ g.2.2.2.1
  · exact .inl ⟨ho, G.po v ho⟩
  · by_cases hi : v ∈ g.2.2.1
    · rcases G.pp v a b ho with h | ⟨h, _⟩
      · exact .inr (.inl ⟨ho, hi, h⟩)
      · exact absurd hi h
    · refine .inr (.inr ⟨ho, hi, .inl rfl, ?_⟩)
      rcases G.pp v a b ho with h | ⟨_, h | h⟩
      · exact .inl h
      · exact .inr (.inl h)
      · exact .inr (.inr h)
theorem uniqP_len : ∀ l : List (Int × Int), (uniqP l).length ≤ l.length
  | [] => Nat.le_refl _
  | y :: l => by
    unfold uniqP
    have := uniqP_len l
    split <;> simp <;> omega
theorem sortPU_len (l : List (Int × Int)) : (sortPU l).length ≤ l.length := by
  unfold sortPU
  rw [(sortP_perm _).length_eq]
  exact uniqP_len l
/-! ### graphs that are less asked of -/
/-- what does in g does in g' -/
structure Eased (g g' : Gr) : Prop where
  n : g'.1 = g.1
  ed : ∀ u v, u ∈ nbr g' v ↔ u ∈ nbr g v
  ins : ∀ v, v ∈ g'.2.2.1 → v ∈ g.2.2.1
  out : ∀ v, v ∈ g.2.2.2.1 → v ∈ g'.2.2.2.1
  pl : ∀ v, 0 ≤ v → v < g.1 → v ∉ g'.2.2.2.1 → pl g' v = pl g v
theorem Eased.odd {g g' : Gr} (E : Eased g g') (G : Gd g) (G' : Gd g') (S : List Int) : ∀ x, x ∈ oddS g' S ↔ x ∈ oddS g S := fun x => by
  rw [G'.mem_oddX, G.mem_oddX]
  have : xs (adj g' x) S = xs (adj g x) S := xs_congr fun u _ => by unfold adj; rw [Bool.eq_iff_iff, decide_eq_true_eq, decide_eq_true_eq]; exact E.ed x u
  rw [this]
theorem Eased.corr {g g' : Gr} (E : Eased g g') (G : Gd g) (G' : Gd g') {v : Int} {S : List Int} {L : Int → Prop} (v0 : 0 ≤ v) (v1 : v < g.1) (hv : v ∉ g'.2.2.2.1) (h : Corr g v S L) : Corr g' v S L := by
  obtain ⟨a, b, c⟩ := h
  refine ⟨a, by rw [E.n]; exact b, ⟨fun x hx hi => c.inp x hx (E.ins x hi), ?_, ?_, c.lat, fun x hx => c.lao x ((E.odd G G' S x).mp hx)⟩⟩
  · unfold nee; rw [E.pl v v0 v1 hv]; exact c.own
  · rw [E.odd G G' S v]; unfold odn; rw [E.pl v v0 v1 hv]; exact c.odd
theorem Eased.soon {g g' : Gr} (E : Eased g g') (G : Gd g) (G' : Gd g') : ∀ {k : Nat} {v : Int}, Soon g k v → Soon g' k v
  | 0, v, h => E.out v h
  | k + 1, v, h => by
    by_cases ho : v ∈ g'.2.2.2.1
    · exact Soon.up (j := 0) ho (Nat.zero_le _)
    · rcases h with h | ⟨a, b, S, h⟩
      · exact .inl (E.soon G G' h)
      · exact .inr ⟨a, by rw [E.n]; exact b, S, (E.corr G G' a b ho h).mono fun x hx => E.soon G G' hx⟩
theorem Soon.closed {g : Gr} {k : Nat} (h : ∀ v, Soon g (k + 1) v → Soon g k v) : ∀ {j : Nat} {v : Int}, Soon g j v → Soon g k v
  | 0, v, e => Soon.up (j := 0) e (Nat.zero_le _)
  | j + 1, v, e => by
    rcases e with e | ⟨a, b, S, e⟩
    · exact Soon.closed h e
    · exact h v (.inr ⟨a, b, S, e.mono fun x hx => Soon.closed h hx⟩)
end Ab
namespace Ab
open PySem PySem.Spec PyProof.Rows L2
/-! ### graphs with a vertex more -/
theorem nodup_len {α : Type} [DecidableEq α] : ∀ {l m : List α}, l.Nodup → (∀ x ∈ l, x ∈ m) → l.length ≤ m.length
  | [], _, _, _ => Nat.zero_le _
  | a :: l, m, nd, h => by
    rw [List.nodup_cons] at nd
    have ha := h a List.mem_cons_self
    have := nodup_len (l := l) (m := m.erase a) nd.2 fun x hx => (List.mem_erase_of_ne fun (e : x = a) => nd.1 (e ▸ hx)).mpr (h x (List.mem_cons_of_mem _ hx))
    rw [List.length_erase_of_mem ha] at this
    have := List.length_pos_of_mem ha
    rw [List.length_cons]
    omega
theorem edges_len {n : Int} (h : n ≤ 64) {E : List (Int × Int)} (nd : E.Nodup) (eb : ∀ e ∈ E, 0 ≤ e.1 ∧ e.1 < e.2 ∧ e.2 < n) : E.length ≤ 4096 :=
  Nat.le_trans (nodup_len nd fun e he => mem_pairs.mpr (eb e he)) (pairs_len n h)
theorem SL.sublist_range {l : List Int} {n : Int} (h : SL l) (w : Within l n) : l.Sublist (rangeL 0 n.toNat) := by
  have : l = (rangeL 0 n.toNat).filter fun x => decide (x ∈ l) := SL.ext h ((rangeL_SL _ _).filter _) fun x => by
    rw [List.mem_filter]
    exact ⟨fun h => ⟨mem_range0.mpr (w x h), by simpa using h⟩, fun h => by simpa using h.2⟩
  rw [this]
  exact List.filter_sublist
theorem xs_ex {α : Type} {f : α → Bool} : ∀ {l : List α}, xs f l = true → ∃ x ∈ l, f x = true
  | [], h => by cases h
  | c :: l, h => by
    by_cases e : f c = true
    · exact ⟨c, List.mem_cons_self, e⟩
    · unfold xs at h
      have e' : f c = false := by simpa using e
      rw [e'] at h
      obtain ⟨x, h1, h2⟩ := xs_ex (l := l) (by simpa using h)
      exact ⟨x, List.mem_cons_of_mem _ h1, h2⟩
/-- g' has the vertex n more, at the end -/
structure More (g g' : Gr) : Prop where
  n : g'.1 = g.1 + 1
  ed : ∀ x u, x < g.1 → u < g.1 → adj g' x u = adj g x u
  ins : g'.2.2.1 = g.2.2.1
  pl : ∀ v, 0 ≤ v → v < g.1 → v ∉ g.2.2.2.1 → pl g' v = pl g v
  base : ∀ x ∈ g.2.2.2.1, Soon g' 1 x
  last : Soon g' 1 g.1
theorem More.soon {g g' : Gr} (M : More g g') (G : Gd g) (G' : Gd g') : ∀ {k : Nat} {v : Int}, Soon g k v → Soon g' (k + 1) v
  | 0, v, h => M.base v h
  | k + 1, v, h => by
    rcases h with h | ⟨a, b, S, h⟩
    · exact .inl (M.soon G G' h)
    · by_cases ho : v ∈ g.2.2.2.1
      · exact Soon.up (M.base v ho) (by omega)
      · obtain ⟨s, w, D⟩ := h
        have od : ∀ x, x < g.1 → (x ∈ oddS g' S ↔ x ∈ oddS g S) := fun x hx => by
          rw [G'.mem_oddX, G.mem_oddX, xs_congr fun u hu => M.ed x u hx (w u hu).2]
        refine .inr ⟨a, by rw [M.n]; omega, S, s, fun x hx => ?_, ⟨fun x hx => by rw [M.ins]; exact D.inp x hx, ?_, ?_, fun x hx => (D.lat x hx).imp id fun z => M.soon G G' z, fun x hx => ?_⟩⟩
        · have := w x hx
          rw [M.n]; omega
        · unfold nee; rw [M.pl v a b ho]; exact D.own
        · rw [od v b]; unfold odn; rw [M.pl v a b ho]; exact D.odd
        · have hin := G'.toGood.odd_in hx
          rw [M.n] at hin
          by_cases c : x < g.1
          · exact (D.lao x ((od x c).mp hx)).imp id fun z => M.soon G G' z
          · have : x = g.1 := by omega
            subst this
            exact .inr (Soon.up M.last (by omega))
/-- v never gets a layer: it would have to be odd, and sees inputs alone -/
theorem never {g : Gr} (G : Gd g) {v : Int} (ho : v ∉ g.2.2.2.1) (h : odn g v = true) (hn : ∀ u, adj g v u = true → u ∈ g.2.2.1) : ∀ k, ¬ Soon g k v
  | 0, z => ho z
  | k + 1, z => by
    rcases z with z | ⟨_, _, S, _, _, D⟩
    · exact never G ho h hn k z
    · have := D.odd.mpr h
      rw [G.mem_oddX] at this
      obtain ⟨u, h1, h2⟩ := xs_ex this
      exact D.inp u h1 (hn u h2)
theorem mem_adj {g : Gr} {x u : Int} : adj g x u = true ↔ ((u, x) ∈ g.2.1 ∨ (x, u) ∈ g.2.1) := by
  unfold adj
  rw [decide_eq_true_eq, mem_nbr]
/-- all are soon -/
def HasFlow (g : Gr) : Prop := ∃ k, ∀ v, 0 ≤ v → v < g.1 → Soon g k v
theorem Told.flow_of {g : Gr} {d : D} (T : Told g d) (h : HasFlow g) : ∃ k sets layers, d = Ty.p3 Ty.str (Ty.tup (Ty.tup Ty.int)) (Ty.tup Ty.int) (("flow" : Str), sets, layers) ∧ k ≤ g.1.toNat ∧ (∀ v, 0 ≤ v → v < g.1 → Soon g k v) ∧ Tab g (fun _ => k) sets layers := by
  cases T with
  | flow k sets layers hk hs tab => exact ⟨k, sets, layers, rfl, hk, hs, tab⟩
  | barrier k held F hne hS hm hc hB =>
    exfalso
    obtain ⟨k', hs⟩ := h
    obtain ⟨x, hx⟩ := List.exists_mem_of_ne_nil _ hne
    obtain ⟨a, b, c⟩ := (hm x).mp hx
    exact c (Soon.closed hc (hs x a b))
theorem Told.bar_of {g : Gr} {d : D} (T : Told g d) {v : Int} (h0 : 0 ≤ v) (h1 : v < g.1) (h : ∀ k, ¬ Soon g k v) : ∃ k held F, d = Ty.p3 Ty.str (Ty.tup Ty.int) (Ty.tup (Ty.tup Ty.int)) (("barrier" : Str), held, held.map F) ∧ held ≠ [] ∧ SL held ∧ (∀ x, x ∈ held ↔ (0 ≤ x ∧ x < g.1 ∧ ¬ Soon g k x)) ∧ (∀ v, Soon g (k + 1) v → Soon g k v) ∧ (∀ v ∈ held, BestBar g held v (F v)) := by
  cases T with
  | flow k sets layers hk hs tab => exact absurd (hs v h0 h1) (h k)
  | barrier k held F hne hS hm hc hB => exact ⟨k, held, F, rfl, hne, hS, hm, hc, hB⟩
theorem Y.pickM {α β S : Type} {h : α → β} {f : α → S → Option (Option β × S)} {xs : List α} {s : S} (k : ∀ x s, x ∈ xs → Y (f x s) (fun o => o.1 = none ∨ o.1 = .some (h x))) : Y (Ab.compM f xs s) (fun o => o.1.Sublist (xs.map h)) := by
  have := Y.compM (f := f) (I := fun p acc _ => acc.Sublist (p.map h)) xs [] [] s (List.Sublist.refl _) fun p x acc s hp hI => ?_
  · simpa using this
  · obtain ⟨o, h1, h2⟩ := k x s (by have := pre_mem hp; simpa using this)
    refine ⟨o, h1, ?_⟩
    rw [List.map_append]
    rcases h2 with h2 | h2 <;> rw [h2]
    · show (acc ++ []).Sublist _
      rw [List.append_nil]
      exact hI.trans (List.sublist_append_left _ _)
    · exact hI.append (List.Sublist.refl _)
/-! words of a row with one changed -/
theorem sIx_none (n d : Nat) : HT.sIx n d none = d := rfl
theorem slice_set {α : Type} (xs : List α) (i : Nat) (h : i < xs.length) (x : α) : sliceL xs none (some (i : Int)) ++ [x] ++ sliceL xs (some ((i : Int) + 1)) none = xs.set i x := by
  have e1 : HT.sIx xs.length xs.length (some (i : Int)) = i := by rw [HT.sIx_nat]; omega
  have e2 : HT.sIx xs.length 0 (some ((i : Int) + 1)) = i + 1 := by rw [show (i : Int) + 1 = ((i + 1 : Nat) : Int) by omega, HT.sIx_nat]; omega
  unfold sliceL
  rw [sIx_none, e1, e2, sIx_none, List.drop_zero, Nat.sub_zero, List.take_of_length_le (l := xs.drop (i + 1)) (by rw [List.length_drop]; omega), List.set_eq_take_append_cons_drop, if_pos h]
  simp
end Ab
namespace Ab
open PySem PySem.Spec PyProof.Rows L2
/-! ### any, all of a generator expression: the walk -/
/-- nothing that stands is changed -/
structure Quiet (s s' : Shared) : Prop where
  os : s'.os = s.os
  bare : AllBare s'.gens
  keep : ∀ b o, s.heap.get? b = some o → s'.heap.get? b = some o
theorem Quiet.trans {a b c : Shared} (h : Quiet a b) (k : Quiet b c) : Quiet a c := ⟨k.os.trans h.os, k.bare, fun x o e => k.keep x o (h.keep x o e)⟩
theorem inv_quiet {X : Cx} {pins : List (Addr × Obj)} {σ : L2.St} {H : Hp} {s s' : Shared} (I : L2.Inv X pins σ H s) (q : Quiet s s') : L2.Inv X pins σ H s' := by
  have J := I.kept (h' := s'.heap) (t' := s.toks) q.keep
  exact ⟨J.ok, q.os.trans J.os, q.bare, J.base, J.loc, J.cell, J.free, J.freeC, J.pin, J.hok, J.len⟩
theorem bare_setGen {s : Shared} (h : AllBare s.gens) (g : Nat) {x : GenState} (hx : x.bare = true) : AllBare (s.setGen g x).gens := by
  intro y hy
  rcases Array.mem_or_eq_of_mem_setIfInBounds (show y ∈ s.gens.setIfInBounds g x from hy) with h1 | h1
  · exact h y h1
  · rw [h1]; exact hx
section
variable {P : Program} {w : World} {A : Around} {Q : Value → Shared → Prop} {R : Result → Shared → Prop} {I : Addr} {n : Nat} {St : Nat → Shared → Prop}
/-- what one turn of the walk has to do; sv: the truth that ends it -/
def AnyTurn (P : Program) (w : World) (A : Around) (I : Addr) (sv : Bool) (n : Nat) (St : Nat → Shared → Prop) (Q : Value → Shared → Prop) : Prop :=
  ∀ i s, i ≤ n → St i s → wpAny (model P w) A.in1 (pyNext (.ref I)) (fun r s' => (r = none ∧ Q (.bool (!sv)) s') ∨ ∃ b, r = some (.bool b) ∧ ((b = sv ∧ Q (.bool sv) s') ∨ (b = !sv ∧ i < n ∧ St (i + 1) s'))) (fun _ _ => False) s
theorem any_loop (turn : AnyTurn P w A I true n St Q) : ∀ (k i : Nat) (s : Shared), n - i = k → i ≤ n → St i s → codeAny (model P w) A (.builtin "any.loop" ⟨[.ref I], []⟩) (fun r s' => ∃ v, r = .ok (.ret v) ∧ Q v s') s := by
  intro k
  induction k with
  | zero =>
    intro i s hk hi hs
    refine codeAny_builtin PySem.F.entry_any_loop ?_
    rw [Around.under_plainId PySem.F.plain_any_loop _]
    show wpAny _ A.in1 (pyNext (.ref I) >>= _) _ _ s
    refine wpAny_bind (wpAny_mono (turn i s hi hs) (fun r s' h => ?_) fun _ _ z => z.elim)
    rcases h with ⟨rfl, h⟩ | ⟨b, rfl, ⟨rfl, h⟩ | ⟨_, hlt, _⟩⟩
    · exact wpAny_bind (wpAny_rule (wpAny_pure ⟨_, rfl, h⟩))
    · refine wpAny_bind (wpAny_holding (wpAny_truthy_bool (wpAny_bind (wpAny_letGo ?_))))
      exact wpAny_bind (wpAny_rule (wpAny_pure ⟨_, rfl, h⟩))
    · omega
  | succ k ih =>
    intro i s hk hi hs
    refine codeAny_builtin PySem.F.entry_any_loop ?_
    rw [Around.under_plainId PySem.F.plain_any_loop _]
    show wpAny _ A.in1 (pyNext (.ref I) >>= _) _ _ s
    refine wpAny_bind (wpAny_mono (turn i s hi hs) (fun r s' h => ?_) fun _ _ z => z.elim)
    rcases h with ⟨rfl, h⟩ | ⟨b, rfl, ⟨rfl, h⟩ | ⟨rfl, hlt, h⟩⟩
    · exact wpAny_bind (wpAny_rule (wpAny_pure ⟨_, rfl, h⟩))
    · refine wpAny_bind (wpAny_holding (wpAny_truthy_bool (wpAny_bind (wpAny_letGo ?_))))
      exact wpAny_bind (wpAny_rule (wpAny_pure ⟨_, rfl, h⟩))
    · refine wpAny_bind (wpAny_holding (wpAny_truthy_bool (wpAny_bind (wpAny_letGo ?_))))
      exact wpAny_pure ⟨plainId_quiet PySem.F.plain_any_loop _, ih (i + 1) s' (by omega) hlt h⟩
theorem all_loop (turn : AnyTurn P w A I false n St Q) : ∀ (k i : Nat) (s : Shared), n - i = k → i ≤ n → St i s → codeAny (model P w) A (.builtin "all.loop" ⟨[.ref I], []⟩) (fun r s' => ∃ v, r = .ok (.ret v) ∧ Q v s') s := by
  intro k
  induction k with
  | zero =>
    intro i s hk hi hs
    refine codeAny_builtin PySem.F.entry_all_loop ?_
    rw [Around.under_plainId PySem.F.plain_all_loop _]
    show wpAny _ A.in1 (pyNext (.ref I) >>= _) _ _ s
    refine wpAny_bind (wpAny_mono (turn i s hi hs) (fun r s' h => ?_) fun _ _ z => z.elim)
    rcases h with ⟨rfl, h⟩ | ⟨b, rfl, ⟨rfl, h⟩ | ⟨_, hlt, _⟩⟩
    · exact wpAny_bind (wpAny_rule (wpAny_pure ⟨_, rfl, h⟩))
    · refine wpAny_bind (wpAny_holding (wpAny_truthy_bool (wpAny_bind (wpAny_letGo ?_))))
      exact wpAny_bind (wpAny_rule (wpAny_pure ⟨_, rfl, h⟩))
    · omega
  | succ k ih =>
    intro i s hk hi hs
    refine codeAny_builtin PySem.F.entry_all_loop ?_
    rw [Around.under_plainId PySem.F.plain_all_loop _]
    show wpAny _ A.in1 (pyNext (.ref I) >>= _) _ _ s
    refine wpAny_bind (wpAny_mono (turn i s hi hs) (fun r s' h => ?_) fun _ _ z => z.elim)
    rcases h with ⟨rfl, h⟩ | ⟨b, rfl, ⟨rfl, h⟩ | ⟨rfl, hlt, h⟩⟩
    · exact wpAny_bind (wpAny_rule (wpAny_pure ⟨_, rfl, h⟩))
    · refine wpAny_bind (wpAny_holding (wpAny_truthy_bool (wpAny_bind (wpAny_letGo ?_))))
      exact wpAny_bind (wpAny_rule (wpAny_pure ⟨_, rfl, h⟩))
    · refine wpAny_bind (wpAny_holding (wpAny_truthy_bool (wpAny_bind (wpAny_letGo ?_))))
      exact wpAny_pure ⟨plainId_quiet PySem.F.plain_all_loop _, ih (i + 1) s' (by omega) hlt h⟩
theorem call_anyG {E : Value → Shared → Prop} {s : Shared} {g : Nat} (hg : s.heap.IsGen I g) (h0 : St 0 s) (turn : AnyTurn P w A I true n St Q) : wpAny (model P w) A (call (.builtin "any") [.ref I]) Q E s := by
  refine call_function_tree PySem.F.kind_any PySem.F.plain_any PySem.F.entry_any (PySem.F.args_any1 _) ?_
  unfold Builtin.«any»
  refine wpAny_bind (m := oneArg "any" _) (wpAny_pure ?_)
  refine wpAny_bind (wpAny_pyIter_gen hg ?_)
  refine wpAny_pure ⟨plainId_quiet PySem.F.plain_any_loop _, codeAny_mono (any_loop turn n 0 s (Nat.sub_zero _) (Nat.zero_le _) h0) fun r s' hr => ?_⟩
  obtain ⟨v, rfl, hv⟩ := hr
  exact hv
theorem call_allG {E : Value → Shared → Prop} {s : Shared} {g : Nat} (hg : s.heap.IsGen I g) (h0 : St 0 s) (turn : AnyTurn P w A I false n St Q) : wpAny (model P w) A (call (.builtin "all") [.ref I]) Q E s := by
  refine call_function_tree PySem.F.kind_all PySem.F.plain_all PySem.F.entry_all (PySem.F.args_all1 _) ?_
  unfold Builtin.«all»
  refine wpAny_bind (m := oneArg "all" _) (wpAny_pure ?_)
  refine wpAny_bind (wpAny_pyIter_gen hg ?_)
  refine wpAny_pure ⟨plainId_quiet PySem.F.plain_all_loop _, codeAny_mono (all_loop turn n 0 s (Nat.sub_zero _) (Nat.zero_le _) h0) fun r s' hr => ?_⟩
  obtain ⟨v, rfl, hv⟩ := hr
  exact hv
end
/-! ### the generator's own context -/
abbrev genX (X : Cx) (s : Shared) (H : Hp) (genv : Env) (fp : List Addr) (Ag : Around) : Cx :=
  { X with A := Ag, s_0 := s, H_0 := H, env := genv, outer := X.stack, stack := genv :: X.stack, ex := fp, fn := fun _ => false, pn := [], xe := fun _ _ => False }
section
variable {X : Cx} {pins : List (Addr × Obj)} {σ : L2.St} {H : Hp} {s : Shared}
theorem gen_start {scope : Scope} {own : List (Str × Nat)} {fp : List Addr} {code : Value} {Ag : Around} {a : Addr} {gobj : Obj} {m0 : Str → Option Value} {s6 : Shared}
    (I : L2.Inv X pins σ H s) (ok : BlkOk X.N X.env.scope scope own) (hN : X.N.Nodup) (nc : ∀ y ∈ scope.names, y.2 ≠ .cell) (hfp : ∀ b ∈ fp, FpOk X pins H b ∧ b < s.heap.objs.size)
    (hd : X.calm = true → Ag.handled = none) (hfr : Ag.frames = some (genEnv scope (cloFrom X.env.cells scope.names []) s.heap.objs.size code builtinsNs X.env :: X.stack))
    (q : Quiet s s6) (hn : s6.heap.Ns s.heap.objs.size m0) (ha : s6.heap.get? a = some gobj) (hac : a ≠ s.heap.objs.size) (has : s.heap.objs.size ≤ a) (hgd : ∀ v, gobj.data ≠ .cell v) :
    L2.Inv (genX X s H (genEnv scope (cloFrom X.env.cells scope.names []) s.heap.objs.size code builtinsNs X.env) fp Ag) [(a, gobj)] (wipe σ (own.map (·.2))) H s6 := by
  have hfree : ∀ y ∈ scope.names, y.2 = .free → ∃ c, X.env.cells.lookup y.1 = some c := fun y hy e => by
    rcases ok.free y hy e with k | k
    · exact I.ok.has _ (.inl k)
    · exact I.ok.has _ (.inr k)
  generalize hce : genEnv scope (cloFrom X.env.cells scope.names []) s.heap.objs.size code builtinsNs X.env = ce at hfr
  have hL : ce.locals = s.heap.objs.size := by rw [← hce]; rfl
  have hcl : ce.cells = cloFrom X.env.cells scope.names [] := by rw [← hce]; rfl
  have hsc : ce.scope = scope := by rw [← hce]; rfl
  have cm : ∀ {y c}, (y, c) ∈ cloFrom X.env.cells scope.names [] → X.env.cells.lookup y = some c ∧ c < s.heap.objs.size := fun {y c} hm => by
    rcases cloFrom_mem hm with hm | ⟨h1, rfl⟩
    · cases hm
    · obtain ⟨c, hc⟩ := hfree _ h1 rfl
      rw [hc]
      obtain ⟨w, z⟩ := I.cell _ _ hc
      exact ⟨rfl, z.lt⟩
  have cmL : ∀ {y c}, ce.cells.lookup y = some c → X.env.cells.lookup y = some c ∧ c < s.heap.objs.size := fun {y c} e => by
    rw [hcl] at e
    exact cm (PySem.mem_of_lookup e)
  have look : ∀ {y}, scope.names.lookup y = some .free → ∃ c, ce.cells.lookup y = some c ∧ X.env.cells.lookup y = some c := fun {y} hl => by
    have hy : (y, NameKind.free) ∈ scope.names := PySem.mem_of_lookup hl
    obtain ⟨c', e'⟩ := mem_lookup (cloFrom_has (cells := X.env.cells) (acc := []) hy)
    rw [← hcl] at e'
    exact ⟨c', e', (cmL e').1⟩
  have nocell : ∀ {y}, scope.names.lookup y ≠ some .cell := fun {y} z => nc _ (PySem.mem_of_lookup z) rfl
  have okG : (genX X s H ce fp Ag).Ok := by
    refine ⟨I.ok.mod, by show ce.scope.kind = _; rw [hsc]; exact ok.kind, by show ce.globals = _; rw [← hce]; exact I.ok.glob, by show ce.builtins = _; rw [← hce]; rfl, by show s.heap.objs.size ≤ ce.locals; rw [hL]; exact Nat.le_refl _,
      fun y z c e1 e2 => I.ok.inj y z c (cmL e1).1 (cmL e2).1, fun y hy => ?_, fun y c z _ => absurd z Bool.false_ne_true, hd, hfr, .inr ⟨rfl, by rw [← hce]; rfl⟩, fun b hb => ⟨?_, fun y c e z => ?_⟩, I.bs, Nat.le_trans I.ok.bsz I.sz, fun b o e hb => ?_, fun b hb z => ?_, I.stack, I.stkFree⟩
    · have hy : ce.scope.names.lookup y = some .cell ∨ ce.scope.names.lookup y = some .free := hy
      rw [hsc] at hy
      rcases hy with hy | hy
      · exact absurd hy nocell
      · obtain ⟨c, h1, _⟩ := look hy
        exact ⟨c, h1⟩
    · show b ≠ ce.locals
      rw [hL]; exact Nat.ne_of_lt (hfp b hb).2
    · exact (hfp b hb).1.2.2.2.2.1 y c (cmL e).1 z
    · rcases (hfp b hb).1.2.2.2.1 with z | z
      · exact I.ok.noex b o e z
      · exact absurd (Nat.lt_of_lt_of_le (Heap.lt_size e) (Nat.le_trans I.ok.bsz z)) (Nat.lt_irrefl _)
    · rcases List.mem_cons.mp (I.stkSub b z) with z | z
      · exact (hfp b hb).1.2.1 z
      · exact (hfp b hb).1.2.2.1 z
  refine ⟨okG, q.os, q.bare, Un.kept q.keep, ⟨m0, by show s6.heap.Ns ce.locals m0; rw [hL]; exact hn, fun i y av e1 e2 e3 => ?_⟩, fun y c e => ?_, ?_, fun y c e => ?_, fun p hp => ?_, I.hok.kept q.keep, by rw [wipe_length]; exact I.len⟩
  · obtain ⟨e2, hne⟩ := wipe_some e2
    have e3 : Vis ce.scope y := e3
    rw [hsc] at e3
    rcases e3 with e3 | e3 | e3
    · exfalso
      rcases ok.own _ (PySem.mem_of_lookup e3) (.inl rfl) with e' | e'
      · obtain ⟨p, hp, hpy⟩ := List.mem_map.mp e'
        have e4 := ok.ix p hp
        have : p.1 = y := hpy
        rw [this] at e4
        exact hne (List.mem_map.mpr ⟨p, hp, nodup_ix hN e4 e1⟩)
      · exact e' (List.mem_of_getElem? e1)
    · exact absurd e3 nocell
    · obtain ⟨m, hn, hl⟩ := I.loc
      have fr := ok.free _ (PySem.mem_of_lookup e3) rfl
      have hvis : Vis X.env.scope y := fr.elim (fun k => .inr (.inl k)) (fun k => .inr (.inr k))
      obtain ⟨w, r, qq⟩ := hl i y av e1 e2 hvis
      refine ⟨w, r, .inr ⟨.inr (by show ce.scope.names.lookup y = _; rw [hsc]; exact e3), ?_⟩⟩
      obtain ⟨c, h1, h2⟩ := look e3
      rcases qq with ⟨k, _⟩ | ⟨_, c', e', z⟩
      · have k : X.env.scope.names.lookup y = some .local := k
        rcases fr with k' | k' <;> rw [show X.env.scope.names.lookup y = _ from k'] at k <;> cases k
      · rw [h2] at e'; cases e'
        exact ⟨c, h1, z.keeps q.keep⟩
  · obtain ⟨w, z⟩ := I.cell y c (cmL e).1
    exact ⟨w, z.keeps q.keep⟩
  · show H ce.locals = none
    rw [hL]; exact I.hok.fresh (Nat.le_refl _)
  · exact I.freeC y c (cmL e).1
  · have hp' : p = (a, gobj) := by simpa using hp
    subst hp'
    refine ⟨ha, I.hok.fresh has, by show a ≠ ce.locals; rw [hL]; exact hac, fun z => ?_, hgd⟩
    have z : a ∈ frs X.stack := z
    obtain ⟨_, o, e, _⟩ := I.stack.mem z
    exact absurd (Nat.lt_of_lt_of_le (Heap.lt_size e) has) (Nat.lt_irrefl _)
end
end Ab
namespace Ab
open PySem PySem.Spec PyProof.Rows L2
section
variable {X : Cx} {s3 : Shared} {H3 : Hp} {genv : Env} {fp : List Addr} {Ag A2 : Around} {pl : List (Addr × Obj)} {tn : Nat → Heap → Prop} {σ0 : L2.St} {W : Nat → Hp → Prop} {Wend Wstop : Hp → Prop} {n : Nat} {sv : Bool} {J : It} {it : Addr} {tg elt iter : Expr} {scope : Scope} {pos : Pos}
def GenSt (Y : Cx) (pl : List (Addr × Obj)) (fp : List Addr) (tn : Nat → Heap → Prop) (σ0 : L2.St) (W : Nat → Hp → Prop) (i : Nat) (s : Shared) : Prop :=
  ∃ H, L2.Inv Y pl σ0 H s ∧ tn i s.heap ∧ (∀ b ∈ fp, H b = none) ∧ W i H
def gyp (Y : Cx) (pl : List (Addr × Obj)) (fp : List Addr) (tn : Nat → Heap → Prop) (σ0 : L2.St) (W : Nat → Hp → Prop) (Wend : Hp → Prop) (n : Nat) (sv : Bool) : Protocol := fun m _ v s kap =>
  ∃ i b, m + 1 + i = n ∧ v = .bool b ∧ ((b = sv ∧ ∃ H, L2.Inv Y pl σ0 H s ∧ Wend H) ∨ (b = !sv ∧ GenSt Y pl fp tn σ0 W (i + 1) s ∧ ∀ s'', Quiet s s'' → kap (.send .none) s''))
def gnd (Y : Cx) (pl : List (Addr × Obj)) (σ0 : L2.St) (Wstop : Hp → Prop) (m : Nat) (_ s : Shared) : Prop := m = 0 ∧ ∃ H, L2.Inv Y pl σ0 H s ∧ Wstop H
theorem GenSt.quiet {Y : Cx} {i : Nat} {s s' : Shared} (T : Turn Y.prog Y.w Y.K tg J fp it tn) (h : GenSt Y pl fp tn σ0 W i s) (q : Quiet s s') : GenSt Y pl fp tn σ0 W i s' := by
  obtain ⟨H, I, st, n, w⟩ := h
  exact ⟨H, inv_quiet I q, T.keep i _ _ st fun b _ o e => q.keep b o e, n, w⟩
/-- what a step of the walk has to do -/
def GStep (Y : Cx) (J : It) (tg elt : Expr) (σ0 : L2.St) (W : Nat → Hp → Prop) (Wend Wstop : Hp → Prop) (n : Nat) (sv : Bool) : Prop :=
  ∀ i H, W i H → (J.stop i H ∧ i = n ∧ Wstop H) ∨ (J.go i H ∧ i < n ∧ ∀ x H', J.yld i H x H' → tG Y tg x σ0 H' fun σ' H' => (σ0.length = σ'.length ∧ ∀ (j : Nat) v, σ0[j]? = some (some v) → σ'[j]? = some (some v)) ∧
    tE Y elt σ' H' fun v H'' => ∃ b, v = .bl b ∧ ((b = sv ∧ Wend H'') ∨ (b = !sv ∧ W (i + 1) H'')))
theorem seg_genG (hov : A2.over (.compLoop (.GeneratorExp elt [⟨tg, iter, [], 0⟩] scope pos) 0 (.ref it) .none genv) [] = Ag) (hc : X.calm = true) (T : Turn X.prog X.w X.K tg J fp it tn) (hpl : ∀ p ∈ pl, ∀ b ∈ fp, p.1 ≠ b)
    (hco : genv.scope.isCoroutine = false) (step : GStep (genX X s3 H3 genv fp Ag) J tg elt σ0 W Wend Wstop n sv) :
    ∀ (k i : Nat) (s₀ s : Shared), n - i = k → i ≤ n → GenSt (genX X s3 H3 genv fp Ag) pl fp tn σ0 W i s →
      Seg (model X.prog X.w) A2 (fun m s₀ r s₁ => r = .ok .next ∧ gnd (genX X s3 H3 genv fp Ag) pl σ0 Wstop m s₀ s₁) (gyp (genX X s3 H3 genv fp Ag) pl fp tn σ0 W Wend n sv) k s₀
        (.compLoop (.GeneratorExp elt [⟨tg, iter, [], 0⟩] scope pos) 0 (.ref it) .none genv) ((model X.prog X.w).den (.compLoop (.GeneratorExp elt [⟨tg, iter, [], 0⟩] scope pos) 0 (.ref it) .none genv)) [] s := by
  have stat : ∀ {σ' : L2.St} {H' : Hp} {s' : Shared}, L2.Inv (genX X s3 H3 genv fp Ag) pl σ' H' s' → (∀ b ∈ fp, H' b = none) → ∀ b ∈ fp, FpOk (genX X s3 H3 genv fp Ag) pl H' b := fun {σ' H' s'} I' hn b hb =>
    ⟨hn b hb, (I'.ok.exf b hb).1, I'.ok.exfs b hb, .inl hb, fun x c e => (I'.ok.exf b hb).2 x c e, fun p hp => hpl p (by simpa using hp) b hb⟩
  intro k
  induction k with
  | zero =>
    intro i s₀ s hk hi hs
    obtain ⟨H, I, st, nf, w⟩ := hs
    show Seg _ A2 _ _ _ s₀ _ ((compTurn (.GeneratorExp elt [⟨tg, iter, [], 0⟩] scope pos) 0 (.ref it) .none genv).onRaise (leaving genv)) [] s
    rw [compTurn_gen, Sem.onRaise_eq_wrap]
    refine seg_bind_wrap (wpAny_standAt ?_)
    rcases step i H w with ⟨stop, _, ws⟩ | ⟨_, hlt, _⟩
    · refine seg_bind_wrap ?_
      rw [hov]
      refine thnF (T.done (genX X s3 H3 genv fp Ag) rfl rfl rfl hc i pl s σ0 H (fun _ _ => False) I (stat I nf) st stop) fun r s1 ⟨hr, I1⟩ => ?_
      subst hr
      exact seg_end (.ok .next) ⟨rfl, rfl, H, I1, ws⟩
    · omega
  | succ k ih =>
    intro i s₀ s hk hi hs
    obtain ⟨H, I, st, nf, w⟩ := hs
    show Seg _ A2 _ _ _ s₀ _ ((compTurn (.GeneratorExp elt [⟨tg, iter, [], 0⟩] scope pos) 0 (.ref it) .none genv).onRaise (leaving genv)) [] s
    rw [compTurn_gen, Sem.onRaise_eq_wrap]
    refine seg_bind_wrap (wpAny_standAt ?_)
    rcases step i H w with ⟨_, hin, _⟩ | ⟨go, hlt, nxt⟩
    · omega
    · refine seg_bind_wrap ?_
      rw [hov]
      refine thnF (T.item (genX X s3 H3 genv fp Ag) rfl rfl rfl hc i pl s σ0 H (fun _ _ => False) I (stat I nf) st go) fun r s1 ⟨u, hr, h6⟩ => ?_
      subst hr
      refine seg_bind_wrap ?_
      rw [hov]
      refine thnF h6 fun _ s7 ⟨x, H7, I7, r7, y7, st7, n7⟩ => ?_
      have I7' := I7.pinned (stat I7 n7) (T.obj _ _ st7)
      refine seg_bind_wrap ?_
      rw [hov]
      refine thnF (nxt x H7 y7 _ s7 u I7' r7) fun _ s8 ⟨σ8, H8, I8, hw8, q8⟩ => ?_
      refine seg_bind_wrap (wpAny_tests_nil ?_)
      simp only [if_true]
      have hy : ∀ v, yieldOut genv v = yieldValue v := fun v => by simp only [yieldOut, hco, Bool.false_eq_true, if_false]
      simp only [hy]
      rw [Sem.bind_eq_wrap', Sem.bind_eq_wrap', Sem.wrap_wrap, Sem.wrap_wrap]
      refine seg_wrap ?_
      rw [hov]
      refine thnF (q8.run _ s8 I8) fun z s9 ⟨v, H9, I9, r9, b, hv, hb⟩ => ?_
      subst hv
      obtain rfl : z = Value.bool b := r9
      have I10 : L2.Inv (genX X s3 H3 genv fp Ag) pl σ0 H9 s9 := (I9.unpinned (pins := pl)).weak hw8.1 hw8.2
      have pin' : ∀ b ∈ fp, ∀ o, s7.heap.get? b = some o → s9.heap.get? b = some o ∧ H9 b = none := fun b hb o e =>
        let z := I9.pin (b, o) (List.mem_append_right _ (List.mem_append_right _ (mem_pinsAt hb e)))
        ⟨z.1, z.2.1⟩
      refine seg_at (seg_yield rfl rfl rfl ⟨i, b, by omega, rfl, ?_⟩)
      rcases hb with ⟨hb, we⟩ | ⟨hb, w1⟩
      · exact .inl ⟨hb, H9, I10, we⟩
      · have gs : GenSt (genX X s3 H3 genv fp Ag) pl fp tn σ0 W (i + 1) s9 := ⟨H9, I10, T.keep _ _ _ st7 fun b hb o e => (pin' b hb o e).1, fun b hb => by
          obtain ⟨o, e, _⟩ := T.obj _ _ st7 b hb
          exact (pin' b hb o e).2, w1⟩
        exact .inr ⟨hb, gs, fun s'' qq => seg_again rfl (ih (i + 1) s'' s'' (by omega) hlt (GenSt.quiet (Y := genX X s3 H3 genv fp Ag) T gs qq))⟩
theorem seg_genG0 (hov : A2.over (.compLoop (.GeneratorExp elt [⟨tg, iter, [], 0⟩] scope pos) 0 (.ref it) .none genv) [] = Ag) (hc : X.calm = true) (T : Turn X.prog X.w X.K tg J fp it tn) (hpl : ∀ p ∈ pl, ∀ b ∈ fp, p.1 ≠ b)
    (hco : genv.scope.isCoroutine = false) (step : GStep (genX X s3 H3 genv fp Ag) J tg elt σ0 W Wend Wstop n sv) (s₀ s : Shared) (h0 : GenSt (genX X s3 H3 genv fp Ag) pl fp tn σ0 W 0 s) :
    Seg (model X.prog X.w) A2 (fun m s₀ r s₁ => r = .ok .next ∧ gnd (genX X s3 H3 genv fp Ag) pl σ0 Wstop m s₀ s₁) (gyp (genX X s3 H3 genv fp Ag) pl fp tn σ0 W Wend n sv) n s₀
        (.compStart (.GeneratorExp elt [⟨tg, iter, [], 0⟩] scope pos) 0 (.ref it) .none genv) ((model X.prog X.w).den (.compStart (.GeneratorExp elt [⟨tg, iter, [], 0⟩] scope pos) 0 (.ref it) .none genv)) [] s := by
  have loop := seg_genG hov hc T hpl hco step n 0 s₀ s (Nat.sub_zero _) (Nat.zero_le _) h0
  have st0 : tn 0 s.heap := let ⟨_, _, st, _⟩ := h0; st
  show Seg _ A2 _ _ _ s₀ _ ((compStart (.GeneratorExp elt [⟨tg, iter, [], 0⟩] scope pos) 0 (.ref it) .none genv).onRaise (leaving genv)) [] s
  unfold compStart
  rw [Sem.onRaise_eq_wrap]
  show Seg _ A2 _ _ _ s₀ _ ((ask >>= _).wrap _ _ _ _) [] s
  refine seg_bind_wrap (wpAny_askSetting ?_)
  split
  · exact seg_again rfl loop
  · first
      | exact seg_bind_wrap (wpAny_rule (seg_bind_wrap (wpAny_standAt (seg_bind_wrap (T.self _ 0 s _ _ st0 (seg_again rfl loop))))))
      | (refine seg_bind_wrap (wpAny_rule ?_); show Seg _ A2 _ _ _ s₀ _ ((standAt iter.pos >>= _).wrap _ _ _ _) [] s; exact seg_bind_wrap (wpAny_standAt (seg_bind_wrap (T.self _ 0 s _ _ st0 (seg_again rfl loop)))))
/-- the turns of any and all over it -/
theorem gen_turn {A : Around} {a : Addr} {g : Nat} {Q : Value → Shared → Prop} (hh : A.handled = none) (hroom : A.depth < recursionLimit) (T : Turn X.prog X.w X.K tg J fp it tn)
    (hpin : ∀ σ H s, L2.Inv (genX X s3 H3 genv fp Ag) pl σ H s → s.heap.IsGen a g)
    (hend : ∀ H s, L2.Inv (genX X s3 H3 genv fp Ag) pl σ0 H s → Wend H → Q (.bool sv) s) (hstop : ∀ H s, L2.Inv (genX X s3 H3 genv fp Ag) pl σ0 H s → Wstop H → Q (.bool (!sv)) s) :
    AnyTurn X.prog X.w A a sv n (fun i s => ∃ gs, s.gens[g]? = some gs ∧ GenSt (genX X s3 H3 genv fp Ag) pl fp tn σ0 W i s ∧ ∀ s'', Quiet s s'' →
      gs.Goes (model X.prog X.w) A.in1.in1 (fun m s₀ r s₁ => r = .ok .next ∧ gnd (genX X s3 H3 genv fp Ag) pl σ0 Wstop m s₀ s₁) (gyp (genX X s3 H3 genv fp Ag) pl fp tn σ0 W Wend n sv) (n - i) (.send .none) s'') Q := by
  rintro i s hi ⟨gs, hgs, hst, hgo⟩
  obtain ⟨H, I, st, nf, w⟩ := id hst
  have hsz : g + 1 ≤ s.gens.size := by
    obtain ⟨h1, _⟩ := Array.getElem?_eq_some_iff.mp hgs
    exact h1
  have run : Quiet s (s.setGen g .running) := ⟨rfl, bare_setGen I.bare g rfl, fun _ _ e => e⟩
  refine GenW.wpAny_gsz hsz ?_
  refine wpAny_pyNext_genexpQ (A := A.in1) (P := gnd (genX X s3 H3 genv fp Ag) pl σ0 Wstop) (Y := gyp (genX X s3 H3 genv fp Ag) pl fp tn σ0 W Wend n sv) (n := n - i) hh I.nolimit hroom (hpin _ _ _ I) hgs (hgo _ run) (fun v s1 gs' hb hv hsz1 => ?_) (fun s1 hp h' hk hsz1 => ?_)
  · obtain ⟨i', b, hi', rfl, hb'⟩ := hv
    refine .inr ⟨b, rfl, ?_⟩
    rcases hb' with ⟨rfl, H', I', we⟩ | ⟨rfl, gs1, kap⟩
    · refine .inl ⟨rfl, hend H' _ (inv_quiet I' ⟨rfl, bare_setGen I'.bare g hb, fun _ _ e => e⟩) we⟩
    · obtain ⟨H', I', st', nf', w'⟩ := id gs1
      have q1 : Quiet s1 (s1.setGen g gs') := ⟨rfl, bare_setGen I'.bare g hb, fun _ _ e => e⟩
      have hs1 : g < s1.gens.size := by
        have : (s1.setGen g gs').gens.size = s1.gens.size := GenW.setGen_size _ _ _
        omega
      cases hm : n - i with
      | zero =>
        rw [hm] at kap
        exact (kap s1 ⟨rfl, I'.bare, fun _ _ e => e⟩).elim
      | succ m =>
        rw [hm] at kap hi'
        have e : i' = i := by omega
        subst e
        refine .inr ⟨rfl, by omega, gs', ?_, GenSt.quiet (Y := genX X s3 H3 genv fp Ag) T gs1 q1, fun s'' q2 => ?_⟩
        · show (s1.gens.setIfInBounds g gs')[g]? = some gs'
          rw [Array.getElem?_setIfInBounds_self_of_lt hs1]
        · have := kap s'' (q1.trans q2)
          rw [show n - (i' + 1) = m by omega]
          exact this
  · obtain ⟨_, H', I', ws⟩ := hp
    exact .inl ⟨rfl, hstop H' _ (inv_quiet I' ⟨rfl, bare_setGen I'.bare g rfl, hk⟩) ws⟩
end
end Ab
namespace Ab
open PySem PySem.Spec PyProof.Rows L2
section
variable {X : Cx} {pins : List (Addr × Obj)} {σ : L2.St} {H : Hp} {s : Shared} {c P : Addr} {elt tg iter : Expr} {gpos p pos : Pos} {scope : Scope} {own : List (Str × Nat)} {k : Nat}
/-- a generator that has not begun -/
structure Made (X : Cx) (pins : List (Addr × Obj)) (σ : L2.St) (P : Addr) (elt tg iter : Expr) (scope : Scope) (gpos : Pos) (R : It → Hp → Prop) (a : Addr) (s6 : Shared) : Prop where
  ex : ∃ (it : Addr) (fp : List Addr) (tn : Nat → Heap → Prop) (J : It) (H2 H3 : Hp) (s3 : Shared) (code : Value) (gobj : Obj) (g : Nat) (m0 : Str → Option Value),
    L2.Inv X pins σ H3 s3 ∧ GxR.Tabbed P H2 H3 ∧ Turn X.prog X.w X.K tg J fp it tn ∧ (∀ b ∈ fp, FpOk X pins H3 b ∧ b < s3.heap.objs.size) ∧ Quiet s3 s6 ∧ s6.heap.Ns s3.heap.objs.size m0 ∧ s6.heap.get? a = some gobj ∧ a ≠ s3.heap.objs.size ∧ s3.heap.objs.size ≤ a ∧
    (∀ v, gobj.data ≠ .cell v) ∧ (∀ h : Heap, h.get? a = some gobj → h.IsGen a g) ∧ s6.gens[g]? = some (.fresh (.compStart (.GeneratorExp elt [⟨tg, iter, [], 0⟩] scope gpos) 0 (.ref it) .none (genEnv scope (cloFrom X.env.cells scope.names []) s3.heap.objs.size code builtinsNs X.env))) ∧
    tn 0 s6.heap ∧ R J H2
theorem gen_make {Q' : Value → Shared → Prop} {R : It → Hp → Prop} (hr : Room (k + 1) X.A) (TB : GxR.TabB X.base X.mg c P) (hcode : X.env.code = .ref c) (ok : BlkOk X.N X.env.scope scope own) (nc : ∀ y ∈ scope.names, y.2 ≠ .cell)
    (dot : scope.names.lookup (".0" : Str) = some NameKind.local) (hco : scope.isCoroutine = false) (hs : ∀ v, genFold iter X.env v = pure v) (I : L2.Inv X pins σ H s)
    (h : tI X tg iter σ H fun J H1 => GxR.TabG H1 P ∧ R J H1) (hQ : ∀ a s6, Made X pins σ P elt tg iter scope gpos R a s6 → Q' (.ref a) s6) :
    wpAny (model X.prog X.w) X.A (eval (.GeneratorExp elt [⟨tg, iter, [], 0⟩] scope gpos) X.env) Q' X.xe s := by
  have hfree : ∀ y ∈ scope.names, y.2 = .free → ∃ c, X.env.cells.lookup y.1 = some c := fun y hy e => by
    rcases ok.free y hy e with k | k
    · exact I.ok.has _ (.inl k)
    · exact I.ok.has _ (.inr k)
  refine wpAny_GeneratorExp_make hco (closure_ok hfree) nc dot ok.kind (by have := hr.dp; omega) (thn (h pins s I) fun xv s1 h1 => thn h1 fun itv s2 h2 => ?_) hs
  obtain ⟨it, fp, tn, J, H2, rfl, I2, T, st2, f2, ⟨ps, hP, ht⟩, hR⟩ := h2
  refine ⟨I2.nolimit, ?_⟩
  have hPs : s2.heap.get? P = some { cls := .none, data := .fields ps } := I2.hok P _ hP
  have cd : PySem.W.CodeHd s2.heap c P := TB.code.keeps fun b u e => I2.bk b u e
  have sz : ∀ b ∈ fp, b < s2.heap.objs.size := fun b hb => by
    obtain ⟨o, e, _⟩ := T.obj _ _ st2 b hb
    exact Heap.lt_size e
  have nP : ∀ b ∈ fp, b ≠ P := fun b hb z => by
    have := (f2 b hb).1
    rw [z, hP] at this; cases this
  have cont : ∀ (code : Value) (h3 : Heap) (tk : Nat) (ps' : Array Value), Heap.ExtBut P s2.heap h3 → s2.heap.objs.size ≤ h3.objs.size → h3.get? P = some { cls := .none, data := .fields ps' } → (∃ more, ps' = ps ++ more) → TriplesOk ps'.toList →
      wpAny (model X.prog X.w) X.A (builtinsFor X.env.globals X.env.builtins) (fun bi s₄ =>
        ∀ h', h'.Ns s₄.heap.objs.size (fun y => if y = ".0" then some (Value.ref it) else none) → Heap.SameBut s₄.heap.objs.size (s₄.heap.push { cls := .type "frame", data := .dict #[] }) h' →
          Q' (.ref h'.objs.size) { s₄ with
            gens := s₄.gens.push (.fresh (.compStart (.GeneratorExp elt [⟨tg, iter, [], 0⟩] scope gpos) 0 (.ref it) .none (genEnv scope (cloFrom X.env.cells scope.names []) s₄.heap.objs.size code bi X.env))),
            toks := s₄.toks + 1 + 1 + 1,
            heap := h'.push { cls := .type "generator", data := .fields #[.int s₄.gens.size 0, .str "<genexpr>" (s₄.toks + 1), .str (X.env.qual ++ "<genexpr>") (s₄.toks + 1 + 1)] } }) X.xe { s2 with heap := h3, toks := tk } := by
    intro code h3 tk ps' hx hsz hP3 hmore ht3
    obtain ⟨more, em⟩ := hmore
    obtain ⟨bm, ob, e1, e2, e3, e4, e5, e6, e7, e8⟩ := TB.bm
    have I3 : L2.Inv X pins σ (upd H2 P (.tbl (ps ++ more))) { s2 with heap := h3, toks := tk } :=
      GxR.inv_tab (more := more) (h' := h3) (g' := s2.gens) (d' := s2.drawn) (t' := tk) I2 hP (fun b u hb e => hx b u hb e) (by rw [← em]; exact hP3) I2.bare
    refine wpAny_builtinsFor (m := X.mg) (by rw [I3.ok.glob]; exact I3.mod.glob.keeps I3.bk) e1 e2 (I3.bk _ _ e5) e6 e7 e8 ?_
    intro h' hn' hs'
    generalize hs3 : ({ s2 with heap := h3, toks := tk } : Shared) = s3 at I3 hn' hs' ⊢
    have hh3 : s3.heap = h3 := by rw [← hs3]
    have hg3 : s3.gens = s2.gens := by rw [← hs3]
    have szh : h'.objs.size = s3.heap.objs.size + 1 := by rw [hs'.1, Heap.size_push]
    have kp : ∀ b o, s3.heap.get? b = some o → h'.get? b = some o := fun b o e => hs'.extBut b o (Nat.ne_of_lt (Heap.lt_size e)) (Heap.get?_push_of_some _ e)
    refine hQ _ _ ⟨it, fp, tn, J, H2, upd H2 P (.tbl (ps ++ more)), s3, code, _, s3.gens.size, _, I3, ⟨⟨ps ++ more, upd_same, by rw [← em]; exact ht3⟩, fun b hb => upd_ne hb⟩, T, fun b hb => ?_, ⟨rfl, ?_, fun b o e => Heap.get?_push_of_some _ (kp b o e)⟩, hn'.push _, Heap.get?_push_size _ rfl, by rw [szh]; exact Nat.succ_ne_self _, by rw [szh]; exact Nat.le_succ _, ?_, ?_, Array.getElem?_push_size .., ?_, hR⟩
    · refine ⟨⟨by rw [upd_ne (nP b hb)]; exact (f2 b hb).1, (f2 b hb).2⟩, ?_⟩
      rw [hh3]
      exact Nat.lt_of_lt_of_le (sz b hb) hsz
    · exact AllBare.push I3.bare rfl
    · intro v z
      cases z
    · intro h e
      exact ⟨_, _, _, e, rfl, rfl, rfl⟩
    · refine T.keep _ _ _ st2 fun b hb o e => Heap.get?_push_of_some _ (kp b o ?_)
      rw [hh3]
      exact hx b o (nP b hb) e
  cases hf : codeAmong gpos ps.toList with
  | none =>
    refine wpAny_genexprCodeX hcode (cd.code hPs ht) (cd.tab hPs) hf fun c' h' tk hx hge hlt hco' _ htab' _ => ?_
    obtain ⟨o1, vs, f1, tf, fl, tg', inF, tx, tt, op, _, _, _, _, _, _, _, _, _, htr, _⟩ := hco'
    exact cont _ h' tk _ hx (Nat.le_trans hge (Nat.le_of_lt hlt)) htab'.2 ⟨_, rfl⟩ htr
  | some cv =>
    refine wpAny_genexprCode_hit hcode (cd.code hPs ht) hf ?_
    exact cont cv s2.heap s2.toks ps (Heap.ExtBut.refl _ _) (Nat.le_refl _) hPs ⟨#[], by simp⟩ ht
end
end Ab
namespace Ab
open PySem PySem.Spec PyProof.Rows L2
/-- where the tables of the codes are tracked -/
abbrev T0 : Nat := 1000
abbrev tv (tb : List Addr) : Nat × Option Tr := (T0, some (.tabs tb))
/-- any (sv = true), all (sv = false) of what me makes of the items -/
def genM {α S : Type} (sv : Bool) (me : α → S → Option (Bool × S)) : List α → S → Option (Bool × S)
  | [], s => some (!sv, s)
  | x :: l, s => (me x s).bind fun p => if p.1 = sv then some (sv, p.2) else genM sv me l p.2
@[reducible] def genB {α S : Type} (sv : Bool) (Me : α → S → (Bool → S → Option (Bool × S)) → Option (Bool × S)) : List α → S → Option (Bool × S) := genM sv fun x s => Me x s fun b s1 => some (b, s1)
theorem genM_any {α S : Type} (f : α → Bool) : ∀ (xs : List α) (s : S), genM true (fun x s => some (f x, s)) xs s = some (xs.any f, s)
  | [], _ => rfl
  | x :: l, s => by
    show (if f x = true then some (true, s) else genM true (fun x s => some (f x, s)) l s) = _
    rw [genM_any f l s]
    cases h : f x <;> simp [List.any_cons, h]
theorem genM_all {α S : Type} (f : α → Bool) : ∀ (xs : List α) (s : S), genM false (fun x s => some (f x, s)) xs s = some (xs.all f, s)
  | [], _ => rfl
  | x :: l, s => by
    show (if f x = false then some (false, s) else genM false (fun x s => some (f x, s)) l s) = _
    rw [genM_all f l s]
    cases h : f x <;> simp [List.all_cons, h]
theorem genB_drop {α S : Type} {sv : Bool} {Me : α → S → (Bool → S → Option (Bool × S)) → Option (Bool × S)} {xs : List α} {i : Nat} {x : α} {s : S} {res : Bool × S} (hx : xs[i]? = some x) (h : genB sv Me (xs.drop i) s = some res) :
    ∃ b s1, (Me x s fun b s1 => some (b, s1)) = some (b, s1) ∧ ((b = sv ∧ res = (sv, s1)) ∨ (b = !sv ∧ genB sv Me (xs.drop (i + 1)) s1 = some res)) := by
  obtain ⟨hi, hx'⟩ := List.getElem?_eq_some_iff.mp hx
  rw [List.drop_eq_getElem_cons hi, hx'] at h
  unfold genB at h
  rw [genM] at h
  obtain ⟨⟨b, s1⟩, h1, h2⟩ := bind_some h
  refine ⟨b, s1, h1, ?_⟩
  by_cases e : b = sv
  · rw [if_pos (show (b, s1).1 = sv from e)] at h2
    exact .inl ⟨e, (Option.some.inj h2).symm⟩
  · rw [if_neg (show ¬ (b, s1).1 = sv from e)] at h2
    refine .inr ⟨?_, h2⟩
    cases b <;> cases sv <;> simp_all
section
variable {Y : Cx} {S : Type} {ι : Io S} {Δ : Dl} {α : Type} {E : α → D} {tg elt : Expr} {J : It}
/-- the steps of a walk -/
theorem gen_step {own : List (Str × Nat)} {ixs kx : List Nat} {b : α → Dl} {xs : List α} {sv : Bool} {Me : α → S → (Bool → S → Option (Bool × S)) → Option (Bool × S)} {res : Bool × S} {σ : L2.St} {H1 Hf1 : Hp} {A : Nat → List Addr}
    (wk : Walks Y.K J xs E Hf1) (hg : GX Y ι tg ixs b E) (he : ∀ x s1, EX Y ι (b x ++ (forget (own.map (·.2)) ++ Δ)) s1 elt (Me x s1) Ty.bool)
    (hk1 : ∀ x, (b x).map (·.1) = kx) (hk2 : ∀ i ∈ kx, i ∈ own.map (·.2)) (hk3 : ∀ i ∈ ixs, i ∈ own.map (·.2)) (hx : ∀ i ∈ own.map (·.2), i ∉ ι.ix) :
    GStep Y J tg elt (wipe σ (own.map (·.2))) (fun i H' => i ≤ xs.length ∧ ∃ si Hf', Sat Y.K σ H' Hf' (ι.tr si ++ Δ) A ∧ ExtA ι.ix A H1 Hf1 H' Hf' ∧ genB sv Me (xs.drop i) si = some res)
      (fun H' => ∃ Hf', Sat Y.K σ H' Hf' (ι.tr res.2 ++ Δ) A ∧ ExtA ι.ix A H1 Hf1 H' Hf' ∧ res.1 = sv) (fun H' => ∃ Hf', Sat Y.K σ H' Hf' (ι.tr res.2 ++ Δ) A ∧ ExtA ι.ix A H1 Hf1 H' Hf' ∧ res.1 = !sv) xs.length sv := by
  have hxP : ∀ s', ∀ i ∈ own.map (·.2), i ∉ (ι.tr s').map (·.1) := fun s' i m => by rw [ι.keys]; exact hx i m
  rintro i H' ⟨hi', si, Hf', st', ex', hgb⟩
  by_cases hlt : i < xs.length
  · obtain ⟨x, hxi⟩ : ∃ x, xs[i]? = some x := ⟨_, List.getElem?_eq_getElem hlt⟩
    obtain ⟨bv, s2, hfx, hres⟩ := genB_drop hxi hgb
    refine .inr ⟨wk.go i H' Hf' ex'.grow st'.sub hlt, hlt, fun v H2 hy => ?_⟩
    obtain ⟨Hf2, e2, sb2, rv⟩ := wk.yld i x v H' H2 Hf' ex'.grow st'.sub hxi hy
    have st2 := st'.up e2 sb2
    refine hg x v (wipe σ (own.map (·.2))) H2 Hf2 (forget (own.map (·.2)) ++ Δ) _ si _ (st2.wiped (hxP si)) rv fun σ3 st3 o3 => ?_
    have hw3 := wipe_eq o3 hk3
    refine ⟨⟨by rw [← hw3, wipe_length], fun j v e => ?_⟩, ?_⟩
    · rw [← hw3] at e
      exact (wipe_some e).1
    have back : ∀ {H4 Hf4 : Hp} {s4 : S}, Sat Y.K σ3 H4 Hf4 (ι.tr s4 ++ (b x ++ (forget (own.map (·.2)) ++ Δ))) (cutL (cutL A (own.map (·.2))) ixs) → ExtA ι.ix (cutL (cutL A (own.map (·.2))) ixs) H2 Hf2 H4 Hf4 →
        Sat Y.K σ H4 Hf4 (ι.tr s4 ++ Δ) A ∧ ExtA ι.ix A H1 Hf1 H4 Hf4 := by
      intro H4 Hf4 s4 st4 e4
      have inA : ∀ {j a}, a ∈ cutL (cutL A (own.map (·.2))) ixs j → a ∈ A j ∧ j ∉ own.map (·.2) := fun h => ⟨(cutL_in (cutL_in h).1).1, (cutL_in (cutL_in h).1).2⟩
      refine ⟨⟨st4.sub, fun j T hj => ?_, fun j a ha => ?_, st2.inj⟩, ?_⟩
      · by_cases m : j ∈ own.map (·.2)
        · rw [lk_append_out (hxP s4 j m)] at hj
          have hj2 : lk (ι.tr si ++ Δ) j = some T := by rw [lk_append_out (hxP si j m)]; exact hj
          obtain ⟨w, w1, w2⟩ := st2.slot j T hj2
          refine ⟨w, w1, w2.up e4.grow fun a ha u hu => e4.keep a u (fun l _ hl => ?_) hu⟩
          have := st2.inj j l a ha (inA hl).1
          subst this
          exact (inA hl).2 m
        · have mk : j ∉ kx := fun z => m (hk2 j z)
          have hj2 : lk (ι.tr s4 ++ (b x ++ (forget (own.map (·.2)) ++ Δ))) j = some T := by
            by_cases k' : j ∈ (ι.tr s4).map (·.1)
            · rw [lk_append_in (Δ' := Δ) k']; exact hj
            · rw [lk_append_out k', lk_append_out (by rw [hk1]; exact mk), lk_append_out (by rw [forget_keys]; exact m)]
              rw [lk_append_out k'] at hj; exact hj
          obtain ⟨w, w1, w2⟩ := st4.slot j T hj2
          have ni : j ∉ ixs := fun z => m (hk3 j z)
          rw [o3.out j ni, mem_wipe_ne m] at w1
          refine ⟨w, w1, ?_⟩
          have ec : cutL (cutL A (own.map (·.2))) ixs j = A j := by unfold cutL; rw [if_neg ni, if_neg m]
          rw [ec] at w2
          exact w2
      · obtain ⟨n1, n2⟩ := st2.own j a ha
        refine ⟨?_, e4.there a n2⟩
        cases z : Hf4 a with
        | none => rfl
        | some u =>
          rcases e4.news a (by rw [z]; simp) with w | w
          · exact absurd n1 w
          · exact absurd w n2
      · have e5 : ExtA ι.ix A H2 Hf2 H4 Hf4 := ⟨fun a u m h => e4.keep a u (fun l hl0 hl => m l hl0 (inA hl).1) h, e4.there, e4.grow, e4.news⟩
        exact (ex'.trans e2.toA).trans e5
    refine he x si _ _ hfx σ3 H2 Hf2 _ _ st3 fun y s4 hy4 w H4 Hf4 st5 e4 r4 => ?_
    cases hy4
    obtain ⟨q1, q2⟩ := back st5 e4
    refine ⟨bv, by cases r4; rfl, ?_⟩
    rcases hres with ⟨h1, h2⟩ | ⟨h1, h2⟩
    · refine .inl ⟨h1, Hf4, ?_, q2, ?_⟩
      · rw [h2]; exact q1
      · rw [h2]
    · exact .inr ⟨h1, hlt, s2, Hf4, q1, q2, h2⟩
  · have ei : i = xs.length := by omega
    subst ei
    rw [List.drop_length] at hgb
    have hgb : some (!sv, si) = some res := hgb
    have e : (!sv, si) = res := Option.some.inj hgb
    subst e
    exact .inl ⟨wk.stop _ H' Hf' ex'.grow st'.sub (Nat.le_refl _), rfl, Hf', st', ex', rfl⟩
end
theorem tabbed_sub {P : Addr} {H H' : Hp} (h0 : GxR.TabG H P) (h : GxR.Tabbed P H H') : Sub H H' := fun a o e => by
  by_cases z : a = P
  · subst z
    obtain ⟨ps, h1, h2⟩ := h0
    obtain ⟨qs, g1, g2⟩ := h.1
    rw [h1] at e
    cases e
    exact ⟨⟨qs, g1⟩, fun _ => ⟨qs, g1, g2⟩⟩
  · exact .self (by rw [h.2 a z]; exact e)
section
variable {X : Cx} {S : Type} {ι : Io S} {Δ : Dl} {s : S} {R : Type} {α : Type} {E : α → D} {elt tg iter : Expr} {gpos pos p : Pos} {scope : Scope} {c P : Addr} {k : Nat}
/-- the generator's surroundings -/
theorem over_gen {A : Around} {genv : Env} {it : Addr} {l : List Env} (hr : Room (k + 1) A) (hf : A.frames = some l) :
    Room k (A.in1.in1.over (.compLoop (.GeneratorExp elt [⟨tg, iter, [], 0⟩] scope gpos) 0 (.ref it) .none genv) []) ∧ (A.in1.in1.over (.compLoop (.GeneratorExp elt [⟨tg, iter, [], 0⟩] scope gpos) 0 (.ref it) .none genv) []).frames = some (genv :: l) := by
  obtain ⟨h1, h2, h3⟩ := hr
  obtain ⟨hd, d, fr, gs, u⟩ := A
  cases hf
  refine ⟨⟨h1, ?_, ?_⟩, ?_⟩
  · have h2 : d + 3 * (k + 1) + 5 < recursionLimit := h2
    simp [Around.over, Around.in1, marksOver, frameCount, unitsOf, envsOf, guardsOf, pushEnvs, pushGuards, Code.envs, Code.env?, Code.isFrame, Code.guards, Code.isGuard, Code.weight, Code.frames, Code.isCreation, Code.isCaller, Code.cUnits]
    omega
  · have h3 : u + 16 * (k + 1) + 200 < cLine := h3
    simp [Around.over, Around.in1, marksOver, frameCount, unitsOf, envsOf, guardsOf, pushEnvs, pushGuards, Code.envs, Code.env?, Code.isFrame, Code.guards, Code.isGuard, Code.weight, Code.frames, Code.isCreation, Code.isCaller, Code.cUnits]
    omega
  · simp [Around.over, Around.in1, marksOver, frameCount, unitsOf, envsOf, guardsOf, pushEnvs, pushGuards, Code.envs, Code.env?, Code.isFrame, Code.guards, Code.isGuard, Code.weight, Code.frames, Code.isCreation, Code.isCaller, Code.cUnits]
/-- the generator of any, all: ready to be walked -/
theorem gen_core {own : List (Str × Nat)} {ixs kx : List Nat} {b : α → Dl} {sv : Bool} {Mi : (List α → S → Option R) → Option R} {Me : α → S → (Bool → S → Option (Bool × S)) → Option (Bool × S)} {tb : List Addr} {kk : Bool → S → Option R} {r : R}
    {pins : List (Addr × Obj)} {σ : L2.St} {H Hf : Hp} {A : Nat → List Addr} {Q : VK} {sh : Shared}
    (hr : Room (k + 1) X.A) (TB : GxR.TabB X.base X.mg c P) (hcode : X.env.code = .ref c) (hP : P ∈ tb) (hT : ∀ s, lk (ι.tr s ++ Δ) T0 = some (.tabs tb)) (hN : X.N.Nodup)
    (hi : IX X ι Δ s tg iter Mi E)
    (hg : ∀ s0 H0 C cl code fp Ag, GX (genX X s0 H0 (genEnv scope cl C code builtinsNs X.env) fp Ag) ι tg ixs b E)
    (he : ∀ s0 H0 C cl code fp Ag x s1, Room k Ag → EX (genX X s0 H0 (genEnv scope cl C code builtinsNs X.env) fp Ag) ι (b x ++ (forget (own.map (·.2)) ++ Δ)) s1 elt (Me x s1) Ty.bool)
    (ok : BlkOk X.N X.env.scope scope own) (nc : ∀ y ∈ scope.names, y.2 ≠ .cell) (dot : scope.names.lookup (".0" : Str) = some NameKind.local) (hco : scope.isCoroutine = false) (hs : ∀ v, genFold iter X.env v = pure v)
    (hk1 : ∀ x, (b x).map (·.1) = kx) (hk2 : ∀ i ∈ kx, i ∈ own.map (·.2)) (hk3 : ∀ i ∈ ixs, i ∈ own.map (·.2)) (hx : ∀ i ∈ own.map (·.2), i ∉ ι.ix) (hc : X.calm = true)
    (hk : (Mi fun xs s1 => (genB sv Me xs s1).bind fun p => kk p.1 p.2) = some r) (st : Sat X.K σ H Hf (ι.tr s ++ Δ) A)
    (q : ∀ x s', kk x s' = some r → ∀ v H' Hf', Sat X.K σ H' Hf' (ι.tr s' ++ Δ) A → ExtA ι.ix A H Hf H' Hf' → Rp X.K Hf' v (Ty.bool x) → Q v H') (I : L2.Inv X pins σ H sh) :
    wpAny (model X.prog X.w) X.A (eval (.GeneratorExp elt [⟨tg, iter, [], 0⟩] scope gpos) X.env) (fun u s6 => ∃ a g n St, u = .ref a ∧ s6.heap.IsGen a g ∧ St 0 s6 ∧ AnyTurn X.prog X.w X.A a sv n St (EP X pins σ Q)) X.xe sh := by
  refine gen_make (R := fun J H1 => ∃ xs s1 Hf1, (genB sv Me xs s1).bind (fun p => kk p.1 p.2) = some r ∧ Sat X.K σ H1 Hf1 (ι.tr s1 ++ Δ) A ∧ ExtA ι.ix A H Hf H1 Hf1 ∧ Walks X.K J xs E Hf1) hr TB hcode ok nc dot hco hs I ?_ ?_
  · refine hi _ r hk σ H Hf A _ st fun xs s1 hx1 J H1 Hf1 st1 e1 wk => ?_
    have hl := hT s1
    obtain ⟨v, _, h1, h2⟩ := st1.slot T0 _ hl
    exact ⟨h2 P hP, xs, s1, Hf1, hx1, st1, e1, wk⟩
  · intro a s6 M
    obtain ⟨it, fp, tn, J, H2, H3, s3, code, gobj, g, m0, I3, hTb, T, f3, qt, hn, ha, hac, has, hgd, hgen, hgs, st6, xs, s1, Hf1, hkk, st1, e1, wk⟩ := M.ex
    obtain ⟨res, hres, hfin⟩ := bind_some hkk
    have hl := hT s1
    have tg2 : GxR.TabG H2 P := by
      obtain ⟨v, _, h1, h2⟩ := st1.slot T0 _ hl
      exact h2 P hP
    have sub3 : Sub H2 H3 := tabbed_sub tg2 hTb
    have e3 : Ext H2 Hf1 H3 Hf1 := ⟨sub3, Sub.refl _, fun _ h => .inl h⟩
    have st3 := st1.up e3 (st1.sub.trans sub3)
    have e13 := e1.trans e3.toA
    have fA : X.A.frames = some X.stack := I3.ok.frames
    obtain ⟨rG, fG⟩ := over_gen (elt := elt) (tg := tg) (iter := iter) (gpos := gpos) (scope := scope) (it := it) (genv := genEnv scope (cloFrom X.env.cells scope.names []) s3.heap.objs.size code builtinsNs X.env) hr fA
    generalize hov : (X.A.in1.in1.over (.compLoop (.GeneratorExp elt [⟨tg, iter, [], 0⟩] scope gpos) 0 (.ref it) .none (genEnv scope (cloFrom X.env.cells scope.names []) s3.heap.objs.size code builtinsNs X.env)) []) = Ag at rG fG
    have I6 := gen_start (Ag := Ag) I3 ok hN nc f3 (fun _ => rG.hd) fG qt hn ha hac has hgd
    have step := gen_step (Y := genX X s3 H3 (genEnv scope (cloFrom X.env.cells scope.names []) s3.heap.objs.size code builtinsNs X.env) fp Ag) (J := J) (tg := tg) (elt := elt) (Δ := Δ) (own := own) (sv := sv) (Me := Me) (res := res) (σ := σ) (H1 := H3) (Hf1 := Hf1) (A := A) (xs := xs) (E := E) wk (hg _ _ _ _ _ _ _) (fun x s1 => he _ _ _ _ _ _ _ x s1 rG) hk1 hk2 hk3 hx
    have hpl : ∀ p ∈ [(a, gobj)], ∀ b ∈ fp, p.1 ≠ b := fun p hp b hb z => by
      have hp' : p = (a, gobj) := by simpa using hp
      subst hp'
      have := (f3 b hb).2
      have z : a = b := z
      rw [← z] at this
      exact absurd (Nat.lt_of_lt_of_le this has) (Nat.lt_irrefl _)
    have back : ∀ {H' : Hp} {s' : Shared}, L2.Inv (genX X s3 H3 (genEnv scope (cloFrom X.env.cells scope.names []) s3.heap.objs.size code builtinsNs X.env) fp Ag) [(a, gobj)] (wipe σ (own.map (·.2))) H' s' → L2.Inv X pins σ H' s' := fun Ig =>
      I3.call' (ch := fp) Ig.os Ig.base Ig.hok Ig.bare fun b hb => ⟨(f3 b hb).1.2.2.2.1, (f3 b hb).1.2.1, (f3 b hb).1.2.2.2.2.1, (f3 b hb).1.2.2.2.2.2⟩
    generalize hgv : genEnv scope (cloFrom X.env.cells scope.names []) s3.heap.objs.size code builtinsNs X.env = genv at hov I6 step back hgs
    have hcg : genv.scope.isCoroutine = false := by rw [← hgv]; exact hco
    obtain ⟨W, Wend, Wstop, step, w0, we, ws⟩ : ∃ (W : Nat → Hp → Prop) (Wend Wstop : Hp → Prop), GStep (genX X s3 H3 genv fp Ag) J tg elt (wipe σ (own.map (·.2))) W Wend Wstop xs.length sv ∧ W 0 H3 ∧
        (∀ H', Wend H' → ∃ Hf', Sat X.K σ H' Hf' (ι.tr res.2 ++ Δ) A ∧ ExtA ι.ix A H3 Hf1 H' Hf' ∧ res.1 = sv) ∧ (∀ H', Wstop H' → ∃ Hf', Sat X.K σ H' Hf' (ι.tr res.2 ++ Δ) A ∧ ExtA ι.ix A H3 Hf1 H' Hf' ∧ res.1 = !sv) :=
      ⟨_, _, _, step, ⟨Nat.zero_le _, s1, Hf1, st3, ExtA.refl _ _ _ _, hres⟩, fun _ h => h, fun _ h => h⟩
    have g0 : GenSt (genX X s3 H3 genv fp Ag) [(a, gobj)] fp tn (wipe σ (own.map (·.2))) W 0 s6 := ⟨H3, I6, st6, fun b hb => (f3 b hb).1.1, w0⟩
    refine ⟨a, g, xs.length, (fun i s => ∃ gs, s.gens[g]? = some gs ∧ GenSt (genX X s3 H3 genv fp Ag) [(a, gobj)] fp tn (wipe σ (own.map (·.2))) W i s ∧ ∀ s'', Quiet s s'' →
      gs.Goes (model X.prog X.w) X.A.in1.in1 (fun m s₀ r s₁ => r = .ok .next ∧ gnd (genX X s3 H3 genv fp Ag) [(a, gobj)] (wipe σ (own.map (·.2))) Wstop m s₀ s₁) (gyp (genX X s3 H3 genv fp Ag) [(a, gobj)] fp tn (wipe σ (own.map (·.2))) W Wend xs.length sv) (xs.length - i) (.send .none) s''), rfl, hgen _ ha, ?_, ?_⟩
    · refine ⟨_, hgs, g0, fun s'' qq => ⟨rfl, ?_⟩⟩
      exact seg_genG0 (elt := elt) (tg := tg) (iter := iter) (pos := gpos) (scope := scope) (it := it) hov hc T hpl hcg step s'' s'' (GenSt.quiet (Y := genX X s3 H3 genv fp Ag) T g0 qq)
    · refine gen_turn (A := X.A) (pl := [(a, gobj)]) (σ0 := wipe σ (own.map (·.2))) (fp := fp) (tn := tn) (s3 := s3) (H3 := H3) (Ag := Ag) (J := J) (genv := genv) (W := W) (Wend := Wend) (Wstop := Wstop) hr.hd (by have := hr.dp; omega) T (fun σ' H' s' I' => hgen _ (I'.pin (a, gobj) (by simp)).1) (fun H' s' I' w => ?_) (fun H' s' I' w => ?_)
      · obtain ⟨Hf', st', e', rb⟩ := we H' w
        refine ⟨.bl sv, H', back I', rfl, q res.1 res.2 hfin _ H' Hf' st' (e13.trans e') ?_⟩
        rw [rb]; exact .bl sv
      · obtain ⟨Hf', st', e', rb⟩ := ws H' w
        refine ⟨.bl (!sv), H', back I', rfl, q res.1 res.2 hfin _ H' Hf' st' (e13.trans e') ?_⟩
        rw [rb]; exact .bl (!sv)
/-- any(e for x in xs) -/
theorem ex_any {own : List (Str × Nat)} {ixs : List Nat} {b : α → Dl} {Mi : (List α → S → Option R) → Option R} {Me : α → S → (Bool → S → Option (Bool × S)) → Option (Bool × S)} {tb : List Addr}
    (hr : Room (k + 1) X.A) (hm : X.mg "any" = none) (TB : GxR.TabB X.base X.mg c P) (hP : P ∈ tb) (hcode : X.env.code = .ref c) (hN : X.N.Nodup) (hT : ∀ s, lk (ι.tr s ++ Δ) T0 = some (.tabs tb))
    (hi : IX X ι Δ s tg iter Mi E)
    (hg : ∀ s0 H0 C cl code fp Ag, GX (genX X s0 H0 (genEnv scope cl C code builtinsNs X.env) fp Ag) ι tg ixs b E)
    (he : ∀ s0 H0 C cl code fp Ag x s1, Room k Ag → EX (genX X s0 H0 (genEnv scope cl C code builtinsNs X.env) fp Ag) ι (b x ++ (forget (own.map (·.2)) ++ Δ)) s1 elt (Me x s1) Ty.bool)
    (ok : blkC X.N X.env.scope scope own = true := by kernel_rfl) (nc : ∀ y ∈ scope.names, y.2 ≠ .cell := by decide +kernel) (dot : scope.names.lookup (".0" : Str) = some NameKind.local := by rfl) (hco : scope.isCoroutine = false := by rfl) (hs : ∀ v, genFold iter X.env v = pure v := by intro _; rfl)
    (kx : List Nat := ixs) (hk1 : ∀ x, (b x).map (·.1) = kx := by intro _; rfl) (hk2 : ∀ i ∈ kx, i ∈ own.map (·.2) := by decide) (hk3 : ∀ i ∈ ixs, i ∈ own.map (·.2) := by decide) (hx : ∀ i ∈ own.map (·.2), i ∉ ι.ix := by first | decide | exact of_decide_eq_true rfl) (hc : X.calm = true := by rfl) (hgl : Gl X "any" := by rfl)
    (hst : starEach [.GeneratorExp elt [⟨tg, iter, [], 0⟩] scope gpos] X.env = (false, eval (.GeneratorExp elt [⟨tg, iter, [], 0⟩] scope gpos) X.env) :: starEach [] X.env := by rfl) :
    EX X ι Δ s (.Call (.Name "any" p) [.GeneratorExp elt [⟨tg, iter, [], 0⟩] scope gpos] [] pos) (fun kk => Mi fun xs s1 => (genB true Me xs s1).bind fun p => kk p.1 p.2) Ty.bool := by
  intro kk r hk σ H Hf A Q st q
  refine ⟨fun pins sh I => ?_⟩
  refine wpAny_Call_Name_kw (ld_blt I hgl hm Bo.any ?_)
  refine PyProof.Rows.callWith_builtin1 ?_ hst (by rfl)
  rw [hst]
  show wpAny _ _ (spliced ((false, eval (.GeneratorExp elt [⟨tg, iter, [], 0⟩] scope gpos) X.env) :: backTo pos (starEach [] X.env))) _ _ sh
  refine Calls.spliced_cons (wpAny_mono (gen_core (sv := true) hr TB hcode hP hT hN hi hg he (blkOk_by ok) nc dot hco hs hk1 hk2 hk3 hx hc hk st q I) (fun u s6 h => ?_) fun _ _ h => h)
  obtain ⟨a, g, n, St, rfl, hga, h0, turn⟩ := h
  refine Calls.spliced_nil ?_
  exact call_anyG hga h0 turn
/-- all(e for x in xs) -/
theorem ex_all {own : List (Str × Nat)} {ixs : List Nat} {b : α → Dl} {Mi : (List α → S → Option R) → Option R} {Me : α → S → (Bool → S → Option (Bool × S)) → Option (Bool × S)} {tb : List Addr}
    (hr : Room (k + 1) X.A) (hm : X.mg "all" = none) (TB : GxR.TabB X.base X.mg c P) (hP : P ∈ tb) (hcode : X.env.code = .ref c) (hN : X.N.Nodup) (hT : ∀ s, lk (ι.tr s ++ Δ) T0 = some (.tabs tb))
    (hi : IX X ι Δ s tg iter Mi E)
    (hg : ∀ s0 H0 C cl code fp Ag, GX (genX X s0 H0 (genEnv scope cl C code builtinsNs X.env) fp Ag) ι tg ixs b E)
    (he : ∀ s0 H0 C cl code fp Ag x s1, Room k Ag → EX (genX X s0 H0 (genEnv scope cl C code builtinsNs X.env) fp Ag) ι (b x ++ (forget (own.map (·.2)) ++ Δ)) s1 elt (Me x s1) Ty.bool)
    (ok : blkC X.N X.env.scope scope own = true := by kernel_rfl) (nc : ∀ y ∈ scope.names, y.2 ≠ .cell := by decide +kernel) (dot : scope.names.lookup (".0" : Str) = some NameKind.local := by rfl) (hco : scope.isCoroutine = false := by rfl) (hs : ∀ v, genFold iter X.env v = pure v := by intro _; rfl)
    (kx : List Nat := ixs) (hk1 : ∀ x, (b x).map (·.1) = kx := by intro _; rfl) (hk2 : ∀ i ∈ kx, i ∈ own.map (·.2) := by decide) (hk3 : ∀ i ∈ ixs, i ∈ own.map (·.2) := by decide) (hx : ∀ i ∈ own.map (·.2), i ∉ ι.ix := by first | decide | exact of_decide_eq_true rfl) (hc : X.calm = true := by rfl) (hgl : Gl X "all" := by rfl)
    (hst : starEach [.GeneratorExp elt [⟨tg, iter, [], 0⟩] scope gpos] X.env = (false, eval (.GeneratorExp elt [⟨tg, iter, [], 0⟩] scope gpos) X.env) :: starEach [] X.env := by rfl) :
    EX X ι Δ s (.Call (.Name "all" p) [.GeneratorExp elt [⟨tg, iter, [], 0⟩] scope gpos] [] pos) (fun kk => Mi fun xs s1 => (genB false Me xs s1).bind fun p => kk p.1 p.2) Ty.bool := by
  intro kk r hk σ H Hf A Q st q
  refine ⟨fun pins sh I => ?_⟩
  refine wpAny_Call_Name_kw (ld_blt I hgl hm Bo.all ?_)
  refine PyProof.Rows.callWith_builtin1 ?_ hst (by rfl)
  rw [hst]
  show wpAny _ _ (spliced ((false, eval (.GeneratorExp elt [⟨tg, iter, [], 0⟩] scope gpos) X.env) :: backTo pos (starEach [] X.env))) _ _ sh
  refine Calls.spliced_cons (wpAny_mono (gen_core (sv := false) hr TB hcode hP hT hN hi hg he (blkOk_by ok) nc dot hco hs hk1 hk2 hk3 hx hc hk st q I) (fun u s6 h => ?_) fun _ _ h => h)
  obtain ⟨a, g, n, St, rfl, hga, h0, turn⟩ := h
  refine Calls.spliced_nil ?_
  exact call_allG hga h0 turn
theorem ex_anyM {own : List (Str × Nat)} {ixs : List Nat} {b : α → Dl} {Mi : (List α → S → Option R) → Option R} {f : α → Bool} {tb : List Addr}
    (hr : Room (k + 1) X.A) (hm : X.mg "any" = none) (TB : GxR.TabB X.base X.mg c P) (hP : P ∈ tb) (hcode : X.env.code = .ref c) (hN : X.N.Nodup) (hT : ∀ s, lk (ι.tr s ++ Δ) T0 = some (.tabs tb))
    (hi : IX X ι Δ s tg iter Mi E)
    (hg : ∀ s0 H0 C cl code fp Ag, GX (genX X s0 H0 (genEnv scope cl C code builtinsNs X.env) fp Ag) ι tg ixs b E)
    (he : ∀ s0 H0 C cl code fp Ag x s1, Room k Ag → EX (genX X s0 H0 (genEnv scope cl C code builtinsNs X.env) fp Ag) ι (b x ++ (forget (own.map (·.2)) ++ Δ)) s1 elt (fun (kk : Bool → S → Option (Bool × S)) => kk (f x) s1) Ty.bool)
    (ok : blkC X.N X.env.scope scope own = true := by kernel_rfl) (nc : ∀ y ∈ scope.names, y.2 ≠ .cell := by decide +kernel) (dot : scope.names.lookup (".0" : Str) = some NameKind.local := by rfl) (hco : scope.isCoroutine = false := by rfl) (hs : ∀ v, genFold iter X.env v = pure v := by intro _; rfl)
    (kx : List Nat := ixs) (hk1 : ∀ x, (b x).map (·.1) = kx := by intro _; rfl) (hk2 : ∀ i ∈ kx, i ∈ own.map (·.2) := by decide) (hk3 : ∀ i ∈ ixs, i ∈ own.map (·.2) := by decide) (hx : ∀ i ∈ own.map (·.2), i ∉ ι.ix := by first | decide | exact of_decide_eq_true rfl) (hc : X.calm = true := by rfl) (hgl : Gl X "any" := by rfl)
    (hst : starEach [.GeneratorExp elt [⟨tg, iter, [], 0⟩] scope gpos] X.env = (false, eval (.GeneratorExp elt [⟨tg, iter, [], 0⟩] scope gpos) X.env) :: starEach [] X.env := by rfl) :
    EX X ι Δ s (.Call (.Name "any" p) [.GeneratorExp elt [⟨tg, iter, [], 0⟩] scope gpos] [] pos) (fun kk => Mi fun xs s1 => kk (xs.any f) s1) Ty.bool := by
  refine EX.congr (ex_any (Me := fun x s1 kk => kk (f x) s1) hr hm TB hP hcode hN hT hi hg he ok nc dot hco hs kx hk1 hk2 hk3 hx hc hgl hst) fun kk => ?_
  congr 1
  funext xs s1
  unfold genB
  rw [genM_any]
  rfl
theorem ex_allM {own : List (Str × Nat)} {ixs : List Nat} {b : α → Dl} {Mi : (List α → S → Option R) → Option R} {f : α → Bool} {tb : List Addr}
    (hr : Room (k + 1) X.A) (hm : X.mg "all" = none) (TB : GxR.TabB X.base X.mg c P) (hP : P ∈ tb) (hcode : X.env.code = .ref c) (hN : X.N.Nodup) (hT : ∀ s, lk (ι.tr s ++ Δ) T0 = some (.tabs tb))
    (hi : IX X ι Δ s tg iter Mi E)
    (hg : ∀ s0 H0 C cl code fp Ag, GX (genX X s0 H0 (genEnv scope cl C code builtinsNs X.env) fp Ag) ι tg ixs b E)
    (he : ∀ s0 H0 C cl code fp Ag x s1, Room k Ag → EX (genX X s0 H0 (genEnv scope cl C code builtinsNs X.env) fp Ag) ι (b x ++ (forget (own.map (·.2)) ++ Δ)) s1 elt (fun (kk : Bool → S → Option (Bool × S)) => kk (f x) s1) Ty.bool)
    (ok : blkC X.N X.env.scope scope own = true := by kernel_rfl) (nc : ∀ y ∈ scope.names, y.2 ≠ .cell := by decide +kernel) (dot : scope.names.lookup (".0" : Str) = some NameKind.local := by rfl) (hco : scope.isCoroutine = false := by rfl) (hs : ∀ v, genFold iter X.env v = pure v := by intro _; rfl)
    (kx : List Nat := ixs) (hk1 : ∀ x, (b x).map (·.1) = kx := by intro _; rfl) (hk2 : ∀ i ∈ kx, i ∈ own.map (·.2) := by decide) (hk3 : ∀ i ∈ ixs, i ∈ own.map (·.2) := by decide) (hx : ∀ i ∈ own.map (·.2), i ∉ ι.ix := by first | decide | exact of_decide_eq_true rfl) (hc : X.calm = true := by rfl) (hgl : Gl X "all" := by rfl)
    (hst : starEach [.GeneratorExp elt [⟨tg, iter, [], 0⟩] scope gpos] X.env = (false, eval (.GeneratorExp elt [⟨tg, iter, [], 0⟩] scope gpos) X.env) :: starEach [] X.env := by rfl) :
    EX X ι Δ s (.Call (.Name "all" p) [.GeneratorExp elt [⟨tg, iter, [], 0⟩] scope gpos] [] pos) (fun kk => Mi fun xs s1 => kk (xs.all f) s1) Ty.bool := by
  refine EX.congr (ex_all (Me := fun x s1 kk => kk (f x) s1) hr hm TB hP hcode hN hT hi hg he ok nc dot hco hs kx hk1 hk2 hk3 hx hc hgl hst) fun kk => ?_
  congr 1
  funext xs s1
  unfold genB
  rw [genM_all]
  rfl
end
end Ab
namespace Ab
open PySem PySem.Spec PyProof.Rows L2
/-! ### defs whose calls make generators: the tables are part of the state -/
abbrev ioG (tb : List Addr) {S : Type} (ι : Io S) : Io S := ⟨T0 :: ι.ix, fun s => tv tb :: ι.tr s, fun s => by rw [List.map_cons, ι.keys]⟩
theorem freeG {S : Type} {ι : Io S} (tb : List Addr) (h : ι.free) : (ioG tb ι).free := by
  intro s i T e K Hf Hf' H v as q
  by_cases z : i = T0
  · subst z
    have e' : lk ((T0, some (.tabs tb)) :: ι.tr s) T0 = some T := e
    rw [lk_self] at e'
    cases e'
    exact q
  · have e' : lk ((T0, some (.tabs tb)) :: ι.tr s) i = some T := e
    rw [lk_ne z] at e'
    exact h s i T e' K Hf Hf' H v as q
theorem embG {S : Type} {rt : S → Tr} (tb : List Addr) (i : Nat) (h : i ≠ T0) (nt : ∀ s, isTabs (rt s) = false) : Emb (ioG tb (io1 rt i)) i rt where
  ix := by simp
  at_ := fun s => by show lk ((T0, some (.tabs tb)) :: (i, some (rt s)) :: []) i = _; rw [lk_ne h, lk_self]
  oth := fun s s' j hj => by
    show lk ((T0, some (.tabs tb)) :: (i, some (rt s)) :: []) j = lk ((T0, some (.tabs tb)) :: (i, some (rt s')) :: []) j
    by_cases z : j = T0
    · subst z; rw [lk_self, lk_self]
    · rw [lk_ne z, lk_ne z, lk_ne hj, lk_ne hj]
  nt := nt
structure FunC (K : KF) (x qual : Str) (st : Stmt) (f : Addr) (fd : FuncData) (c : Addr) : Prop where
  fn : Fun K x qual st f fd
  cd : fd.code = .ref c
section
variable {Pg : Program} {w : World} {K : KF} {mg : Str → Option Value} {base : Heap}
theorem FunC.ok {x qual : Str} {st : Stmt} {f c : Addr} {fd : FuncData} {N ps : List Str} {k : Nat} {sp : Sp} (F : FunC K x qual st f fd c) (S : FnScope N ps (defScope st)) (len : ∀ vs H Q E, sp vs H Q E → vs.length = ps.length)
    (hbody : ∀ (A : Around) (outer : List Env) (s : Shared) (H : Hp) (vs : List V) (Q : VK) (E : XK), Room k (A.deeper (envOfC qual (defScope st) s.heap.objs.size f (.ref c))) → sp vs H Q E →
      ∃ t, PSs (cxOf CX0 Pg w K mg base N qual (defScope st) f (.ref c) A outer s H E).nox (defBody st) t ∧ t { nx := fun _ H' => Q .non H', rt := Q } (L2.start N vs) H) : FnOk Pg w K mg base CX0 (k + 1) f fd ps sp := by
  obtain ⟨oc, od, kV, doc, pm, an, cdv, ct, osl, rfl, lk, hcd⟩ := F.fn.ex
  have e : cdv = .ref c := F.cd
  subst e
  refine fn_of lk hcd S len fun A outer s H vs Q E hr hsp => ?_
  obtain ⟨t, h, q⟩ := hbody A outer s H vs Q E hr hsp
  exact ⟨t, h.nox, q⟩
/-- what fn_state says of a body -/
theorem state_body {X : Cx} {N : List Str} {S P C : Type} {ι : Io S} {n : Nat} {argE : P → List D} {g : P → S → Option (C × S)} {E : C → D} {st : List Stmt} {vs : List V} {H : Hp} {Q : VK} {p : P} {st0 s' : S} {c : C} {Hf : Hp} {As : Nat → List Addr}
    (body : BX X ι (argD n (argE p)) st0 st (g p st0) (fun c => Out.ret (E c.1) c.2)) (sat : Sat X.K (vs.map some) H Hf (ι.tr st0 ++ argD n (argE p)) As) (hA : ∀ i, i ∉ ι.ix → As i = []) (hf : g p st0 = some (c, s'))
    (q : ∀ v H' Hf', Sat X.K (vs.map some) H' Hf' (ι.tr s') As → ExtA ι.ix As H Hf H' Hf' → Rp X.K Hf' v (E c) → Q v H') :
    tS X st { nx := fun _ H' => Q .non H', rt := Q } (L2.start N vs) H := by
  have sat2 : Sat X.K (L2.start N vs) H Hf (ι.tr st0 ++ argD n (argE p)) As := ⟨sat.sub, fun i T hi => by
    obtain ⟨v, h1, h2⟩ := sat.slot i T hi
    exact ⟨v, fun n => start_at (h1 n), h2⟩, sat.own, sat.inj⟩
  refine body (c, s') hf _ H Hf As _ sat2 ?_
  intro v σ' H' Hf' A' h1 h2 h3
  refine q v H' Hf' ⟨h1.sub, fun i T hi => ?_, fun i a ha => ?_, sat.inj⟩ ⟨fun a o m h => h2.keep a o (fun i => by
      by_cases hk : i ∈ ι.ix
      · exact m i hk
      · rw [hA i hk]; simp) h, h2.there, h2.grow, fun a ha => ?_⟩ h3
  · have hk : i ∈ ι.ix := by rw [← ι.keys s']; exact lk_key hi
    obtain ⟨u, g1, g2⟩ := h1.slot i T hi
    rw [h2.root i hk] at g1
    rw [h2.stay i hk] at g2
    exact ⟨u, fun n => start_of (g1 n), g2⟩
  · by_cases hk : i ∈ ι.ix
    · exact h1.own i a (by rw [h2.stay i hk]; exact ha)
    · rw [hA i hk] at ha; simp at ha
  · rcases h2.news a ha with z | z | ⟨i, hi, z⟩
    · exact .inl z
    · exact .inr z
    · rw [hA i hi] at z; simp at z
theorem fn_stateC {x qual : Str} {st : Stmt} {f c0 : Addr} {fd : FuncData} {N ps : List Str} {k n : Nat} {S P C : Type} {ι : Io S} {argE : P → List D} {g : P → S → Option (C × S)} {E : C → D} (F : FunC K x qual st f fd c0) (Sc : FnScope N ps (defScope st))
    (len : ∀ p, n + (argE p).length = ps.length)
    (body : ∀ (p : P) (s : S) (A : Around) (outer : List Env) (sh : Shared) (H : Hp) (E' : XK), Room k (A.deeper (envOfC qual (defScope st) sh.heap.objs.size f (.ref c0))) →
      BX (cxOf CX0 Pg w K mg base N qual (defScope st) f (.ref c0) A outer sh H E').nox ι (argD n (argE p)) s (defBody st) (g p s) (fun c => Out.ret (E c.1) c.2)) :
    FnOk Pg w K mg base CX0 (k + 1) f fd ps (spS K n ι argE g E) := by
  refine F.ok Sc (fun vs H Q E' h => ?_) (fun A outer s H vs Q E' hr h => ?_)
  · obtain ⟨p, s, c, s', Hf, As, _, hl, _⟩ := h
    rw [hl, len p]
  · obtain ⟨p, st0, c, s', Hf, As, sat, hl, hA, hf, q⟩ := h
    exact ⟨_, pS _ _, state_body (body p st0 A outer s H E' hr) sat hA hf q⟩
/-- a def without a state of its own -/
abbrev gU {P C : Type} (g : P → Option C) : P → Unit → Option (C × Unit) := fun p _ => (g p).bind fun c => some (c, ())
theorem bxU {X : Cx} {ι : Io Unit} {Δ : Dl} {st : List Stmt} {C : Type} {m : Option C} {E : C → D} (h : BX X ι Δ () st m (fun c => Out.ret (E c) ())) : BX X ι Δ () st (m.bind fun c => some (c, ())) (fun c : C × Unit => Out.ret (E c.1) c.2) := by
  intro r hr
  obtain ⟨c, h1, h2⟩ := bind_some hr
  cases h2
  exact h c h1
theorem fn_pureG {x qual : Str} {st : Stmt} {f : Addr} {fd : FuncData} {N ps : List Str} {k : Nat} {P C : Type} {argE : P → List D} {g : P → Option C} {E : C → D} {tb : List Addr} (F : Fun K x qual st f fd) (S : FnScope N ps (defScope st))
    (len : ∀ p, (argE p).length = ps.length)
    (body : ∀ (p : P) (cdv : Value) (A : Around) (outer : List Env) (s : Shared) (H : Hp) (E' : XK), Room k (A.deeper (envOfC qual (defScope st) s.heap.objs.size f cdv)) →
      BX (cxOf CX0 Pg w K mg base N qual (defScope st) f cdv A outer s H E').nox (ioG tb io0) (argD 0 (argE p)) () (defBody st) (g p) (fun c => Out.ret (E c) ())) :
    FnOk Pg w K mg base CX0 (k + 1) f fd ps (spS K 0 (ioG tb io0) argE (gU g) E) :=
  fn_state F S (fun p => by rw [Nat.zero_add]; exact len p) fun p _ cdv A outer s H E' hr => bxU (body p cdv A outer s H E' hr)
theorem fn_pureC {x qual : Str} {st : Stmt} {f c0 : Addr} {fd : FuncData} {N ps : List Str} {k : Nat} {P C : Type} {argE : P → List D} {g : P → Option C} {E : C → D} {tb : List Addr} (F : FunC K x qual st f fd c0) (S : FnScope N ps (defScope st))
    (len : ∀ p, (argE p).length = ps.length)
    (body : ∀ (p : P) (A : Around) (outer : List Env) (s : Shared) (H : Hp) (E' : XK), Room k (A.deeper (envOfC qual (defScope st) s.heap.objs.size f (.ref c0))) →
      BX (cxOf CX0 Pg w K mg base N qual (defScope st) f (.ref c0) A outer s H E').nox (ioG tb io0) (argD 0 (argE p)) () (defBody st) (g p) (fun c => Out.ret (E c) ())) :
    FnOk Pg w K mg base CX0 (k + 1) f fd ps (spS K 0 (ioG tb io0) argE (gU g) E) :=
  fn_stateC F S (fun p => by rw [Nat.zero_add]; exact len p) fun p _ A outer s H E' hr => bxU (body p A outer s H E' hr)
end
section
variable {X : Cx} {S : Type} {ι : Io S} {Δ : Dl} {s : S} {R : Type} {pos p : Pos} {k : Nat}
/-- f(..), f a pure def that may make generators -/
theorem ex_callG {tb : List Addr} {x : Str} {f : Addr} {fd : FuncData} {ps : List Str} {P C : Type} {argE : P → List D} {g : P → Option C} {E : C → D} {es : List Expr} {M : (P → S → Option R) → Option R} {e1 : Expr}
    (F : FnOk X.prog X.w X.K X.mg X.base CX0 k f fd ps (spS X.K 0 (ioG tb io0) argE (gU g) E)) (hr : Room k X.A) (hm : X.mg x = some (.ref f)) (hk : PySem.W.keepIn X.K (.ref f) = true) (hb : Binds X.K fd ps [])
    (ha : AX X ι Δ s (e1 :: es) M argE) (hT : ∀ s, lk (ι.tr s ++ Δ) T0 = some (.tabs tb) := by intro _; rfl) (hI : T0 ∈ ι.ix := by first | decide | exact of_decide_eq_true rfl) (hg : Gl X x := by rfl) (hdb : (x == ("__debug__" : Str)) = false := by decide) (he : starEach (e1 :: es) X.env = (false, eval e1 X.env) :: starEach es X.env := by rfl) (hpl : (backTo pos (starEach es X.env)).any (·.1) = false := by rfl) :
    EX X ι Δ s (.Call (.Name x p) (e1 :: es) [] pos) (fun k => M fun y s1 => (g y).bind fun z => k z s1) E := by
  intro k r hk' σ H Hf A Q st q
  refine tE_of (pe_call F hr hg hm hk hb .nil pass0 (pA X _) hdb he hpl) (ha _ r hk' σ H Hf A _ st fun y s1 hx vs H1 Hf1 st1 e1 r1 => ?_)
  obtain ⟨z, h1, h2⟩ := bind_some hx
  rw [List.append_nil]
  obtain ⟨v0, _, tA, tO⟩ := st1.slot T0 _ (hT s1)
  refine ⟨y, (), z, (), Hf1, fun j => if j = T0 then tb else [], ⟨st1.sub, fun j T hj => ?_, fun j a ha => ?_, fun i j a hi hj => ?_⟩, ?_, fun i hi => ?_, by show ((g y).bind fun c => some (c, ())) = _; rw [h1]; rfl, fun v H2 Hf2 sat ex rv => ?_⟩
  · by_cases e : j = T0
    · subst e
      have hj' : lk ((T0, some (.tabs tb)) :: argD 0 (argE y)) T0 = some T := hj
      rw [lk_self] at hj'
      cases hj'
      exact ⟨.non, (fun n => nomatch n), by rw [if_pos rfl], tO⟩
    · have hj' : lk ((T0, some (.tabs tb)) :: argD 0 (argE y)) j = some T := hj
      rw [lk_ne e] at hj'
      obtain ⟨_, d, hd', rfl⟩ := lk_argD _ 0 j T hj'
      obtain ⟨u, hu1, hu2⟩ := r1.get hd'
      refine ⟨u, fun _ => ?_, ?_⟩
      · rw [List.getElem?_map, show vs[j]? = some u from hu1]; rfl
      · rw [if_neg e]; exact ⟨rfl, hu2⟩
  · by_cases e : j = T0
    · rw [if_pos e, ← tA] at ha
      exact st1.own T0 a ha
    · rw [if_neg e] at ha; simp at ha
  · by_cases e : i = T0 <;> by_cases e2 : j = T0
    · rw [e, e2]
    · rw [if_neg e2] at hj; simp at hj
    · rw [if_neg e] at hi; simp at hi
    · rw [if_neg e] at hi; simp at hi
  · rw [r1.len, Nat.zero_add]
  · have : i ≠ T0 := fun e => hi (by simp [e])
    exact if_neg this
  · have ex' : ExtA ι.ix A H1 Hf1 H2 Hf2 := ⟨fun a u m h => ex.keep a u (fun i _ hi => by
      by_cases e : i = T0
      · rw [if_pos e, ← tA] at hi; exact m T0 hI hi
      · rw [if_neg e] at hi; simp at hi) h, ex.there, ex.grow, ex.news⟩
    refine q z s1 h2 v H2 Hf2 ⟨sat.sub, fun j T hj => ?_, fun j a ha => ?_, st1.inj⟩ (e1.trans ex') rv
    · by_cases e : j = T0
      · subst e
        rw [hT s1] at hj
        cases hj
        obtain ⟨u, g1, g2⟩ := sat.slot T0 (.tabs tb) (by show lk ((T0, some (.tabs tb)) :: []) T0 = _; rw [lk_self])
        exact ⟨.non, (fun n => nomatch n), tA, g2.2⟩
      · obtain ⟨u, g1, g2⟩ := st1.slot j T hj
        exact ⟨u, g1, g2.up ex.grow fun a ha u hu => ex.keep a u (fun i _ hi => by
          by_cases e2 : i = T0
          · rw [if_pos e2, ← tA] at hi
            exact e (st1.inj j T0 a ha hi)
          · rw [if_neg e2] at hi; simp at hi) hu⟩
    · obtain ⟨n1, n2⟩ := st1.own j a ha
      refine ⟨?_, ex.there a n2⟩
      cases z : Hf2 a with
      | none => rfl
      | some u =>
        rcases ex.news a (by rw [z]; simp) with y | y
        · exact absurd n1 y
        · exact absurd y n2
/-- f(state, ..), f a def that may make generators -/
theorem ex_callSG {i0 : Nat} {tb : List Addr} {rt : S → Tr} (em : Emb ι i0 rt) {x x0 : Str} {p0 : Pos} {f : Addr} {fd : FuncData} {ps : List Str} {P C : Type} {argE : P → List D} {g : P → S → Option (C × S)} {E : C → D} {es : List Expr} {M : (P → S → Option R) → Option R}
    (F : FnOk X.prog X.w X.K X.mg X.base CX0 k f fd ps (spS X.K 1 (ioG tb (io1 rt 0)) argE g E)) (hr : Room k X.A) (hm : X.mg x = some (.ref f)) (hk : PySem.W.keepIn X.K (.ref f) = true) (hb : Binds X.K fd ps [])
    (ha : AX X ι Δ s es M argE) (hi0 : i0 ≠ T0 := by decide) (hT : ∀ s, lk (ι.tr s ++ Δ) T0 = some (.tabs tb) := by intro _; rfl) (hI : T0 ∈ ι.ix := by first | decide | exact of_decide_eq_true rfl) (hg : Gl X x := by rfl) (hdb : (x == ("__debug__" : Str)) = false := by decide)
    (hN : X.N[i0]? = some x0 := by rfl) (hv : Vis X.env.scope x0 := by first | exact Or.inl rfl | exact Or.inr (Or.inl rfl) | exact Or.inr (Or.inr rfl)) (hd : (x0 == ("__debug__" : Str)) = false := by decide) (hcd : (x0 == ("__classdict__" : Str)) = false := by decide)
    (he : starEach (.Name x0 p0 :: es) X.env = (false, eval (.Name x0 p0) X.env) :: starEach es X.env := by rfl) (hpl : (backTo pos (starEach es X.env)).any (·.1) = false := by rfl) :
    EX X ι Δ s (.Call (.Name x p) (.Name x0 p0 :: es) [] pos) (fun k => M fun y s1 => (g y s1).bind fun z => k z.1 z.2) E := by
  intro kk r hk' σ H Hf A Q st q
  refine tE_of (pe_call F hr hg hm hk hb .nil pass0 (pa_cons (pe_var hN hv hd hcd) (pA X es) he) hdb he hpl) ?_
  obtain ⟨w0, hw0, hh0⟩ := st.slotC i0 (rt s) (em.app s) (em.nt s)
  refine ⟨w0, hw0, ?_⟩
  refine ha _ r hk' σ H Hf A _ st fun y s1 hx vs H1 Hf1 st1 e1 r1 => ?_
  obtain ⟨⟨c, s2⟩, h1, h2⟩ := bind_some hx
  rw [List.append_nil]
  obtain ⟨w1, hw1, hh1⟩ := st1.slotC i0 (rt s1) (em.app s1) (em.nt s1)
  rw [hw0] at hw1
  cases hw1
  obtain ⟨v0, _, tA, tO⟩ := st1.slot T0 _ (hT s1)
  have z01 : (0 : Nat) ≠ T0 := by decide
  refine ⟨y, s1, c, s2, Hf1, fun j => if j = T0 then tb else if j = 0 then A i0 else [], ⟨st1.sub, fun j T hj => ?_, fun j a ha => ?_, fun i j a hi hj => ?_⟩, ?_, fun i hi => ?_, h1, fun v H2 Hf2 sat ex rv => ?_⟩
  · by_cases e : j = T0
    · subst e
      have hj' : lk ((T0, some (.tabs tb)) :: ((0, some (rt s1)) :: argD 1 (argE y))) T0 = some T := hj
      rw [lk_self] at hj'
      cases hj'
      exact ⟨.non, (fun n => nomatch n), by rw [if_pos rfl], tO⟩
    · have hj' : lk ((T0, some (.tabs tb)) :: ((0, some (rt s1)) :: argD 1 (argE y))) j = some T := hj
      rw [lk_ne e] at hj'
      by_cases z : j = 0
      · subst z
        rw [lk_self] at hj'
        cases hj'
        exact ⟨w0, fun _ => rfl, by simpa using hh1⟩
      · rw [lk_ne z] at hj'
        obtain ⟨hle, d, hd', rfl⟩ := lk_argD _ 1 j T hj'
        obtain ⟨u, hu1, hu2⟩ := r1.get hd'
        refine ⟨u, fun _ => ?_, ?_⟩
        · have e : j = (j - 1) + 1 := by omega
          rw [e, List.map_cons, List.getElem?_cons_succ, List.getElem?_map, hu1]
          rfl
        · rw [if_neg e, if_neg z]; exact ⟨rfl, hu2⟩
  · by_cases e : j = T0
    · rw [if_pos e, ← tA] at ha
      exact st1.own T0 a ha
    · rw [if_neg e] at ha
      by_cases z : j = 0
      · rw [if_pos z] at ha; exact st1.own i0 a ha
      · rw [if_neg z] at ha; simp at ha
  · by_cases e : i = T0 <;> by_cases e2 : j = T0
    · rw [e, e2]
    · rw [if_pos e, ← tA] at hi
      rw [if_neg e2] at hj
      by_cases z : j = 0
      · rw [if_pos z] at hj; exact absurd (st1.inj _ _ _ hj hi) hi0
      · rw [if_neg z] at hj; simp at hj
    · rw [if_pos e2, ← tA] at hj
      rw [if_neg e] at hi
      by_cases z : i = 0
      · rw [if_pos z] at hi; exact absurd (st1.inj _ _ _ hi hj) hi0
      · rw [if_neg z] at hi; simp at hi
    · rw [if_neg e] at hi
      rw [if_neg e2] at hj
      by_cases z : i = 0 <;> by_cases z2 : j = 0
      · rw [z, z2]
      · rw [if_neg z2] at hj; simp at hj
      · rw [if_neg z] at hi; simp at hi
      · rw [if_neg z] at hi; simp at hi
  · rw [List.length_cons, r1.len, Nat.add_comm]
  · have n1 : i ≠ T0 := fun e => hi (by simp [e])
    have n2 : i ≠ 0 := fun e => hi (by simp [e])
    exact (if_neg n1).trans (if_neg n2)
  · have ex' : ExtA ι.ix A H1 Hf1 H2 Hf2 := ⟨fun a u m h => ex.keep a u (fun i _ hi => by
      by_cases e : i = T0
      · rw [if_pos e, ← tA] at hi; exact m T0 hI hi
      · rw [if_neg e] at hi
        by_cases z : i = 0
        · rw [if_pos z] at hi; exact m i0 em.ix hi
        · rw [if_neg z] at hi; simp at hi) h, ex.there, ex.grow, ex.news⟩
    refine q c s2 h2 v H2 Hf2 ⟨sat.sub, fun j T hj => ?_, fun j a ha => ?_, st1.inj⟩ (e1.trans ex') rv
    · by_cases e : j = T0
      · subst e
        rw [hT s2] at hj
        cases hj
        obtain ⟨u, g1, g2⟩ := sat.slot T0 (.tabs tb) (by show lk ((T0, some (.tabs tb)) :: _) T0 = _; rw [lk_self])
        exact ⟨.non, (fun n => nomatch n), tA, g2.2⟩
      · by_cases z : j = i0
        · subst z
          have hj' := hj
          rw [em.app s2] at hj'
          cases hj'
          obtain ⟨u, g1, g2⟩ := sat.slotC 0 (rt s2) (by show lk ((T0, some (.tabs tb)) :: (0, some (rt s2)) :: []) 0 = _; rw [lk_ne z01, lk_self]) (em.nt s2)
          have g1' : some (some w0) = some (some u) := g1
          cases g1'
          exact ⟨w0, fun _ => hw0, by simpa using g2⟩
        · obtain ⟨u, g1, g2⟩ := st1.slot j T (by rw [em.other s1 s2 z]; exact hj)
          exact ⟨u, g1, g2.up ex.grow fun a ha u hu => ex.keep a u (fun i _ hi => by
            by_cases e2 : i = T0
            · rw [if_pos e2, ← tA] at hi
              exact e (st1.inj j T0 a ha hi)
            · rw [if_neg e2] at hi
              by_cases z2 : i = 0
              · rw [if_pos z2] at hi; exact z (st1.inj j i0 a ha hi)
              · rw [if_neg z2] at hi; simp at hi) hu⟩
    · obtain ⟨n1, n2⟩ := st1.own j a ha
      refine ⟨?_, ex.there a n2⟩
      cases z : Hf2 a with
      | none => rfl
      | some u =>
        rcases ex.news a (by rw [z]; simp) with y | y
        · exact absurd n1 y
        · exact absurd y n2
end
end Ab
namespace Ab
open PySem PySem.Spec PyProof.Rows L2
/-! ### the law, where its defs make generators -/
def spLawG (K : KF) (tb : List Addr) (m : Rs → Option (Bool × Rs)) : Sp := fun vs H Q _ => ∃ (a : Addr) (ns : List Int), vs = [.ref a] ∧ SqL K H a (ns.map V.int) ∧ ns.length ≤ 63 ∧ (∀ P ∈ tb, GxR.TabG H P) ∧ (∃ s', m (stateR ns) = some (true, s')) ∧ ∀ H', Q (.bl true) H'
section
variable {Pg : Program} {w : World} {K : KF} {mg : Str → Option Value} {base : Heap}
theorem lawG_body {X : Cx} {fS : Addr} {fdS : FuncData} {k : Nat} {tb : List Addr} {m : Rs → Option (Bool × Rs)} {rest : List Stmt} {p1 p2 p3 p4 p5 : Pos} {a : Addr} {ns : List Int} {H : Hp} {Q : VK} {s' : Rs}
    (hNd : X.N.Nodup) (FS : FnOk X.prog X.w X.K X.mg X.base CX0 k fS fdS ["script"] (spSt X.K)) (hr : Room k X.A) (gS : X.mg "_law_state" = some (.ref fS)) (kS : PySem.W.keepIn X.K (.ref fS) = true) (bS : Binds X.K fdS ["script"] [])
    (h0 : X.N[0]? = some ("script" : Str)) (h1 : X.N[1]? = some ("state" : Str)) (hl1 : L2.Loc X.env.scope "state") (hl0 : Vis X.env.scope "script") (hgl : Gl X "_law_state") (hfn : X.fn "state" = true)
    (hst : starEach [.Name "script" p3] X.env = (false, eval (.Name "script" p3) X.env) :: starEach [] X.env) (hpl : (backTo p4 (starEach [] X.env)).any (·.1) = false)
    (body : BX X (ioG tb (io1 rtR 1)) [] (stateR ns) rest (m (stateR ns)) (fun c => Out.ret (.bool c.1) c.2)) (hS : SqL X.K H a (ns.map V.int)) (hlen : ns.length ≤ 63) (hT : ∀ P ∈ tb, GxR.TabG H P) (hm : m (stateR ns) = some (true, s')) (q : ∀ H', Q (.bl true) H') :
    tS X (.Assign [.Name "state" p1] (.Call (.Name "_law_state" p2) [.Name "script" p3] [] p4) p5 :: rest) { nx := fun _ H' => Q .non H', rt := Q } (L2.start X.N [.ref a]) H := by
  refine tS_inv fun pins sh I => tS_cons (ps_set (i := 1) hNd h1 hl1 (pe_call FS hr hgl gS kS bS .nil pass0 (pa_cons (pe_var (i := 0) h0 hl0) pa_nil hst) (by decide) hst hpl) (by rfl) (.inl hfn)) ?_
  have hlN : 1 < X.N.length := (List.getElem?_eq_some_iff.mp h1).1
  refine ⟨.ref a, rfl, a, ns, rfl, hS, hlen, fun H' p0 q0 sb np nq hpq hp hq => ?_⟩
  have hσ : (L2.start X.N [V.ref a]).length = X.N.length := by
    unfold L2.start
    simp only [List.length_append, List.length_map, List.length_replicate, List.length_cons, List.length_nil]
    omega
  have tabH' : ∀ P ∈ tb, GxR.TabG H' P := fun P hP => by
    obtain ⟨ps, e1, e2⟩ := hT P hP
    exact (sb P _ e1).2 e2
  have ne : ∀ P ∈ tb, P ≠ p0 ∧ P ≠ q0 := fun P hP => by
    obtain ⟨ps, e1, e2⟩ := hT P hP
    exact ⟨(fun z => by rw [z, np] at e1; cases e1), (fun z => by rw [z, nq] at e1; cases e1)⟩
  have z1 : (1 : Nat) ≠ T0 := by decide
  refine body (true, s') hm _ H' (fun _ => none) (fun j => if j = T0 then tb else if j = 1 then [p0, q0] else []) _ ⟨(fun a o e => nomatch e), fun i T hi => ?_, fun i x hx => ?_, fun i j x hi hj => ?_⟩ ?_
  · by_cases e : i = T0
    · subst e
      have h' : lk ((T0, some (.tabs tb)) :: (1, some (rtR (stateR ns))) :: []) T0 = some T := hi
      rw [lk_self] at h'
      cases h'
      exact ⟨.non, (fun n => nomatch n), if_pos rfl, tabH'⟩
    · have h' : lk ((T0, some (.tabs tb)) :: (1, some (rtR (stateR ns))) :: []) i = some T := hi
      rw [lk_ne e] at h'
      by_cases e1 : i = 1
      · subst e1
        rw [lk_self] at h'
        cases h'
        refine ⟨.ref p0, fun _ => by rw [List.getElem?_set_self (by rw [hσ]; exact hlN)], p0, q0, rfl, by rw [if_neg z1, if_pos rfl], hpq, hp, hq, ?_⟩
        show (stateR ns).1.length ≤ 16777216
        unfold stateR
        rw [List.length_map]
        omega
      · rw [lk_ne e1] at h'; cases h'
  · by_cases e : i = T0
    · rw [if_pos e] at hx
      obtain ⟨ps, e1, e2⟩ := tabH' x hx
      exact ⟨rfl, by rw [e1]; simp⟩
    · rw [if_neg e] at hx
      by_cases z : i = 1
      · subst z
        have hx' : x = p0 ∨ x = q0 := by simpa using hx
        rcases hx' with rfl | rfl
        · exact ⟨rfl, by rw [hp]; simp⟩
        · exact ⟨rfl, by rw [hq]; simp⟩
      · simp [z] at hx
  · have other : ∀ {j : Nat}, j ≠ T0 → x ∈ (if j = T0 then tb else if j = 1 then [p0, q0] else []) → j = 1 ∧ (x = p0 ∨ x = q0) := fun {j} e hx => by
      rw [if_neg e] at hx
      by_cases z : j = 1
      · rw [if_pos z] at hx
        exact ⟨z, by simpa using hx⟩
      · rw [if_neg z] at hx; simp at hx
    by_cases e : i = T0 <;> by_cases e2 : j = T0
    · rw [e, e2]
    · rw [if_pos e] at hi
      obtain ⟨_, h3⟩ := other e2 hj
      exact absurd h3 (not_or.mpr (ne x hi))
    · rw [if_pos e2] at hj
      obtain ⟨_, h3⟩ := other e hi
      exact absurd h3 (not_or.mpr (ne x hj))
    · rw [(other e hi).1, (other e2 hj).1]
  · intro v σ' H2 Hf2 A2 g1 g2 g3
    have : v = .bl true := by cases g3; rfl
    subst this
    exact q H2
theorem fn_lawG {st : Stmt} {f fS : Addr} {fd fdS : FuncData} {N : List Str} {k : Nat} {m : Rs → Option (Bool × Rs)} {tb : List Addr} {rest : List Stmt} {p1 p2 p3 p4 p5 : Pos} (F : Fun K "law" "law" st f fd) (Sc : FnScope N ["script"] (defScope st))
    (FS : FnOk Pg w K mg base CX0 k fS fdS ["script"] (spSt K)) (gS : mg "_law_state" = some (.ref fS)) (kS : PySem.W.keepIn K (.ref fS) = true) (bS : Binds K fdS ["script"] [])
    (hb : defBody st = .Assign [.Name "state" p1] (.Call (.Name "_law_state" p2) [.Name "script" p3] [] p4) p5 :: rest) (h0 : N[0]? = some ("script" : Str)) (h1 : N[1]? = some ("state" : Str)) (hl1 : L2.Loc (defScope st) "state") (hl0 : Vis (defScope st) "script") (hgl : (defScope st).names.lookup ("_law_state" : Str) = some NameKind.globalImplicit)
    (body : ∀ (s : Rs) (cdv : Value) (A : Around) (outer : List Env) (sh : Shared) (H : Hp) (E' : XK), Room k (A.deeper (envOfC "law" (defScope st) sh.heap.objs.size f cdv)) →
      BX (cxOf CX0 Pg w K mg base N "law" (defScope st) f cdv A outer sh H E').nox (ioG tb (io1 rtR 1)) [] s rest (m s) (fun c => Out.ret (.bool c.1) c.2)) :
    FnOk Pg w K mg base CX0 (k + 1) f fd ["script"] (spLawG K tb m) := by
  refine F.ok Sc (fun vs H Q E' h => ?_) (fun cdv A outer s H vs Q E' hr h => ?_)
  · obtain ⟨a, ns, rfl, _⟩ := h
    rfl
  · obtain ⟨a, ns, rfl, hS, hlen, hT, ⟨s', hm⟩, q⟩ := h
    refine ⟨_, pS _ _, ?_⟩
    rw [hb]
    exact lawG_body (X := (cxOf CX0 Pg w K mg base N "law" (defScope st) f cdv A outer s H E').nox) Sc.nd FS hr gS kS bS h0 h1 hl1 hl0 hgl rfl rfl rfl (body (stateR ns) cdv A outer s H E' hr) hS hlen hT hm q
theorem fn_lawC {st : Stmt} {f fS c0 : Addr} {fd fdS : FuncData} {N : List Str} {k : Nat} {m : Rs → Option (Bool × Rs)} {tb : List Addr} {rest : List Stmt} {p1 p2 p3 p4 p5 : Pos} (F : FunC K "law" "law" st f fd c0) (Sc : FnScope N ["script"] (defScope st))
    (FS : FnOk Pg w K mg base CX0 k fS fdS ["script"] (spSt K)) (gS : mg "_law_state" = some (.ref fS)) (kS : PySem.W.keepIn K (.ref fS) = true) (bS : Binds K fdS ["script"] [])
    (hb : defBody st = .Assign [.Name "state" p1] (.Call (.Name "_law_state" p2) [.Name "script" p3] [] p4) p5 :: rest) (h0 : N[0]? = some ("script" : Str)) (h1 : N[1]? = some ("state" : Str)) (hl1 : L2.Loc (defScope st) "state") (hl0 : Vis (defScope st) "script") (hgl : (defScope st).names.lookup ("_law_state" : Str) = some NameKind.globalImplicit)
    (body : ∀ (s : Rs) (A : Around) (outer : List Env) (sh : Shared) (H : Hp) (E' : XK), Room k (A.deeper (envOfC "law" (defScope st) sh.heap.objs.size f (.ref c0))) →
      BX (cxOf CX0 Pg w K mg base N "law" (defScope st) f (.ref c0) A outer sh H E').nox (ioG tb (io1 rtR 1)) [] s rest (m s) (fun c => Out.ret (.bool c.1) c.2)) :
    FnOk Pg w K mg base CX0 (k + 1) f fd ["script"] (spLawG K tb m) := by
  refine F.ok Sc (fun vs H Q E' h => ?_) (fun A outer s H vs Q E' hr h => ?_)
  · obtain ⟨a, ns, rfl, _⟩ := h
    rfl
  · obtain ⟨a, ns, rfl, hS, hlen, hT, ⟨s', hm⟩, q⟩ := h
    refine ⟨_, pS _ _, ?_⟩
    rw [hb]
    exact lawG_body (X := (cxOf CX0 Pg w K mg base N "law" (defScope st) f (.ref c0) A outer s H E').nox) Sc.nd FS hr gS kS bS h0 h1 hl1 hl0 hgl rfl rfl rfl (body (stateR ns) A outer s H E' hr) hS hlen hT hm q
end
/-! ### the end -/
def tabAt (K : KF) (c : Addr) : Addr := match K.lookup c with
  | some ⟨_, _, .fields vs, _⟩ => (match vs.getD 11 .none with
    | .ref P => P
    | _ => 0)
  | _ => 0
theorem tab_empty {K : KF} {h : Heap} {f c P : Addr} {fd : FuncData} {oc : Value} {od : Option Addr} {osl : Array (Option Value)} (O : LamX.OwnTab K f h) (l : K.lookup f = some ⟨oc, od, .func fd, osl⟩) (e : fd.code = .ref c) (hd : PySem.W.codeHdIn K c P = true) :
    h.get? P = some { cls := .none, data := .fields #[] } := by
  unfold PySem.W.codeHdIn at hd
  split at hd
  · rename_i vs _ hk
    simp only [Bool.and_eq_true] at hd
    obtain ⟨⟨⟨⟨⟨e1, _⟩, _⟩, _⟩, _⟩, _⟩ := hd
    split at e1
    · rename_i P' h11
      have hP : P' = P := beq_iff_eq.mp e1
      subst hP
      exact O c _ _ fd _ _ _ _ l rfl e hk h11
    · cases e1
  · cases hd
theorem walk_tabs {l : PySem.W.OpenLaw} {n k : Nat} {q : Program} {loose : List Str} {XP : (Str → Option Value) → Heap → Prop} {YP : World → Heap → Prop} {d : DefRec} {K : Params → PySem.W.Frag} {CX : World → CXT} {x : Str} (nms : List Str)
    (hn : l.most = some n) (hn2 : n ≤ sizeLine) (hdf : d.params.defaults = []) (hr : Room k callerA) (hrec : (nms.all fun nm => (recsOf q).any fun e => e.name == nm) = true) (hY : ∀ (w : World) (h : Heap), YP w h → (K w.params).In h)
    (F : ∀ (w : World) (mg : Str → Option Value) (fa : Addr) (h : Heap), YP w h → (K w.params).In h → h.Ns mainGlobals mg → mg d.name = some (.ref fa) → (∀ nm ∈ nms, ∀ f, mg nm = some (.ref f) → LamX.OwnTab (K w.params) f h) → LamX.LawAtS l w (K w.params) (CX w) k n x mg fa h)
    (hCX : ∀ (w : World) (H : Hp) (s : Shared) (e : Value) (s' : Shared), CX w [] H s (fun _ _ _ => False) e s' → False) :
    PySem.W.WalkO q loose XP YP l.row.toRowW d [] (fun f vs => PySem.call f vs) := by
  refine Att.attach_callB hn hdf fun w s₀ s₁ mg mb fa o pm cd doc a vs ns G Y ho hd hcd hmg hobj hints hlen hbits hg => ?_
  have KX := hY w _ Y
  have own : ∀ nm ∈ nms, ∀ f, mg nm = some (.ref f) → LamX.OwnTab (K w.params) f s₁.heap := fun nm hnm f hf c P o1 fd1 e dd vs1 sl k1 k2 k3 k4 k5 => by
    obtain ⟨dL, hm, hn1⟩ := List.any_eq_true.mp (List.all_eq_true.mp hrec nm hnm)
    have hn2 : dL.name = nm := beq_iff_eq.mp hn1
    obtain ⟨a', o', fd', c', P', h1, h2, h3, h4, h5, h6⟩ := G.T.tab dL hm
    rw [hn2, hf] at h1
    cases h1
    have g1 := KX _ _ k1
    rw [g1] at h2
    cases h2
    rw [k2] at h3
    cases h3
    rw [k3] at h4
    cases h4
    obtain ⟨⟨oc, vc, e1, _, e3, e4⟩, hP⟩ := h6
    have g2 := KX _ _ k4
    rw [g2] at e1
    cases e1
    cases e3
    rw [k5] at e4
    cases e4
    exact hP
  obtain ⟨fd, cs, sp, hT, nT, C, hb, hsp, hF⟩ := F w mg fa _ Y KX G.T.g hmg own
  exact LamX.law_callTs KX G.T.g G.T.b G.T.builtins G.T.nolimit hg hT nT C G.T.bmain hobj hints (Nat.le_trans hlen hn2) hr hF hb (fun H hH hS => hsp H a ns hlen hbits hH hS) fun H e s' => hCX w H s₁ e s'
theorem tabG_of {base : Heap} {mg : Str → Option Value} {c P : Addr} (h : LamX.TabB base mg c P) : GxR.TabB base mg c P := ⟨h.code, h.bm, h.gP⟩
/-- what all_mk gives -/
theorem lawAtG {l : PySem.W.OpenLaw} {w : World} {K : KF} {k : Nat} {mg : Str → Option Value} {fa : Addr} {h : Heap} {fd : FuncData} {cs : List (Addr × Addr)} {m : Rs → Option (Bool × Rs)} (hn : 63 = 63)
    (hT : ∀ p ∈ cs, h.get? p.2 = some { cls := .none, data := .fields #[] }) (nT : ∀ p ∈ cs, K.lookup p.2 = none) (C : ∀ p ∈ cs, PySem.W.CodeHd h p.1 p.2) (hb : ∀ (s : Shared) (v : Value), BindsTo s fd ⟨[v], []⟩ [("script", v)])
    (F : ∀ base : Heap, K.In base → base.Ns mainGlobals mg → (∀ p ∈ cs, GxR.TabB base mg p.1 p.2) → FnOk l.prog w K mg base CX0 k fa fd ["script"] (spLawG K (cs.map (·.2)) m)) (hl : ∀ ns : List Int, ns.length ≤ 63 → ∃ s', m (stateR ns) = some (true, s')) :
    LamX.LawAtS l w K CX0 k 63 "script" mg fa h :=
  ⟨fd, cs, _, hT, nT, C, hb, fun H a ns h1 _ h2 h3 => ⟨a, ns, rfl, h3, h1, fun P hP => by
    obtain ⟨p, hp, e⟩ := List.mem_map.mp hP
    rw [← e]
    exact ⟨_, h2 p hp, trivial⟩, hl ns h1, fun _ => rfl⟩, fun base h1 h2 h3 => F base h1 h2 fun p hp => tabG_of (h3 p hp)⟩
end Ab
namespace Ab
open PySem PySem.Spec PyProof.Rows L2
theorem merge_nd : ∀ (ws acc : List (Key × V)), ((acc ++ ws).map (·.1)).Nodup → mergeK acc ws = acc ++ ws
  | [], acc, _ => by simp [mergeK]
  | (k, v) :: ws, acc, h => by
    have hv : valV acc k = none := by
      unfold valV
      cases e : acc.find? fun kv => decide (kv.1 = k) with
      | none => rfl
      | some p =>
        have h1 := List.mem_of_find?_eq_some e
        have h2 : p.1 = k := by simpa using List.find?_some e
        rw [List.map_append, List.nodup_append] at h
        exact absurd h2 (h.2.2 p.1 (List.mem_map.mpr ⟨p, h1, rfl⟩) k (by simp))
    show mergeK (putK acc k v) ws = _
    rw [putK_new v hv, merge_nd ws (acc ++ [(k, v)]) (by simpa using h)]
    simp
theorem KvRp.keys {κ : Type} {K : KF} {H : Hp} : ∀ {ws : List (κ × V)} {kvs : List (κ × D)}, KvRp K H ws kvs → ws.map (·.1) = kvs.map (·.1)
  | _, _, .nil => rfl
  | _, _, .cons h t => by
    simp only [List.map_cons]
    rw [h.1, KvRp.keys t]
section
variable {X : Cx} {S : Type} {ι : Io S} {Δ : Dl} {s : S} {R : Type} {α : Type} {E : α → D} {pos : Pos}
def trsOf (X : Cx) : List (Option Expr) → List Expr → List (TE × TE)
  | some k :: ks, v :: vs => (tE X k, tE X v) :: trsOf X ks vs
  | _, _ => []
theorem pps_of : ∀ {keys : List (Option Expr)} {values : List Expr}, keys.all (·.isSome) = true → keys.length = values.length → PPs X pos keys values (trsOf X keys values)
  | [], [], _, _ => pps_nil
  | some k :: ks, v :: vs, h, hl => pps_cons (pE X k) (pE X v) (pps_of (by simpa using h) (by simpa using hl))
  | none :: ks, v :: vs, h, _ => by simp at h
/-- the pairs of a display whose keys are texts -/
def DX (X : Cx) {S : Type} (ι : Io S) (Δ : Dl) (s : S) (xs : List Str) (keys : List (Option Expr)) (values : List Expr) {α R : Type} (M : (List (Str × α) → S → Option R) → Option R) (E : α → D) : Prop :=
  ∀ k r, M k = some r → ∀ (σ : L2.St) (H Hf : Hp) (A : Nat → List Addr) (Q : List (V × V) → Hp → Prop), Sat X.K σ H Hf (ι.tr s ++ Δ) A →
    (∀ l s', l.map (·.1) = xs → k l s' = some r → ∀ (ws : List (Key × V)) H' Hf', Sat X.K σ H' Hf' (ι.tr s' ++ Δ) A → ExtA ι.ix A H Hf H' Hf' → KvRp X.K Hf' ws (l.map fun p => (kS p.1, E p.2)) → Q (ws.map fun kv => (kV kv.1, kv.2)) H') → tPairs (trsOf X keys values) σ H Q
theorem dx_nil : DX X ι Δ s [] [] [] (R := R) (fun k => k ([] : List (Str × α)) s) E :=
  fun k r hk σ H Hf A Q st q => q [] s rfl hk [] H Hf st (ExtA.refl _ _ _ _) .nil
theorem dx_cons {x : Str} {xs : List Str} {ke v : Expr} {keys : List (Option Expr)} {values : List Expr} {Mv : (α → S → Option R) → Option R} {Mr : S → (List (Str × α) → S → Option R) → Option R}
    (hk : ∀ (σ : L2.St) (H Hf : Hp) (A : Nat → List Addr) (Q : VK), Sat X.K σ H Hf (ι.tr s ++ Δ) A → Q (.str x) H → tE X ke σ H Q) (hv : EX X ι Δ s v Mv E) (hr : ∀ s1, DX X ι Δ s1 xs keys values (Mr s1) E) :
    DX X ι Δ s (x :: xs) (some ke :: keys) (v :: values) (fun k => Mv fun a s1 => Mr s1 fun l s2 => k ((x, a) :: l) s2) E := by
  intro k r hm σ H Hf A Q st q
  refine hk σ H Hf A _ st ?_
  refine hv _ r hm σ H Hf A _ st fun a s1 ha w H1 Hf1 st1 e1 r1 => ?_
  refine hr s1 _ r ha σ H1 Hf1 A _ st1 fun l s2 hl hk2 ws H2 Hf2 st2 e2 r2 => ?_
  exact q ((x, a) :: l) s2 (by rw [List.map_cons, hl]) hk2 ((kS x, w) :: ws) H2 Hf2 st2 (e1.trans e2) (.cons ⟨rfl, r1.up e2.grow⟩ r2)
theorem dx_key {x : Str} {n : Nat} {p : Pos} (σ : L2.St) (H Hf : Hp) (A : Nat → List Addr) (Q : VK) (_ : Sat X.K σ H Hf (ι.tr s ++ Δ) A) (h : Q (.str x) H) : tE X (.Constant (.str x) n p) σ H Q :=
  tE_of pe_str h
/-- {"x": a, ..} -/
theorem ex_dsp {xs : List Str} {keys : List (Option Expr)} {values : List Expr} {M : (List (Str × α) → S → Option R) → Option R} (h : DX X ι Δ s xs keys values M E) (hall : keys.all (·.isSome) = true := by rfl) (hl : keys.length = values.length := by rfl) (h0 : keys ≠ [] := by exact fun h => nomatch h)
    (h15 : keys.length ≤ 15 := by decide) (hx : xs.length ≤ 15 := by decide) (hnd : xs.Nodup := by decide +kernel) : EX X ι Δ s (.Dict keys values pos) M (Ty.dct kS E) := by
  intro k r hk σ H Hf A Q st q
  refine tE_of (pe_disp (pps_of hall hl) hall hl h0 h15) fun p hp => ?_
  have ex0 := Ext.newO (o := .dK []) (Hf := Hf) hp
  have st0 := st.up ex0 (Sub.newO hp st.sub)
  have nA : ∀ i, p ∉ A i := fun i m => (st.own i p m).2 hp
  refine h k r hk σ _ Hf A _ st0 fun l s' hl' hk' ws H2 Hf2 st2 e2 r2 => ?_
  have hp2 : H2 p = some (.dK []) := (e2.keep p _ (fun i _ m => nA i m) upd_same : KeepO (.dK []) H2 p)
  have hf2 : Hf2 p = none := by
    cases z : Hf2 p with
    | none => rfl
    | some u =>
      rcases e2.news p (by rw [z]; simp) with y | y
      · exact absurd (st.sub.non hp) y
      · rw [upd_same] at y; cases y
  have hks : ws.map (·.1) = xs.map kS := by
    rw [KvRp.keys r2, List.map_map, ← hl', List.map_map]; rfl
  have nd : (ws.map (·.1)).Nodup := by
    rw [hks]
    exact List.Pairwise.map kS (fun a b (e : a ≠ b) h => e (Sum.inr.inj h)) hnd
  have hlen : ws.length ≤ 15 := by
    have := congrArg List.length hks
    rw [List.length_map, List.length_map] at this
    omega
  refine ⟨hp2, ws, rfl, hlen, ?_⟩
  rw [merge_nd ws [] (by simpa using nd), List.nil_append]
  have gr : Sub Hf2 (upd Hf2 p (.dK ws)) := fun b u h => .self (by rw [upd_ne (ne_of_none h hf2)]; exact h)
  have ne0 : ∀ {b : Addr} {o : HO}, H b = some o → b ≠ p := fun e => ne_of_none e hp
  refine q l s' hk' _ (upd H2 p (.dK ws)) (upd Hf2 p (.dK ws)) ⟨fun b u hb => ?_, fun i T hi => ?_, fun i a ha => ?_, st2.inj⟩ ⟨fun b o m hb => ?_, fun b hb => ?_, e2.grow.trans gr |> fun g => g, fun b hb => ?_⟩ (.dct (.inl upd_same) (RpKv.ofI (r2.up gr)))
  · by_cases e : b = p
    · subst e; rw [upd_same] at hb; exact .self (by rw [upd_same]; exact hb)
    · rw [upd_ne e] at hb; exact (st2.sub b u hb).same (upd_ne e)
  · obtain ⟨v, h1, h2⟩ := st2.slot i T hi
    refine ⟨v, h1, h2.up gr fun a ha o ho => ?_⟩
    have ne : a ≠ p := fun e => nA i (by rw [← e]; exact ha)
    exact .self (by rw [upd_ne ne]; exact ho)
  · obtain ⟨n1, n2⟩ := st2.own i a ha
    have : a ≠ p := fun e => nA i (by rw [← e]; exact ha)
    rw [upd_ne this, upd_ne this]
    exact ⟨n1, n2⟩
  · have hb' : upd H p (.dK []) b = some o := by rw [upd_ne (ne0 hb)]; exact hb
    exact (e2.keep b o m hb').same (upd_ne (ne0 hb))
  · obtain ⟨o, ho⟩ := not_none hb
    have hb' : upd H p (.dK []) b ≠ none := by rw [upd_ne (ne0 ho)]; exact hb
    rw [upd_ne (ne0 ho)]
    exact e2.there b hb'
  · by_cases e : b = p
    · subst e; exact .inr hp
    · rw [upd_ne e] at hb
      rcases e2.news b hb with y | y
      · exact .inl y
      · rw [upd_ne e] at y; exact .inr y
end
end Ab
namespace Ab
open PySem PySem.Spec PyProof.Rows L2
section
variable {X : Cx} {S : Type} {ι : Io S} {Δ : Dl} {s : S} {R : Type} {a b : Expr} {k : Nat} {p pos : Pos}
variable {Ma : (Bool → S → Option R) → Option R} {Mi : (Int → S → Option R) → Option R} {Mj : S → (Int → S → Option R) → Option R}
/-! ### x is True -/
theorem is_bool {M : Model} {A : Around} {E : Value → Shared → Prop} {Q : Value → Shared → Prop} {s : Shared} {b c : Bool} (h : Q (.bool (decide (b = c))) s) : wpAny M A (compareOp .Is (.bool b) (.bool c)) Q E s := by
  cases b <;> cases c <;> exact wpAny_pure h
theorem isnot_bool {M : Model} {A : Around} {E : Value → Shared → Prop} {Q : Value → Shared → Prop} {s : Shared} {b c : Bool} (h : Q (.bool (!decide (b = c))) s) : wpAny M A (compareOp .IsNot (.bool b) (.bool c)) Q E s := by
  cases b <;> cases c <;> exact wpAny_pure h
def tIsB (c : Bool) (ta : TE) : TE := fun σ H Q => ta σ H fun x H1 => ∃ b, x = .bl b ∧ Q (.bl (decide (b = c))) H1
def tNotB (c : Bool) (ta : TE) : TE := fun σ H Q => ta σ H fun x H1 => ∃ b, x = .bl b ∧ Q (.bl (!decide (b = c))) H1
theorem pc_isB {c : Bool} {j pos'} {ta : TE} (ha : PE X a ta) : PC X .Is a (.Constant (.bool c) j pos') (tIsB c ta) := by
  refine ⟨fun pins s σ H Q I h => ?_⟩
  refine thn (ha.run pins s σ H _ I h) fun v s1 ⟨x, H1, I1, r1, b, hx, q1⟩ => ?_
  subst hx
  obtain rfl : v = Value.bool b := r1
  exact Constant_bool (is_bool ⟨.bl _, H1, I1, rfl, q1⟩)
theorem pc_notB {c : Bool} {j pos'} {ta : TE} (ha : PE X a ta) : PC X .IsNot a (.Constant (.bool c) j pos') (tNotB c ta) := by
  refine ⟨fun pins s σ H Q I h => ?_⟩
  refine thn (ha.run pins s σ H _ I h) fun v s1 ⟨x, H1, I1, r1, b, hx, q1⟩ => ?_
  subst hx
  obtain rfl : v = Value.bool b := r1
  exact Constant_bool (isnot_bool ⟨.bl _, H1, I1, rfl, q1⟩)
theorem ex_isB {c : Bool} {j : Nat} {pc : Pos} (ha : EX X ι Δ s a Ma Ty.bool) (h1 : behindInMarks .Is (.Constant (.bool c) j pc) = false := by rfl) : EX X ι Δ s (.Compare a [.Is] [.Constant (.bool c) j pc] pos) (fun k => Ma fun o s1 => k (decide (o = c)) s1) Ty.bool := by
  intro kk r hk' σ H Hf A Q st q
  refine tE_of (pe_cmp (pc_isB (pE X a)) h1) (ha _ r hk' σ H Hf A _ st fun o s1 hx v H1 Hf1 st1 e1 r1 => ?_)
  cases r1
  exact ⟨o, rfl, q _ s1 hx _ H1 Hf1 st1 e1 (.bl _)⟩
theorem ex_notB {c : Bool} {j : Nat} {pc : Pos} (ha : EX X ι Δ s a Ma Ty.bool) (h1 : behindInMarks .IsNot (.Constant (.bool c) j pc) = false := by rfl) : EX X ι Δ s (.Compare a [.IsNot] [.Constant (.bool c) j pc] pos) (fun k => Ma fun o s1 => k (!decide (o = c)) s1) Ty.bool := by
  intro kk r hk' σ H Hf A Q st q
  refine tE_of (pe_cmp (pc_notB (pE X a)) h1) (ha _ r hk' σ H Hf A _ st fun o s1 hx v H1 Hf1 st1 e1 r1 => ?_)
  cases r1
  exact ⟨o, rfl, q _ s1 hx _ H1 Hf1 st1 e1 (.bl _)⟩
/-! ### max(i, j), min(i, j) -/
theorem ex_max2 (hc : X.calm = true) (hm : X.mg "max" = none) (ha : EX X ι Δ s a Mi Ty.int) (hb : ∀ s1, EX X ι Δ s1 b (Mj s1) Ty.int) (hgl : Gl X "max" := by rfl) (he : starEach [a, b] X.env = (false, eval a X.env) :: starEach [b] X.env := by rfl) (he2 : starEach [b] X.env = (false, eval b X.env) :: starEach [] X.env := by rfl) (hpl : (backTo pos (starEach [b] X.env)).any (·.1) = false := by rfl) :
    EX X ι Δ s (.Call (.Name "max" p) [a, b] [] pos) (fun k => Mi fun i s1 => Mj s1 fun j s2 => k (if i < j then j else i) s2) Ty.int := by
  intro kk r hk' σ H Hf A Q st q
  refine tE_of (pe_callB (call_max2 hc) hgl hm Bo.max (pa_cons (pE X a) (pa_cons (pE X b) pa_nil he2) he) (by decide) (by decide) he hpl) (ha _ r hk' σ H Hf A _ st fun i s1 hx v H1 Hf1 st1 e1 r1 => ?_)
  refine hb s1 _ r hx σ H1 Hf1 A _ st1 fun j s2 hy w H2 Hf2 st2 e2 r2 => ?_
  cases r1
  cases r2
  exact ⟨i, j, rfl, q _ s2 hy _ H2 Hf2 st2 (e1.trans e2) (.int _)⟩
theorem ex_min2 (hc : X.calm = true) (hm : X.mg "min" = none) (ha : EX X ι Δ s a Mi Ty.int) (hb : ∀ s1, EX X ι Δ s1 b (Mj s1) Ty.int) (hgl : Gl X "min" := by rfl) (he : starEach [a, b] X.env = (false, eval a X.env) :: starEach [b] X.env := by rfl) (he2 : starEach [b] X.env = (false, eval b X.env) :: starEach [] X.env := by rfl) (hpl : (backTo pos (starEach [b] X.env)).any (·.1) = false := by rfl) :
    EX X ι Δ s (.Call (.Name "min" p) [a, b] [] pos) (fun k => Mi fun i s1 => Mj s1 fun j s2 => k (if j < i then j else i) s2) Ty.int := by
  intro kk r hk' σ H Hf A Q st q
  refine tE_of (pe_callB (call_min2 hc) hgl hm Bo.min (pa_cons (pE X a) (pa_cons (pE X b) pa_nil he2) he) (by decide) (by decide) he hpl) (ha _ r hk' σ H Hf A _ st fun i s1 hx v H1 Hf1 st1 e1 r1 => ?_)
  refine hb s1 _ r hx σ H1 Hf1 A _ st1 fun j s2 hy w H2 Hf2 st2 e2 r2 => ?_
  cases r1
  cases r2
  exact ⟨i, j, rfl, q _ s2 hy _ H2 Hf2 st2 (e1.trans e2) (.int _)⟩
end
section
variable {X : Cx} {S : Type} {ι : Io S} {Δ : Dl} {s : S} {R : Type} {out : R → Out S} {rest : List Stmt} {e : Expr} {pos : Pos}
/-! ### x op= e, ints -/
theorem bx_augG (i : Nat) {x : Str} {pos' : Pos} {n : Int} {op : Operator} {t : R2} {C : Int → Prop} {g : Int → Int} {M : (Int → S → Option R) → Option R} {kk : Int → S → Option R} (hN : X.N.Nodup) (ho : OpR X (inplaceOp op) t) (hl : lk (ι.tr s ++ Δ) i = some (.imm (Ty.int n))) (h : EX X ι Δ s e (fun k => M k) Ty.int)
    (ht : ∀ (j : Int) (H : Hp) (Q : VK), C j → Q (.int (g j)) H → t (.int n) (.int j) H Q) (hM : ∀ k r, M k = some r → True)
    (q : ∀ a s', BX X ι (iv i Ty.int a :: Δ) s' rest (kk a s') out) (hi : X.N[i]? = some x := by rfl) (hx : Loc X.env.scope x := by first | exact Or.inl rfl | exact Or.inr rfl)
    (hf : X.fn x = true ∨ X.env.scope.names.lookup x = some .local := by first | exact .inl rfl | exact .inr rfl) (hix : i ∉ ι.ix := by first | decide | exact of_decide_eq_true rfl) (dC : ∀ j, Decidable (C j) := by infer_instance) :
    BX X ι Δ s (.AugAssign (.Name x pos') op e pos :: rest) (M fun j s' => guardM (C j) (letM (g j) fun a => kk a s')) out := by
  intro r hr σ H Hf A Dn st p
  refine tS_inv fun pins sh I => tS_cons (ps_aug hN hi hx (pE X e) ho hf) ?_
  obtain ⟨v0, hv0, hh0⟩ := st.slotC i _ hl
  have hv : v0 = .int n := by cases hh0.2; rfl
  subst hv
  refine ⟨_, hv0, h _ r hr σ H Hf A _ st fun j s' ha v H' Hf' st' e' r' => ?_⟩
  cases r'
  obtain ⟨hc, ha⟩ := guardM_some ha
  refine ht j H' _ hc ?_
  have hlen : i < σ.length := by rw [I.len]; exact (List.getElem?_eq_some_iff.mp hi).1
  refine q (g j) s' r ha _ H' Hf' _ _ (st'.imm (P := ι.tr s') hlen (by rw [ι.keys]; exact hix) (.int _)) (p.step ((e'.stp ι.ix σ).trans (stp_cut hix)))
theorem bx_augAdd (i : Nat) {x : Str} {pos' : Pos} {n : Int} {M : (Int → S → Option R) → Option R} {kk : Int → S → Option R} (hN : X.N.Nodup) (hl : lk (ι.tr s ++ Δ) i = some (.imm (Ty.int n))) (h : EX X ι Δ s e (fun k => M k) Ty.int)
    (q : ∀ a s', BX X ι (iv i Ty.int a :: Δ) s' rest (kk a s') out) (hi : X.N[i]? = some x := by rfl) (hx : Loc X.env.scope x := by first | exact Or.inl rfl | exact Or.inr rfl)
    (hf : X.fn x = true ∨ X.env.scope.names.lookup x = some .local := by first | exact .inl rfl | exact .inr rfl) (hix : i ∉ ι.ix := by first | decide | exact of_decide_eq_true rfl) :
    BX X ι Δ s (.AugAssign (.Name x pos') .Add e pos :: rest) (M fun j s' => letM (n + j) fun a => kk a s') out := by
  have h0 := bx_augG (rest := rest) (pos := pos) (out := out) (pos' := pos') i (C := fun _ => True) (g := fun j => n + j) hN iop_add hl h (fun j H Q _ q => ⟨n, j, rfl, rfl, q⟩) (fun _ _ _ => trivial) q hi hx hf hix (fun _ => instDecidableTrue)
  have e1 : (fun (j : Int) (s' : S) => guardM True (letM (n + j) fun a => kk a s')) = fun j s' => letM (n + j) fun a => kk a s' := by
    funext j s'; exact guardM_pos trivial
  rw [← e1]
  exact h0
theorem bx_augSub (i : Nat) {x : Str} {pos' : Pos} {n : Int} {M : (Int → S → Option R) → Option R} {kk : Int → S → Option R} (hN : X.N.Nodup) (hl : lk (ι.tr s ++ Δ) i = some (.imm (Ty.int n))) (h : EX X ι Δ s e (fun k => M k) Ty.int)
    (q : ∀ a s', BX X ι (iv i Ty.int a :: Δ) s' rest (kk a s') out) (hi : X.N[i]? = some x := by rfl) (hx : Loc X.env.scope x := by first | exact Or.inl rfl | exact Or.inr rfl)
    (hf : X.fn x = true ∨ X.env.scope.names.lookup x = some .local := by first | exact .inl rfl | exact .inr rfl) (hix : i ∉ ι.ix := by first | decide | exact of_decide_eq_true rfl) :
    BX X ι Δ s (.AugAssign (.Name x pos') .Sub e pos :: rest) (M fun j s' => letM (n - j) fun a => kk a s') out := by
  have h0 := bx_augG (rest := rest) (pos := pos) (out := out) (pos' := pos') i (C := fun _ => True) (g := fun j => n - j) hN iop_sub hl h (fun j H Q _ q => ⟨n, j, rfl, rfl, q⟩) (fun _ _ _ => trivial) q hi hx hf hix (fun _ => instDecidableTrue)
  have e1 : (fun (j : Int) (s' : S) => guardM True (letM (n - j) fun a => kk a s')) = fun j s' => letM (n - j) fun a => kk a s' := by
    funext j s'; exact guardM_pos trivial
  rw [← e1]
  exact h0
end
end Ab
namespace Ab
open PySem PySem.Spec PyProof.Rows L2
section
variable {X : Cx} {S : Type} {ι : Io S} {Δ : Dl} {s : S} {R : Type} {a b : Expr} {k : Nat} {p pos : Pos}
variable {Ma : (Bool → S → Option R) → Option R} {Md : (D → S → Option R) → Option R} {Me : S → (D → S → Option R) → Option R}
theorem tx_isB {c : Bool} {j : Nat} {pc : Pos} (ha : EX X ι Δ s a Ma Ty.bool) (h1 : behindInMarks .Is (.Constant (.bool c) j pc) = false := by rfl) : TX X ι Δ s (.Compare a [.Is] [.Constant (.bool c) j pc] pos) (fun k => Ma fun o s1 => k (decide (o = c)) s1) := by
  intro kk r hk' σ H Hf A Q st q
  refine tT_of (pt_cmp (pc_isB (pE X a)) h1) (ha _ r hk' σ H Hf A _ st fun o s1 hx v H1 Hf1 st1 e1 r1 => ?_)
  cases r1
  exact ⟨o, rfl, _, rfl, q _ s1 hx H1 Hf1 st1 e1⟩
theorem tx_notB {c : Bool} {j : Nat} {pc : Pos} (ha : EX X ι Δ s a Ma Ty.bool) (h1 : behindInMarks .IsNot (.Constant (.bool c) j pc) = false := by rfl) : TX X ι Δ s (.Compare a [.IsNot] [.Constant (.bool c) j pc] pos) (fun k => Ma fun o s1 => k (!decide (o = c)) s1) := by
  intro kk r hk' σ H Hf A Q st q
  refine tT_of (pt_cmp (pc_notB (pE X a)) h1) (ha _ r hk' σ H Hf A _ st fun o s1 hx v H1 Hf1 st1 e1 r1 => ?_)
  cases r1
  exact ⟨o, rfl, _, rfl, q _ s1 hx H1 Hf1 st1 e1⟩
theorem tx_cmpG {α β : Type} {Ea : α → D} {Eb : β → D} {Na : (α → S → Option R) → Option R} {Nb : S → (β → S → Option R) → Option R} {op : CmpOp} {t : R2} {C : α → β → Prop} [∀ x y, Decidable (C x y)] {g : α → β → Bool} (ho : OpR X (compareOp op) t) (hg : OpD X.K t Ea Eb PyData.bool C g)
    (ha : EX X ι Δ s a Na Ea) (hb : ∀ s1, EX X ι Δ s1 b (Nb s1) Eb) (hm : behindInMarks op b = false) : TX X ι Δ s (.Compare a [op] [b] pos) (fun k => Na fun x s1 => Nb s1 fun y s2 => guardM (C x y) (k (g x y) s2)) := by
  intro k r hk σ H Hf A Q st h
  refine tT_of (pt_cmpR ho (pE X a) (pE X b) hm) (ha _ r hk σ H Hf A _ st fun x s1 hx v H1 Hf1 st1 e1 r1 => ?_)
  refine hb s1 _ r hx σ H1 Hf1 A _ st1 fun y s2 hy w H2 Hf2 st2 e2 r2 => ?_
  obtain ⟨hc, hy⟩ := guardM_some hy
  refine hg x y v w H2 Hf2 _ hc st2.sub (r1.up e2.grow) r2 fun u H3 Hf3 e3 sb r3 => ?_
  cases r3
  exact ⟨_, rfl, h _ s2 hy H3 Hf3 (st2.up e3 sb) ((e1.trans e2).trans e3.toA)⟩
theorem tx_eqY (hr : Room k X.A) (ha : EX X ι Δ s a Md Ty.dyn) (hb : ∀ s1, EX X ι Δ s1 b (Me s1) Ty.dyn) :
    TX X ι Δ s (.Compare a [.Eq] [b] pos) (fun k => Md fun x s1 => Me s1 fun y s2 => guardM (okY x = true ∧ okY y = true) (k (PyData.eqv x y) s2)) :=
  tx_cmpG (op_eqD hr.units) opD_eqY ha hb (nomark _)
theorem tx_neY (hr : Room k X.A) (ha : EX X ι Δ s a Md Ty.dyn) (hb : ∀ s1, EX X ι Δ s1 b (Me s1) Ty.dyn) :
    TX X ι Δ s (.Compare a [.NotEq] [b] pos) (fun k => Md fun x s1 => Me s1 fun y s2 => guardM (okY x = true ∧ okY y = true) (k (!PyData.eqv x y) s2)) :=
  tx_cmpG (op_neD hr.units) opD_neY ha hb (nomark _)
end
end Ab
namespace Ab
open PySem PySem.Spec PyProof.Rows L2
/-! ### square equations: a right inverse is a left inverse -/
def bls : Nat → List (List Bool)
  | 0 => [[]]
  | n + 1 => (bls n).map (false :: ·) ++ (bls n).map (true :: ·)
theorem mem_bls : ∀ {n : Nat} {l : List Bool}, l ∈ bls n ↔ l.length = n
  | 0, l => by simp [bls]
  | n + 1, [] => by simp [bls]
  | n + 1, b :: l => by
    unfold bls
    rw [List.mem_append, List.mem_map, List.mem_map, List.length_cons, Nat.succ.injEq]
    constructor
    · rintro (⟨a, h, e⟩ | ⟨a, h, e⟩) <;> (cases e; exact mem_bls.mp h)
    · intro h
      cases b
      · exact .inl ⟨l, mem_bls.mpr h, rfl⟩
      · exact .inr ⟨l, mem_bls.mpr h, rfl⟩
theorem bls_nodup : ∀ n, (bls n).Nodup
  | 0 => by simp [bls]
  | n + 1 => by
    have inj : ∀ b : Bool, ((bls n).map (b :: ·)).Nodup := fun b => by
      unfold List.Nodup
      rw [List.pairwise_map]
      exact (bls_nodup n).imp fun h e => h (by cases e; rfl)
    unfold bls
    refine List.nodup_append.mpr ⟨inj _, inj _, fun a ha b hb e => ?_⟩
    rw [List.mem_map] at ha hb
    obtain ⟨_, _, rfl⟩ := ha
    obtain ⟨_, _, h⟩ := hb
    subst e
    cases h
/-- onto its own finite list: one to one -/
theorem onto_inj {α : Type} [DecidableEq α] {U : List α} (nd : U.Nodup) {F : α → α} (hs : ∀ y ∈ U, ∃ x ∈ U, F x = y) {a b : α} (ha : a ∈ U) (hb : b ∈ U) (h : F a = F b) : a = b := by
  apply Classical.byContradiction
  intro ne
  have := nodup_len (l := U) (m := (U.erase a).map F) nd fun y hy => by
    obtain ⟨x, hx, e⟩ := hs y hy
    rw [List.mem_map]
    by_cases c : x = a
    · exact ⟨b, (List.mem_erase_of_ne fun z => ne z.symm).mpr hb, by rw [← h, ← c]; exact e⟩
    · exact ⟨x, (List.mem_erase_of_ne c).mpr hx, e⟩
  rw [List.length_map, List.length_erase_of_mem ha] at this
  have := List.length_pos_of_mem ha
  omega
def toF (P : List Int) (X : List Bool) (p : Int) : Bool := X.getD (P.idxOf p) false
theorem toF_map (P : List Int) (x : Int → Bool) {p : Int} (h : p ∈ P) : toF P (P.map x) p = x p := by
  unfold toF
  have hl : P.idxOf p < P.length := List.idxOf_lt_length_of_mem h
  rw [List.getD_eq_getElem?_getD, List.getElem?_map, List.getElem?_eq_getElem hl, List.getElem_idxOf hl]
  rfl
theorem map_toF : ∀ (P : List Int), P.Nodup → ∀ (X : List Bool), X.length = P.length → P.map (toF P X) = X
  | [], _, X, h => by cases X with | nil => rfl | cons _ _ => simp at h
  | p :: P, nd, [], h => by simp at h
  | p :: P, nd, b :: X, h => by
    rw [List.nodup_cons] at nd
    rw [List.map_cons]
    have e1 : toF (p :: P) (b :: X) p = b := by unfold toF; simp [List.idxOf_cons]
    have e2 : P.map (toF (p :: P) (b :: X)) = P.map (toF P X) := List.map_congr_left fun q hq => by
      have ne : ¬ p = q := fun z => nd.1 (z ▸ hq)
      have nb : (p == q) = false := by simpa using ne
      unfold toF
      simp [List.idxOf_cons, nb]
    rw [e1, e2, map_toF P nd.2 X (by simpa using h)]
theorem xs_swap {α β : Type} (f : α → β → Bool) (m : List β) : ∀ l : List α, xs (fun a => xs (fun b => f a b) m) l = xs (fun b => xs (fun a => f a b) l) m
  | [] => (xs_zero fun _ _ => rfl).symm
  | a :: l => by
    show (xs (fun b => f a b) m ^^ xs (fun a => xs (fun b => f a b) m) l) = _
    rw [xs_swap f m l, ← xs_xor]
    rfl
theorem xs_pull {α : Type} (s : Bool) (f : α → Bool) (l : List α) : (s && xs f l) = xs (fun x => s && f x) l := (xs_and s f l).symm
theorem square {P M : List Int} (nP : P.Nodup) (nM : M.Nodup) (hl : P.length = M.length) {A C : Int → Int → Bool}
    (h : ∀ u ∈ M, ∀ v ∈ M, xs (fun p => A u p && C p v) P = decide (u = v)) : ∀ p ∈ P, ∀ q ∈ P, xs (fun v => C p v && A v q) M = decide (p = q) := by
  have ap : ∀ (y : Int → Bool), ∀ u ∈ M, xs (fun p => A u p && xs (fun v => C p v && y v) M) P = y u := fun y u hu => by
    have e1 : xs (fun p => A u p && xs (fun v => C p v && y v) M) P = xs (fun v => xs (fun p => A u p && C p v) P && y v) M := by
      rw [xs_congr (g := fun p => xs (fun v => A u p && (C p v && y v)) M) fun p _ => xs_pull _ _ _, xs_swap]
      refine xs_congr fun v _ => ?_
      rw [Bool.and_comm, xs_pull]
      exact xs_congr fun p _ => by cases A u p <;> cases C p v <;> cases y v <;> rfl
    rw [e1, xs_congr (g := fun v => decide (v = u) && y v) fun v hv => by rw [h u hu v hv]; congr 1; rw [Bool.eq_iff_iff, decide_eq_true_eq, decide_eq_true_eq]; exact eq_comm]
    exact xs_one nM hu
  let F : List Bool → List Bool := fun X => M.map fun u => xs (fun p => A u p && toF P X p) P
  have onto : ∀ y ∈ bls P.length, ∃ x ∈ bls P.length, F x = y := fun Y hY => by
    have lY := mem_bls.mp hY
    refine ⟨P.map fun p => xs (fun v => C p v && toF M Y v) M, mem_bls.mpr (by rw [List.length_map]), ?_⟩
    refine Eq.trans (List.map_congr_left fun u hu => ?_) (map_toF M nM Y (by omega))
    rw [xs_congr (g := fun p => A u p && xs (fun v => C p v && toF M Y v) M) fun p hp => by rw [toF_map P (fun p => xs (fun v => C p v && toF M Y v) M) hp]]
    exact ap _ u hu
  intro p hp q hq
  have key : P.map (fun p => xs (fun v => C p v && A v q) M) = P.map fun p => decide (p = q) := by
    refine onto_inj (bls_nodup _) onto (mem_bls.mpr (by rw [List.length_map])) (mem_bls.mpr (by rw [List.length_map])) ?_
    refine List.map_congr_left fun u hu => ?_
    rw [xs_congr (g := fun p => A u p && xs (fun v => C p v && A v q) M) fun p hp => by rw [toF_map P (fun p => xs (fun v => C p v && A v q) M) hp], ap _ u hu]
    rw [xs_congr (g := fun p => decide (p = q) && A u p) fun p hp => by rw [toF_map P (fun p => decide (p = q)) hp, Bool.and_comm]]
    exact (xs_one nP hq).symm
  have e : toF P (P.map (fun p => xs (fun v => C p v && A v q) M)) p = toF P (P.map fun p => decide (p = q)) p := by rw [key]
  rw [toF_map P (fun p => xs (fun v => C p v && A v q) M) hp, toF_map P (fun p => decide (p = q)) hp] at e
  exact e
theorem nodup_full {α : Type} [DecidableEq α] {l m : List α} (nd : l.Nodup) (h : ∀ x ∈ l, x ∈ m) (hl : m.length ≤ l.length) : ∀ x ∈ m, x ∈ l := fun x hx => Classical.byContradiction fun c => by
  have := nodup_len (l := x :: l) (m := m) (List.nodup_cons.mpr ⟨c, nd⟩) fun y hy => by
    rcases List.mem_cons.mp hy with rfl | hy
    · exact hx
    · exact h y hy
  rw [List.length_cons] at this
  omega
theorem least {p : Nat → Prop} : ∀ n, p n → ∃ k, p k ∧ ∀ m, p m → k ≤ m := fun n => by
  induction n using Nat.strongRecOn with
  | ind n ih =>
    intro hn
    by_cases h : ∃ m, m < n ∧ p m
    · obtain ⟨m, h1, h2⟩ := h
      exact ih m h1 h2
    · exact ⟨n, hn, fun m hm => Nat.not_lt.mp fun z => h ⟨m, z, hm⟩⟩
theorem xs_dec {l : List Int} (nd : l.Nodup) (w : Int) : xs (fun u => decide (w = u)) l = decide (w ∈ l) := by
  by_cases h : w ∈ l
  · have := xs_one (f := fun _ => true) nd h
    rw [decide_eq_true h, ← this]
    refine xs_congr fun x _ => ?_
    rw [Bool.and_true, Bool.eq_iff_iff, decide_eq_true_eq, decide_eq_true_eq]
    exact eq_comm
  · rw [decide_eq_false h]
    exact xs_zero fun x hx => decide_eq_false fun e => h (e ▸ hx)
/-! ### inputs and outputs exchanged -/
def Flat (g : Gr) : Prop := ∀ v, 0 ≤ v → v < g.1 → v ∉ g.2.2.2.1 → pl g v = "XY"
def exg (g : Gr) : Gr := (g.1, g.2.1, g.2.2.2.1, g.2.2.1, (rangeL 0 g.1.toNat).map fun v => if decide (v ∈ g.2.2.1) = true then ("" : Str) else ("XY" : Str))
theorem exg_word {g : Gr} {v : Int} (a : 0 ≤ v) (b : v < g.1) : (exg g).2.2.2.2[v.toNat]? = some (if decide (v ∈ g.2.2.1) = true then ("" : Str) else ("XY" : Str)) := by
  show ((rangeL 0 g.1.toNat).map _)[v.toNat]? = _
  rw [List.getElem?_map, rangeL_at a b]; rfl
theorem exg_gd {g : Gr} (G : Gd g) : Gd (exg g) := by
  refine Gd.mk' ⟨G.n0, G.n1, G.nd, G.eb, G.el, G.out, G.ins⟩ G.n2 ?_ fun v a b => ⟨_, exg_word a b, ?_⟩
  · show ((rangeL 0 g.1.toNat).map _).length = _
    rw [List.length_map, rangeL_len]; rfl
  · show PlOk true g.2.2.1 g.2.2.2.1 v _
    by_cases h : v ∈ g.2.2.1
    · exact .inl ⟨h, by simp [h]⟩
    · by_cases o : v ∈ g.2.2.2.1
      · exact .inr (.inl ⟨h, o, by simp [h]⟩)
      · exact .inr (.inr ⟨h, o, .inl rfl, .inl (by simp [h])⟩)
theorem exg_flat (g : Gr) : Flat (exg g) := fun v a b c => by
  have c' : v ∉ g.2.2.1 := c
  rw [pl_of (g := exg g) a (exg_word (g := g) a b)]
  simp [c']
theorem exg_exg {g : Gr} (G : Gd g) (F : Flat g) : exg (exg g) = g := by
  have e : (rangeL 0 g.1.toNat).map (fun v => if decide (v ∈ g.2.2.2.1) = true then ("" : Str) else ("XY" : Str)) = g.2.2.2.2 := by
    refine List.ext_getElem? fun j => ?_
    by_cases h : j < g.1.toNat
    · have a : (0 : Int) ≤ (j : Int) := by omega
      have b : (j : Int) < g.1 := by omega
      have e1 := rangeL_at a b
      rw [show ((j : Int)).toNat = j from rfl] at e1
      rw [List.getElem?_map, e1]
      obtain ⟨x, h1, h2⟩ := G.plOk a b
      rw [show ((j : Int)).toNat = j from rfl] at h1
      rw [h1]
      show some _ = some _
      congr 1
      by_cases o : (j : Int) ∈ g.2.2.2.1
      · have := G.po _ o
        rw [pl_of a (x := x) h1] at this
        simp [o, this]
      · have := F _ a b o
        rw [pl_of a (x := x) h1] at this
        simp [o, this]
    · rw [List.getElem?_eq_none (by rw [List.length_map, rangeL_len]; omega), List.getElem?_eq_none (by rw [G.pn]; omega)]
  show (g.1, g.2.1, g.2.2.1, g.2.2.2.1, _) = g
  show (g.1, g.2.1, g.2.2.1, g.2.2.2.1, (rangeL 0 g.1.toNat).map (fun v => if decide (v ∈ g.2.2.2.1) = true then ("" : Str) else ("XY" : Str))) = g
  rw [e]
theorem nee_XY {g : Gr} {v : Int} (h : pl g v = "XY") : nee g v = false := by unfold nee; rw [h]; decide +kernel
theorem odn_XY {g : Gr} {v : Int} (h : pl g v = "XY") : odn g v = true := by unfold odn; rw [h]; decide +kernel
def msr (g : Gr) : List Int := (rangeL 0 g.1.toNat).filter fun v => !decide (v ∈ g.2.2.2.1)
def nin (g : Gr) : List Int := (rangeL 0 g.1.toNat).filter fun v => !decide (v ∈ g.2.2.1)
theorem mem_msr {g : Gr} {v : Int} : v ∈ msr g ↔ ((0 ≤ v ∧ v < g.1) ∧ v ∉ g.2.2.2.1) := by unfold msr; rw [List.mem_filter, mem_range0]; simp
theorem mem_nin {g : Gr} {v : Int} : v ∈ nin g ↔ ((0 ≤ v ∧ v < g.1) ∧ v ∉ g.2.2.1) := by unfold nin; rw [List.mem_filter, mem_range0]; simp
theorem msr_SL (g : Gr) : SL (msr g) := (rangeL_SL _ _).filter _
theorem nin_SL (g : Gr) : SL (nin g) := (rangeL_SL _ _).filter _
theorem filt_len {α : Type} (q : α → Bool) : ∀ l : List α, (l.filter q).length + (l.filter fun x => !q x).length = l.length
  | [] => rfl
  | a :: l => by
    have := filt_len q l
    rw [List.filter_cons, List.filter_cons]
    cases h : q a <;> simp <;> omega
theorem SL.filt_range {l : List Int} {n : Int} (h : SL l) (w : Within l n) : (rangeL 0 n.toNat).filter (fun x => decide (x ∈ l)) = l := by
  refine SL.ext ((rangeL_SL _ _).filter _) h fun x => ?_
  rw [List.mem_filter, decide_eq_true_eq]
  exact ⟨fun h => h.2, fun h => ⟨mem_range0.mpr (w x h), h⟩⟩
theorem msr_nin_len {g : Gr} (G : Gd g) (h : g.2.2.1.length = g.2.2.2.1.length) : (nin g).length = (msr g).length := by
  have a := filt_len (fun x => decide (x ∈ g.2.2.1)) (rangeL 0 g.1.toNat)
  have b := filt_len (fun x => decide (x ∈ g.2.2.2.1)) (rangeL 0 g.1.toNat)
  rw [SL.filt_range G.ins_SL fun x hx => G.ins_in hx] at a
  rw [SL.filt_range G.out_SL fun x hx => G.out_in hx] at b
  unfold nin msr
  omega
section
variable {g : Gr} (G : Gd g) (F : Flat g) {r : Int → Nat} (hr : ∀ v, 0 ≤ v → v < g.1 → Soon g (r v) v ∧ ∀ j, Soon g j v → r v ≤ j)
include G F hr
/-- each measured vertex has a set that is odd at it alone, behind it -/
theorem focused : ∀ (n : Nat) (v : Int), v ∈ msr g → r v ≤ n → ∃ T : Int → Bool, (∀ p ∈ nin g, T p = true → r p < r v) ∧ ∀ u ∈ msr g, xs (fun p => adj g u p && T p) (nin g) = decide (u = v)
  | 0, v, hv, h => by
    obtain ⟨⟨a, b⟩, c⟩ := mem_msr.mp hv
    have := (hr v a b).1
    rw [show r v = 0 by omega] at this
    exact absurd this c
  | n + 1, v, hv, h => by
    classical
    obtain ⟨⟨a, b⟩, c⟩ := mem_msr.mp hv
    obtain ⟨h1, h2⟩ := hr v a b
    have ih := focused n
    cases e : r v with
    | zero => rw [e] at h1; exact absurd h1 c
    | succ j =>
      rw [e] at h1 h2
      rcases h1 with h1 | ⟨_, _, S, sS, wS, D⟩
      · have := h2 j h1; omega
      · have xy := F v a b c
        have vS : v ∉ S := fun z => by have := D.own.mp z; rw [nee_XY xy] at this; cases this
        have vO : v ∈ oddS g S := D.odd.mpr (odn_XY xy)
        have Sin : ∀ x ∈ S, x ∈ nin g := fun x hx => mem_nin.mpr ⟨wS x hx, D.inp x hx⟩
        have eS : S = (nin g).filter fun x => decide (x ∈ S) := SL.ext sS ((nin_SL g).filter _) fun x => by
          rw [List.mem_filter, decide_eq_true_eq]
          exact ⟨fun h => ⟨Sin x h, h⟩, fun h => h.2⟩
        have od : ∀ u, xs (fun p => adj g u p && decide (p ∈ S)) (nin g) = decide (u ∈ oddS g S) := fun u => by
          have e1 : xs (adj g u) S = xs (fun p => adj g u p && decide (p ∈ S)) (nin g) := by
            conv => lhs; rw [eS]
            rw [xs_filter]
            exact xs_congr fun x _ => Bool.and_comm _ _
          rw [← e1, Bool.eq_iff_iff, decide_eq_true_eq, G.mem_oddX]
        let M' := (msr g).filter fun u => !decide (u = v) && decide (u ∈ oddS g S)
        have mM : ∀ u, u ∈ M' ↔ (u ∈ msr g ∧ u ≠ v ∧ u ∈ oddS g S) := fun u => by
          show u ∈ (msr g).filter _ ↔ _
          rw [List.mem_filter]; simp
        have sM : SL M' := (msr_SL g).filter _
        have low : ∀ u ∈ M', r u ≤ j := fun u hu => by
          obtain ⟨m, ne, o⟩ := (mM u).mp hu
          obtain ⟨⟨ua, ub⟩, _⟩ := mem_msr.mp m
          exact (hr u ua ub).2 j ((D.lao u o).resolve_left ne)
        have ex : ∀ u ∈ M', ∃ T : Int → Bool, (∀ p ∈ nin g, T p = true → r p < r u) ∧ ∀ w ∈ msr g, xs (fun p => adj g w p && T p) (nin g) = decide (w = u) := fun u hu => ih u ((mM u).mp hu).1 (by have := low u hu; omega)
        let Tc : Int → Int → Bool := fun u => if hu : u ∈ M' then (ex u hu).choose else fun _ => false
        have hT : ∀ u ∈ M', (∀ p ∈ nin g, Tc u p = true → r p < r u) ∧ ∀ w ∈ msr g, xs (fun p => adj g w p && Tc u p) (nin g) = decide (w = u) := fun u hu => by
          have : Tc u = (ex u hu).choose := by show (if hu : u ∈ M' then (ex u hu).choose else fun _ => false) = _; rw [dif_pos hu]
          rw [this]
          exact (ex u hu).choose_spec
        refine ⟨fun p => decide (p ∈ S) ^^ xs (fun u => Tc u p) M', fun p hp ht => ?_, fun w hw => ?_⟩
        · obtain ⟨⟨pa, pb⟩, _⟩ := mem_nin.mp hp
          have ht : (decide (p ∈ S) ^^ xs (fun u => Tc u p) M') = true := ht
          by_cases c1 : p ∈ S
          · have := (hr p pa pb).2 j ((D.lat p c1).resolve_left fun z => vS (z ▸ c1))
            omega
          · rw [decide_eq_false c1, Bool.false_xor] at ht
            obtain ⟨u, hu, t⟩ := xs_ex ht
            have := (hT u hu).1 p hp t
            have := low u hu
            omega
        · have e1 : xs (fun p => adj g w p && (decide (p ∈ S) ^^ xs (fun u => Tc u p) M')) (nin g) = (decide (w ∈ oddS g S) ^^ decide (w ∈ M')) := by
            rw [← od w, ← xs_dec sM.nodup w, ← xs_congr (l := M') (f := fun u => xs (fun p => adj g w p && Tc u p) (nin g)) (g := fun u => decide (w = u)) fun u hu => (hT u hu).2 w hw, ← xs_swap, ← xs_xor]
            refine xs_congr fun p _ => ?_
            rw [← xs_pull]
            cases adj g w p <;> cases decide (p ∈ S) <;> cases xs (fun u => Tc u p) M' <;> rfl
          rw [e1]
          by_cases ew : w = v
          · have : w ∉ M' := fun z => ((mM w).mp z).2.1 ew
            subst ew
            simp [vO, this]
          · by_cases o : w ∈ oddS g S
            · have : w ∈ M' := (mM w).mpr ⟨hw, ew, o⟩
              simp [o, this, ew]
            · have : w ∉ M' := fun z => o ((mM w).mp z).2.2
              simp [o, this, ew]
end
theorem rank_of {g : Gr} (h : HasFlow g) : ∃ (r : Int → Nat) (K : Nat), ∀ v, 0 ≤ v → v < g.1 → (Soon g (r v) v ∧ ∀ j, Soon g j v → r v ≤ j) ∧ r v ≤ K := by
  classical
  obtain ⟨K, h⟩ := h
  have ex : ∀ v, 0 ≤ v → v < g.1 → ∃ k, Soon g k v ∧ ∀ m, Soon g m v → k ≤ m := fun v a b => least K (h v a b)
  refine ⟨fun v => if z : 0 ≤ v ∧ v < g.1 then (ex v z.1 z.2).choose else 0, K, fun v a b => ?_⟩
  have e : (if z : 0 ≤ v ∧ v < g.1 then (ex v z.1 z.2).choose else 0) = (ex v a b).choose := dif_pos ⟨a, b⟩
  simp only [e]
  have := (ex v a b).choose_spec
  exact ⟨this, this.2 K (h v a b)⟩
/-- with as many inputs as outputs the exchanged graph has a flow, too -/
theorem flow_exg {g : Gr} (G : Gd g) (F : Flat g) (hl : g.2.2.1.length = g.2.2.2.1.length) (h : HasFlow g) : HasFlow (exg g) := by
  classical
  obtain ⟨r, K, hr⟩ := rank_of h
  have foc := fun v hv => focused G F (fun v a b => (hr v a b).1) (r v) v hv (Nat.le_refl _)
  let C : Int → Int → Bool := fun p v => if hv : v ∈ msr g then (foc v hv).choose p else false
  have hC : ∀ v ∈ msr g, (∀ p ∈ nin g, C p v = true → r p < r v) ∧ ∀ u ∈ msr g, xs (fun p => adj g u p && C p v) (nin g) = decide (u = v) := fun v hv => by
    have : (fun p => C p v) = (foc v hv).choose := funext fun p => by show (if hv : v ∈ msr g then (foc v hv).choose p else false) = _; rw [dif_pos hv]
    have sp := (foc v hv).choose_spec
    rw [← this] at sp
    exact sp
  have sq := square (nin_SL g).nodup (msr_SL g).nodup (msr_nin_len G hl) (A := adj g) (C := C) fun u hu v hv => (hC v hv).2 u hu
  have GE := exg_gd G
  have main : ∀ (m : Nat) (q : Int), q ∈ nin g → K - r q ≤ m → Soon (exg g) (m + 1) q := by
    intro m
    induction m using Nat.strongRecOn with
    | ind m ih =>
      intro q hq hm
      obtain ⟨⟨q0, q1⟩, qi⟩ := mem_nin.mp hq
      have xy : pl (exg g) q = "XY" := exg_flat g q q0 q1 qi
      have od : ∀ x ∈ nin g, xs (adj g x) ((msr g).filter (C q)) = decide (q = x) := fun x hx => by
        rw [xs_filter, ← sq q hq x hx]
        exact xs_congr fun v _ => by rw [adj_sym g x v]
      have mS : ∀ x, x ∈ (msr g).filter (C q) ↔ (x ∈ msr g ∧ C q x = true) := fun x => List.mem_filter
      refine .inr ⟨q0, q1, (msr g).filter (C q), (msr_SL g).filter _, fun x hx => (mem_msr.mp ((mS x).mp hx).1).1, ⟨fun x hx => (mem_msr.mp ((mS x).mp hx).1).2, ?_, ?_, fun x hx => ?_, fun x hx => ?_⟩⟩
      · rw [nee_XY xy]
        constructor
        · intro z
          obtain ⟨z1, z2⟩ := (mS q).mp z
          have := (hC q z1).1 q hq z2
          omega
        · intro z; cases z
      · rw [odn_XY xy, GE.mem_oddX]
        have := od q hq
        rw [decide_eq_true rfl] at this
        exact ⟨fun _ => rfl, fun _ => this⟩
      · obtain ⟨z1, z2⟩ := (mS x).mp hx
        have lt := (hC x z1).1 q hq z2
        obtain ⟨⟨x0, x1⟩, xo⟩ := mem_msr.mp z1
        have le := (hr x x0 x1).2
        by_cases xi : x ∈ g.2.2.1
        · exact .inr (Soon.up (j := 0) (g := exg g) xi (Nat.zero_le _))
        · have := ih (m - 1) (by omega) x (mem_nin.mpr ⟨⟨x0, x1⟩, xi⟩) (by omega)
          rw [show m - 1 + 1 = m by omega] at this
          exact .inr this
      · obtain ⟨x0, x1⟩ : 0 ≤ x ∧ x < g.1 := GE.toGood.odd_in hx
        by_cases xi : x ∈ g.2.2.1
        · exact .inr (Soon.up (j := 0) (g := exg g) xi (Nat.zero_le _))
        · rw [GE.mem_oddX] at hx
          have := od x (mem_nin.mpr ⟨⟨x0, x1⟩, xi⟩)
          have hx' : xs (adj g x) ((msr g).filter (C q)) = true := hx
          rw [hx'] at this
          exact .inl (of_decide_eq_true this.symm).symm
  refine ⟨K + 1, fun v a b => ?_⟩
  by_cases vi : v ∈ g.2.2.1
  · exact Soon.up (j := 0) (g := exg g) vi (Nat.zero_le _)
  · exact main K v (mem_nin.mpr ⟨⟨a, b⟩, vi⟩) (by omega)
theorem flow_exg_iff {g : Gr} (G : Gd g) (F : Flat g) (hl : g.2.2.1.length = g.2.2.2.1.length) : HasFlow (exg g) ↔ HasFlow g :=
  ⟨fun h => by have := flow_exg (exg_gd G) (exg_flat g) hl.symm h; rw [exg_exg G F] at this; exact this, flow_exg G F hl⟩
end Ab
namespace Ab
open PySem PySem.Spec PyProof.Rows L2
/-! ### the law at the very end, where nothing is being shown: repr can be read in its body -/
structure RunG (Pg : Program) (w : World) (K : KF) (mg : Str → Option Value) (base : Heap) (k : Nat) (f : Addr) (fd : FuncData) (ps : List Str) (sp : Sp) : Prop where
  go : ∀ {A : Around} {outer : List Env} {s : Shared} {H : Hp} {args : Args} {us : List Value} {vs : List V} {Q : VK} {E : XK}, A.guards = some [] → Room k A → Env0 Pg w K mg base A outer s H →
    BindsTo s fd args (ps.zip us) → Vals vs us → sp vs H Q E → codeAny (model Pg w) A (.call (.ref f) args) (CR CX0 outer Pg w H s Q E) s
section
variable {Pg : Program} {w : World} {K : KF} {mg : Str → Option Value} {base : Heap}
/-- a body that is read where no guard stands -/
theorem runG_of {x qual : Str} {st : Stmt} {f : Addr} {fd : FuncData} {N ps : List Str} {k : Nat} {sp : Sp} (F : Fun K x qual st f fd) (S : FnScope N ps (defScope st)) (len : ∀ vs H Q E, sp vs H Q E → vs.length = ps.length)
    (hbody : ∀ (A : Around) (outer : List Env) (s : Shared) (H : Hp) (vs : List V) (Q : VK) (E : XK), A.guards = some [] → Room k (A.deeper (envOfC qual (defScope st) s.heap.objs.size f fd.code)) → sp vs H Q E →
      ∃ t, PSs (cxOf CX0 Pg w K mg base N qual (defScope st) f fd.code A outer s H E).nox (defBody st) t ∧ t { nx := fun _ H' => Q .non H', rt := Q } (L2.start N vs) H) : RunG Pg w K mg base (k + 1) f fd ps sp := by
  obtain ⟨oc, od, kV, doc, pm, an, cdv, ct, osl, rfl, lk, hcd⟩ := F.ex
  constructor
  intro A outer s H args us vs Q E hg hr e0 hb hv hsp
  have inK := e0.mod.kin.keeps fun a o h => (e0.bs a o h).1
  have nolim := e0.mod.nolimit.keeps fun a o h => (e0.bs a o h).1
  have places : ∀ y ∈ ps.zip us, (defScope st).names.lookup y.1 = some .local ∨ ((defScope st).names.lookup y.1 = some .cell ∧ ((cellsFrom (s.heap.objs.size + 1) (defScope st).names []).lookup y.1).isSome = true) := by
    rintro ⟨nm, u⟩ hm
    have hp := S.par nm (List.of_mem_zip hm).1
    exact hp.imp id fun c => ⟨c, PySem.W.cellsFrom_some _ _ _ (.inl c)⟩
  refine codeAny_call_function hr.depth (inK _ _ lk) rfl S.co S.gen rfl (PySem.W.codeRec_of inK hcd) (hb _ _ _ _ (wpAny_newFunctionEnv_cells S.kind places ?_))
  rintro env rfl s1 grown
  obtain ⟨t, ht, hq⟩ := hbody A outer s H vs Q E hg (hr.deeper _) hsp
  have I := inv_start (CX := CX0) (E := E) S hr.hd e0 (len _ _ _ _ hsp) hv grown
  refine ⟨nolim.keeps grown.toInCall.keep, codeAny_func (wpAny_mono (ht.nox.run [] s1 (L2.start N vs) H _ I hq) (fun fl s2 hs => ?_) fun _ _ h => h)⟩
  cases fl with
  | next => obtain ⟨σ2, H2, J, q⟩ := hs; exact ⟨.non, H2, J.os, J.bare, J.base, J.hok, rfl, q⟩
  | ret u => obtain ⟨v, σ2, H2, J, r, q⟩ := hs; exact ⟨v, H2, J.os, J.bare, J.base, J.hok, r, q⟩
  | brk => exact (show False from hs.choose_spec.choose_spec.2).elim
  | cont => exact (show False from hs.choose_spec.choose_spec.2).elim
end
/-! the call of the law: what is tracked ahead of it are the script and the tables -/
section
variable (K : KF) (a : Addr) (o : Obj) (xs : List V) (tb : List Addr)
def hp0 : Hp := fun b => if b ∈ tb then some (.tbl #[]) else if b = a ∧ (K.lookup a).isNone = true then some (.frz o (.lst xs)) else none
variable {K a o xs tb}
theorem hp0_tb {b : Addr} (h : b ∈ tb) : hp0 K a o xs tb b = some (.tbl #[]) := if_pos h
theorem hp0_a (h : a ∉ tb) (n : K.lookup a = none) : hp0 K a o xs tb a = some (.frz o (.lst xs)) := by
  unfold hp0
  rw [if_neg h, if_pos ⟨rfl, by rw [n]; rfl⟩]
theorem hp0_cases (b : Addr) : hp0 K a o xs tb b = none ∨ (b ∈ tb ∧ hp0 K a o xs tb b = some (.tbl #[])) ∨ (b ∉ tb ∧ b = a ∧ K.lookup a = none ∧ hp0 K a o xs tb b = some (.frz o (.lst xs))) := by
  by_cases h : b ∈ tb
  · exact .inr (.inl ⟨h, hp0_tb h⟩)
  · by_cases h2 : b = a ∧ (K.lookup a).isNone = true
    · exact .inr (.inr ⟨h, h2.1, by simpa using h2.2, by unfold hp0; rw [if_neg h, if_pos h2]⟩)
    · exact .inl (by unfold hp0; rw [if_neg h, if_neg h2])
end
section
variable {Pg : Program} {w : World} {K : KF} {mg mb : Str → Option Value} {k : Nat} {fa a : Addr} {cs : List (Addr × Addr)} {fd : FuncData} {x : Str} {sp : Sp} {sh : Shared} {vs : List Value} {ns : List Int}
theorem lawG_call (inK : K.In sh.heap) (hG : sh.heap.Ns mainGlobals mg) (hB : sh.heap.Ns builtinsNs mb) (boot : ∀ y : Str, y ≠ "__name__" → mb y = bootBuiltins y) (nol : sh.heap.NoLimit) (gen : sh.gens = #[])
    (tabs : ∀ p ∈ cs, sh.heap.get? p.2 = some { cls := .none, data := .fields #[] }) (tabK : ∀ p ∈ cs, K.lookup p.2 = none) (heads : ∀ p ∈ cs, PySem.W.CodeHd sh.heap p.1 p.2)
    (mod : ∃ (bm : Addr) (ob : Obj), mg "__builtins__" = some (.ref bm) ∧ bm ≠ builtinsNs ∧ sh.heap.get? bm = some ob ∧ ob.cls = .type "module" ∧ ob.dict = some builtinsNs ∧ ob.data = .plain)
    (ha : sh.heap.get? a = some { cls := .type "list", data := .seq vs.toArray }) (hi : IntsAre vs ns) (hl : ns.length ≤ sizeLine) (hr : Room k callerA)
    (F : ∀ base : Heap, K.In base → base.Ns mainGlobals mg → (∀ p ∈ cs, LamX.TabB base mg p.1 p.2) → RunG Pg w K mg base k fa fd [x] sp) (hb : ∀ (s : Shared) (u : Value), BindsTo s fd ⟨[u], []⟩ [(x, u)])
    (hsp : ∀ H : Hp, (∀ p ∈ cs, H p.2 = some (.tbl #[])) → SqL K H a (ns.map V.int) → sp [.ref a] H (fun v _ => v = .bl true) fun _ _ _ => False) :
    codeAny (model Pg w) callerA (.call (.ref fa) ⟨[.ref a], []⟩) (fun r s' => r = .ok (.ret (.bool true)) ∧ OldK sh.heap s'.heap ∧ s'.os = sh.os ∧ AllBare s'.gens) sh := by
  have rv := vals_ints hi
  generalize hob : ({ cls := .type "list", data := .seq vs.toArray } : Obj) = ob at ha
  let tb := cs.map (·.2)
  let H : Hp := hp0 K a ob (ns.map V.int) tb
  have tbl : ∀ b ∈ tb, sh.heap.get? b = some { cls := .none, data := .fields #[] } ∧ K.lookup b = none := fun b h => by
    obtain ⟨p, hp, rfl⟩ := List.mem_map.mp h
    exact ⟨tabs p hp, tabK p hp⟩
  have inT : ∀ p ∈ cs, p.2 ∈ tb := fun p hp => List.mem_map_of_mem hp
  have dat : ob.data = .seq vs.toArray := by rw [← hob]
  have aT : a ∉ tb := fun z => by
    have e := (tbl a z).1
    rw [ha] at e
    have e2 := congrArg Obj.data (Option.some.inj e)
    rw [dat] at e2
    exact absurd e2 (by simp)
  have cse := hp0_cases (K := K) (a := a) (o := ob) (xs := ns.map V.int) (tb := tb)
  -- what is tracked lies there so
  have held : HOk Pg w H sh.heap := fun b u e => by
    rcases cse b with q | ⟨q1, q2⟩ | ⟨_, rfl, _, q⟩
    · rw [show hp0 K a ob (ns.map V.int) tb b = some u from e] at q; cases q
    · rw [show hp0 K a ob (ns.map V.int) tb b = some u from e] at q2
      cases q2
      exact (tbl b q1).1
    · rw [show hp0 K b ob (ns.map V.int) tb b = some u from e] at q
      cases q
      exact ⟨ha, by rw [List.length_map]; exact hl, vs, _, rv, by rw [ha, ← hob]⟩
  have row : SqL K H a (ns.map V.int) := by
    cases hk : K.lookup a with
    | none => exact .inl (.inr ⟨ob, hp0_a aT hk⟩)
    | some o =>
      have e := inK a o hk
      rw [ha] at e
      cases e
      have ll := rv.length
      rw [List.length_map] at ll
      exact .inr ⟨ob, vs.toArray, _, hk, by rw [← hob], by rw [← hob], dat, by rw [List.size_toArray, ← ll]; exact hl, by simpa using rv⟩
  -- what is not tracked
  have free : ∀ {b : Addr} {o : Obj}, sh.heap.get? b = some o → (∀ l n, o.data ≠ .seq l n) → o.data ≠ .fields #[] → H b = none := fun {b o} e n1 n2 => by
    rcases cse b with q | ⟨q, _⟩ | ⟨_, rfl, _, _⟩
    · exact q
    · rw [(tbl b q).1] at e; cases e; exact absurd rfl n2
    · rw [ha] at e; cases e; exact absurd dat (n1 _ _)
  have stay : ∀ {b : Addr} {o : Obj}, sh.heap.get? b = some o → (∀ l n, o.data ≠ .seq l n) → o.data ≠ .fields #[] → (hidT sh.heap H).get? b = some o := fun e n1 n2 => hidT_get e (free e n1 n2)
  have names : ∀ {b : Addr} {m : Str → Option Value}, sh.heap.Ns b m → (hidT sh.heap H).Ns b m := fun {b m} ⟨o, es, ep, e, d, r⟩ =>
    ⟨o, es, ep, stay e (fun l n z => by rw [d] at z; cases z) (fun z => by rw [d] at z; cases z), d, r⟩
  have kin : K.In (hidT sh.heap H) := fun b o e => hidT_get (inK b o e) (by
    rcases cse b with q | ⟨q, _⟩ | ⟨_, rfl, q, _⟩
    · exact q
    · rw [(tbl b q).2] at e; cases e
    · rw [q] at e; cases e)
  have modOk : L2.Mod K mg (hidT sh.heap H) := by
    obtain ⟨mc, c1, c2⟩ := nol
    exact ⟨kin, names hG, ⟨mb, names hB, boot⟩, mc, names c1, c2⟩
  have tabB : ∀ p ∈ cs, LamX.TabB (hidT sh.heap H) mg p.1 p.2 := fun p hp => by
    have tp := tabs p hp
    have apart : ∀ {b : Addr} {o : Obj}, sh.heap.get? b = some o → o.data ≠ .fields #[] → b ≠ p.2 := fun e n z => by
      rw [z, tp] at e; cases e; exact n rfl
    obtain ⟨go, ges, gep, g1, g2, _⟩ := id hG
    have gd : go.data ≠ .fields #[] := fun z => by rw [g2] at z; cases z
    refine ⟨?_, ?_, apart g1 gd⟩
    · obtain ⟨o, us, file, tf, flags, tg, inF, text, tt, e1, r1, r2, r3, r⟩ := heads p hp
      exact ⟨o, us, file, tf, flags, tg, inF, text, tt, stay e1 (fun l n z => by rw [r2] at z; cases z) (fun z => by rw [r2] at z; cases z; simp at r3), r1, r2, r3, r⟩
    · obtain ⟨bm, ob2, b1, b2, b3, b4, b5, b6⟩ := mod
      have bd : ob2.data ≠ .fields #[] := fun z => by rw [b6] at z; cases z
      refine ⟨bm, ob2, b1, b2, fun z => ?_, apart b3 bd, stay b3 (fun l n z => by rw [b6] at z; cases z) bd, b4, b5, b6⟩
      rw [z, g1] at b3
      cases b3
      rw [g2] at b6
      cases b6
  have env : Env0 Pg w K mg (hidT sh.heap H) callerA [] sh H := ⟨rfl, modOk, fun b o e => of_hidT e, Nat.le_of_eq (hidT_size _ _), trivial, fun b z => absurd z (List.not_mem_nil), held, .of_eq gen⟩
  refine codeAny_mono ((F _ kin (names hG) tabB).go (vs := [.ref a]) (us := [.ref a]) rfl hr env (hb sh (.ref a)) (.cons rfl .nil) (hsp H (fun p hp => hp0_tb (inT p hp)) row)) fun r s' h => ?_
  match r, h with
  | .ok (.ret u), ⟨v, H', os, bare, un, ok', rel, q⟩ =>
    have q' : v = .bl true := q
    subst q'
    obtain rfl : u = Value.bool true := rel
    have keep : ∀ b o, b ∉ tb → sh.heap.get? b = some o → s'.heap.get? b = some o := fun b o nb e => by
      rcases cse b with c | ⟨c, _⟩ | ⟨_, rfl, _, c⟩
      · exact un.keep b o e c List.not_mem_nil List.not_mem_nil
      · exact absurd c nb
      · obtain ⟨e2, _⟩ := ok' b _ (un.frzs b ob _ c)
        rw [ha] at e
        cases e
        exact e2
    have grown : ∀ p ∈ cs, ∃ more : Array Value, s'.heap.get? p.2 = some { cls := .none, data := .fields more } := fun p hp => by
      obtain ⟨more, z⟩ := un.tbls p.2 #[] (hp0_tb (inT p hp))
      exact ⟨#[] ++ more, ok' p.2 _ z⟩
    refine ⟨rfl, ⟨fun b o e => ?_, fun b o e => ?_⟩, os, bare⟩
    · by_cases c : b ∈ tb
      · obtain ⟨p, hp, rfl⟩ := List.mem_map.mp c
        obtain ⟨more, g⟩ := grown p hp
        rw [tabs p hp] at e
        cases e
        exact .inr (.inl ⟨((heads p hp).tab (tabs p hp)).isCodeTable, rfl, #[], more, rfl, by simpa using g⟩)
      · exact .inl (keep b o c e)
    · by_cases c : b ∈ tb
      · obtain ⟨p, hp, rfl⟩ := List.mem_map.mp c
        obtain ⟨more, g⟩ := grown p hp
        exact ⟨_, g⟩
      · exact ⟨o, keep b o c e⟩
end
/-! ### the law's def, read so -/
section
variable {Pg : Program} {w : World} {K : KF} {mg : Str → Option Value} {base : Heap}
theorem fn_lawGR {st : Stmt} {f fS : Addr} {fd fdS : FuncData} {N : List Str} {k : Nat} {m : Rs → Option (Bool × Rs)} {tb : List Addr} {rest : List Stmt} {p1 p2 p3 p4 p5 : Pos} (F : Fun K "law" "law" st f fd) (Sc : FnScope N ["script"] (defScope st))
    (FS : FnOk Pg w K mg base CX0 k fS fdS ["script"] (spSt K)) (gS : mg "_law_state" = some (.ref fS)) (kS : PySem.W.keepIn K (.ref fS) = true) (bS : Binds K fdS ["script"] [])
    (hb : defBody st = .Assign [.Name "state" p1] (.Call (.Name "_law_state" p2) [.Name "script" p3] [] p4) p5 :: rest) (h0 : N[0]? = some ("script" : Str)) (h1 : N[1]? = some ("state" : Str)) (hl1 : L2.Loc (defScope st) "state") (hl0 : Vis (defScope st) "script") (hgl : (defScope st).names.lookup ("_law_state" : Str) = some NameKind.globalImplicit)
    (body : ∀ (s : Rs) (cdv : Value) (A : Around) (outer : List Env) (sh : Shared) (H : Hp) (E' : XK), A.guards = some [] → Room k (A.deeper (envOfC "law" (defScope st) sh.heap.objs.size f cdv)) →
      BX (cxOf CX0 Pg w K mg base N "law" (defScope st) f cdv A outer sh H E').nox (ioG tb (io1 rtR 1)) [] s rest (m s) (fun c => Out.ret (.bool c.1) c.2)) :
    RunG Pg w K mg base (k + 1) f fd ["script"] (spLawG K tb m) := by
  refine runG_of F Sc (fun vs H Q E' h => by obtain ⟨a, ns, rfl, _⟩ := h; rfl) (fun A outer s H vs Q E' hg hr h => ?_)
  obtain ⟨a, ns, rfl, hS, hlen, hT, ⟨s', hm⟩, q⟩ := h
  refine ⟨_, pS _ _, ?_⟩
  rw [hb]
  exact lawG_body (X := (cxOf CX0 Pg w K mg base N "law" (defScope st) f fd.code A outer s H E').nox) Sc.nd FS hr gS kS bS h0 h1 hl1 hl0 hgl rfl rfl rfl (body (stateR ns) fd.code A outer s H E' hg hr) hS hlen hT hm q
theorem fn_lawCR {st : Stmt} {f fS c0 : Addr} {fd fdS : FuncData} {N : List Str} {k : Nat} {m : Rs → Option (Bool × Rs)} {tb : List Addr} {rest : List Stmt} {p1 p2 p3 p4 p5 : Pos} (F : FunC K "law" "law" st f fd c0) (Sc : FnScope N ["script"] (defScope st))
    (FS : FnOk Pg w K mg base CX0 k fS fdS ["script"] (spSt K)) (gS : mg "_law_state" = some (.ref fS)) (kS : PySem.W.keepIn K (.ref fS) = true) (bS : Binds K fdS ["script"] [])
    (hb : defBody st = .Assign [.Name "state" p1] (.Call (.Name "_law_state" p2) [.Name "script" p3] [] p4) p5 :: rest) (h0 : N[0]? = some ("script" : Str)) (h1 : N[1]? = some ("state" : Str)) (hl1 : L2.Loc (defScope st) "state") (hl0 : Vis (defScope st) "script") (hgl : (defScope st).names.lookup ("_law_state" : Str) = some NameKind.globalImplicit)
    (body : ∀ (s : Rs) (A : Around) (outer : List Env) (sh : Shared) (H : Hp) (E' : XK), A.guards = some [] → Room k (A.deeper (envOfC "law" (defScope st) sh.heap.objs.size f (.ref c0))) →
      BX (cxOf CX0 Pg w K mg base N "law" (defScope st) f (.ref c0) A outer sh H E').nox (ioG tb (io1 rtR 1)) [] s rest (m s) (fun c => Out.ret (.bool c.1) c.2)) :
    RunG Pg w K mg base (k + 1) f fd ["script"] (spLawG K tb m) := by
  refine runG_of F.fn Sc (fun vs H Q E' h => by obtain ⟨a, ns, rfl, _⟩ := h; rfl) (fun A outer s H vs Q E' hg hr h => ?_)
  obtain ⟨a, ns, rfl, hS, hlen, hT, ⟨s', hm⟩, q⟩ := h
  refine ⟨_, pS _ _, ?_⟩
  rw [hb, F.cd]
  rw [F.cd] at hr
  exact lawG_body (X := (cxOf CX0 Pg w K mg base N "law" (defScope st) f (.ref c0) A outer s H E').nox) Sc.nd FS hr gS kS bS h0 h1 hl1 hl0 hgl rfl rfl rfl (body (stateR ns) A outer s H E' hg hr) hS hlen hT hm q
end
/-- what all_mk gives where the law asks for repr -/
def LawAtR (l : PySem.W.OpenLaw) (w : World) (K : KF) (k : Nat) (mg : Str → Option Value) (fa : Addr) (h : Heap) : Prop :=
  ∃ (fd : FuncData) (cs : List (Addr × Addr)) (m : Rs → Option (Bool × Rs)), (∀ p ∈ cs, h.get? p.2 = some { cls := .none, data := .fields #[] }) ∧ (∀ p ∈ cs, K.lookup p.2 = none) ∧ (∀ p ∈ cs, PySem.W.CodeHd h p.1 p.2) ∧
    (∀ (s : Shared) (v : Value), BindsTo s fd ⟨[v], []⟩ [("script", v)]) ∧ (∀ ns : List Int, ns.length ≤ 63 → ∃ s', m (stateR ns) = some (true, s')) ∧
    ∀ base : Heap, K.In base → base.Ns mainGlobals mg → (∀ p ∈ cs, GxR.TabB base mg p.1 p.2) → RunG l.prog w K mg base k fa fd ["script"] (spLawG K (cs.map (·.2)) m)
theorem lawAtR {l : PySem.W.OpenLaw} {w : World} {K : KF} {k : Nat} {mg : Str → Option Value} {fa : Addr} {h : Heap} {fd : FuncData} {cs : List (Addr × Addr)} {m : Rs → Option (Bool × Rs)}
    (hT : ∀ p ∈ cs, h.get? p.2 = some { cls := .none, data := .fields #[] }) (nT : ∀ p ∈ cs, K.lookup p.2 = none) (C : ∀ p ∈ cs, PySem.W.CodeHd h p.1 p.2) (hb : ∀ (s : Shared) (v : Value), BindsTo s fd ⟨[v], []⟩ [("script", v)])
    (F : ∀ base : Heap, K.In base → base.Ns mainGlobals mg → (∀ p ∈ cs, GxR.TabB base mg p.1 p.2) → RunG l.prog w K mg base k fa fd ["script"] (spLawG K (cs.map (·.2)) m)) (hl : ∀ ns : List Int, ns.length ≤ 63 → ∃ s', m (stateR ns) = some (true, s')) :
    LawAtR l w K k mg fa h := ⟨fd, cs, m, hT, nT, C, hb, hl, F⟩
theorem own_tabs {q : Program} {K : KF} {mg : Str → Option Value} {h : Heap} {nms : List Str} (hrec : (nms.all fun nm => (recsOf q).any fun e => e.name == nm) = true) (KX : K.In h)
    (tab : ∀ dL ∈ recsOf q, ∀ (f c P : Addr) (fd : FuncData) (o : Obj), mg dL.name = some (.ref f) → h.get? f = some o → o.data = .func fd → fd.code = .ref c → (∃ oc vs, h.get? c = some oc ∧ oc.data = .fields vs ∧ vs[11]? = some (.ref P)) → h.get? P = some { cls := .none, data := .fields #[] }) :
    ∀ nm ∈ nms, ∀ f, mg nm = some (.ref f) → LamX.OwnTab K f h := fun nm hnm f hf c P o1 fd1 e dd vs1 sl k1 k2 k3 k4 k5 => by
  obtain ⟨dL, hm, hn1⟩ := List.any_eq_true.mp (List.all_eq_true.mp hrec nm hnm)
  have hn2 : dL.name = nm := beq_iff_eq.mp hn1
  exact tab dL hm f c P fd1 o1 (by rw [hn2]; exact hf) (KX _ _ k1) k2 k3 ⟨_, _, KX _ _ k4, rfl, k5⟩
theorem walk_tabsR {l : PySem.W.OpenLaw} {k : Nat} {q : Program} {loose : List Str} {XP : (Str → Option Value) → Heap → Prop} {YP : World → Heap → Prop} {d : DefRec} {K : Params → PySem.W.Frag} (nms : List Str)
    (hn : l.most = some 63) (hdf : d.params.defaults = []) (hr : Room k callerA) (hrec : (nms.all fun nm => (recsOf q).any fun e => e.name == nm) = true) (hY : ∀ (w : World) (h : Heap), YP w h → (K w.params).In h)
    (F : ∀ (w : World) (mg : Str → Option Value) (fa : Addr) (h : Heap), YP w h → (K w.params).In h → h.Ns mainGlobals mg → mg d.name = some (.ref fa) → (∀ nm ∈ nms, ∀ f, mg nm = some (.ref f) → LamX.OwnTab (K w.params) f h) → LawAtR l w (K w.params) k mg fa h) :
    PySem.W.WalkO q loose XP YP l.row.toRowW d [] (fun f vs => PySem.call f vs) := by
  refine Att.attach_callB hn hdf fun w s₀ s₁ mg mb fa o pm cd doc a vs ns G Y ho hd hcd hmg hobj hints hlen hbits hg => ?_
  have KX := hY w _ Y
  have own := own_tabs (mg := mg) (nms := nms) hrec KX fun dL hm f c P fd1 o1 hf h1 h2 h3 h4 => by
    obtain ⟨a', o', fd', c', P', g1, g2, g3, g4, g5, g6⟩ := G.T.tab dL hm
    rw [hf] at g1
    cases g1
    rw [h1] at g2
    cases g2
    rw [h2] at g3
    cases g3
    rw [h3] at g4
    cases g4
    obtain ⟨⟨oc, vc, e1, _, e3, e4⟩, hP⟩ := g6
    obtain ⟨oc2, vs2, y1, y2, y3⟩ := h4
    rw [y1] at e1
    cases e1
    rw [y2] at e3
    cases e3
    rw [y3] at e4
    cases e4
    exact hP
  obtain ⟨fd, cs, m, hT, nT, C, hb, hl, hF⟩ := F w mg fa _ Y KX G.T.g hmg own
  refine lawG_call KX G.T.g G.T.b G.T.builtins G.T.nolimit hg hT nT C G.T.bmain hobj hints (Nat.le_trans hlen (by decide)) hr (fun base h1 h2 h3 => hF base h1 h2 fun p hp => tabG_of (h3 p hp)) hb fun H hH hS => ⟨a, ns, rfl, hS, hlen, fun P hP => ?_, hl ns hlen, fun _ => rfl⟩
  obtain ⟨p, hp, rfl⟩ := List.mem_map.mp hP
  exact ⟨_, hH p hp, trivial⟩
end Ab
namespace Ab
open PySem PySem.Spec PyProof.Rows L2
/-! ### repr of lists and tuples -/
def isSeq : D → Bool
  | .list _ | .tuple _ => true
  | _ => false
def reprOk (d : D) : Bool := (d.showable && noD d) && (!d.hasDict && isSeq d) && (decide (d.depth ≤ 64) && (decide (d.shown.length ≤ sizeLine) && PyData.strOk d.shown))
theorem call_reprD {X : Cx} (hg : X.A.guards = some []) (hu : X.A.units + 70 < cLine) :
    CallR X (.builtin "repr") (fun vs H Q => ∃ (a : Addr) (d : D), vs = [.ref a] ∧ Dp X.K H (.ref a) d ∧ d.showable = true ∧ d.hasDict = false ∧ d.depth ≤ 64 ∧ d.shown.length ≤ sizeLine ∧ Q (.str d.shown) H) := by
  intro pins s σ H xs us Q I hv h
  obtain ⟨a, d, rfl, hd, h1, h2, h3, h4, q⟩ := h
  cases hv with
  | cons r1 r2 =>
    cases r2
    cases r1
    obtain ⟨as, rd⟩ := Dp.reads I d _ _ hd rfl
    refine repr_of_reads' rd h1 (fun z => by rw [h2] at z; cases z) hg (by omega) (fun _ _ e => e) (fun h' u tk hk => ⟨.str d.shown, H, I.kept hk, ⟨u, rfl⟩, q⟩) h4
section
variable {X : Cx} {S : Type} {ι : Io S} {Δ : Dl} {s : S} {R α : Type} {Ea : α → D} {a : Expr} {p pos : Pos} {Ma : (α → S → Option R) → Option R}
theorem ex_repr {j : Nat} (hg : X.A.guards = some []) (hr : Room j X.A) (hm : X.mg "repr" = none) (ha : EX X ι Δ s a Ma Ea) (hgl : Gl X "repr" := by rfl) (he : starEach [a] X.env = (false, eval a X.env) :: starEach [] X.env := by rfl) :
    EX X ι Δ s (.Call (.Name "repr" p) [a] [] pos) (fun k => Ma fun y s1 => guardM (reprOk (Ea y) = true) (k (Ea y).shown s1)) Ty.str := by
  refine ex_callB1 (id := "") (C := fun y => reprOk (Ea y) = true) (g := fun y => (Ea y).shown) (call_reprD hg (by have := hr.un; omega)) hm (by decide +kernel) (fun y v H Hf Q c sb rv q => ?_) ha hgl (by decide) (by decide) he rfl
  unfold reprOk at c
  simp only [Bool.and_eq_true, decide_eq_true_eq, Bool.not_eq_true'] at c
  obtain ⟨⟨⟨c1, c2⟩, c3, c4⟩, c5, c6, c7⟩ := c
  have dp := (Rp.dp _ _ c2 (rv.up sb)).1
  have q' := q (.str (Ea y).shown) H Hf (Ext.refl _ _) sb (.str _ c7)
  generalize Ea y = d at *
  cases d with
  | list ds => cases rv with | lst _ _ _ => exact ⟨_, _, rfl, dp, c1, c3, c5, c6, q'⟩
  | tuple ds => cases rv with | tup _ _ _ => exact ⟨_, _, rfl, dp, c1, c3, c5, c6, q'⟩
  | none => cases c4
  | bool _ => cases c4
  | int _ => cases c4
  | str _ => cases c4
  | dict _ => cases c4
end
/-! ### what is shown of small things -/
theorem strOk_app (x y : Str) : PyData.strOk (x ++ y) = (PyData.strOk x && PyData.strOk y) := by
  show (x.cps ++ y.cps).all _ = _
  unfold PyData.strOk
  rw [Array.all_append]
theorem strOk_join : ∀ ts : List Str, (∀ t ∈ ts, PyData.strOk t = true) → PyData.strOk (Str.join ", " ts) = true
  | [], _ => by decide +kernel
  | [x], h => h x (by simp)
  | x :: y :: r, h => by
    show PyData.strOk (x ++ ", " ++ Str.join ", " (y :: r)) = true
    rw [strOk_app, strOk_app, h x (by simp), strOk_join (y :: r) fun t ht => h t (List.mem_cons_of_mem _ ht)]
    decide +kernel
theorem join_len (m : Nat) : ∀ ts : List Str, (∀ t ∈ ts, t.length ≤ m) → (Str.join ", " ts).length ≤ ts.length * (m + 2)
  | [], _ => Nat.zero_le _
  | [x], h => by
    have := h x (by simp)
    show x.length ≤ 1 * (m + 2)
    omega
  | x :: y :: r, h => by
    have ih := join_len m (y :: r) fun t ht => h t (List.mem_cons_of_mem _ ht)
    have hx := h x (by simp)
    show (x ++ ", " ++ Str.join ", " (y :: r)).length ≤ ((y :: r).length + 1) * (m + 2)
    have e2 : ((", " : String) : Str).length = 2 := rfl
    rw [strLen_append, strLen_append, e2, Nat.add_mul]
    omega
/-- d can be shown, by at most n signs, its depth at most k -/
structure Shn (d : D) (n k : Nat) : Prop where
  sh : d.showable = true
  nd : noD d = true
  hd : d.hasDict = false
  dp : d.depth ≤ k
  ln : d.shown.length ≤ n
  ok : PyData.strOk d.shown = true
theorem Shn.repr {d : D} {n k : Nat} (h : Shn d n k) (hs : isSeq d = true) (hk : k ≤ 64) (hn : n ≤ 16777216) : reprOk d = true := by
  unfold reprOk
  have hl : d.shown.length ≤ sizeLine := by have := h.ln; show _ ≤ 16777216; omega
  rw [h.sh, h.nd, h.hd, hs, h.ok, decide_eq_true (Nat.le_trans h.dp hk), decide_eq_true hl]
  rfl
structure ShnL (ds : List D) (n k : Nat) : Prop where
  sh : PyData.showableAll ds = true
  nd : noDs ds = true
  hd : PyData.hasDictAll ds = false
  dp : PyData.depthAll ds ≤ k
  ln : ∀ t ∈ PyData.shownAll ds, t.length ≤ n
  ok : ∀ t ∈ PyData.shownAll ds, PyData.strOk t = true
  ll : (PyData.shownAll ds).length = ds.length
theorem shnL {n k : Nat} : ∀ {ds : List D}, (∀ d ∈ ds, Shn d n k) → ShnL ds n k
  | [], _ => ⟨rfl, rfl, rfl, Nat.zero_le _, (fun t h => absurd h List.not_mem_nil), (fun t h => absurd h List.not_mem_nil), rfl⟩
  | d :: ds, h => by
    have a := h d (by simp)
    have b := shnL fun x hx => h x (List.mem_cons_of_mem d hx)
    refine ⟨?_, ?_, ?_, ?_, fun t ht => ?_, fun t ht => ?_, ?_⟩
    · show (d.showable && PyData.showableAll ds) = true
      rw [a.sh, b.sh]; rfl
    · show (noD d && noDs ds) = true
      rw [a.nd, b.nd]; rfl
    · show (d.hasDict || PyData.hasDictAll ds) = false
      rw [a.hd, b.hd]; rfl
    · have h1 := a.dp
      have h2 := b.dp
      simp only [PyData.depthAll]
      omega
    · rcases List.mem_cons.mp (show t ∈ d.shown :: PyData.shownAll ds from ht) with rfl | ht
      · exact a.ln
      · exact b.ln t ht
    · rcases List.mem_cons.mp (show t ∈ d.shown :: PyData.shownAll ds from ht) with rfl | ht
      · exact a.ok
      · exact b.ok t ht
    · show (d.shown :: PyData.shownAll ds).length = _
      rw [List.length_cons, b.ll]; rfl
theorem shn_tup {n k : Nat} {ds : List D} (h : ∀ d ∈ ds, Shn d n k) : Shn (.tuple ds) (ds.length * (n + 2) + 3) (k + 1) := by
  have b := shnL h
  refine ⟨b.sh, b.nd, b.hd, ?_, ?_, ?_⟩
  · have := b.dp
    simp only [PyData.depth]; omega
  · show (tupleText (PyData.shownAll ds)).length ≤ _
    have j := join_len n _ b.ln
    rw [b.ll] at j
    unfold tupleText
    rw [strLen_append, strLen_append]
    have e1 : ((("(" : String) : Str)).length = 1 := rfl
    have e3 : (((if (PyData.shownAll ds).length == 1 then ",)" else ")" : String) : Str)).length ≤ 2 := by split <;> decide +kernel
    omega
  · show PyData.strOk (tupleText (PyData.shownAll ds)) = true
    unfold tupleText
    rw [strOk_app, strOk_app, strOk_join _ b.ok]
    split <;> decide +kernel
theorem Shn.mono {d : D} {n k n' k' : Nat} (h : Shn d n k) (hn : n ≤ n') (hk : k ≤ k') : Shn d n' k' := ⟨h.sh, h.nd, h.hd, Nat.le_trans h.dp hk, Nat.le_trans h.ln hn, h.ok⟩
theorem shn_nat : ∀ i : Fin 128, (PyData.shown (.int (i.val : Int))).length ≤ 3 ∧ PyData.strOk (PyData.shown (.int (i.val : Int))) = true := by decide +kernel
theorem shn_int {i : Int} (h0 : 0 ≤ i) (h1 : i < 128) : Shn (.int i) 3 0 := by
  have e : i = ((⟨i.toNat, by omega⟩ : Fin 128).val : Int) := by show i = (i.toNat : Int); omega
  have q := shn_nat ⟨i.toNat, by omega⟩
  rw [← e] at q
  refine ⟨?_, rfl, rfl, Nat.le_refl _, q.1, q.2⟩
  show decide (i.natAbs.log2 < 1920) = true
  rw [decide_eq_true_eq]
  have : i.natAbs.log2 < 7 := by
    by_cases z : i.natAbs = 0
    · rw [z]; decide
    · rw [Nat.log2_lt z]; omega
  omega
theorem shn_words : ∀ x ∈ [("" : Str), "XY", "XZ", "YZ"], (PyData.shown (.str x)).length ≤ 4 ∧ PyData.strOk (PyData.shown (.str x)) = true := by decide +kernel
theorem shn_str {x : Str} (h : x ∈ [("" : Str), "XY", "XZ", "YZ"]) : Shn (.str x) 4 0 := ⟨rfl, rfl, rfl, Nat.le_refl _, (shn_words x h).1, (shn_words x h).2⟩
theorem shn_ints {l : List Int} (h : ∀ x ∈ l, 0 ≤ x ∧ x < 128) : Shn (.tuple (l.map Ty.int)) (l.length * 5 + 3) 1 := by
  have := shn_tup (n := 3) (k := 0) (ds := l.map Ty.int) fun d hd => by
    obtain ⟨x, hx, rfl⟩ := List.mem_map.mp hd
    exact shn_int (h x hx).1 (h x hx).2
  rw [List.length_map] at this
  exact this
abbrev GrD : Gr → D := Ty.p5 Ty.int (Ty.tup (Ty.p2 Ty.int Ty.int)) (Ty.tup Ty.int) (Ty.tup Ty.int) (Ty.tup Ty.str)
end Ab
namespace Ab
open PySem PySem.Spec PyProof.Rows L2
/-! ### a graph can be shown -/
theorem Gd.repr {g : Gr} (G : Gd g) : reprOk (GrD g) = true := by
  have n0 := G.n0
  have n2 := G.n2
  have en := Shn.mono (shn_int n0 (by omega)) (n' := 100000) (k' := 2) (by omega) (by omega)
  have il := G.ins_SL.len (n := g.1) fun x hx => G.ins_in hx
  have ol := G.out_SL.len (n := g.1) fun x hx => G.out_in hx
  have ei := Shn.mono (shn_ints (l := g.2.2.1) fun x hx => by have := G.ins_in hx; omega) (n' := 100000) (k' := 2) (by omega) (by omega)
  have eo := Shn.mono (shn_ints (l := g.2.2.2.1) fun x hx => by have := G.out_in hx; omega) (n' := 100000) (k' := 2) (by omega) (by omega)
  have pl := G.pn
  have ep : Shn (.tuple (g.2.2.2.2.map Ty.str)) 100000 2 := by
    have := shn_tup (n := 4) (k := 0) (ds := g.2.2.2.2.map Ty.str) fun d hd => by
      obtain ⟨x, hx, rfl⟩ := List.mem_map.mp hd
      obtain ⟨j, hj⟩ := List.getElem?_of_mem hx
      have jl := (List.getElem?_eq_some_iff.mp hj).1
      obtain ⟨y, h1, h2⟩ := G.plOk (v := (j : Int)) (by omega) (by omega)
      rw [show ((j : Int)).toNat = j from rfl, hj] at h1
      cases h1
      refine shn_str ?_
      rcases h2 with ⟨_, rfl⟩ | ⟨_, _, rfl⟩ | ⟨_, _, _, rfl | rfl | rfl⟩ <;> decide +kernel
    rw [List.length_map] at this
    exact this.mono (by omega) (by omega)
  have ee : Shn (.tuple (g.2.1.map (Ty.p2 Ty.int Ty.int))) 100000 2 := by
    have := shn_tup (n := 13) (k := 1) (ds := g.2.1.map (Ty.p2 Ty.int Ty.int)) fun d hd => by
      obtain ⟨⟨x, y⟩, hx, rfl⟩ := List.mem_map.mp hd
      have q := G.eb _ hx
      simp only at q
      exact shn_ints (l := [x, y]) fun z hz => by
        simp at hz
        rcases hz with rfl | rfl <;> omega
    rw [List.length_map] at this
    have := G.el
    exact Shn.mono ‹_› (by omega) (by omega)
  have := shn_tup (n := 100000) (k := 2) (ds := [.int g.1, .tuple (g.2.1.map (Ty.p2 Ty.int Ty.int)), .tuple (g.2.2.1.map Ty.int), .tuple (g.2.2.2.1.map Ty.int), .tuple (g.2.2.2.2.map Ty.str)]) fun d hd => by
    simp only [List.mem_cons, List.not_mem_nil, or_false] at hd
    rcases hd with rfl | rfl | rfl | rfl | rfl
    · exact en
    · exact ee
    · exact ei
    · exact eo
    · exact ep
  exact this.repr rfl (by omega) (by simp only [List.length_cons, List.length_nil]; omega)
/-- a loop over ints that leaves with False -/
theorem forE_allK {f : Unit → Int → Option (Fl Unit Bool)} {p : Int → Bool} : ∀ {xs : List Int}, (∀ x ∈ xs, f () x = some (if p x = true then .next () else .ret false)) → ∀ K : Unit → Option Bool, (forE f xs ()).bind (flK K (fun r => r)) = if xs.all p = true then K () else some false
  | [], _, K => rfl
  | x :: xs, h, K => by
    unfold forE
    rw [h x (by simp)]
    cases e : p x with
    | true =>
      show (forE f xs ()).bind _ = _
      rw [forE_allK (xs := xs) (fun y hy => h y (by simp [hy])) K]
      simp [e]
    | false => simp [e, flK]
theorem less_anti {a b : List Int} (h : Less a b) (h' : Less b a) : False := by
  obtain ⟨i, i1, i2, i3⟩ := h
  obtain ⟨j, j1, j2, j3⟩ := h'
  rcases Int.lt_trichotomy i j with z | z | z
  · exact i1 ((j3 i z).mp i2)
  · subst z; exact i1 j2
  · exact j1 ((i3 j z).mp j2)
theorem Best.uniq {g : Gr} {v : Int} {S S' : List Int} {L : Int → Prop} (h : Best g v S L) (h' : Best g v S' L) : S = S' := by
  rcases h.2 S' h'.1 with e | e
  · exact e.symm
  · rcases h'.2 S h.1 with e' | e'
    · exact e'
    · exact (less_anti e e').elim
theorem Entry.uniq {g : Gr} {k k' : Nat} {v : Int} {S S' : List Int} {l l' : Int} (v0 : 0 ≤ v) (v1 : v < g.1) (h : Entry g k v S l) (h' : Entry g k' v S' l') (hs : Soon g k v ↔ Soon g k' v) : S = S' ∧ l = l' := by
  have st : ∀ {j : Nat} {S : List Int}, Best g v S (Soon g j) → Soon g (j + 1) v := fun h => .inr ⟨v0, v1, _, h.1⟩
  rcases h with ⟨h, rfl, rfl⟩ | ⟨h, j, a, rfl, c, d⟩
  · rcases h' with ⟨h', rfl, rfl⟩ | ⟨h', j', a', rfl, c', d'⟩
    · exact ⟨rfl, rfl⟩
    · exfalso
      rcases h with h | h
      · exact h' h
      · exact h (hs.mpr (Soon.up (st d') (by omega)))
  · rcases h' with ⟨h', rfl, rfl⟩ | ⟨h', j', a', rfl, c', d'⟩
    · exfalso
      rcases h' with h' | h'
      · exact h h'
      · exact h' (hs.mp (Soon.up (st d) (by omega)))
    · have e : j = j' := by
        rcases Nat.lt_trichotomy j j' with z | z | z
        · exact absurd (Soon.up (st d) (by omega)) c'
        · exact z
        · exact absurd (Soon.up (st d') (by omega)) c
      subst e
      exact ⟨d.uniq d', rfl⟩
theorem Tab.uniq {g : Gr} {k k' : Nat} {ps ps' : List (List Int)} {ls ls' : List Int} (h : Tab g (fun _ => k) ps ls) (h' : Tab g (fun _ => k') ps' ls') (hs : ∀ v, Soon g k v ↔ Soon g k' v) : ps = ps' ∧ ls = ls' := by
  have main : ∀ j : Nat, ps[j]? = ps'[j]? ∧ ls[j]? = ls'[j]? := fun j => by
    by_cases c : j < g.1.toNat
    · obtain ⟨p, l, e1, e2, e3⟩ := h.en (j : Int) (by omega) (by omega)
      obtain ⟨p', l', e1', e2', e3'⟩ := h'.en (j : Int) (by omega) (by omega)
      obtain ⟨rfl, rfl⟩ := e3.uniq (by omega) (by omega) e3' (hs _)
      exact ⟨e1.trans e1'.symm, e2.trans e2'.symm⟩
    · have q1 := h.ls; have q2 := h.ll; have q3 := h'.ls; have q4 := h'.ll
      exact ⟨by rw [List.getElem?_eq_none (by omega), List.getElem?_eq_none (by omega)], by rw [List.getElem?_eq_none (by omega), List.getElem?_eq_none (by omega)]⟩
  exact ⟨List.ext_getElem? fun j => (main j).1, List.ext_getElem? fun j => (main j).2⟩
end Ab
namespace Ab
open PySem PySem.Spec PyProof.Rows L2
/-! ### comprehensions with two for -/
def comp2 {α β S : Type} (f : α → S → Option (List β × S)) : List α → S → Option (List β × S)
  | [], s => some ([], s)
  | x :: xs, s => (f x s).bind fun p => (comp2 f xs p.2).bind fun q => some (p.1 ++ q.1, q.2)
theorem comp2_drop {α β S : Type} {f : α → S → Option (List β × S)} {xs : List α} {i : Nat} {x : α} {s s' : S} {ys : List β} (hx : xs[i]? = some x) (h : comp2 f (xs.drop i) s = some (ys, s')) :
    ∃ os s1 zs, f x s = some (os, s1) ∧ comp2 f (xs.drop (i + 1)) s1 = some (zs, s') ∧ ys = os ++ zs := by
  obtain ⟨hi, e⟩ := List.getElem?_eq_some_iff.mp hx
  rw [List.drop_eq_getElem_cons hi, e] at h
  obtain ⟨p, h1, h2⟩ := bind_some (show (f x s).bind _ = some (ys, s') from h)
  obtain ⟨q, h3, h4⟩ := bind_some h2
  have e2 := Option.some.inj h4
  injection e2 with e3 e4
  subst e4
  exact ⟨p.1, p.2, q.1, h1, h3, e3.symm⟩
theorem comp2_eq {α β S : Type} {f : α → S → Option (List β × S)} {g : α → List β} : ∀ {xs : List α} {s : S}, (∀ x ∈ xs, ∀ s, f x s = some (g x, s)) → comp2 f xs s = some (xs.flatMap g, s)
  | [], s, _ => rfl
  | x :: xs, s, h => by
    unfold comp2
    rw [h x List.mem_cons_self, Option.bind_some, comp2_eq (xs := xs) fun y hy => h y (List.mem_cons_of_mem _ hy)]
    rfl
section
variable {X : Cx} {S : Type} {ι : Io S} {Δ : Dl} {s : S} {R : Type} {tg iter tg1 iter1 elt : Expr} {ifs1 : List Expr} {pos : Pos} {scope : Scope}
variable {α β γ : Type} {E : α → D} {G : γ → D} {F : β → D}
/-- all is kept but the list at d -/
structure ExtD (d : Addr) (ix : List Nat) (A : Nat → List Addr) (H Hf H' Hf' : Hp) : Prop where
  keep : ∀ a o, a ≠ d → (∀ i, i ∈ ix → a ∉ A i) → H a = some o → KeepO o H' a
  there : ∀ a, H a ≠ none → H' a ≠ none
  grow : Sub Hf Hf'
  news : ∀ a, Hf' a ≠ none → Hf a ≠ none ∨ H a = none
theorem ExtA.toD {d : Addr} {ix : List Nat} {A : Nat → List Addr} {H Hf H' Hf' : Hp} (e : ExtA ix A H Hf H' Hf') : ExtD d ix A H Hf H' Hf' := ⟨fun a o _ => e.keep a o, e.there, e.grow, e.news⟩
theorem ExtD.trans {d : Addr} {ix : List Nat} {A : Nat → List Addr} {H Hf H1 Hf1 H2 Hf2 : Hp} (a : ExtD d ix A H Hf H1 Hf1) (b : ExtD d ix A H1 Hf1 H2 Hf2) : ExtD d ix A H Hf H2 Hf2 :=
  ⟨fun x o n m h => (a.keep x o n m h).go fun u q => b.keep x u n m q, fun x h => b.there x (a.there x h), a.grow.trans b.grow, fun x h => by
    rcases b.news x h with q | q
    · exact a.news x q
    · refine .inr ?_
      cases e : H x with
      | none => rfl
      | some o => exact absurd q (a.there x (by rw [e]; simp))⟩
theorem ExtD.toA {d : Addr} {ix : List Nat} {A : Nat → List Addr} {H Hf H' Hf' : Hp} (e : ExtD d ix A H Hf H' Hf') (h : H d = none) : ExtA ix A H Hf H' Hf' :=
  ⟨fun a o m q => e.keep a o (fun z => by rw [z, h] at q; cases q) m q, e.there, e.grow, e.news⟩
theorem ExtD.cut {d : Addr} {ix vs ixs : List Nat} {A : Nat → List Addr} {H Hf H' Hf' : Hp} (e : ExtD d ix (cutL (cutL A vs) ixs) H Hf H' Hf') : ExtD d ix A H Hf H' Hf' :=
  ⟨fun a u n m h => e.keep a u n (fun l hl0 hl => m l hl0 (cutL_in (cutL_in hl).1).1) h, e.there, e.grow, e.news⟩
/-- from a block's state back to the state around it -/
theorem blk_back {K : KF} {d : Addr} {vs ixs kx : List Nat} {bx : Dl} {σ σ3 : L2.St} {H2 Hf2 H4 Hf4 : Hp} {si s4 : S} {A : Nat → List Addr} (hxP : ∀ s', ∀ i ∈ vs, i ∉ (ι.tr s').map (·.1)) (hk1 : bx.map (·.1) = kx) (hk2 : ∀ i ∈ kx, i ∈ vs) (hk3 : ∀ i ∈ ixs, i ∈ vs) (hd : ∀ j, d ∉ A j)
    (st2 : Sat K σ H2 Hf2 (ι.tr si ++ Δ) A) (o3 : Only ixs (wipe σ vs) σ3) (st4 : Sat K σ3 H4 Hf4 (ι.tr s4 ++ (bx ++ (forget vs ++ Δ))) (cutL (cutL A vs) ixs)) (e4 : ExtD d ι.ix (cutL (cutL A vs) ixs) H2 Hf2 H4 Hf4) :
    Sat K σ H4 Hf4 (ι.tr s4 ++ Δ) A := by
  have inA : ∀ {j a}, a ∈ cutL (cutL A vs) ixs j → a ∈ A j ∧ j ∉ vs := fun h => ⟨(cutL_in (cutL_in h).1).1, (cutL_in (cutL_in h).1).2⟩
  refine ⟨st4.sub, fun j T hj => ?_, fun j a ha => ?_, st2.inj⟩
  · by_cases m : j ∈ vs
    · rw [lk_append_out (hxP s4 j m)] at hj
      have hj2 : lk (ι.tr si ++ Δ) j = some T := by rw [lk_append_out (hxP si j m)]; exact hj
      obtain ⟨w, w1, w2⟩ := st2.slot j T hj2
      refine ⟨w, w1, w2.up e4.grow fun a ha u hu => e4.keep a u (fun z => hd j (z ▸ ha)) (fun l _ hl => ?_) hu⟩
      have := st2.inj j l a ha (inA hl).1
      subst this
      exact (inA hl).2 m
    · have mk : j ∉ kx := fun z => m (hk2 j z)
      have hj2 : lk (ι.tr s4 ++ (bx ++ (forget vs ++ Δ))) j = some T := by
        by_cases k' : j ∈ (ι.tr s4).map (·.1)
        · rw [lk_append_in (Δ' := Δ) k']; exact hj
        · rw [lk_append_out k', lk_append_out (by rw [hk1]; exact mk), lk_append_out (by rw [forget_keys]; exact m)]
          rw [lk_append_out k'] at hj; exact hj
      obtain ⟨w, w1, w2⟩ := st4.slot j T hj2
      have ni : j ∉ ixs := fun z => m (hk3 j z)
      rw [o3.out j ni, mem_wipe_ne m] at w1
      refine ⟨w, w1, ?_⟩
      have ec : cutL (cutL A vs) ixs j = A j := by unfold cutL; rw [if_neg ni, if_neg m]
      rw [ec] at w2
      exact w2
  · obtain ⟨n1, n2⟩ := st2.own j a ha
    refine ⟨?_, e4.there a n2⟩
    cases z : Hf4 a with
    | none => rfl
    | some u =>
      rcases e4.news a (by rw [z]; simp) with w | w
      · exact absurd n1 w
      · exact absurd w n2
theorem none_on {d0 : Addr} {ix : List Nat} {A : Nat → List Addr} {H Hf H' Hf' : Hp} {d : Addr} {o : HO} (e : ExtD d0 ix A H Hf H' Hf') (h : Hf d = none) (h2 : H d = some o) : Hf' d = none := by
  cases z : Hf' d with
  | none => rfl
  | some u =>
    rcases e.news d (by rw [z]; simp) with w | w
    · exact absurd h w
    · rw [h2] at w; cases w
def wiB (X : Cx) (scope : Scope) (tg iter : Expr) : TI := fun σ H Q => ∀ s0 H0 C cl fp, tI (X.blk s0 H0 scope (compEnvC scope cl C X.env) fp) tg iter σ H Q
structure LO2 (X : Cx) {S : Type} (ι : Io S) (Δ : Dl) (s : S) (elt tg iter tg1 iter1 : Expr) (ifs1 : List Expr) (scope : Scope) (own : List (Str × Nat)) (vs1 : List Nat) {β R : Type} (M : (List β → S → Option R) → Option R) (F : β → D) : Prop where
  hN : X.N.Nodup
  ok : BlkOk X.N X.env.scope scope own
  hv : ∀ i ∈ vs1, i ∈ own.map (·.2)
  hc : X.calm = true
  hs : ∀ x, foldedSetIterable iter X.env x = pure x
  hs1 : ∀ env x, foldedSetIterable iter1 env x = pure x
  read : ∀ k r, M k = some r → ∀ (σ : L2.St) (H Hf : Hp) (A : Nat → List Addr) (Q : VK), Sat X.K σ H Hf (ι.tr s ++ Δ) A →
    (∀ xs s', k xs s' = some r → ∀ a vs H' Hf', Sat X.K σ H' Hf' (ι.tr s' ++ Δ) A → ExtA ι.ix A H Hf H' Hf' → H' a = some (.lst vs) → vs.length ≤ Line → RpAll X.K Hf' vs (xs.map F) → Hf' a = none → H a = none → Q (.ref a) H') →
    tLc2 (tI X tg iter) (gB X scope tg) (ttB X scope []) (wiB X scope tg1 iter1) (gB X scope tg1) (ttB X scope ifs1) (teB X scope elt) (own.map (·.2)) vs1 σ H Q
theorem LO2.eo {own : List (Str × Nat)} {vs1 : List Nat} {M : (List β → S → Option R) → Option R} (h : LO2 X ι Δ s elt tg iter tg1 iter1 ifs1 scope own vs1 M F) : EO X ι Δ s (.ListComp elt [⟨tg, iter, [], 0⟩, ⟨tg1, iter1, ifs1, 0⟩] scope pos) M F := fun k r hk σ H Hf A Q st q =>
  tE_of (pe_lc2 h.hc h.hN (pI X tg iter) h.ok h.hv (fun s0 H0 C cl fp => ⟨fun pins s _ _ _ u _ I r h => h s0 H0 C cl fp pins s u I r⟩)
    (fun s0 H0 C cl fp => ⟨fun pins s _ _ _ I h => h s0 H0 C cl fp pins s I⟩) (fun s0 H0 C cl fp => ⟨fun pins s _ _ _ I h => h s0 H0 C cl fp pins s I⟩) (fun s0 H0 C cl fp => ⟨fun pins s _ _ _ u _ I r h => h s0 H0 C cl fp pins s u I r⟩)
    (fun s0 H0 C cl fp => ⟨fun pins s _ _ _ I h => h s0 H0 C cl fp pins s I⟩) (fun s0 H0 C cl fp => ⟨fun pins s _ _ _ I h => (h s0 H0 C cl fp).run pins s I⟩) h.hs h.hs1) (h.read k r hk σ H Hf A Q st q)
theorem LO2.congr {own : List (Str × Nat)} {vs1 : List Nat} {M N : (List β → S → Option R) → Option R} (h : LO2 X ι Δ s elt tg iter tg1 iter1 ifs1 scope own vs1 M F) (eq : ∀ k, N k = M k) : LO2 X ι Δ s elt tg iter tg1 iter1 ifs1 scope own vs1 N F :=
  ⟨h.hN, h.ok, h.hv, h.hc, h.hs, h.hs1, fun k r hk => h.read k r ((eq k).symm.trans hk)⟩
theorem lo_comp2 {own : List (Str × Nat)} {ixs ixs1 : List Nat} {b : α → Dl} {b1 : γ → Dl} {Mi : (List α → S → Option R) → Option R} {Mj : α → S → (List γ → S → Option (List β × S)) → Option (List β × S)}
    {Mc : α → γ → S → (Bool → S → Option (Option β × S)) → Option (Option β × S)} {Me : α → γ → S → (β → S → Option (Option β × S)) → Option (Option β × S)} (hN : X.N.Nodup)
    (hi : IX X ι Δ s tg iter Mi E)
    (hg : ∀ s0 H0 C cl fp, GX (X.blk s0 H0 scope (compEnvC scope cl C X.env) fp) ι tg ixs b E)
    (hj : ∀ s0 H0 C cl fp x s1, IX (X.blk s0 H0 scope (compEnvC scope cl C X.env) fp) ι (b x ++ (forget (own.map (·.2)) ++ Δ)) s1 tg1 iter1 (Mj x s1) G)
    (hg1 : ∀ s0 H0 C cl fp, GX (X.blk s0 H0 scope (compEnvC scope cl C X.env) fp) ι tg1 ixs1 b1 G)
    (ht : ∀ s0 H0 C cl fp x y s1, CX (X.blk s0 H0 scope (compEnvC scope cl C X.env) fp) ι (b1 y ++ (forget ixs1 ++ (b x ++ (forget (own.map (·.2)) ++ Δ)))) s1 ifs1 (Mc x y s1))
    (he : ∀ s0 H0 C cl fp x y s1, EX (X.blk s0 H0 scope (compEnvC scope cl C X.env) fp) ι (b1 y ++ (forget ixs1 ++ (b x ++ (forget (own.map (·.2)) ++ Δ)))) s1 elt (Me x y s1) F)
    (ok : blkC X.N X.env.scope scope own = true := by kernel_rfl) (kx : List Nat := ixs) (hk1 : ∀ x, (b x).map (·.1) = kx := by intro _; rfl) (hk2 : ∀ i ∈ kx, i ∈ own.map (·.2) := by decide) (hk3 : ∀ i ∈ ixs, i ∈ own.map (·.2) := by decide)
    (kx1 : List Nat := ixs1) (hm1 : ∀ y, (b1 y).map (·.1) = kx1 := by intro _; rfl) (hm2 : ∀ i ∈ kx1, i ∈ ixs1 := by decide) (hm3 : ∀ i ∈ ixs1, i ∈ own.map (·.2) := by decide)
    (hx : ∀ i ∈ own.map (·.2), i ∉ ι.ix := by first | decide | exact of_decide_eq_true rfl) (hc : X.calm = true := by rfl) (hs : ∀ x, foldedSetIterable iter X.env x = pure x := by intro _; rfl) (hs1 : ∀ env x, foldedSetIterable iter1 env x = pure x := by intro _ _; rfl) :
    LO2 X ι Δ s elt tg iter tg1 iter1 ifs1 scope own ixs1 (fun k => Mi fun xs s1 => (comp2 (fun x s2 => Mj x s2 fun ys s3 => compM (compF (Mc x) (Me x)) ys s3) xs s1).bind fun p => guardM (p.1.length ≤ Line) (k p.1 p.2)) F := by
  refine ⟨hN, blkOk_by ok, hm3, hc, hs, hs1, ?_⟩
  intro k r hk σ H Hf A Q st q
  refine hi _ r hk σ H Hf A _ st fun xs s1 hx1 J H1 Hf1 st1 e1 wk => ?_
  obtain ⟨⟨ys, sf⟩, hf, hK⟩ := bind_some hx1
  obtain ⟨hLn, hK⟩ := guardM_some hK
  have hLn : ys.length ≤ Line := hLn
  intro Dd hD
  have hDA : ∀ i, Dd ∉ A i := fun i m => (st1.own i Dd m).2 hD
  have hxP : ∀ s', ∀ i ∈ own.map (·.2), i ∉ (ι.tr s').map (·.1) := fun s' i m => by rw [ι.keys]; exact hx i m
  have hxQ : ∀ s', ∀ i ∈ ixs1, i ∉ (ι.tr s').map (·.1) := fun s' i m => hxP s' i (hm3 i m)
  refine ⟨fun i m H' => m = xs.length - i ∧ i ≤ xs.length ∧ ∃ si Hf' acc dn rs, Sat X.K σ H' Hf' (ι.tr si ++ Δ) A ∧ ExtA ι.ix A H1 Hf1 H' Hf' ∧ H' Dd = some (.lst acc) ∧ RpAll X.K Hf' acc (dn.map F) ∧ Hf' Dd = none ∧
    comp2 (fun x s2 => Mj x s2 fun ys s3 => compM (compF (Mc x) (Me x)) ys s3) (xs.drop i) si = some (rs, sf) ∧ dn ++ rs = ys, ⟨xs.length, by simp, Nat.zero_le _, s1, Hf1, [], [], ys, st1.up (Ext.newO hD) (Sub.newO hD st1.sub), (Ext.newO hD).toA, upd_same, .nil, st1.sub.non hD, hf, rfl⟩, ?_⟩
  rintro i m H' ⟨rfl, hi', si, Hf', acc, dn, rs, st', ex', hDl, hacc, hDf, hcm, hys⟩
  by_cases hlt : i < xs.length
  · obtain ⟨x, hxi⟩ : ∃ x, xs[i]? = some x := ⟨_, List.getElem?_eq_getElem hlt⟩
    obtain ⟨os, s2, zs, hfx, hcm2, ers⟩ := comp2_drop hxi hcm
    refine .inr ⟨wk.go i H' Hf' ex'.grow st'.sub hlt, fun H2 => ∃ Hf2 acc2, Sat X.K σ H2 Hf2 (ι.tr s2 ++ Δ) A ∧ ExtA ι.ix A H1 Hf1 H2 Hf2 ∧ H2 Dd = some (.lst acc2) ∧ RpAll X.K Hf2 acc2 ((dn ++ os).map F) ∧ Hf2 Dd = none,
      fun H2 ⟨Hf2, acc2, q1, q2, q3, q5, q6⟩ => ⟨xs.length - (i + 1), by omega, rfl, hlt, s2, Hf2, acc2, dn ++ os, zs, q1, q2, q3, q5, q6, hcm2, by rw [← hys, ers, List.append_assoc]⟩, fun v H2 hy => ?_⟩
    obtain ⟨Hf2, e2, sb2, rv⟩ := wk.yld i x v H' H2 Hf' ex'.grow st'.sub hxi hy
    have st2 := st'.up e2 sb2
    have hD2 : H2 Dd = some (.lst acc) := e2.keep _ _ hDl
    have hDf2 : Hf2 Dd = none := none_on (d0 := Dd) (ix := ι.ix) (A := A) e2.toA.toD hDf hDl
    intro s0 H0 C cl fp
    refine hg s0 H0 C cl fp x v (wipe σ (own.map (·.2))) H2 Hf2 (forget (own.map (·.2)) ++ Δ) _ si _ (st2.wiped (hxP si)) rv fun σ3 st3 o3 => ?_
    refine ⟨wipe_eq o3 hk3, ?_⟩
    have eA : ∀ {j a}, a ∈ cutL (cutL A (own.map (·.2))) ixs j → a ∈ A j := fun h => (cutL_in (cutL_in h).1).1
    have hDB : ∀ j, Dd ∉ cutL (cutL A (own.map (·.2))) ixs j := fun j m => hDA j (eA m)
    intro s0 H0 C cl fp
    refine tTs_of pts_nil ?_
    show wiB X scope tg1 iter1 σ3 H2 _
    intro s0 H0 C cl fp
    refine hj s0 H0 C cl fp x si _ (os, s2) hfx σ3 H2 Hf2 _ _ st3 fun ws s3 hws J1 H3 Hf3 st4 e3 wk1 => ?_
    have hD3 : H3 Dd = some (.lst acc) := e3.keep _ _ (fun l _ hl => hDB l hl) hD2
    have hDf3 := none_on (e3.toD (d := Dd)) hDf2 hD2
    refine ⟨fun j m H' => m = ws.length - j ∧ j ≤ ws.length ∧ ∃ sj Hf' acc dn1 rs1, Sat X.K σ3 H' Hf' (ι.tr sj ++ (b x ++ (forget (own.map (·.2)) ++ Δ))) (cutL (cutL A (own.map (·.2))) ixs) ∧ ExtD Dd ι.ix (cutL (cutL A (own.map (·.2))) ixs) H3 Hf3 H' Hf' ∧ H' Dd = some (.lst acc) ∧ RpAll X.K Hf' acc ((dn ++ dn1).map F) ∧ Hf' Dd = none ∧
      compM (compF (Mc x) (Me x)) (ws.drop j) sj = some (rs1, s2) ∧ dn1 ++ rs1 = os, ⟨ws.length, by simp, Nat.zero_le _, s3, Hf3, acc, [], os, st4, (ExtA.refl _ _ _ _).toD, hD3, by rw [List.append_nil]; exact hacc.up (e2.grow.trans e3.grow), hDf3, hws, rfl⟩, ?_⟩
    rintro j m H4 ⟨rfl, hj', sj, Hf4, acc4, dn1, rs1, st5, ex5, hD4, hacc4, hDf4, hcm4, hys4⟩
    by_cases hlt1 : j < ws.length
    · obtain ⟨y, hyj⟩ : ∃ y, ws[j]? = some y := ⟨_, List.getElem?_eq_getElem hlt1⟩
      obtain ⟨o, s6, zs1, hfy, hcm6, ers1⟩ := compM_drop hyj hcm4
      refine .inr ⟨wk1.go j H4 Hf4 ex5.grow st5.sub hlt1, fun H6 => ∃ Hf6 acc6, Sat X.K σ3 H6 Hf6 (ι.tr s6 ++ (b x ++ (forget (own.map (·.2)) ++ Δ))) (cutL (cutL A (own.map (·.2))) ixs) ∧ ExtD Dd ι.ix (cutL (cutL A (own.map (·.2))) ixs) H3 Hf3 H6 Hf6 ∧ H6 Dd = some (.lst acc6) ∧ RpAll X.K Hf6 acc6 ((dn ++ (dn1 ++ o.toList)).map F) ∧ Hf6 Dd = none,
        fun H6 ⟨Hf6, acc6, q1, q2, q3, q5, q6⟩ => ⟨ws.length - (j + 1), by omega, rfl, hlt1, s6, Hf6, acc6, dn1 ++ o.toList, zs1, q1, q2, q3, q5, q6, hcm6, by rw [← hys4, ers1]; cases o <;> simp⟩, fun v H5 hy5 => ?_⟩
      obtain ⟨Hf5, e5, sb5, rv5⟩ := wk1.yld j y v H4 H5 Hf4 ex5.grow st5.sub hyj hy5
      have st6 := st5.up e5 sb5
      have hD5 : H5 Dd = some (.lst acc4) := e5.keep _ _ hD4
      have hDf5 : Hf5 Dd = none := none_on (d0 := Dd) (ix := ι.ix) (A := A) e5.toA.toD hDf4 hD4
      intro s0 H0 C cl fp
      refine hg1 s0 H0 C cl fp y v (wipe σ3 ixs1) H5 Hf5 (forget ixs1 ++ (b x ++ (forget (own.map (·.2)) ++ Δ))) _ sj _ (st6.wiped (hxQ sj)) rv5 fun σ4 st7 o7 => ?_
      refine ⟨wipe_eq o7 (fun i h => h), ?_⟩
      intro s0 H0 C cl fp
      have back : ∀ {H7 Hf7 : Hp} {s7 : S}, Sat X.K σ4 H7 Hf7 (ι.tr s7 ++ (b1 y ++ (forget ixs1 ++ (b x ++ (forget (own.map (·.2)) ++ Δ))))) (cutL (cutL (cutL (cutL A (own.map (·.2))) ixs) ixs1) ixs1) → ExtA ι.ix (cutL (cutL (cutL (cutL A (own.map (·.2))) ixs) ixs1) ixs1) H5 Hf5 H7 Hf7 →
          Sat X.K σ3 H7 Hf7 (ι.tr s7 ++ (b x ++ (forget (own.map (·.2)) ++ Δ))) (cutL (cutL A (own.map (·.2))) ixs) ∧ ExtD Dd ι.ix (cutL (cutL A (own.map (·.2))) ixs) H3 Hf3 H7 Hf7 ∧ H7 Dd = some (.lst acc4) ∧ Hf7 Dd = none := by
        intro H7 Hf7 s7 sat e7
        have a1 := blk_back hxQ (hm1 y) hm2 (fun i h => h) hDB st6 o7 sat e7.toD
        have a2 := (e7.toD (d := Dd)).cut
        exact ⟨a1, (ex5.trans e5.toA.toD).trans a2, e7.keep _ _ (fun l _ hl => hDB l (cutL_in (cutL_in hl).1).1) hD5, none_on a2 hDf5 hD5⟩
      refine ht s0 H0 C cl fp x y sj _ (o, s6) hfy σ4 H5 Hf5 _ _ st7 fun c s8 hc8 H8 Hf8 st8 e8 => ?_
      cases c with
      | false =>
        have hc8 : some ((none : Option β), s8) = some (o, s6) := hc8
        injection hc8 with hc8
        injection hc8 with h1 h2
        subst h1
        subst h2
        obtain ⟨q1, q2, q3, q4⟩ := back st8 e8
        rw [if_neg Bool.false_ne_true]
        exact ⟨Hf8, acc4, q1, q2, q3, by simpa using hacc4.up (e5.grow.trans e8.grow), q4⟩
      | true =>
        rw [if_pos rfl]
        intro s0 H0 C cl fp
        refine he s0 H0 C cl fp x y s8 _ (o, s6) hc8 σ4 H8 Hf8 _ _ st8 fun z s9 hz9 w H9 Hf9 st9 e9 r9 => ?_
        have hz9 : some (some z, s9) = some (o, s6) := hz9
        injection hz9 with hz9
        injection hz9 with h1 h2
        subst h1
        subst h2
        obtain ⟨q1, q2, q3, q4⟩ := back st9 (e8.trans e9)
        have la := hacc4.len
        rw [List.length_map, List.length_append] at la
        have ly : ys.length = dn.length + (dn1.length + (zs1.length + 1)) + zs.length := by
          have e1 := congrArg List.length hys
          have e2 := congrArg List.length hys4
          rw [ers] at e1
          rw [ers1] at e2
          simp only [List.length_append, List.length_cons] at e1 e2
          omega
        refine ⟨acc4, q3, lt_line (by have : ys.length ≤ Line := hLn; omega), Hf9, acc4 ++ [w], q1.poke q4 hDB, ⟨fun a u ea m h => (q2.keep a u ea m h).same (upd_ne ea), fun a h => ?_, q2.grow, q2.news⟩, upd_same, ?_, q4⟩
        · by_cases ea : a = Dd
          · subst ea; rw [upd_same]; simp
          · rw [upd_ne ea]; exact q2.there a h
        · rw [← List.append_assoc, List.map_append]
          exact (hacc4.up (e5.grow.trans (e8.grow.trans e9.grow))).append (.one r9)
    · have ej : j = ws.length := by omega
      subst ej
      rw [List.drop_length] at hcm4
      injection hcm4 with hcm4
      injection hcm4 with h1 h2
      subst h1
      subst h2
      rw [List.append_nil] at hys4
      subst hys4
      refine .inl ⟨wk1.stop _ H4 Hf4 ex5.grow st5.sub (Nat.le_refl _), ?_⟩
      have e6 := (e3.toD (d := Dd)).trans ex5
      have a1 := blk_back hxP (hk1 x) hk2 hk3 hDA st2 o3 st5 e6
      exact ⟨Hf4, acc4, a1, ((ex'.trans e2.toA).toD.trans e6.cut).toA hD, hD4, hacc4, hDf4⟩
  · have ei : i = xs.length := by omega
    subst ei
    rw [List.drop_length] at hcm
    injection hcm with hcm
    injection hcm with h1 h2
    subst h1
    subst h2
    rw [List.append_nil] at hys
    subst hys
    refine .inl ⟨wk.stop _ H' Hf' ex'.grow st'.sub (Nat.le_refl _), ?_⟩
    have hD0 : H Dd = none := none_back e1.there hD
    have la := hacc.len
    rw [List.length_map] at la
    exact q dn si hK Dd acc H' Hf' st' (e1.trans ex') hDl (by omega) hacc hDf hD0
end
section
variable {X : Cx} {S : Type} {ι : Io S} {Δ : Dl} {s : S} {R : Type} {out : R → Out S} {rest : List Stmt} {pos pos' p apos : Pos} {a b e : Expr} {k : Nat}
variable {tg iter tg1 iter1 elt : Expr} {ifs1 : List Expr} {scope : Scope} {α β γ : Type} {E : α → D} {F : β → D}
theorem bx_setLc2 (i : Nat) {x : Str} {own : List (Str × Nat)} {vs1 : List Nat} {p2 : Pos} {M : (List α → S → Option R) → Option R} {kk : List α → S → Option R} (h : LO2 X ι Δ s elt tg iter tg1 iter1 ifs1 scope own vs1 M E)
    (q : ∀ a s', BX X ι (iv i (Ty.lst E) a :: Δ) s' rest (kk a s') out) (hi : X.N[i]? = some x := by rfl) (hyl : X.env.scope.names.lookup x = some .local := by rfl)
    (hsw : swapsWith (.ListComp elt [⟨tg, iter, [], 0⟩, ⟨tg1, iter1, ifs1, 0⟩] scope p2) (some (.Name x pos')) pos.line X.env = pure true := by exact sw_true rfl rfl rfl (by decide +kernel)) (hix : i ∉ ι.ix := by first | decide | exact of_decide_eq_true rfl) :
    BX X ι Δ s (.Assign [.Name x pos'] (.ListComp elt [⟨tg, iter, [], 0⟩, ⟨tg1, iter1, ifs1, 0⟩] scope p2) pos :: rest) (M fun a s' => letM a fun a => kk a s') out := by
  intro r hr σ H Hf A Dn st pp
  refine tS_inv fun pins sh I => tS_cons (ps_setLc2 h.hc h.hN hi hyl hsw (pI X tg iter) h.ok h.hv (fun s0 H0 C cl fp => ⟨fun pins s _ _ _ u _ I r h => h s0 H0 C cl fp pins s u I r⟩)
    (fun s0 H0 C cl fp => ⟨fun pins s _ _ _ I h => h s0 H0 C cl fp pins s I⟩) (fun s0 H0 C cl fp => ⟨fun pins s _ _ _ I h => h s0 H0 C cl fp pins s I⟩) (fun s0 H0 C cl fp => ⟨fun pins s _ _ _ u _ I r h => h s0 H0 C cl fp pins s u I r⟩)
    (fun s0 H0 C cl fp => ⟨fun pins s _ _ _ I h => h s0 H0 C cl fp pins s I⟩) (fun s0 H0 C cl fp => ⟨fun pins s _ _ _ I h => (h s0 H0 C cl fp).run pins s I⟩) h.hs h.hs1) (h.read _ r hr σ H Hf A _ st fun a s' ha l vs H' Hf' st' e' hl hz ra hn hfr => ?_)
  have hlen : i < σ.length := by rw [I.len]; exact (List.getElem?_eq_some_iff.mp hi).1
  have nA : ∀ j, l ∉ A j := fun j m => (st.own j l m).2 hfr
  have gr : Sub Hf' (upd Hf' l (.lst vs)) := fun b u h => .self (by rw [upd_ne (ne_of_none h hn)]; exact h)
  have st2 := (st'.freeze hl hn nA).imm (P := ι.tr s') (d := Ty.lst E a) hlen (by rw [ι.keys]; exact hix) (.lst (.inl upd_same) hz (ra.up gr))
  have e2 : ExtA ι.ix A H Hf H' (upd Hf' l (.lst vs)) := ⟨e'.keep, e'.there, e'.grow.trans gr, fun b h => by
    by_cases z : b = l
    · subst z; exact .inr hfr
    · rw [upd_ne z] at h; exact e'.news b h⟩
  exact q a s' r ha _ H' _ _ _ st2 (pp.step ((e2.stp ι.ix σ).trans (stp_cut hix)))
/-! ### a written dict of the module -/
theorem pe_kd {x : Str} {d : Addr} {es : Array DictEntry} {n : Nat} {ty : TE} (Dk : KDict X.K X.w d es n) (hg : Gl X x) (hm : X.mg x = some (.ref d)) (hi : PE X b ty) (hs : NoSl b) (hdb : (x == ("__debug__" : Str)) = false := by decide) :
    PE X (.Subscript (.Name x p) b pos) (fun σ H Q => ty σ H fun y H1 => ∃ (z : Str) (u0 : Value) (v0 : V), y = .str z ∧ PySem.W.nsIn X.K d z = some (some u0) ∧ RelV v0 u0 ∧ Q v0 H1) := by
  refine ⟨fun pins s σ H Q I h => ?_⟩
  refine subD_of PySem.F.slot_dict_getitem.lookup hs (thn ((pe_glob (v := .ref d) hg hm rfl hdb).run pins s σ H (fun v H1 => v = .ref d ∧ H1 = H) I ⟨rfl, rfl⟩) fun u s1 ⟨x1, H1, I1, rx, q1⟩ => ?_)
  obtain ⟨rfl, rfl⟩ := q1
  refine thn (hi.run pins s1 σ _ _ I1 h) fun iv s2 ⟨y, H2, I2, ry, z, u0, v0, ey, e1, e2, q2⟩ => ?_
  obtain rfl : u = Value.ref d := rx
  exact ⟨kd_type Dk I2, op_item_kd Dk pins s2 σ H2 (.ref d) y _ iv Q I2 rfl ry ⟨z, u0, v0, rfl, ey, e1, e2, q2⟩⟩
/-- what such a dict of texts says -/
def TblOk (K : KF) (d : Addr) (tbl : List (Str × Str)) : Prop := ∀ x z, getI tbl x = some z → PyData.strOk z = true ∧ ∃ t, PySem.W.nsIn K d x = some (some (.str z t))
theorem tbl_nil {K : KF} {d : Addr} : TblOk K d [] := fun x z h => by cases h
theorem tbl_cons {K : KF} {d : Addr} {x z : Str} {t : Tok} {tbl : List (Str × Str)} (h : PySem.W.nsIn K d x = some (some (.str z t))) (ok : PyData.strOk z = true) (r : TblOk K d tbl) : TblOk K d ((x, z) :: tbl) := fun y w e => by
  by_cases c : x = y
  · have e' : some z = some w := by
      unfold getI at e
      rw [List.find?_cons_of_pos (by simpa using c)] at e
      exact e
    cases e'
    subst c
    exact ⟨ok, t, h⟩
  · refine r y w ?_
    unfold getI at e ⊢
    rw [List.find?_cons_of_neg (by simpa using c)] at e
    exact e
theorem ex_gd {x : Str} {d : Addr} {es : Array DictEntry} {n : Nat} {tbl : List (Str × Str)} {Mk : (Str → S → Option R) → Option R} (Dk : KDict X.K X.w d es n) (hm : X.mg x = some (.ref d)) (ht : TblOk X.K d tbl) (hb : EX X ι Δ s b Mk Ty.str)
    (hg : Gl X x := by rfl) (hs : NoSl b := by exact fun _ _ => rfl) (hdb : (x == ("__debug__" : Str)) = false := by decide) :
    EX X ι Δ s (.Subscript (.Name x p) b pos) (fun k => Mk fun y s1 => (getI tbl y).bind fun z => k z s1) Ty.str := by
  intro kk r hk' σ H Hf A Q st q
  refine tE_of (pe_kd Dk hg hm (pE X b) hs hdb) (hb _ r hk' σ H Hf A _ st fun y s1 hx v H1 Hf1 st1 e1 r1 => ?_)
  obtain ⟨z, h1, h2⟩ := bind_some hx
  obtain ⟨ok, t, h3⟩ := ht y z h1
  cases r1
  exact ⟨y, _, .str z, rfl, h3, ⟨t, rfl⟩, q z s1 h2 _ H1 Hf1 st1 e1 (.str _ ok)⟩
/-! ### xs.index(x), xs a list of ints -/
theorem ex_listIx {Ml : (List Int → S → Option R) → Option R} {Mi : S → (Int → S → Option R) → Option R} (ha : EX X ι Δ s a Ml (Ty.lst Ty.int)) (hb : ∀ s1, EX X ι Δ s1 b (Mi s1) Ty.int) (he : starEach [b] X.env = (false, eval b X.env) :: starEach [] X.env := by rfl)
    (hpb : ∀ {t : TA} {to : TE} {r : V → List V → Hp → VK → Prop}, MtR X "list.index" r → PE X a to → PA X [b] t → PE X (.Call (.Attribute a "index" apos) [b] [] pos) (tBM X.K "list" r to t) := by
      intro _ _ _ hm ho ha; exact pe_bm PySem.F.plainAttrs_list PySem.F.slot_list_index PySem.F.type_list_index hm ho ha) :
    EX X ι Δ s (.Call (.Attribute a "index" apos) [b] [] pos) (fun k => Ml fun l s1 => Mi s1 fun x s2 => (idxI l x).bind fun j => k (j : Int) s2) Ty.int := by
  intro k r hk σ H Hf A Q st q
  refine tE_of (hpb mt_index (pE X a) (pA X [b])) (ha _ r hk σ H Hf A _ st fun l s1 hx v H1 Hf1 st1 e1 r1 => ?_)
  cases r1 with
  | @lst ad vs _ hs hz ra =>
    have ev := ra.ints
    subst ev
    have sq : SqL X.K H1 ad (l.map V.int) := .inl (st1.sub.rd hs)
    refine ⟨.inl ⟨rfl, _, sq⟩, ?_⟩
    refine ax_cons (hb s1) (fun s2 => ax_nil) he (fun pp s' => (idxI l pp.1).bind fun j => k (j : Int) s') r hx σ H1 Hf1 A _ st1 fun y s2 hy ws H2 Hf2 st2 e2 r2 => ?_
    obtain ⟨v2, rfl, rv⟩ := one_arg r2
    obtain ⟨j, hj, hy⟩ := bind_some hy
    obtain ⟨g1, g2⟩ := idxI_get hj
    cases rv
    refine ⟨ad, l.map V.int, .int y.1, j, .int y.1, rfl, rfl, .inl (st2.sub.rd (e2.grow.rd hs)), rfl, by rw [List.all_map]; exact List.all_eq_true.mpr fun _ _ => rfl, by rw [List.getElem?_map, g1]; rfl, by show (y.1 == y.1) = true; simp, fun m z' hm hz' => ?_, q _ s2 hy _ H2 Hf2 st2 (e1.trans e2) (.int _)⟩
    rw [List.getElem?_map] at hz'
    cases e : l[m]? with
    | none => rw [e] at hz'; cases hz'
    | some w =>
      rw [e] at hz'
      cases hz'
      have ne : w ≠ y.1 := fun z => g2 m hm (by rw [e, z])
      show (w == y.1) = false
      simpa using ne
end
end Ab
namespace Ab
open PySem PySem.Spec PyProof.Rows L2
/-! ### edges in order -/
theorem flat_sorted {f : Int → List (Int × Int)} : ∀ {l : List Int}, SL l → (∀ i ∈ l, (f i).Pairwise LeP) → (∀ i ∈ l, ∀ e ∈ f i, e.1 = i) → (l.flatMap f).Pairwise LeP
  | [], _, _, _ => List.Pairwise.nil
  | x :: l, h, h1, h2 => by
    have h' := List.pairwise_cons.mp h
    rw [List.flatMap_cons]
    refine List.pairwise_append.mpr ⟨h1 x List.mem_cons_self, flat_sorted h'.2 (fun i hi => h1 i (List.mem_cons_of_mem _ hi)) (fun i hi => h2 i (List.mem_cons_of_mem _ hi)), fun a ha b hb => ?_⟩
    obtain ⟨i, hi, hb⟩ := List.mem_flatMap.mp hb
    have e1 := h2 x List.mem_cons_self a ha
    have e2 := h2 i (List.mem_cons_of_mem _ hi) b hb
    have := h'.1 i hi
    exact .inl (by omega)
theorem pairs_sorted (n : Int) : (pairsL n).Pairwise LeP := by
  refine flat_sorted (rangeL_SL _ _) (fun i _ => ?_) fun i _ e he => ?_
  · rw [List.pairwise_map]
    exact (rangeL_SL (i + 1) (n - (i + 1)).toNat).imp fun h => .inr ⟨rfl, by show _ ≤ _; omega⟩
  · obtain ⟨j, _, rfl⟩ := List.mem_map.mp he
    rfl
theorem edges_ext {a b : List (Int × Int)} (na : a.Nodup) (nb : b.Nodup) (sa : a.Pairwise LeP) (sb : b.Pairwise LeP) (h : ∀ e, e ∈ a ↔ e ∈ b) : a = b := by
  rw [sortP_unique (xs := b) ((List.perm_ext_iff_of_nodup na nb).mpr h) sa, ← sortP_unique (xs := b) (List.Perm.refl _) sb]
/-! ### a graph turned at a vertex -/
def ownW (w : Str) : Str := if w = "XY" then "XZ" else if w = "XZ" then "XY" else w
def nearW (w : Str) : Str := if w = "XZ" then "YZ" else if w = "YZ" then "XZ" else w
def trnE (g : Gr) (u : Int) (e : Int × Int) : Bool := decide (e ∈ g.2.1) ^^ (adj g u e.1 && adj g u e.2)
def trnW (g : Gr) (u v : Int) : Str := if v = u then ownW (pl g v) else if adj g u v = true then nearW (pl g v) else pl g v
def trn (g : Gr) (u : Int) : Gr := (g.1, (pairsL g.1).filter (trnE g u), g.2.2.1, g.2.2.2.1, (rangeL 0 g.1.toNat).map (trnW g u))
section
variable {g : Gr} (G : Gd g) {u : Int}
include G
theorem adj_lt {x y : Int} (h : x < y) : adj g x y = decide ((x, y) ∈ g.2.1) := by
  rw [Bool.eq_iff_iff, mem_adj, decide_eq_true_eq]
  refine ⟨fun z => z.resolve_left fun q => ?_, .inr⟩
  have := G.eb _ q
  simp only at this; omega
theorem adj_in {x y : Int} (h : adj g x y = true) : (0 ≤ x ∧ x < g.1) ∧ (0 ≤ y ∧ y < g.1) := by
  rcases mem_adj.mp h with z | z <;> have := G.eb _ z <;> simp only at this <;> omega
theorem trn_edge {x y : Int} (h : x < y) : ((x, y) ∈ (trn g u).2.1) ↔ (adj g x y ^^ (adj g u x && adj g u y)) = true := by
  show (x, y) ∈ (pairsL g.1).filter (trnE g u) ↔ _
  rw [List.mem_filter, mem_pairs, adj_lt G h]
  unfold trnE
  refine ⟨fun z => z.2, fun z => ⟨?_, z⟩⟩
  cases e : decide ((x, y) ∈ g.2.1) with
  | true =>
    have := G.eb _ (of_decide_eq_true e)
    exact this
  | false =>
    rw [e, Bool.false_xor, Bool.and_eq_true] at z
    have h1 := adj_in G z.1
    have h2 := adj_in G z.2
    show 0 ≤ x ∧ x < y ∧ y < g.1
    omega
theorem trn_adj (x y : Int) : adj (trn g u) x y = (adj g x y ^^ (adj g u x && adj g u y && !decide (x = y))) := by
  have lt : ∀ a b : Int, a < b → adj (trn g u) a b = (adj g a b ^^ (adj g u a && adj g u b)) := fun a b h => by
    rw [Bool.eq_iff_iff, ← trn_edge G h, mem_adj]
    refine ⟨fun z => z.resolve_left fun q => ?_, .inr⟩
    have : (b, a) ∈ pairsL g.1 := (List.mem_filter.mp q).1
    have := mem_pairs.mp this
    simp only at this; omega
  rcases Int.lt_trichotomy x y with h | h | h
  · have : ¬ x = y := by omega
    rw [lt x y h]; simp [this]
  · subst h
    have e : adj (trn g u) x x = false := by
      rw [Bool.eq_false_iff]
      intro z
      rcases mem_adj.mp z with q | q <;> have := mem_pairs.mp (List.mem_filter.mp q).1 <;> simp only at this <;> omega
    rw [e, G.adj_self]; simp
  · have : ¬ x = y := by omega
    rw [adj_sym (trn g u), lt y x h, adj_sym g y x]
    simp [this, Bool.and_comm]
theorem trn_word {v : Int} (a : 0 ≤ v) (b : v < g.1) : (trn g u).2.2.2.2[v.toNat]? = some (trnW g u v) := by
  show ((rangeL 0 g.1.toNat).map (trnW g u))[v.toNat]? = _
  rw [List.getElem?_map, rangeL_at a b]; rfl
theorem trn_pl {v : Int} (a : 0 ≤ v) (b : v < g.1) : pl (trn g u) v = trnW g u v := pl_of (g := trn g u) a (trn_word G a b)
theorem trn_gd (hu : u ∉ g.2.2.1) : Gd (trn g u) := by
  refine Gd.mk' ⟨G.n0, G.n1, (pairs_nodup g.1).sublist List.filter_sublist, fun e he => mem_pairs.mp (List.mem_filter.mp he).1, Nat.le_trans (List.length_filter_le _ _) (pairs_len g.1 (by have := G.n1; omega)), G.ins, G.out⟩ G.n2 ?_ fun v a b => ⟨_, trn_word G a b, ?_⟩
  · show ((rangeL 0 g.1.toNat).map _).length = _
    rw [List.length_map, rangeL_len]; rfl
  · show PlOk true g.2.2.2.1 g.2.2.1 v _
    obtain ⟨x, h1, h2⟩ := G.plOk a b
    have e := pl_of a h1
    unfold trnW
    rw [e]
    rcases h2 with ⟨ho, rfl⟩ | ⟨ho, hi, rfl⟩ | ⟨ho, hi, _, h2⟩
    · refine .inl ⟨ho, ?_⟩
      split
      · decide +kernel
      · split
        · decide +kernel
        · rfl
    · have ne : v ≠ u := fun z => hu (z ▸ hi)
      refine .inr (.inl ⟨ho, hi, ?_⟩)
      rw [if_neg ne]
      split
      · decide +kernel
      · rfl
    · refine .inr (.inr ⟨ho, hi, .inl rfl, ?_⟩)
      split
      · rcases h2 with rfl | rfl | rfl
        · exact .inr (.inl (by decide +kernel))
        · exact .inl (by decide +kernel)
        · exact .inr (.inr (by decide +kernel))
      · split
        · rcases h2 with rfl | rfl | rfl
          · exact .inl (by decide +kernel)
          · exact .inr (.inr (by decide +kernel))
          · exact .inr (.inl (by decide +kernel))
        · exact h2
theorem trn_nbr (v : Int) : adj (trn g u) u v = adj g u v := by
  rw [trn_adj G, G.adj_self]; simp
theorem trn_trn (hs : g.2.1.Pairwise LeP) (hu : u ∉ g.2.2.1) : trn (trn g u) u = g := by
  have GT := trn_gd G hu
  have e1 : (pairsL g.1).filter (trnE (trn g u) u) = g.2.1 := by
    refine edges_ext ((pairs_nodup g.1).sublist List.filter_sublist) G.nd ((pairs_sorted g.1).sublist List.filter_sublist) hs fun e => ?_
    rw [List.mem_filter, mem_pairs]
    unfold trnE
    constructor
    · rintro ⟨p, q⟩
      rw [trn_nbr G, trn_nbr G] at q
      have : decide (e ∈ (trn g u).2.1) = (adj g e.1 e.2 ^^ (adj g u e.1 && adj g u e.2)) := by
        rw [Bool.eq_iff_iff, decide_eq_true_eq]
        exact trn_edge G p.2.1
      rw [this, adj_lt G p.2.1] at q
      have : decide (e ∈ g.2.1) = true := by
        revert q
        cases decide (e ∈ g.2.1) <;> cases adj g u e.1 <;> cases adj g u e.2 <;> simp
      exact of_decide_eq_true this
    · intro h
      have p := G.eb _ h
      refine ⟨p, ?_⟩
      rw [trn_nbr G, trn_nbr G]
      have : decide (e ∈ (trn g u).2.1) = (adj g e.1 e.2 ^^ (adj g u e.1 && adj g u e.2)) := by
        rw [Bool.eq_iff_iff, decide_eq_true_eq]
        exact trn_edge G p.2.1
      rw [this, adj_lt G p.2.1, decide_eq_true h]
      cases adj g u e.1 <;> cases adj g u e.2 <;> rfl
  have e2 : (rangeL 0 g.1.toNat).map (trnW (trn g u) u) = g.2.2.2.2 := by
    refine List.ext_getElem? fun j => ?_
    by_cases h : j < g.1.toNat
    · have a : (0 : Int) ≤ (j : Int) := by omega
      have b : (j : Int) < g.1 := by omega
      have e1 := rangeL_at a b
      rw [show ((j : Int)).toNat = j from rfl] at e1
      rw [List.getElem?_map, e1]
      obtain ⟨x, h1, h2⟩ := G.plOk a b
      have e := pl_of a h1
      rw [show ((j : Int)).toNat = j from rfl] at h1
      rw [h1]
      show some (trnW (trn g u) u (j : Int)) = some x
      congr 1
      unfold trnW
      rw [trn_nbr G, trn_pl G a b]
      unfold trnW
      rw [e]
      have w : x = "" ∨ x = "XY" ∨ x = "XZ" ∨ x = "YZ" := by
        rcases h2 with ⟨_, h⟩ | ⟨_, _, h⟩ | ⟨_, _, _, h | h | h⟩
        · exact .inl h
        · exact .inr (.inl h)
        · exact .inr (.inl h)
        · exact .inr (.inr (.inl h))
        · exact .inr (.inr (.inr h))
      by_cases c : (j : Int) = u
      · rw [if_pos c, if_pos c]
        rcases w with rfl | rfl | rfl | rfl <;> decide +kernel
      · rw [if_neg c, if_neg c]
        cases adj g u (j : Int) with
        | false => rfl
        | true =>
          rw [if_pos rfl, if_pos rfl]
          rcases w with rfl | rfl | rfl | rfl <;> decide +kernel
    · rw [List.getElem?_eq_none (by rw [List.length_map, rangeL_len]; omega), List.getElem?_eq_none (by rw [G.pn]; omega)]
  show (g.1, (pairsL g.1).filter (trnE (trn g u) u), g.2.2.1, g.2.2.2.1, (rangeL 0 g.1.toNat).map (trnW (trn g u) u)) = g
  rw [e1, e2]
/-- parities of the turned graph -/
theorem trn_xs {S : List Int} (nd : S.Nodup) (x : Int) : xs (adj (trn g u) x) S = (xs (adj g x) S ^^ (adj g u x && (xs (adj g u) S ^^ decide (x ∈ S)))) := by
  rw [← xs_dec nd x, ← xs_xor, ← xs_and, ← xs_xor]
  refine xs_congr fun y _ => ?_
  rw [trn_adj G]
  by_cases e : x = y
  · subst e
    rw [decide_eq_true rfl]
    cases adj g u x <;> simp
  · rw [decide_eq_false e]
    cases adj g u x <;> cases adj g u y <;> simp
theorem trn_nee {v : Int} (a : 0 ≤ v) (b : v < g.1) (ho : v ∉ g.2.2.2.1) : nee (trn g u) v = (nee g v ^^ (decide (v = u) && odn g v)) := by
  unfold nee odn
  rw [trn_pl G a b]
  unfold trnW
  have w : pl g v = "XY" ∨ pl g v = "XZ" ∨ pl g v = "YZ" := (G.pp v a b ho).imp id fun h => h.2
  by_cases c : v = u
  · rw [if_pos c, decide_eq_true c]
    rcases w with h | h | h <;> rw [h] <;> decide +kernel
  · rw [if_neg c, decide_eq_false c]
    split <;> rcases w with h | h | h <;> rw [h] <;> decide +kernel
theorem trn_odn {v : Int} (a : 0 ≤ v) (b : v < g.1) (ho : v ∉ g.2.2.2.1) : odn (trn g u) v = (odn g v ^^ (adj g u v && nee g v)) := by
  unfold nee odn
  rw [trn_pl G a b]
  unfold trnW
  have w : pl g v = "XY" ∨ pl g v = "XZ" ∨ pl g v = "YZ" := (G.pp v a b ho).imp id fun h => h.2
  by_cases c : v = u
  · have : adj g u v = false := by rw [c]; exact G.adj_self u
    rw [if_pos c, this]
    rcases w with h | h | h <;> rw [h] <;> decide +kernel
  · rw [if_neg c]
    cases adj g u v <;> rcases w with h | h | h <;> rw [h] <;> decide +kernel
/-- what a correction is, by parities -/
theorem does_par {v : Int} {S : List Int} {L : Int → Prop} : Does g v S L ↔ ((∀ x ∈ S, x ∉ g.2.2.1) ∧ decide (v ∈ S) = nee g v ∧ xs (adj g v) S = odn g v ∧ (∀ x ∈ S, x = v ∨ L x) ∧ ∀ x, xs (adj g x) S = true → x = v ∨ L x) := by
  constructor
  · intro D
    refine ⟨D.inp, ?_, ?_, D.lat, fun x hx => D.lao x (G.mem_oddX.mpr hx)⟩
    · rw [Bool.eq_iff_iff, decide_eq_true_eq]; exact D.own
    · rw [Bool.eq_iff_iff, ← G.mem_oddX]; exact D.odd
  · rintro ⟨a, b, c, d, e⟩
    exact ⟨a, by rw [← b, decide_eq_true_eq], by rw [← c, G.mem_oddX], d, fun x hx => e x (G.mem_oddX.mp hx)⟩
end
theorem xs_sum {f : Int → Bool} {a b : List Int} (ha : a.Nodup) (hb : b.Nodup) : xs f (sumS a b) = (xs f a ^^ xs f b) := by
  unfold sumS
  rw [xs_perm (sortI_perm _), xs_append, xs_filter, xs_filter]
  have e1 : xs f a = (xs (fun x => !decide (x ∈ b) && f x) a ^^ xs (fun x => decide (x ∈ b) && f x) a) := by
    rw [← xs_xor]
    exact xs_congr fun x _ => by cases decide (x ∈ b) <;> cases f x <;> rfl
  have e2 : xs f b = (xs (fun x => !decide (x ∈ a) && f x) b ^^ xs (fun x => decide (x ∈ a) && f x) b) := by
    rw [← xs_xor]
    exact xs_congr fun x _ => by cases decide (x ∈ a) <;> cases f x <;> rfl
  have e3 : xs (fun x => decide (x ∈ b) && f x) a = xs (fun x => decide (x ∈ a) && f x) b := by
    rw [← xs_filter, ← xs_filter]
    refine xs_perm ((List.perm_ext_iff_of_nodup (ha.sublist List.filter_sublist) (hb.sublist List.filter_sublist)).mpr fun x => ?_)
    rw [List.mem_filter, List.mem_filter, decide_eq_true_eq, decide_eq_true_eq]
    exact and_comm
  rw [e1, e2, e3]
  cases xs (fun x => !decide (x ∈ b) && f x) a <;> cases xs (fun x => !decide (x ∈ a) && f x) b <;> cases xs (fun x => decide (x ∈ a) && f x) b <;> rfl
theorem dec_sum (a b : List Int) (x : Int) : decide (x ∈ sumS a b) = (decide (x ∈ a) ^^ decide (x ∈ b)) := by
  by_cases h1 : x ∈ a <;> by_cases h2 : x ∈ b <;> simp [mem_sumS, h1, h2]
/-- the turned vertex' own correction -/
def ownT (g : Gr) (u : Int) (S : List Int) : List Int := if odn g u = true then sumS S [u] else S
section
variable {g : Gr} (G : Gd g) {u : Int} (u0 : 0 ≤ u) (u1 : u < g.1) (hu : u ∉ g.2.2.1)
include G u0 u1 hu
theorem turn_even {v : Int} {S : List Int} {L : Int → Prop} (v0 : 0 ≤ v) (v1 : v < g.1) (vo : v ∉ g.2.2.2.1) (nd : S.Nodup) (ne : v ≠ u) (he : xs (adj g u) S = false) (D : Does g v S L) : Does (trn g u) v S L := by
  obtain ⟨a, b, c, d, e⟩ := (does_par G).mp D
  refine (does_par (trn_gd G hu)).mpr ⟨a, ?_, ?_, d, fun x hx => ?_⟩
  · rw [trn_nee G v0 v1 vo, b, decide_eq_false ne]; simp
  · rw [trn_xs G nd, trn_odn G v0 v1 vo, he, b, c]; simp
  · rw [trn_xs G nd, he] at hx
    by_cases h : x ∈ S
    · exact d x h
    · rw [decide_eq_false h] at hx
      exact e x (by simpa using hx)
theorem turn_own {S : List Int} {L : Int → Prop} (uo : u ∉ g.2.2.2.1) (sl : SL S) (D : Does g u S L) : Does (trn g u) u (ownT g u S) L := by
  obtain ⟨a, b, c, d, e⟩ := (does_par G).mp D
  have nd := sl.nodup
  have n1 : ([u] : List Int).Nodup := by simp
  have ndT : (ownT g u S).Nodup := by
    unfold ownT
    split
    · exact (sortI_SL (sumS_nodup nd n1)).nodup
    · exact nd
  have ds : ∀ x, decide (x ∈ ownT g u S) = (decide (x ∈ S) ^^ (odn g u && decide (x = u))) := fun x => by
    unfold ownT
    cases odn g u
    · simp
    · rw [if_pos rfl, dec_sum]; simp
  have xo : ∀ f : Int → Bool, xs f (ownT g u S) = (xs f S ^^ (odn g u && f u)) := fun f => by
    unfold ownT
    cases odn g u
    · simp
    · rw [if_pos rfl, xs_sum nd n1]
      show _ = (xs f S ^^ (true && f u))
      show (xs f S ^^ (f u ^^ false)) = _
      simp
  have mem : ∀ x ∈ ownT g u S, x = u ∨ x ∈ S := fun x hx => by
    have := ds x
    rw [decide_eq_true hx] at this
    by_cases h : x ∈ S
    · exact .inr h
    · rw [decide_eq_false h, Bool.false_xor] at this
      have := (Bool.and_eq_true _ _ |>.mp this.symm).2
      exact .inl (of_decide_eq_true this)
  refine (does_par (trn_gd G hu)).mpr ⟨fun x hx => ?_, ?_, ?_, fun x hx => ?_, fun x hx => ?_⟩
  · rcases mem x hx with rfl | h
    · exact hu
    · exact a x h
  · rw [ds, trn_nee G u0 u1 uo, b]; simp
  · rw [trn_xs G ndT, trn_odn G u0 u1 uo, xo, c, G.adj_self]; simp
  · exact (mem x hx).elim .inl fun h => d x h
  · rw [trn_xs G ndT, xo, xo, c, G.adj_self] at hx
    by_cases h : x ∈ ownT g u S
    · exact (mem x h).elim .inl fun h => d x h
    · rw [decide_eq_false h, adj_sym g x u] at hx
      refine e x ?_
      revert hx
      cases odn g u <;> cases adj g u x <;> simp
/-- own: what the turned vertex' correction has to say -/
structure OwnOk (g : Gr) (u : Int) (Su : List Int) (L : Int → Prop) : Prop where
  sl : SL Su
  inp : ∀ x ∈ Su, x ∉ g.2.2.1
  par : xs (adj g u) Su = odn g u
  lat : ∀ x ∈ Su, x = u ∨ L x
  lao : ∀ x, xs (adj g x) Su = true → x = u ∨ L x
theorem turn_odd {v : Int} {S Su : List Int} {L : Int → Prop} (v0 : 0 ≤ v) (v1 : v < g.1) (vo : v ∉ g.2.2.2.1) (sl : SL S) (ne : v ≠ u) (ho : xs (adj g u) S = true) (nv : ¬ L v) (Lu : L u) (O : OwnOk g u Su L) (D : Does g v S L) : Does (trn g u) v (sumS (sumS S (ownT g u Su)) [u]) L := by
  obtain ⟨a, b, c, d, e⟩ := (does_par G).mp D
  have n1 : SL ([u] : List Int) := by simp [SL]
  have sT : SL (ownT g u Su) := by
    unfold ownT
    split
    · exact sumS_SL O.sl n1
    · exact O.sl
  have s2 := sumS_SL sl sT
  have s3 := sumS_SL s2 n1
  have ds : ∀ x, decide (x ∈ sumS (sumS S (ownT g u Su)) [u]) = (((decide (x ∈ S) ^^ decide (x ∈ Su)) ^^ (odn g u && decide (x = u))) ^^ decide (x = u)) := fun x => by
    rw [dec_sum, dec_sum]
    unfold ownT
    cases odn g u
    · simp
    · rw [if_pos rfl, dec_sum]; simp
  have xo : ∀ f : Int → Bool, xs f (sumS (sumS S (ownT g u Su)) [u]) = (((xs f S ^^ xs f Su) ^^ (odn g u && f u)) ^^ f u) := fun f => by
    have one : xs f [u] = f u := by show (f u ^^ false) = _; simp
    rw [xs_sum s2.nodup n1.nodup, xs_sum sl.nodup sT.nodup, one]
    unfold ownT
    cases odn g u
    · simp
    · rw [if_pos rfl, xs_sum O.sl.nodup n1.nodup, one]; simp
  have mem : ∀ x ∈ sumS (sumS S (ownT g u Su)) [u], x = u ∨ x ∈ S ∨ x ∈ Su := fun x hx => by
    have := ds x
    rw [decide_eq_true hx] at this
    by_cases h : x = u
    · exact .inl h
    · by_cases h1 : x ∈ S
      · exact .inr (.inl h1)
      · refine .inr (.inr ?_)
        rw [decide_eq_false h, decide_eq_false h1] at this
        simpa using this
  have vS : v ∉ Su := fun z => (O.lat v z).elim ne nv
  have vO : xs (adj g v) Su = false := by
    rw [Bool.eq_false_iff]
    exact fun z => (O.lao v z).elim ne nv
  refine (does_par (trn_gd G hu)).mpr ⟨fun x hx => ?_, ?_, ?_, fun x hx => ?_, fun x hx => ?_⟩
  · rcases mem x hx with rfl | h | h
    · exact hu
    · exact a x h
    · exact O.inp x h
  · rw [ds, trn_nee G v0 v1 vo, b, decide_eq_false vS, decide_eq_false ne]; simp
  · rw [trn_xs G s3.nodup, xo, xo, ds, trn_odn G v0 v1 vo, ho, vO, O.par, b, c, G.adj_self, decide_eq_false vS, decide_eq_false ne, adj_sym g v u]
    cases odn g u <;> cases adj g u v <;> cases odn g v <;> cases nee g v <;> rfl
  · rcases mem x hx with rfl | h | h
    · exact .inr Lu
    · exact d x h
    · exact (O.lat x h).elim (fun z => .inr (z ▸ Lu)) .inr
  · rw [trn_xs G s3.nodup, xo, xo, ho, O.par, G.adj_self, adj_sym g x u] at hx
    by_cases h : x ∈ sumS (sumS S (ownT g u Su)) [u]
    · rcases mem x h with rfl | h | h
      · exact .inr Lu
      · exact d x h
      · exact (O.lat x h).elim (fun z => .inr (z ▸ Lu)) .inr
    · rw [decide_eq_false h] at hx
      have : (xs (adj g x) S ^^ xs (adj g x) Su) = true := by
        revert hx
        cases odn g u <;> cases adj g u x <;> simp
      cases e1 : xs (adj g x) S with
      | true => exact e x e1
      | false =>
        rw [e1, Bool.false_xor] at this
        exact (O.lao x this).elim (fun z => .inr (z ▸ Lu)) .inr
theorem OwnOk.out {L : Int → Prop} (h : u ∈ g.2.2.2.1) : OwnOk g u [] L := by
  refine ⟨List.Pairwise.nil, (fun x hx => absurd hx List.not_mem_nil), ?_, (fun x hx => absurd hx List.not_mem_nil), fun x hx => by cases hx⟩
  show false = odn g u
  unfold odn
  rw [G.po u h]
  decide +kernel
theorem OwnOk.mes {Su : List Int} {L L' : Int → Prop} (sl : SL Su) (D : Does g u Su L') (hL : ∀ x, L' x → L x) : OwnOk g u Su L := by
  obtain ⟨a, b, c, d, e⟩ := (does_par G).mp D
  exact ⟨sl, a, c, fun x hx => (d x hx).imp id (hL x), fun x hx => (e x hx).imp id (hL x)⟩
/-- the soonest layers stay -/
theorem turn_soon : ∀ {k : Nat} {v : Int}, Soon g k v → Soon (trn g u) k v
  | 0, v, h => h
  | k + 1, v, h => by
    by_cases hk : Soon g k v
    · exact .inl (turn_soon hk)
    · rcases h with h | ⟨v0, v1, S, sl, wi, D⟩
      · exact absurd h hk
      · have vo : v ∉ g.2.2.2.1 := fun z => hk (Soon.up (j := 0) z (Nat.zero_le _))
        have n1 : SL ([u] : List Int) := by simp [SL]
        have w1 : Within ([u] : List Int) g.1 := fun x hx => by simp at hx; subst hx; exact ⟨u0, u1⟩
        have win : ∀ {a b : List Int}, Within a g.1 → Within b g.1 → Within (sumS a b) g.1 := fun {a b} ha hb x hx => by
          have := mem_sumS.mp hx
          by_cases c : x ∈ a
          · exact ha x c
          · exact hb x (Classical.byContradiction fun z => this (by rw [eq_false c, eq_false z]))
        have slT : ∀ {Su}, SL Su → SL (ownT g u Su) := fun h => by unfold ownT; split; exact sumS_SL h n1; exact h
        have wiT : ∀ {Su}, Within Su g.1 → Within (ownT g u Su) g.1 := fun h => by unfold ownT; split; exact win h w1; exact h
        by_cases ne : v = u
        · have uo : u ∉ g.2.2.2.1 := by rw [← ne]; exact vo
          have D' : Does g u S (Soon g k) := by rw [← ne]; exact D
          have D2 := (turn_own G u0 u1 hu uo sl D').mono fun x (hx : Soon g k x) => turn_soon hx
          exact .inr ⟨v0, v1, ownT g u S, slT sl, wiT wi, by rw [ne]; exact D2⟩
        · cases he : xs (adj g u) S with
          | false => exact .inr ⟨v0, v1, S, sl, wi, (turn_even G u0 u1 hu v0 v1 vo sl.nodup ne he D).mono fun x hx => turn_soon hx⟩
          | true =>
            have Lu : Soon g k u := by
              rcases D.lao u (G.mem_oddX.mpr he) with z | z
              · exact absurd z.symm ne
              · exact z
            have own : ∃ Su, SL Su ∧ Within Su g.1 ∧ OwnOk g u Su (Soon g k) := by
              by_cases uo : u ∈ g.2.2.2.1
              · exact ⟨[], List.Pairwise.nil, (fun x hx => absurd hx List.not_mem_nil), OwnOk.out G u0 u1 hu uo⟩
              · obtain ⟨j, hj, hm⟩ := least (p := fun j => Soon g j u) k Lu
                cases j with
                | zero => exact absurd hj uo
                | succ j =>
                  have jk := hm k Lu
                  rcases hj with hj | ⟨_, _, Su, s1, s2, D2⟩
                  · have := hm j hj; omega
                  · exact ⟨Su, s1, s2, OwnOk.mes G u0 u1 hu s1 D2 fun x hx => Soon.up hx (by omega)⟩
            obtain ⟨Su, s1, s2, O⟩ := own
            exact .inr ⟨v0, v1, _, sumS_SL (sumS_SL sl (slT s1)) n1, win (win wi (wiT s2)) w1, (turn_odd G u0 u1 hu v0 v1 vo sl ne he hk Lu O D).mono fun x hx => turn_soon hx⟩
end
theorem turn_soon_iff {g : Gr} (G : Gd g) {u : Int} (hs : g.2.1.Pairwise LeP) (u0 : 0 ≤ u) (u1 : u < g.1) (hu : u ∉ g.2.2.1) (k : Nat) (v : Int) : Soon (trn g u) k v ↔ Soon g k v := by
  refine ⟨fun h => ?_, turn_soon G u0 u1 hu⟩
  have := turn_soon (trn_gd G hu) (u := u) u0 u1 hu h
  rw [trn_trn G hs hu] at this
  exact this
end Ab
namespace Ab
open PySem PySem.Spec PyProof.Rows L2
/-! ### graphs alike -/
theorem gr_ext {g h : Gr} (G : Gd g) (H : Gd h) (sg : g.2.1.Pairwise LeP) (sh : h.2.1.Pairwise LeP) (hn : g.1 = h.1) (hi : g.2.2.1 = h.2.2.1) (ho : g.2.2.2.1 = h.2.2.2.1) (ha : ∀ x y, x < y → adj g x y = adj h x y) (hp : ∀ v, 0 ≤ v → v < g.1 → pl g v = pl h v) : g = h := by
  have e1 : g.2.1 = h.2.1 := edges_ext G.nd H.nd sg sh fun e => by
    by_cases c : e.1 < e.2
    · have := ha e.1 e.2 c
      rw [adj_lt G c, adj_lt H c] at this
      rw [← decide_eq_true_eq (p := e ∈ g.2.1), ← decide_eq_true_eq (p := e ∈ h.2.1)]
      show (decide ((e.1, e.2) ∈ g.2.1) = true ↔ decide ((e.1, e.2) ∈ h.2.1) = true)
      rw [this]
    · exact ⟨fun z => absurd (G.eb _ z).2.1 c, fun z => absurd (H.eb _ z).2.1 c⟩
  have e2 : g.2.2.2.2 = h.2.2.2.2 := by
    refine List.ext_getElem? fun j => ?_
    by_cases c : j < g.1.toNat
    · obtain ⟨x, hx, _⟩ := G.plOk (v := (j : Int)) (by omega) (by omega)
      obtain ⟨y, hy, _⟩ := H.plOk (v := (j : Int)) (by omega) (by omega)
      have := hp (j : Int) (by omega) (by omega)
      rw [pl_of (by omega) hx, pl_of (by omega) hy] at this
      rw [show ((j : Int)).toNat = j from rfl] at hx hy
      rw [hx, hy, this]
    · rw [List.getElem?_eq_none (by rw [G.pn]; omega), List.getElem?_eq_none (by rw [H.pn]; omega)]
  obtain ⟨a, b, c, d, e⟩ := g
  obtain ⟨a', b', c', d', e'⟩ := h
  simp only at hn e1 hi ho e2
  rw [hn, e1, hi, ho, e2]
/-! ### a pivot -/
theorem trn_sorted (g : Gr) (u : Int) : (trn g u).2.1.Pairwise LeP := (pairs_sorted g.1).sublist List.filter_sublist
def piv (g : Gr) (a b : Int) : Gr := trn (trn (trn g a) b) a
theorem near_near {x : Str} (h : x = "" ∨ x = "XY" ∨ x = "XZ" ∨ x = "YZ") : nearW (nearW x) = x := by rcases h with rfl | rfl | rfl | rfl <;> decide +kernel
theorem braid {x : Str} (h : x = "" ∨ x = "XY" ∨ x = "XZ" ∨ x = "YZ") : nearW (ownW (nearW x)) = ownW (nearW (ownW x)) := by rcases h with rfl | rfl | rfl | rfl <;> decide +kernel
section
variable {g : Gr} (G : Gd g) {a b : Int} (ha : a ∉ g.2.2.1) (hb : b ∉ g.2.2.1) (hab : adj g a b = true)
include G ha hb hab
theorem piv_gd : Gd (piv g a b) := trn_gd (g := trn (trn g a) b) (trn_gd (g := trn g a) (trn_gd G ha) hb) ha
theorem piv_ne : a ≠ b := fun e => by rw [e, G.adj_self] at hab; cases hab
/-- what stands at the places of the pivot -/
theorem piv_adj (x y : Int) : adj (piv g a b) x y = ((adj g x y ^^
    ((adj g a x && adj g a y && !decide (x = y)) ^^ ((adj g b x ^^ (adj g a x && !decide (b = x))) && (adj g b y ^^ (adj g a y && !decide (b = y))) && !decide (x = y)))) ^^
    ((adj g a x ^^ ((adj g b x ^^ (adj g a x && !decide (b = x))) && !decide (a = x))) && (adj g a y ^^ ((adj g b y ^^ (adj g a y && !decide (b = y))) && !decide (a = y))) && !decide (x = y))) := by
  have G1 := trn_gd G ha
  have G2 : Gd (trn (trn g a) b) := trn_gd G1 hb
  have ne := piv_ne G ha hb hab
  have hba : adj g b a = true := by rw [adj_sym]; exact hab
  unfold piv
  simp only [trn_adj G2, trn_adj G1, trn_adj G, G.adj_self, hab, hba]
  have d1 : decide (b = a) = false := decide_eq_false fun z => ne z.symm
  rw [d1]
  simp
end
theorem piv_swap_adj {g : Gr} (G : Gd g) {a b : Int} (ha : a ∉ g.2.2.1) (hb : b ∉ g.2.2.1) (hab : adj g a b = true) {x y : Int} (hxy : x < y) : adj (piv g a b) x y = adj (piv g b a) x y := by
  have hba : adj g b a = true := by rw [adj_sym]; exact hab
  have ne := piv_ne G ha hb hab
  rw [piv_adj G ha hb hab, piv_adj G hb ha hba, decide_eq_false (show ¬ x = y by omega)]
  have sa := G.adj_self a
  have sb := G.adj_self b
  by_cases xa : x = a
  · subst xa
    by_cases yb : y = b
    · subst yb
      simp [hab, hba, sa, sb, ne, Ne.symm ne]
    · rw [sa, hba, decide_eq_false ne.symm, decide_eq_false (fun z : b = y => yb z.symm), decide_eq_false (show ¬ x = y by omega)]
      cases adj g x y <;> cases adj g b y <;> simp
  · by_cases xb : x = b
    · subst xb
      by_cases ya : y = a
      · subst ya
        simp [hab, hba, sa, sb, ne, Ne.symm ne]
      · rw [sb, hab, decide_eq_false ne, decide_eq_false (fun z : a = y => ya z.symm), decide_eq_false (show ¬ x = y by omega)]
        cases adj g x y <;> cases adj g a y <;> simp
    · have x1 : decide (a = x) = false := decide_eq_false fun z => xa z.symm
      have x2 : decide (b = x) = false := decide_eq_false fun z => xb z.symm
      rw [x1, x2]
      by_cases ya : y = a
      · subst ya
        rw [sa, hba, decide_eq_false ne.symm, adj_sym g y x]
        cases adj g x y <;> cases adj g b x <;> simp
      · by_cases yb : y = b
        · subst yb
          rw [sb, hab, decide_eq_false ne, adj_sym g y x]
          cases adj g x y <;> cases adj g a x <;> simp
        · rw [decide_eq_false (fun z : a = y => ya z.symm), decide_eq_false (fun z : b = y => yb z.symm)]
          cases adj g x y <;> cases adj g a x <;> cases adj g a y <;> cases adj g b x <;> cases adj g b y <;> rfl
theorem Gd.words {g : Gr} (G : Gd g) {v : Int} (a : 0 ≤ v) (b : v < g.1) : pl g v = "" ∨ pl g v = "XY" ∨ pl g v = "XZ" ∨ pl g v = "YZ" := by
  obtain ⟨x, h1, h2⟩ := G.plOk a b
  rw [pl_of a h1]
  rcases h2 with ⟨_, h⟩ | ⟨_, _, h⟩ | ⟨_, _, _, h | h | h⟩
  · exact .inl h
  · exact .inr (.inl h)
  · exact .inr (.inl h)
  · exact .inr (.inr (.inl h))
  · exact .inr (.inr (.inr h))
theorem piv_pl {g : Gr} (G : Gd g) {a b : Int} (ha : a ∉ g.2.2.1) (hb : b ∉ g.2.2.1) (hab : adj g a b = true) {v : Int} (v0 : 0 ≤ v) (v1 : v < g.1) : pl (piv g a b) v = if v = a ∨ v = b then ownW (nearW (ownW (pl g v))) else pl g v := by
  have G1 := trn_gd G ha
  have G2 : Gd (trn (trn g a) b) := trn_gd G1 hb
  have ne := piv_ne G ha hb hab
  have hba : adj g b a = true := by rw [adj_sym]; exact hab
  have W := G.words v0 v1
  unfold piv
  rw [trn_pl G2 v0 v1]
  unfold trnW
  rw [trn_pl G1 v0 v1]
  unfold trnW
  rw [trn_pl G v0 v1]
  unfold trnW
  simp only [trn_adj G1, trn_adj G, G.adj_self, hab, hba]
  have d1 : decide (b = a) = false := decide_eq_false fun z => ne z.symm
  rw [d1]
  by_cases c : v = a
  · subst c
    simp [ne, hba, G.adj_self]
  · by_cases d : v = b
    · subst d
      simp [ne, Ne.symm ne, hab, G.adj_self]
      exact braid W
    · rw [decide_eq_false (fun z : a = v => c z.symm), decide_eq_false (fun z : b = v => d z.symm), if_neg c, if_neg c, if_neg d, if_neg (not_or.mpr ⟨c, d⟩)]
      cases adj g a v <;> cases adj g b v <;> simp [near_near W]
theorem piv_swap {g : Gr} (G : Gd g) {a b : Int} (ha : a ∉ g.2.2.1) (hb : b ∉ g.2.2.1) (hab : adj g a b = true) : piv g a b = piv g b a := by
  have hba : adj g b a = true := by rw [adj_sym]; exact hab
  refine gr_ext (piv_gd G ha hb hab) (piv_gd G hb ha hba) (trn_sorted _ _) (trn_sorted _ _) rfl rfl rfl (fun x y h => piv_swap_adj G ha hb hab h) fun v v0 v1 => ?_
  have v1 : v < g.1 := v1
  rw [piv_pl G ha hb hab v0 v1, piv_pl G hb ha hba v0 v1]
  simp only [or_comm]
theorem piv_piv {g : Gr} (G : Gd g) (hs : g.2.1.Pairwise LeP) {a b : Int} (ha : a ∉ g.2.2.1) (hb : b ∉ g.2.2.1) : piv (piv g a b) a b = g := by
  have G1 := trn_gd G ha
  have G2 : Gd (trn (trn g a) b) := trn_gd G1 hb
  unfold piv
  rw [trn_trn G2 (trn_sorted _ _) (u := a) ha, trn_trn G1 (trn_sorted _ _) (u := b) hb, trn_trn G hs ha]
theorem piv_soon {g : Gr} (G : Gd g) (hs : g.2.1.Pairwise LeP) {a b : Int} (ha : a ∉ g.2.2.1) (hb : b ∉ g.2.2.1) (a0 : 0 ≤ a) (a1 : a < g.1) (b0 : 0 ≤ b) (b1 : b < g.1) (k : Nat) (v : Int) : Soon (piv g a b) k v ↔ Soon g k v := by
  have G1 := trn_gd G ha
  have G2 : Gd (trn (trn g a) b) := trn_gd G1 hb
  unfold piv
  rw [turn_soon_iff G2 (trn_sorted _ _) (u := a) a0 a1 ha, turn_soon_iff G1 (trn_sorted _ _) (u := b) b0 b1 hb, turn_soon_iff G hs a0 a1 ha]
/-! ### a vertex dropped -/
def rho (v x : Int) : Int := x - b2i (decide (v < x))
def sig (v y : Int) : Int := if y < v then y else y + 1
theorem rho_eq (v x : Int) : rho v x = if v < x then x - 1 else x := by
  unfold rho b2i
  by_cases c : v < x
  · simp [c]
  · simp [c]
theorem rho_sig (v y : Int) : rho v (sig v y) = y := by
  rw [rho_eq]; unfold sig; split <;> split <;> omega
theorem sig_rho {v x : Int} (h : x ≠ v) : sig v (rho v x) = x := by
  rw [rho_eq]; unfold sig; split <;> split <;> omega
theorem sig_ne (v y : Int) : sig v y ≠ v := by unfold sig; split <;> omega
theorem rho_lt {v x y : Int} (hx : x ≠ v) (hy : y ≠ v) (h : x < y) : rho v x < rho v y := by
  rw [rho_eq, rho_eq]; split <;> split <;> omega
theorem sig_lt {v x y : Int} (h : x < y) : sig v x < sig v y := by
  unfold sig; split <;> split <;> omega
theorem rho_in {v x n : Int} (hv0 : 0 ≤ v) (hv1 : v < n) (hx : x ≠ v) (h0 : 0 ≤ x) (h1 : x < n) : 0 ≤ rho v x ∧ rho v x < n - 1 := by
  rw [rho_eq]; split <;> omega
theorem sig_in {v y n : Int} (hv0 : 0 ≤ v) (hv1 : v < n) (h0 : 0 ≤ y) (h1 : y < n - 1) : 0 ≤ sig v y ∧ sig v y < n := by
  unfold sig; split <;> omega
theorem row_eq {v n : Int} (hv0 : 0 ≤ v) (hv1 : v < n) : (rangeL 0 n.toNat).filter (fun x => !decide (x = v)) = (rangeL 0 (n - 1).toNat).map (sig v) := by
  refine SL.ext ((rangeL_SL _ _).filter _) ?_ fun x => ?_
  · unfold SL
    rw [List.pairwise_map]
    exact (rangeL_SL 0 (n - 1).toNat).imp fun h => sig_lt h
  · rw [List.mem_filter, List.mem_map, mem_range0]
    constructor
    · rintro ⟨⟨h0, h1⟩, h2⟩
      have h2 : x ≠ v := by simpa using h2
      have := rho_in hv0 hv1 h2 h0 h1
      exact ⟨rho v x, mem_range0.mpr this, sig_rho h2⟩
    · rintro ⟨y, hy, rfl⟩
      have hy := mem_range0.mp hy
      exact ⟨sig_in hv0 hv1 hy.1 hy.2, by simpa using sig_ne v y⟩
def drpE (g : Gr) (v : Int) : List (Int × Int) := (g.2.1.filter fun e => !decide (v ∈ [e.1, e.2])).map fun e => (rho v e.1, rho v e.2)
def drp (g : Gr) (v : Int) : Gr := (g.1 - 1, sortP (drpE g v), g.2.2.1.map (rho v), g.2.2.2.1.map (rho v), (rangeL 0 (g.1 - 1).toNat).map fun y => pl g (sig v y))
section
variable {g : Gr} (G : Gd g) {v : Int} (v0 : 0 ≤ v) (v1 : v < g.1)
include G v0 v1
theorem drp_edge {x y : Int} : (x, y) ∈ (drp g v).2.1 ↔ (sig v x, sig v y) ∈ g.2.1 := by
  show (x, y) ∈ sortP (drpE g v) ↔ _
  rw [(sortP_perm _).mem_iff]
  unfold drpE
  rw [List.mem_map]
  constructor
  · rintro ⟨e, he, h⟩
    rw [List.mem_filter] at he
    have h2 : v ≠ e.1 ∧ v ≠ e.2 := by simpa using he.2
    obtain ⟨rfl, rfl⟩ := Prod.mk.inj h
    rw [sig_rho h2.1.symm, sig_rho h2.2.symm]
    exact he.1
  · intro h
    refine ⟨_, List.mem_filter.mpr ⟨h, ?_⟩, ?_⟩
    · have a := sig_ne v x
      have b := sig_ne v y
      simp [Ne.symm a, Ne.symm b]
    · show (rho v (sig v x), rho v (sig v y)) = _
      rw [rho_sig, rho_sig]
theorem drp_adj (x y : Int) : adj (drp g v) x y = adj g (sig v x) (sig v y) := by
  rw [Bool.eq_iff_iff, mem_adj, mem_adj, drp_edge G v0 v1, drp_edge G v0 v1]
theorem drp_word {y : Int} (a : 0 ≤ y) (b : y < g.1 - 1) : (drp g v).2.2.2.2[y.toNat]? = some (pl g (sig v y)) := by
  show ((rangeL 0 (g.1 - 1).toNat).map fun y => pl g (sig v y))[y.toNat]? = _
  rw [List.getElem?_map, rangeL_at a b]; rfl
theorem drp_pl {y : Int} (a : 0 ≤ y) (b : y < g.1 - 1) : pl (drp g v) y = pl g (sig v y) := pl_of (g := drp g v) a (drp_word G v0 v1 a b)
theorem drp_mem {l : List Int} (hv : v ∉ l) {y : Int} : y ∈ l.map (rho v) ↔ sig v y ∈ l := by
  rw [List.mem_map]
  constructor
  · rintro ⟨x, hx, rfl⟩
    have ne : x ≠ v := fun e => by subst e; exact hv hx
    rw [sig_rho ne]; exact hx
  · intro h
    exact ⟨_, h, rho_sig v y⟩
theorem drp_sub {l : List Int} (hl : l.Sublist (rangeL 0 g.1.toNat)) (hv : v ∉ l) : (l.map (rho v)).Sublist (rangeL 0 (g.1 - 1).toNat) := by
  have h1 := (hl.filter fun x => !decide (x = v)).map (rho v)
  rw [row_eq v0 v1, List.map_map] at h1
  have h2 : l.filter (fun x => !decide (x = v)) = l := List.filter_eq_self.mpr fun x hx => by
    have : x ≠ v := fun e => hv (e ▸ hx)
    simpa using this
  have h3 : (rangeL 0 (g.1 - 1).toNat).map (rho v ∘ sig v) = rangeL 0 (g.1 - 1).toNat := by
    rw [List.map_congr_left (g := id) (f := rho v ∘ sig v) fun y _ => rho_sig v y, List.map_id]
  rw [h2, h3] at h1
  exact h1
theorem drp_gd (hi : v ∉ g.2.2.1) (ho : v ∉ g.2.2.2.1) : Gd (drp g v) := by
  have n0 := G.n0
  have n1 := G.n1
  have n2 := G.n2
  have nd : (drpE g v).Nodup := by
    unfold drpE List.Nodup
    rw [List.pairwise_map]
    refine (List.Pairwise.imp_of_mem fun {a b} ha hb h e => ?_) ((G.nd.sublist (List.filter_sublist (p := fun e : Int × Int => !decide (v ∈ [e.1, e.2])))))
    rw [List.mem_filter] at ha hb
    have ha2 : v ≠ a.1 ∧ v ≠ a.2 := by simpa using ha.2
    have hb2 : v ≠ b.1 ∧ v ≠ b.2 := by simpa using hb.2
    obtain ⟨e1, e2⟩ := Prod.mk.inj e
    have f1 := congrArg (sig v) e1
    have f2 := congrArg (sig v) e2
    rw [sig_rho ha2.1.symm, sig_rho hb2.1.symm] at f1
    rw [sig_rho ha2.2.symm, sig_rho hb2.2.symm] at f2
    exact h (Prod.ext f1 f2)
  refine Gd.mk' ⟨by show 0 ≤ g.1 - 1; omega, by show g.1 - 1 ≤ 64; omega, (sortP_perm _).nodup_iff.mpr nd, fun e he => ?_, ?_, drp_sub G v0 v1 G.ins hi, drp_sub G v0 v1 G.out ho⟩ (by show g.1 - 1 ≤ 30; omega) ?_ fun y a b => ⟨_, drp_word G v0 v1 a b, ?_⟩
  · have he : (e.1, e.2) ∈ (drp g v).2.1 := he
    have := G.eb _ ((drp_edge G v0 v1).mp he)
    simp only at this
    have c : sig v e.1 = e.1 ∨ sig v e.1 = e.1 + 1 := by unfold sig; split <;> omega
    have l := sig_lt (v := v) (x := e.1) (y := e.2)
    show 0 ≤ e.1 ∧ e.1 < e.2 ∧ e.2 < g.1 - 1
    unfold sig at this
    split at this <;> split at this <;> omega
  · show (sortP (drpE g v)).length ≤ 4096
    rw [(sortP_perm _).length_eq]
    unfold drpE
    rw [List.length_map]
    exact Nat.le_trans (List.length_filter_le _ _) G.el
  · show ((rangeL 0 (g.1 - 1).toNat).map _).length = _
    rw [List.length_map, rangeL_len]; rfl
  · have b : y < g.1 - 1 := b
    obtain ⟨s0, s1⟩ := sig_in v0 v1 a b
    obtain ⟨x, h1, h2⟩ := G.plOk s0 s1
    rw [pl_of s0 h1]
    show PlOk true (g.2.2.2.1.map (rho v)) (g.2.2.1.map (rho v)) y x
    unfold PlOk at h2 ⊢
    rw [drp_mem G v0 v1 ho, drp_mem G v0 v1 hi]
    exact h2
theorem drp_soon (hi : v ∉ g.2.2.1) (ho : v ∉ g.2.2.2.1) (hy : pl g v = "YZ") : ∀ {k : Nat} {y : Int}, Soon g k (sig v y) → Soon (drp g v) k y
  | 0, y, h => (drp_mem G v0 v1 ho).mpr h
  | k + 1, y, h => by
    have IH : ∀ {x : Int}, Soon g k (sig v x) → Soon (drp g v) k x := fun h => drp_soon hi ho hy h
    by_cases hk : Soon g k (sig v y)
    · exact .inl (IH hk)
    · rcases h with h | ⟨w0, w1, S, sl, wi, D⟩
      · exact absurd h hk
      · have G' := drp_gd G v0 v1 hi ho
        have win : ∀ {a b : List Int}, Within a g.1 → Within b g.1 → Within (sumS a b) g.1 := fun {a b} ha hb x hx => by
          have := mem_sumS.mp hx
          by_cases c : x ∈ a
          · exact ha x c
          · exact hb x (Classical.byContradiction fun z => this (by rw [eq_false c, eq_false z]))
        have key : ∃ S, SL S ∧ Within S g.1 ∧ v ∉ S ∧ Does g (sig v y) S (Soon g k) := by
          by_cases hv : v ∈ S
          · have kv : Soon g k v := by
              rcases D.lat v hv with z | z
              · exact absurd z.symm (sig_ne v y)
              · exact z
            obtain ⟨j, hj, hm⟩ := least (p := fun j => Soon g j v) k kv
            cases j with
            | zero => exact absurd hj ho
            | succ j =>
              have jk := hm k kv
              rcases hj with hj | ⟨_, _, Sv, s1, s2, D2⟩
              · have := hm j hj; omega
              · obtain ⟨a, b, c, d, e⟩ := (does_par G).mp D
                obtain ⟨a2, b2, c2, d2, e2⟩ := (does_par G).mp D2
                have up : ∀ {x}, Soon g j x → Soon g k x := fun h => Soon.up h (by omega)
                have hvS : v ∈ Sv := by
                  unfold nee at b2
                  rw [hy] at b2
                  have : (memB ("YZ" : Str) [("XZ" : Str), ("YZ" : Str)]) = true := by decide +kernel
                  rw [this] at b2
                  exact of_decide_eq_true b2
                have hn : sig v y ∉ Sv := fun z => by
                  rcases d2 _ z with q | q
                  · exact sig_ne v y q
                  · exact hk (up q)
                have hx : xs (adj g (sig v y)) Sv = false := by
                  rw [Bool.eq_false_iff]
                  intro z
                  rcases e2 _ z with q | q
                  · exact sig_ne v y q
                  · exact hk (up q)
                refine ⟨sumS S Sv, sumS_SL sl s1, win wi s2, fun z => ?_, (does_par G).mpr ⟨fun x hx => ?_, ?_, ?_, fun x hx => ?_, fun x hx => ?_⟩⟩
                · have := mem_sumS.mp z
                  exact this (by rw [eq_true hv, eq_true hvS])
                · by_cases c : x ∈ S
                  · exact a x c
                  · exact a2 x (Classical.byContradiction fun z => mem_sumS.mp hx (by rw [eq_false c, eq_false z]))
                · rw [dec_sum, decide_eq_false hn, b]; simp
                · rw [xs_sum sl.nodup s1.nodup, hx, c]; simp
                · by_cases c : x ∈ S
                  · exact d x c
                  · rcases d2 x (Classical.byContradiction fun z => mem_sumS.mp hx (by rw [eq_false c, eq_false z])) with q | q
                    · exact .inr (q ▸ kv)
                    · exact .inr (up q)
                · rw [xs_sum sl.nodup s1.nodup] at hx
                  cases q : xs (adj g x) S with
                  | true => exact e x q
                  | false =>
                    rw [q, Bool.false_xor] at hx
                    rcases e2 x hx with r | r
                    · exact .inr (r ▸ kv)
                    · exact .inr (up r)
          · exact ⟨S, sl, wi, hv, D⟩
        obtain ⟨S, sl, wi, hv, D⟩ := key
        obtain ⟨a, b, c, d, e⟩ := (does_par G).mp D
        have yin : 0 ≤ y ∧ y < g.1 - 1 := by
          have := rho_in v0 v1 (sig_ne v y) w0 w1
          rw [rho_sig] at this
          exact this
        have xm : ∀ x, xs (adj (drp g v) x) (S.map (rho v)) = xs (adj g (sig v x)) S := fun x => by
          rw [xs_map]
          exact xs_congr fun s hs => by
            have ne : s ≠ v := fun e => by subst e; exact hv hs
            rw [drp_adj G v0 v1, sig_rho ne]
        refine .inr ⟨yin.1, yin.2, S.map (rho v), ?_, fun x hx => ?_, (does_par G').mpr ⟨fun x hx => ?_, ?_, ?_, fun x hx => ?_, fun x hx => ?_⟩⟩
        · unfold SL
          rw [List.pairwise_map]
          exact List.Pairwise.imp_of_mem (fun {a b} ha hb h => rho_lt (fun e => hv (e ▸ ha)) (fun e => hv (e ▸ hb)) h) sl
        · obtain ⟨s, hs, rfl⟩ := List.mem_map.mp hx
          have := wi s hs
          exact rho_in v0 v1 (fun e => hv (e ▸ hs)) this.1 this.2
        · show x ∉ g.2.2.1.map (rho v)
          rw [drp_mem G v0 v1 hi]
          exact a _ ((drp_mem G v0 v1 hv).mp hx)
        · have : decide (y ∈ S.map (rho v)) = decide (sig v y ∈ S) := by
            rw [Bool.eq_iff_iff, decide_eq_true_eq, decide_eq_true_eq]
            exact drp_mem G v0 v1 hv
          rw [this, b]
          unfold nee
          rw [drp_pl G v0 v1 yin.1 yin.2]
        · rw [xm, c]
          unfold odn
          rw [drp_pl G v0 v1 yin.1 yin.2]
        · have := d _ ((drp_mem G v0 v1 hv).mp hx)
          rcases this with q | q
          · left
            have := congrArg (rho v) q
            rwa [rho_sig, rho_sig] at this
          · exact .inr (IH q)
        · rw [xm] at hx
          rcases e _ hx with q | q
          · left
            have := congrArg (rho v) q
            rwa [rho_sig, rho_sig] at this
          · exact .inr (IH q)
theorem drp_flow (hi : v ∉ g.2.2.1) (ho : v ∉ g.2.2.2.1) (hy : pl g v = "YZ") (h : HasFlow g) : HasFlow (drp g v) := by
  obtain ⟨k, hk⟩ := h
  refine ⟨k, fun y a b => drp_soon G v0 v1 hi ho hy ?_⟩
  have := sig_in v0 v1 a b
  exact hk _ this.1 this.2
end
theorem idxI_of : ∀ {l : List Int} {x : Int} {j : Nat}, l.Nodup → l[j]? = some x → idxI l x = some j
  | [], x, j, _, h => by cases h
  | y :: l, x, 0, _, h => by
    unfold idxI
    have : y = x := by simpa using h
    rw [if_pos this]
  | y :: l, x, j + 1, nd, h => by
    have h : l[j]? = some x := by simpa using h
    have nd := List.nodup_cons.mp nd
    have ne : y ≠ x := fun e => nd.1 (e ▸ List.mem_of_getElem? h)
    unfold idxI
    rw [if_neg ne, idxI_of nd.2 h]; rfl
theorem idxI_row {v n x : Int} (v0 : 0 ≤ v) (v1 : v < n) (hx : x ≠ v) (x0 : 0 ≤ x) (x1 : x < n) : idxI ((rangeL 0 n.toNat).filter fun x => !decide (x = v)) x = some (rho v x).toNat := by
  refine idxI_of (((rangeL_SL _ _).filter _).nodup) ?_
  have := rho_in v0 v1 hx x0 x1
  rw [row_eq v0 v1, List.getElem?_map, rangeL_at this.1 this.2]
  show some (sig v (rho v x)) = _
  rw [sig_rho hx]
end Ab
namespace Ab
open PySem PySem.Spec PyProof.Rows L2
/-! ### zip of two tuples -/
theorem pair_newV {K : KF} {H Hf : Hp} {T : Addr} {x y : V} {α β : Type} {E : α → D} {F : β → D} {a : α} {b : β} (n : H T = none) (sb : Sub Hf H) (r : Rp K Hf x (E a)) (q : Rp K Hf y (F b)) :
    Ext H Hf (upd H T (.tup [x, y])) (upd Hf T (.tup [x, y])) ∧ Sub (upd Hf T (.tup [x, y])) (upd H T (.tup [x, y])) ∧ Rp K (upd Hf T (.tup [x, y])) (.ref T) (Ty.p2 E F (a, b)) := by
  have ex := Ext.new (o := .tup [x, y]) n sb
  exact ⟨ex, Sub.new sb, .tup (.inl (.inl upd_same)) (by show 2 ≤ 16777216; decide) (.cons (r.up ex.grow) (.one (q.up ex.grow)))⟩
theorem walks_zipT {K : KF} {α β : Type} {E : α → D} {F : β → D} {a b : Addr} {xs : List α} {ys : List β} {vs ws : List V} {Hf : Hp} (h' : SqT K Hf a vs) (h2 : SqT K Hf b ws) (r : RpAll K Hf vs (xs.map E)) (q : RpAll K Hf ws (ys.map F)) (hz : xs.length ≤ Line) : Walks K (RZ.ItzT K a b) (xs.zip ys) (Ty.p2 E F) Hf where
  go := fun i H' Hf' e1 e2 hi => by
    have l1 := r.len
    have l2 := q.len
    rw [List.length_map] at l1 l2
    rw [List.length_zip] at hi
    exact ⟨vs, ws, vs[i]'(by omega), ws[i]'(by omega), (e1.trans e2).tup h', (e1.trans e2).tup h2, by rw [List.getElem?_eq_getElem], by rw [List.getElem?_eq_getElem]⟩
  stop := fun i H' Hf' e1 e2 hi => by
    have l1 := r.len
    have l2 := q.len
    rw [List.length_map] at l1 l2
    rw [List.length_zip] at hi
    exact ⟨vs, ws, (e1.trans e2).tup h', (e1.trans e2).tup h2, by omega⟩
  yld := fun i p v H' H3 Hf' e1 e2 hx hy => by
    obtain ⟨T, x, y, rfl, nT, rfl, f, g⟩ := hy
    obtain ⟨p1, p2⟩ := List.getElem?_zip_eq_some.mp hx
    obtain ⟨d, hd, rd⟩ := r.getV (f vs ((e1.trans e2).tup h'))
    obtain ⟨d2, hd2, rd2⟩ := q.getV (g ws ((e1.trans e2).tup h2))
    rw [List.getElem?_map, p1] at hd
    rw [List.getElem?_map, p2] at hd2
    cases hd
    cases hd2
    obtain ⟨q1, q2, q3⟩ := pair_newV (a := p.1) (b := p.2) nT e2 (rd.up e1) (rd2.up e1)
    exact ⟨_, q1, q2, q3⟩
  size := by rw [List.length_zip]; omega
section
variable {X : Cx} {S : Type} {ι : Io S} {Δ : Dl} {s : S} {R : Type} {pos p tpos : Pos} {a b c e : Expr} {elts : List Expr} {kk : Nat}
variable {α β : Type} {E : α → D} {F : β → D}
theorem it_zipT {Ma : (List α → S → Option R) → Option R} {Mb : S → (List β → S → Option R) → Option R} (hm : X.mg "zip" = none) (ha : EX X ι Δ s a Ma (Ty.tup E)) (hb : ∀ s1, EX X ι Δ s1 b (Mb s1) (Ty.tup F)) (hg : Gl X "zip" := by rfl)
    (hs : starEach [a, b] X.env = (false, eval a X.env) :: starEach [b] X.env := by rfl) (hs2 : starEach [b] X.env = (false, eval b X.env) :: starEach [] X.env := by rfl) (hpl : (backTo pos (starEach [b] X.env)).any (·.1) = false := by rfl) :
    IX X ι Δ s (.Tuple elts kk tpos) (.Call (.Name "zip" p) [a, b] [] pos) (fun k => Ma fun xs s1 => Mb s1 fun ys s2 => k (xs.zip ys) s2) (Ty.p2 E F) := by
  intro k r hk σ H Hf A Rr st q
  refine tI_of (RZ.pi_zipA hg hm (pA X [a, b]) hs hpl) ?_
  refine ax_cons ha (fun s1 => ax_cons (hb s1) (fun s2 => ax_nil) hs2) hs (fun p s' => k (p.1.zip p.2.1) s') r hk σ H Hf A _ st fun x s1 hx vs H1 Hf1 st1 e1 r1 => ?_
  cases r1 with
  | cons rv r1 =>
    obtain ⟨v2, rfl, rw2⟩ := one_arg r1
    cases rv with
    | @tup ad us _ h1 hz ra =>
      cases rw2 with
      | @tup bd ws _ h2 hz2 rb =>
        have hl := ra.len
        rw [List.length_map] at hl
        exact ⟨ad, bd, us, ws, rfl, .inr ⟨st1.sub.tup h1, st1.sub.tup h2, q _ s1 hx _ H1 Hf1 st1 e1 (walks_zipT h1 h2 ra rb (by rw [← hl]; exact hz))⟩⟩
end
/-! ### tuples that are known to have no dict of their own -/
namespace Ty
abbrev tupN {α : Type} (E : α → D) : List α → D := fun l => .dict [(.none, .tuple (l.map E))]
end Ty
theorem Rp.ofN {K : KF} {H : Hp} {v : V} {α : Type} {E : α → D} {l : List α} (r : Rp K H v (Ty.tupN E l)) : ∃ (a : Addr) (xs : List V) (o : Obj), v = .ref a ∧ H a = some (.frz o (.tup xs)) ∧ o.dict = none ∧ xs.length ≤ Line ∧ RpAll K H xs (l.map E) := by
  have r : Rp K H v (.dict [(PyData.none, PyData.tuple (l.map E))]) := r
  generalize hd : [(PyData.none, PyData.tuple (l.map E))] = m at r
  cases r with
  | dct h ra =>
    cases ra with
    | nil => cases hd
    | @cons k _ _ _ _ _ _ =>
      have h2 := (Prod.mk.inj (List.cons.inj hd).1).1
      cases k with
      | inl i => cases h2
      | inr i => cases h2
  | tupN h d z ra =>
    have h2 := (Prod.mk.inj (List.cons.inj hd).1).2
    cases h2
    exact ⟨_, _, _, rfl, h, d, z, ra⟩
def decTN {α : Type} (da : D → Option α) : D → Option (List α)
  | .dict [(.none, .tuple ds)] => decAll da ds
  | _ => none
theorem decTN_ok {α : Type} {da : D → Option α} {E : α → D} (h : DecOk da E) : DecOk (decTN da) (Ty.tupN E) := fun d a e => by
  unfold decTN at e
  split at e
  · show PyData.dict [(.none, .tuple (a.map E))] = _
    rw [decAll_ok h _ _ e]
  · cases e
theorem decTN_to {α : Type} {da : D → Option α} {E : α → D} (h : DecTo da E) : DecTo (decTN da) (Ty.tupN E) := fun a => decAll_to h a
section
variable {X : Cx} {S : Type} {ι : Io S} {Δ : Dl} {s : S} {R : Type} {pos apos : Pos} {a b e : Expr} {α : Type} {E : α → D} {M : (List α → S → Option R) → Option R}
theorem ex_ofN (h : EX X ι Δ s e M (Ty.tupN E)) : EX X ι Δ s e M (Ty.tup E) := fun k r hk σ H Hf A Q st q => h k r hk σ H Hf A Q st fun x s1 hx v H1 Hf1 st1 e1 r1 => q x s1 hx v H1 Hf1 st1 e1 (by
  obtain ⟨a, xs, o, rfl, h1, _, hz, ra⟩ := Rp.ofN r1
  exact .tup (.inl (.inr ⟨o, h1⟩)) hz ra)
theorem en_ofN (h : EX X ι Δ s e M (Ty.tupN E)) : EN X ι Δ s e M E := fun k r hk σ H Hf A Q st q => h k r hk σ H Hf A Q st fun x s1 hx v H1 Hf1 st1 e1 r1 => q x s1 hx v H1 Hf1 st1 e1 (by
  obtain ⟨a, xs, o, rfl, h1, h2, hz, ra⟩ := Rp.ofN r1
  exact ⟨rfl, a, xs, o, rfl, h1, h2, hz, ra⟩)
theorem ex_toN (h : EN X ι Δ s e M E) : EX X ι Δ s e M (Ty.tupN E) := fun k r hk σ H Hf A Q st q => h k r hk σ H Hf A Q st fun x s1 hx v H1 Hf1 st1 e1 r1 => q x s1 hx v H1 Hf1 st1 e1 (by
  obtain ⟨_, a, xs, o, rfl, h1, h2, hz, ra⟩ := r1
  exact .tupN h1 h2 hz ra)
theorem ex_tupIxN {Ml : (List Int → S → Option R) → Option R} {Mi : S → (Int → S → Option R) → Option R} (ha : EX X ι Δ s a Ml (Ty.tupN Ty.int)) (hb : ∀ s1, EX X ι Δ s1 b (Mi s1) Ty.int) (he : starEach [b] X.env = (false, eval b X.env) :: starEach [] X.env := by rfl)
    (hpb : ∀ {t : TA} {to : TE} {r : V → List V → Hp → VK → Prop}, MtR X "tuple.index" r → PE X a to → PA X [b] t → PE X (.Call (.Attribute a "index" apos) [b] [] pos) (fun σ H Q => to σ H fun x H1 => (∃ ad ob ys, x = .ref ad ∧ H1 ad = some (.frz ob (.tup ys)) ∧ ob.dict = none) ∧ t σ H1 fun xs H2 => r x xs H2 Q) := by
      intro _ _ _ hm ho ha; exact pe_tm hm ho ha) :
    EX X ι Δ s (.Call (.Attribute a "index" apos) [b] [] pos) (fun k => Ml fun l s1 => Mi s1 fun x s2 => (idxI l x).bind fun j => k (j : Int) s2) Ty.int := ex_tupIx (en_ofN ha) hb he hpb
theorem ex_tupleN {p : Pos} (hm : X.mg "tuple" = none) (ha : EX X ι Δ s a M (Ty.tupN E)) (hgl : Gl X "tuple" := by rfl) (he : starEach [a] X.env = (false, eval a X.env) :: starEach [] X.env := by rfl) :
    EX X ι Δ s (.Call (.Name "tuple" p) [a] [] pos) (fun k => M fun y s1 => k y s1) (Ty.tupN E) := by
  refine ex_callT1T (g := fun y => y) call_tuple_of hm Bo.tuple (fun y v H Hf Q sb rv q => ?_) ha hgl (by decide) (by decide) he rfl
  obtain ⟨p, vs, o, rfl, h1, h2, hz, ra⟩ := Rp.ofN rv
  exact ⟨p, vs, rfl, .inr ⟨sb.tup (.inl (.inr ⟨o, h1⟩)), q _ H Hf (Ext.refl _ _) sb rv⟩⟩
end
end Ab
namespace Ab
open PySem PySem.Spec PyProof.Rows L2
/-! ### exceptions with two fields, rule and index -/
/-- a wish that takes what X takes -/
def WF (X : Cx) : L2.WX := fun c d σ H => ∃ dx, d = some dx ∧ Fly X c dx σ H
theorem takesF (X : Cx) : Takes X (WF X) := fly_takes X
/-- the fields of such an exception -/
abbrev ruleF (r : Str) (i : Int) : List (Str × D) := [("index", .int i), ("rule", .str r)]
abbrev Er := Str × Int
abbrev fer (e : Er) : List (Str × D) := ruleF e.1 e.2
/-- a def that may raise: what it gives, or the exception's fields -/
def spE (K : KF) {P C : Type} (argE : P → List D) (cl : Value) (f : P → Option (Except Er C)) (E : C → D) : Sp := fun vs H Q Ex =>
  ∃ (p : P) (r : Except Er C) (Hf : Hp), Sub Hf H ∧ RpAll K Hf vs (argE p) ∧ f p = some r ∧ match r with
    | .ok c => ∀ v H' Hf', Sub Hf' H' → Ext H Hf H' Hf' → Rp K Hf' v (E c) → Q v H'
    | .error e => ∀ dx H' Hf', Sub Hf' H' → Ext H Hf H' Hf' → ExD K (fer e) Hf' dx → Ex cl (some dx) H'
@[reducible] def outE {C : Type} (cl : Value) (fin : C → Out Unit) : Except Er C → Out Unit
  | .ok c => fin c
  | .error e => .exc cl (fer e) ()
section
variable {Pg : Program} {w : World} {K : KF} {mg : Str → Option Value} {base : Heap}
theorem fn_pureE {x qual : Str} {st : Stmt} {f : Addr} {fd : FuncData} {N ps : List Str} {k : Nat} {P C : Type} {argE : P → List D} {cl : Value} {g : P → Option (Except Er C)} {E : C → D} {fin : C → Out Unit} (F : Fun K x qual st f fd) (S : FnScope N ps (defScope st))
    (len : ∀ p, (argE p).length = ps.length) (hf : ∀ c, fin c = .ret (E c) () ∨ (fin c = .next [] () ∧ E c = .none))
    (body : ∀ (p : P) (cdv : Value) (A : Around) (outer : List Env) (s : Shared) (H : Hp) (E' : XK), Room k (A.deeper (envOfC qual (defScope st) s.heap.objs.size f cdv)) →
      BX (cxOf (L2.CX Pg w) Pg w K mg base N qual (defScope st) f cdv A outer s H E') io0 (argD 0 (argE p)) () (defBody st) (g p) (outE cl fin)) :
    FnOk Pg w K mg base (L2.CX Pg w) (k + 1) f fd ps (spE K argE cl g E) := by
  obtain ⟨oc, od, kV, doc, pm, an, cdv, ct, osl, rfl, lk, hcd⟩ := F.ex
  refine fn_of lk hcd S (fun vs H Q E' h => ?_) fun A outer s H vs Q E' hr h => ?_
  · obtain ⟨p, c, Hf, _, r, _⟩ := h
    rw [r.len, len p]
  · obtain ⟨p, c, Hf, sb, r, hc, q⟩ := h
    refine ⟨_, pS _ _, ?_⟩
    refine body p cdv A outer s H E' hr c hc _ H Hf (fun _ => []) _ (start_sat sb r) ?_
    have ext : ∀ {σ' : L2.St} {H' Hf' : Hp} {A' : Nat → List Addr}, Stp io0.ix (L2.start N vs) (fun _ => []) H Hf σ' A' H' Hf' → Ext H Hf H' Hf' := fun {σ' H' Hf' A'} h2 => by
      refine ⟨fun a o e => h2.keep a o (fun i hi => by simp at hi) e, h2.grow, fun a ha => ?_⟩
      rcases h2.news a ha with z | z | ⟨i, _, z⟩
      · exact .inl z
      · exact .inr z
      · simp at z
    cases c with
    | ok c =>
      show Post _ _ _ _ _ _ _ (fin c)
      rcases hf c with e | ⟨e, en⟩
      · rw [e]
        exact fun v σ' H' Hf' A' h1 h2 h3 => q v H' Hf' h1.sub (ext h2) h3
      · rw [e]
        exact fun σ' H' Hf' A' h1 h2 => q .non H' Hf' h1.sub (ext h2) (by rw [en]; exact .non)
    | error e =>
      intro dx σ' H' Hf' A' h1 h2 h3 u s' xx
      refine takes_of (X := cxOf (L2.CX Pg w) Pg w K mg base N qual (defScope st) f cdv A outer s H E') (E := E') rfl rfl rfl rfl u s' ?_
      obtain ⟨a, B, sI, pins, σ, H2, cls, d, eu, I, nb, up, sky, na, os, ag, rfl, rfl, rfl, rfl⟩ := xx
      exact ⟨a, B, sI, pins, _, _, _, _, eu, I, nb, up, sky, na, os, ag, q dx _ Hf' h1.sub (ext h2) h3⟩
end
/-- what the __init__ of such a class does -/
def spI (C : Addr) : Sp := fun vs H Q _ => ∃ a v1 v2, vs = [V.ref a, v1, v2] ∧ H a = some (exo a C none) ∧ ∀ dx, H dx = none → dx ≠ a →
  Q .non (upd (upd (upd H dx (exd dx [("rule", v1)])) a (exo a C (some dx))) dx (exd dx [("index", v2), ("rule", v1)]))
section
variable {X : Cx} {S : Type} {ι : Io S} {Δ : Dl} {s : S} {R : Type} {out : R → Out S} {rest : List Stmt} {pos pos' p : Pos} {k : Nat}
theorem bx_raise {cn : Str} {C fI : Addr} {fd : FuncData} {ps : List Str} {a b : Expr} {P : Type} {G : P → List D} {M : (P → S → Option R) → Option R} {kk : P → S → R} {ge : P → Er} (hc : X.calm = true) (T : OexC X.K C)
    (iC : PySem.W.findIn X.K (.ref C) "__init__" = some (some (.ref fI))) (tI : PySem.W.typeIn X.K (.ref fI) = some (.type "function"))
    (F1 : FnOk X.prog X.w X.K X.mg X.base CX0 k fI fd ps (spI C)) (hr : Room (k + 1) X.A) (hb : Binds X.K fd ps []) (hm : X.mg cn = some (.ref C)) (ha : AX X ι Δ s [a, b] M G)
    (hG : ∀ x, G x = [.str (ge x).1, .int (ge x).2] := by intro _; rfl) (ho : ∀ x s', out (kk x s') = .exc (.ref C) (fer (ge x)) s' := by intro _ _; rfl)
    (hg : Gl X cn := by rfl) (hdb : (cn == ("__debug__" : Str)) = false := by decide) (he : starEach [a, b] X.env = (false, eval a X.env) :: starEach [b] X.env := by rfl) (hpl : (backTo pos (starEach [b] X.env)).any (·.1) = false := by rfl) :
    BX X ι Δ s (.Raise (some (.Call (.Name cn p) [a, b] [] pos)) none pos' :: rest) (M fun x s' => some (kk x s')) out := by
  intro r hr' σ H Hf A Dn st q
  refine tS_cons (ps_raise hc (takesF X) (pmk_oex T iC tI F1 hr hb .nil pass0 hg hm (pA X [a, b]) hdb he hpl)) ?_
  refine ha _ r hr' σ H Hf A _ st fun x s1 hx vs H1 Hf1 st1 e1 r1 => ?_
  have er := Option.some.inj hx
  subst er
  rw [ho] at q
  rw [hG] at r1
  obtain ⟨v1, v2, rfl, q1, q2⟩ : ∃ v1 v2, vs = [v1, v2] ∧ Rp X.K Hf1 v1 (.str (ge x).1) ∧ Rp X.K Hf1 v2 (.int (ge x).2) := by
    cases r1 with
    | cons h1 t =>
      cases t with
      | cons h2 t => cases t; exact ⟨_, _, rfl, h1, h2⟩
  refine ⟨by show 2 ≤ 1000; decide, fun aa na => ⟨aa, v1, v2, rfl, upd_same, fun dx ndx ne => ⟨rfl, dx, _, ?_, upd_same, ?_, dx, rfl, ?_⟩⟩⟩
  · rw [upd_ne (Ne.symm ne), upd_same]
  · rw [upd_ne ne] at ndx; exact ndx
  · have nd : H1 dx = none := by rw [upd_ne ne] at ndx; exact ndx
    have eH : upd (del (upd (upd (upd (upd H1 aa (exo aa C none)) dx (exd dx [("rule", v1)])) aa (exo aa C (some dx))) dx (exd dx [("index", v2), ("rule", v1)])) aa) dx (.xd [("index", v2), ("rule", v1)]) = upd H1 dx (.xd [("index", v2), ("rule", v1)]) := by
      funext b
      by_cases hb : b = dx
      · subst hb; rw [upd_same, upd_same]
      · rw [upd_ne hb, upd_ne hb]
        by_cases ha : b = aa
        · subst ha; rw [del_same, na]
        · rw [del_ne ha, upd_ne hb, upd_ne ha, upd_ne hb, upd_ne ha]
    rw [eH]
    have ex := Ext.new (o := .xd [("index", v2), ("rule", v1)]) nd st1.sub
    have sb := Sub.new (o := .xd [("index", v2), ("rule", v1)]) (p := dx) st1.sub
    have st2 := st1.up ex sb
    refine q dx σ _ _ A (st2.weak fun i T hi => by
      have m : i ∈ (ι.tr s1).map (·.1) := by
        apply Classical.byContradiction
        intro m
        have q : lk (ι.tr s1 ++ []) i = lk [] i := lk_append_out m
        rw [List.append_nil, hi] at q
        cases q
      have q := lk_append_in (Δ := []) (Δ' := Δ) m
      rw [List.append_nil] at q
      rw [← q]; exact hi) ((e1.trans ex.toA).stp ι.ix σ) ⟨_, upd_same, fun n d hd => ?_⟩
    by_cases c1 : n = "index"
    · subst c1
      simp [ruleF, List.lookup] at hd
      subst hd
      exact ⟨v2, by simp [List.lookup], q2.up ex.grow⟩
    · have c1' : (n == ("index" : Str)) = false := by simpa using c1
      by_cases c2 : n = "rule"
      · subst c2
        simp [ruleF, List.lookup, c1'] at hd
        subst hd
        exact ⟨v1, by simp [List.lookup, c1'], q1.up ex.grow⟩
      · have c2' : (n == ("rule" : Str)) = false := by simpa using c2
        simp [ruleF, List.lookup, c1', c2'] at hd
/-- a state of the slots and the heap where more is known than that of ι.tr s alone -/
theorem sat_tr {K : KF} {σ : L2.St} {H Hf : Hp} {A : Nat → List Addr} {s1 : S} (st : Sat K σ H Hf (ι.tr s1 ++ Δ) A) : Sat K σ H Hf (ι.tr s1) A := st.weak fun i T hi => by
  have m : i ∈ (ι.tr s1).map (·.1) := by
    apply Classical.byContradiction
    intro m
    have q : lk (ι.tr s1 ++ []) i = lk [] i := lk_append_out m
    rw [List.append_nil, hi] at q
    cases q
  have q := lk_append_in (Δ := []) (Δ' := Δ) m
  rw [List.append_nil] at q
  rw [← q]; exact hi
/-- a call of a def that may raise, its value dropped -/
theorem bx_doE {x : Str} {f : Addr} {fd : FuncData} {ps : List Str} {P C : Type} {argE : P → List D} {cl : Value} {g : P → Option (Except Er C)} {E : C → D} {es : List Expr} {M : (P → S → Option R) → Option R} {e1 : Expr} {kk : P → S → C → Option R} {em : Er → S → R}
    (F : FnOk X.prog X.w X.K X.mg X.base (L2.CX X.prog X.w) k f fd ps (spE X.K argE cl g E)) (hr : Room k X.A) (hm : X.mg x = some (.ref f)) (hk : PySem.W.keepIn X.K (.ref f) = true) (hb : Binds X.K fd ps [])
    (ha : AX X ι Δ s (e1 :: es) M argE) (hK : ∀ y s1 c, BX X ι Δ s1 rest (kk y s1 c) out) (ho : ∀ e s', out (em e s') = .exc cl (fer e) s' := by intro _ _; rfl)
    (hg : Gl X x := by rfl) (hdb : (x == ("__debug__" : Str)) = false := by decide) (he : starEach (e1 :: es) X.env = (false, eval e1 X.env) :: starEach es X.env := by rfl) (hpl : (backTo pos (starEach es X.env)).any (·.1) = false := by rfl)
    (hs : swapsWith (.Call (.Name x p) (e1 :: es) [] pos) none pos'.line X.env = pure false := by rfl) :
    BX X ι Δ s (.Expr (.Call (.Name x p) (e1 :: es) [] pos) pos' :: rest) (M fun y s1 => (g y).bind fun z => match z with | .ok c => kk y s1 c | .error e => some (em e s1)) out := by
  intro r hr' σ H Hf A Dn st q
  refine tS_cons (ps_expr (pe_callS (E := WE (WF X)) F hr hg hm hk hb (fun σ => passAt (takesF X) σ) (pA X _) hdb he hpl) hs) ?_
  refine ha _ r hr' σ H Hf A _ st fun y s1 hx vs H1 Hf1 st1 e1 r1 => ?_
  obtain ⟨z, h1, h2⟩ := bind_some hx
  refine ⟨y, z, Hf1, st1.sub, r1, h1, ?_⟩
  cases z with
  | ok c => exact fun v H2 Hf2 sb ex rv => hK y s1 c r h2 σ H2 Hf2 A Dn (st1.up ex sb) (q.step ((e1.trans ex.toA).stp ι.ix σ))
  | error e =>
    have er := Option.some.inj h2
    subst er
    rw [ho] at q
    exact fun dx H2 Hf2 sb ex xd => ⟨dx, rfl, q dx σ H2 Hf2 A (sat_tr (st1.up ex sb)) ((e1.trans ex.toA).stp ι.ix σ) xd⟩
/-- x = f(..), f a def that may raise -/
theorem bx_setE (i : Nat) {x : Str} {n : Str} {p0 : Pos} {f : Addr} {fd : FuncData} {ps : List Str} {P C : Type} {argE : P → List D} {cl : Value} {g : P → Option (Except Er C)} {E : C → D} {es : List Expr} {M : (P → S → Option R) → Option R} {e1 : Expr} {kk : P → S → C → Option R} {em : Er → S → R}
    (F : FnOk X.prog X.w X.K X.mg X.base (L2.CX X.prog X.w) k f fd ps (spE X.K argE cl g E)) (hr : Room k X.A) (hm : X.mg x = some (.ref f)) (hk : PySem.W.keepIn X.K (.ref f) = true) (hb : Binds X.K fd ps [])
    (hN : X.N.Nodup) (ha : AX X ι Δ s (e1 :: es) M argE) (hK : ∀ y s1 c, BX X ι ((i, some (.imm (E c))) :: Δ) s1 rest (kk y s1 c) out) (ho : ∀ e s', out (em e s') = .exc cl (fer e) s' := by intro _ _; rfl)
    (hi : X.N[i]? = some n := by rfl) (hx : Loc X.env.scope n := by first | exact Or.inl rfl | exact Or.inr rfl)
    (hg : Gl X x := by rfl) (hdb : (x == ("__debug__" : Str)) = false := by decide) (he : starEach (e1 :: es) X.env = (false, eval e1 X.env) :: starEach es X.env := by rfl) (hpl : (backTo pos (starEach es X.env)).any (·.1) = false := by rfl)
    (hs : swapsWith (.Call (.Name x p) (e1 :: es) [] pos) (some (.Name n p0)) pos'.line X.env = pure false := by rfl) (hf : X.fn n = true ∨ X.env.scope.names.lookup n = some .local := by first | exact .inl rfl | exact .inr rfl) (hix : i ∉ ι.ix := by first | decide | exact of_decide_eq_true rfl) :
    BX X ι Δ s (.Assign [.Name n p0] (.Call (.Name x p) (e1 :: es) [] pos) pos' :: rest) (M fun y s1 => (g y).bind fun z => match z with | .ok c => kk y s1 c | .error e => some (em e s1)) out := by
  intro r hr' σ H Hf A Dn st q
  refine tS_inv fun pins sh I => tS_cons (ps_set hN hi hx (pe_callS (E := WE (WF X)) F hr hg hm hk hb (fun σ => passAt (takesF X) σ) (pA X _) hdb he hpl) hs hf) ?_
  have hlen : i < σ.length := by rw [I.len]; exact (List.getElem?_eq_some_iff.mp hi).1
  refine ha _ r hr' σ H Hf A _ st fun y s1 hx vs H1 Hf1 st1 e1 r1 => ?_
  obtain ⟨z, h1, h2⟩ := bind_some hx
  refine ⟨y, z, Hf1, st1.sub, r1, h1, ?_⟩
  cases z with
  | ok c => exact fun v H2 Hf2 sb ex rv => hK y s1 c r h2 _ H2 Hf2 _ Dn ((st1.up ex sb).imm (P := ι.tr s1) hlen (by rw [ι.keys]; exact hix) rv) (q.step (((e1.trans ex.toA).stp ι.ix σ).trans (stp_cut hix)))
  | error e =>
    have er := Option.some.inj h2
    subst er
    rw [ho] at q
    exact fun dx H2 Hf2 sb ex xd => ⟨dx, rfl, q dx σ H2 Hf2 A (sat_tr (st1.up ex sb)) ((e1.trans ex.toA).stp ι.ix σ) xd⟩
end
/-! ### the __init__ of a class with the fields rule and index -/
section
variable {P : Program} {w : World} {K : KF} {mg : Str → Option Value} {base : Heap} {x qual : Str} {st : Stmt} {f cc D C : Addr} {fd : FuncData} {k : Nat}
theorem init_ri {p0 p1 p2 p3 p4 q0 a1 a2 a3 a4 b1 b2 b3 b4 : Pos} {ar : Arg} (F : SupFn K P x qual st f cc D fd) (S : SupScope ["self", "rule", "index"] ["self", "rule", "index"] (defScope st))
    (hbody : defBody st = [.Expr (.Call (.Attribute (.Call (.Name "super" p0) [] [] p1) "__init__" p2) [.Name "rule" q0] [] p3) p4, .Assign [.Attribute (.Name "self" a1) "rule" a2] (.Name "rule" a3) a4, .Assign [.Attribute (.Name "self" b1) "index" b2] (.Name "index" b3) b4])
    (har : argsOf (defArgs st) = some ar) (h0 : ar.arg = "self")
    (T : OexC K C) (hsub : PySem.W.mroIn K C (.ref D) = some true) (hm : PySem.W.ks_superIn K C D "__init__" = some (some (.builtin "ValueError.__init__"))) (hB : PySem.W.subIn K (.ref C) (.type "ValueError") = some true)
    (n1 : PySem.W.findIn K (.ref C) "rule" = some none) (n2 : PySem.W.findIn K (.ref C) "index" = some none)
    (hks : (defScope st).names.lookup ("super" : Str) = some .globalImplicit) (hkc : (defScope st).names.lookup ("__class__" : Str) = some .free) (hsup : mg "super" = none)
    (hev : ∀ env : Env, eval (.Call (.Attribute (.Call (.Name "super" p0) [] [] p1) "__init__" p2) [.Name "rule" q0] [] p3) env = (do
      let ov ← attributeBase (.Call (.Name "super" p0) [] [] p1) "__init__" env (eval (.Call (.Name "super" p0) [] [] p1) env)
      standAt p2.atName
      let (f, first) ← holding [ov] (getMethod ov "__init__" (pure false))
      callWith p3 f first (backTo p3 (starEach [.Name "rule" q0] env)) [])) :
    FnOk P w K mg base CX0 (k + 1) f fd ["self", "rule", "index"] (spI C) := by
  have l0 : (defScope st).names.lookup ("self" : Str) = some .local := S.par _ (by simp)
  have l1 : (defScope st).names.lookup ("rule" : Str) = some .local := S.par _ (by simp)
  have l2 : (defScope st).names.lookup ("index" : Str) = some .local := S.par _ (by simp)
  refine (sup_ok (k := k) (N := ["self", "rule", "index"]) (ta := tCons (tVar 1) tNil) (t := tSeq (tOst K "rule" (tVar 0) (tVar 1)) (tOst K "index" (tVar 0) (tVar 2))) F S hbody har (by rw [h0]; rfl) (by rw [h0]; exact l0) T hsub hm hB hks hkc hsup
    (fun cdv A outer s H => pa_cons (pe_var (X := cxS P w K mg base ["self", "rule", "index"] qual (defScope st) f cdv cc A outer s H) (i := 1) (x := "rule") rfl (.inl l1)) pa_nil rfl)
    (fun cdv A outer s H => pss_cons (ps_ost (X := cxS P w K mg base ["self", "rule", "index"] qual (defScope st) f cdv cc A outer s H) (pe_var (i := 0) (x := "self") rfl (.inl l0)) (pe_var (i := 1) (x := "rule") rfl (.inl l1))) (pss_one (ps_ost (X := cxS P w K mg base ["self", "rule", "index"] qual (defScope st) f cdv cc A outer s H) (pe_var (i := 0) (x := "self") rfl (.inl l0)) (pe_var (i := 2) (x := "index") rfl (.inl l2)))))
    (fun _ _ => rfl) (fun _ => rfl) hev).imp fun vs H Q E h => ?_
  obtain ⟨a, v1, v2, rfl, ea, q⟩ := h
  refine ⟨rfl, a, [v1, v2], rfl, ea, v1, rfl, by show 1 ≤ 1000; decide, ea, v1, rfl, .ref a, rfl, a, C, rfl, T, n1, .inl ⟨ea, fun dx hd ne => ?_⟩⟩
  refine ⟨v2, rfl, .ref a, rfl, a, C, rfl, T, n2, .inr ⟨dx, [("rule", v1)], upd_same, ?_, by show 1 ≤ 900; decide, q dx hd ne⟩⟩
  rw [upd_ne ne, upd_same]
end
end Ab
namespace Ab
open PySem PySem.Spec PyProof.Rows L2
/-! ### try: x = f(..) except C as e: .. -/
section
variable {X : Cx} {S : Type} {ι : Io S} {Δ : Dl} {s : S} {R : Type} {out : R → Out S} {rest : List Stmt} {pos pos' p : Pos} {k : Nat}
theorem bx_tryE (i j : Nat) {x n en cn : Str} {p0 np hp tp : Pos} {f : Addr} {fd : FuncData} {ps : List Str} {P C : Type} {argE : P → List D} {cl hcv : Value} {g : P → Option (Except Er C)} {E : C → D} {es : List Expr} {M : (P → S → Option R) → Option R} {e1 : Expr}
    {kk : P → S → C → Option R} {sm : P → S → Er → Option R} {b0 : Stmt} {suite : List Stmt}
    (F : FnOk X.prog X.w X.K X.mg X.base (L2.CX X.prog X.w) k f fd ps (spE X.K argE cl g E)) (hr : Room k X.A) (hm : X.mg x = some (.ref f)) (hk : PySem.W.keepIn X.K (.ref f) = true) (hb : Binds X.K fd ps [])
    (hst : X.stack = X.env :: X.outer) (hfr : X.env.frame = some X.env.locals) (hN : X.N.Nodup)
    (ha : ∀ pn xe, AX (X.tr pn xe) ι Δ s (e1 :: es) M argE) (hK : ∀ y s1 c, BX X ι ((i, some (.imm (E c))) :: Δ) s1 rest (kk y s1 c) out)
    (hS : ∀ y s1 e a dx oe pn, Zc cl (some dx) oe → (∃ vs, oe.data = .fields vs) → BX (X.suite a ((a, oe) :: pn)) ι ((j, some (.exn a dx (fer e))) :: Δ) s1 (b0 :: suite) (sm y s1 e) out)
    (hret : ∀ r, ∃ d s', out r = .ret d s') (hex : PySem.W.exmOne X.K cl hcv = some true) (hnm : Names X cn hcv)
    (hj : X.N[j]? = some en) (hjl : X.env.kindOf en = some .local) (hi : X.N[i]? = some n := by rfl) (hx : Loc X.env.scope n := by first | exact Or.inl rfl | exact Or.inr rfl)
    (hg : Gl X x := by rfl) (hdb : (x == ("__debug__" : Str)) = false := by decide) (he : starEach (e1 :: es) X.env = (false, eval e1 X.env) :: starEach es X.env := by rfl) (hpl : (backTo pos (starEach es X.env)).any (·.1) = false := by rfl)
    (hs : swapsWith (.Call (.Name x p) (e1 :: es) [] pos) (some (.Name n p0)) pos'.line X.env = pure false := by rfl) (hf : X.fn n = true ∨ X.env.scope.names.lookup n = some .local := by first | exact .inl rfl | exact .inr rfl)
    (hix : i ∉ ι.ix := by first | decide | exact of_decide_eq_true rfl) (hjx : j ∉ ι.ix := by first | decide | exact of_decide_eq_true rfl) :
    BX X ι Δ s (.Try [.Assign [.Name n p0] (.Call (.Name x p) (e1 :: es) [] pos) pos'] [.ExceptHandler (some (.Name cn np)) (some en) (b0 :: suite) hp] [] [] tp :: rest)
      (M fun y s1 => (g y).bind fun z => match z with | .ok c => kk y s1 c | .error e => sm y s1 e) out := by
  intro r hr' σ H Hf A Dn st q
  refine tS_inv fun pins sh I => tS_cons (ps_try_as hst hfr hN hj hjl hnm (takesF X) (tb := fun W D σ H => ∀ pn xe, Takes (X.tr pn xe) W → tS (X.tr pn xe) [.Assign [.Name n p0] (.Call (.Name x p) (e1 :: es) [] pos) pos'] D σ H)
    (ts := fun a cls d D σ H => ∀ oe pn, Zc cls d oe → (∃ vs, oe.data = .fields vs) → tS (X.suite a ((a, oe) :: pn)) (b0 :: suite) D σ H)
    (fun W pn xe tk _ => ⟨fun pins s σ H D I h => (pS (X.tr pn xe) _).run pins s σ H D I (h pn xe tk)⟩)
    (fun a oe cls d pn hz hd => ⟨fun pins s σ H D I h => (pS (X.suite a ((a, oe) :: pn)) _).run pins s σ H D I (h oe pn hz hd)⟩)) ?_
  have hlen : i < σ.length := by rw [I.len]; exact (List.getElem?_eq_some_iff.mp hi).1
  have hlenj : j < σ.length := by rw [I.len]; exact (List.getElem?_eq_some_iff.mp hj).1
  intro pn xe tk
  refine tS_end (ps_set (X := X.tr pn xe) hN hi hx (pe_callS (X := X.tr pn xe) (E := WE (wAs X.K hcv j _ (WF X) _)) F hr hg hm hk hb (fun σ => passAt tk σ) (pA (X.tr pn xe) _) hdb he hpl) hs hf) ?_
  refine ha pn xe _ r hr' σ H Hf A _ st fun y s1 hx' vs H1 Hf1 st1 e1 r1 => ?_
  obtain ⟨z, h1, h2⟩ := bind_some hx'
  refine ⟨y, z, Hf1, st1.sub, r1, h1, ?_⟩
  cases z with
  | ok c => exact fun v H2 Hf2 sb ex rv => hK y s1 c r h2 _ H2 Hf2 _ Dn ((st1.up ex sb).imm (P := ι.tr s1) hlen (by rw [ι.keys]; exact hix) rv) (q.step (((e1.trans ex.toA).stp ι.ix σ).trans (stp_cut hix)))
  | error e =>
    refine fun dx H2 Hf2 sb ex xd => ⟨true, hex, fun _ a na oe pn' hz hd => ?_, fun z => nomatch z⟩
    refine hS y s1 e a dx oe pn' hz hd r h2 _ H2 Hf2 _ _ ((st1.up ex sb).set (P := ι.tr s1) (as := []) hlenj (by rw [ι.keys]; exact hjx) (T := .exn a dx (fer e)) ⟨rfl, rfl, xd⟩ (fun b hb => by simp at hb)) ?_
    obtain ⟨d, s', ho⟩ := hret r
    have q' := q.step (σ1 := σ.set j (some (.ref a))) (((e1.trans ex.toA).stp ι.ix σ).trans (stp_cut hjx))
    rw [ho] at q' ⊢
    exact fun v σ' H' Hf' A' h1 h2 h3 => q' v σ' H' Hf' A' h1 h2 h3
end
/-! ### what an except suite asks of its exception -/
section
variable {X : Cx} {S : Type} {ι : Io S} {Δ : Dl} {s : S} {R : Type} {pos p p1 p2 : Pos} {a dx C : Addr} {oe : Obj} {pn : List (Addr × Obj)} {fs : List (Str × D)}
theorem ex_excF (i : Nat) {en nm : Str} {α : Type} {E : α → D} {v : α} (T : XfC X.K C) (hno : PySem.W.findIn X.K (.ref C) nm = some none) (hz : Zc (.ref C) (some dx) oe) (hd : ∃ vs, oe.data = .fields vs)
    (hl : lk (ι.tr s ++ Δ) i = some (.exn a dx fs)) (hf : fs.lookup nm = some (E v)) (hN : X.N[i]? = some en := by rfl) (hv : Vis X.env.scope en := by first | exact Or.inl rfl | exact Or.inr (Or.inl rfl) | exact Or.inr (Or.inr rfl))
    (hdb : (en == ("__debug__" : Str)) = false := by decide) (hcd : (en == ("__classdict__" : Str)) = false := by decide) (hb : attributeBase (.Name en p) nm X.env (eval (.Name en p) X.env) = eval (.Name en p) X.env := by rfl) :
    EX (X.suite a ((a, oe) :: pn)) ι Δ s (.Attribute (.Name en p) nm pos) (R := R) (fun k => k v s) E := by
  intro k r hk σ H Hf A Q st q
  obtain ⟨u, h1, hh⟩ := st.slotC i _ hl
  obtain ⟨e0, rfl, vs, hx, hu⟩ := hh
  obtain ⟨w, h2, h3⟩ := hu nm _ hf
  exact tE_of (pe_xf T hno hz hd (pe_var (X := X.suite a ((a, oe) :: pn)) hN hv hdb hcd) hb) ⟨.ref a, h1, rfl, rfl, dx, vs, w, rfl, st.sub.at hx, h2, q v s hk w H Hf st (ExtA.refl _ _ _ _) h3⟩
theorem call_isED (C : Addr) {oe : Obj} (T : ExcC X.K C) (hz : Zc (.ref C) (some dx) oe) (hf : ∃ vs, oe.data = .fields vs) : CallR (X.suite a ((a, oe) :: pn)) (.builtin "isinstance") (fun xs H Q => ∃ (c : V) (cv : Value) (b : Bool) (vs : List (Str × V)), xs = [.ref a, c] ∧ (∀ u, RelV c u → u = cv) ∧ H dx = some (.xd vs) ∧ PySem.W.kitOne X.K (.ref C) cv = some b ∧ Q (.bl b) H) := by
  intro pins s σ H xs us Q I r h
  obtain ⟨c, cv, b, ws, rfl, hcv, hx, e, q⟩ := h
  cases r with
  | cons rx rr =>
    cases rr with
    | cons rt rr =>
      cases rr
      cases rx
      have ec := hcv _ rt
      subst ec
      obtain ⟨hget, _⟩ := I.pin (a, oe) (List.mem_append.mpr (.inl List.mem_cons_self))
      obtain ⟨vs, hv⟩ := hf
      obtain ⟨mA, hns, _⟩ := (show ObjOk X.prog X.w H s.heap dx (.xd ws) from I.hok dx _ hx)
      obtain ⟨od, hod, _⟩ := lookIn_ns hns
      have J : PySem.W.InstAt s.heap a oe C (some od) := ⟨hget, hz.1, by unfold PySem.W.notCls; rw [hv] <;> rfl, by rw [hz.2]; exact hod⟩
      obtain ⟨cd, hc, _⟩ := PySem.W.any_some T.hd
      exact PySem.W.kia_one (PySem.W.kitx_exc (by rw [hc]; rfl) T.hg T.hk T.hs T.ha T.hn T.ht T.hm) I.kIn J e (fun z => nomatch z) fun tk => ⟨.bl b, H, I.kept (t' := tk) fun _ _ z => z, rfl, q⟩
/-- isinstance(e, C') -/
theorem ex_isE (i : Nat) {en cn : Str} {C' : Addr} {b : Bool} (T : ExcC X.K C) (hz : Zc (.ref C) (some dx) oe) (hd : ∃ vs, oe.data = .fields vs) (hl : lk (ι.tr s ++ Δ) i = some (.exn a dx fs)) (hm : X.mg "isinstance" = none) (hmC : X.mg cn = some (.ref C'))
    (hk : PySem.W.kitOne X.K (.ref C) (.ref C') = some b) (hN : X.N[i]? = some en := by rfl) (hv : Vis X.env.scope en := by first | exact Or.inl rfl | exact Or.inr (Or.inl rfl) | exact Or.inr (Or.inr rfl))
    (hg : Gl X "isinstance" := by rfl) (hgC : Gl X cn := by rfl) (hdb : (en == ("__debug__" : Str)) = false := by decide) (hcd : (en == ("__classdict__" : Str)) = false := by decide) (hdC : (cn == ("__debug__" : Str)) = false := by decide)
    (he : starEach [.Name en p1, .Name cn p2] X.env = (false, eval (.Name en p1) X.env) :: starEach [.Name cn p2] X.env := by rfl) (he2 : starEach [.Name cn p2] X.env = (false, eval (.Name cn p2) X.env) :: starEach [] X.env := by rfl) (hpl : (backTo pos (starEach [.Name cn p2] X.env)).any (·.1) = false := by rfl) :
    EX (X.suite a ((a, oe) :: pn)) ι Δ s (.Call (.Name "isinstance" p) [.Name en p1, .Name cn p2] [] pos) (R := R) (fun k => k b s) Ty.bool := by
  intro k r hk' σ H Hf A Q st q
  obtain ⟨u, h1, hh⟩ := st.slotC i _ hl
  obtain ⟨e0, rfl, vs, hx, hu⟩ := hh
  exact tE_of (pe_callB (X := X.suite a ((a, oe) :: pn)) (call_isED C T hz hd) hg hm Bo.isinstance (pa_cons (pe_var (X := X.suite a ((a, oe) :: pn)) hN hv hdb hcd) (pa_cons (pe_glob (X := X.suite a ((a, oe) :: pn)) (v := .ref C') hgC hmC rfl hdC) pa_nil he2) he) (by decide) (by decide) he hpl)
    ⟨.ref a, h1, .ref C', .ref C', b, vs, rfl, fun u h => h, st.sub.at hx, hk, q b s hk' _ H Hf st (ExtA.refl _ _ _ _) (.bl b)⟩
end
end Ab
namespace Ab
open PySem PySem.Spec PyProof.Rows L2
/-! ### defs that raise or fall through: bodies, loops, calls -/
/-- how a body's ways out are told, where it is left by oR -/
@[reducible] def outX {S W Rr : Type} (Δw : W → Dl) (sw : W → S) (oR : Rr → Out S) : Fl W Rr → Out S
  | .next w => .next (Δw w) (sw w)
  | .cont w => .cont (Δw w) (sw w)
  | .brk w => .brk (Δw w) (sw w)
  | .ret r => oR r
/-- a return or a raise -/
def Leaves {S : Type} : Out S → Prop
  | .ret _ _ => True
  | .exc _ _ _ => True
  | _ => False
section
variable {X : Cx} {S : Type} {ι : Io S} {Δ : Dl} {s : S} {R : Type} {out : R → Out S} {rest : List Stmt} {pos : Pos} {α : Type} {E : α → D} {tg : Expr}
theorem bx_forX {W Rr : Type} (Δw : W → Dl) (sw : W → S) (oR : Rr → Out S) {iter : Expr} {body : List Stmt} {w0 : S → W} {Mi : (List α → S → Option R) → Option R} {ixs : List Nat} {b : α → Dl} {f : W → α → Option (Fl W Rr)} {K : W → Option R} {kr : Rr → R}
    (hi : IX X ι Δ s tg iter Mi E) (hg : GX X ι tg ixs b E) (h0 : ∀ s1, sw (w0 s1) = s1) (h0' : ∀ s1, Le (Δw (w0 s1)) Δ)
    (hb : ∀ w x, BX X ι (b x ++ Δw w) (sw w) body (f w x) (outX Δw sw oR))
    (hk : ∀ w, BX X ι (Δw w) (sw w) rest (K w) out) (hr : ∀ r, out (kr r) = oR r) (hp : PassesOwn (model X.prog X.w) X.A X.env X.xe) (hL : ∀ r, Leaves (oR r) := by intro _; trivial) (hc : X.calm = true := by rfl)
    (hs : ∀ x, foldedSetIterable iter X.env x = pure x := by intro _; rfl) (hx : ∀ i ∈ ixs, i ∉ ι.ix := by first | decide | exact of_decide_eq_true rfl) :
    BX X ι Δ s (.For tg iter body [] pos :: rest) (Mi fun xs s1 => (forE f xs (w0 s1)).bind (flK K kr)) out := by
  intro r hr' σ H Hf A Dn st p
  refine tS_cons (ps_for hp hc (pI X tg iter) (pG X tg) (pS X body) hs) (hi _ r hr' σ H Hf A _ st fun xs s1 hx1 J H1 Hf1 st1 e1 wk => ?_)
  obtain ⟨o, hf, hK⟩ := bind_some hx1
  refine ⟨fun i m σ' H' => m = xs.length - i ∧ i ≤ xs.length ∧ ∃ w Hf' A', Sat X.K σ' H' Hf' (ι.tr (sw w) ++ Δw w) A' ∧ Stp ι.ix σ A H Hf σ' A' H' Hf' ∧ Sub Hf1 Hf' ∧ forE f (xs.drop i) w = some o,
    ⟨xs.length, by simp, Nat.zero_le _, w0 s1, Hf1, A, by rw [h0]; exact st1.weak (h0' s1).app, e1.stp _ _, Sub.refl _, hf⟩, ?_⟩
  rintro i m σ' H' ⟨rfl, hi', w, Hf', A', st', sp, sb, hw⟩
  by_cases hlt : i < xs.length
  · have hd : xs.drop i = xs[i] :: xs.drop (i + 1) := List.drop_eq_getElem_cons hlt
    rw [hd] at hw
    obtain ⟨o1, hw1, hw2⟩ := bind_some (show (f w xs[i]).bind _ = some o from hw)
    refine .inr ⟨wk.go i H' Hf' sb st'.sub hlt, fun σ2 H2 => ∃ w1 Hf2 A2, Sat X.K σ2 H2 Hf2 (ι.tr (sw w1) ++ Δw w1) A2 ∧ Stp ι.ix σ A H Hf σ2 A2 H2 Hf2 ∧ Sub Hf1 Hf2 ∧ forE f (xs.drop (i + 1)) w1 = some o,
      fun σ2 H2 ⟨w1, Hf2, A2, q1, q2, q3, q4⟩ => ⟨xs.length - (i + 1), by omega, rfl, hlt, w1, Hf2, A2, q1, q2, q3, q4⟩, fun v H2 hy => ?_⟩
    obtain ⟨Hf2, e2, sb2, rv⟩ := wk.yld i xs[i] v H' H2 Hf' sb st'.sub (List.getElem?_eq_getElem hlt) hy
    have st2 := st'.up e2 sb2
    refine hg xs[i] v σ' H2 Hf2 _ A' (sw w) _ st2 rv fun σ3 st3 o3 => ?_
    have sp3 : Stp ι.ix σ A H Hf σ3 (cutL A' ixs) H2 Hf2 := (sp.trans ((e2.toA (ix := ι.ix)).stp _ _)).trans (stp_cutL hx o3)
    refine hb w xs[i] o1 hw1 σ3 H2 Hf2 _ _ st3 ?_
    have sbg : Sub Hf1 Hf2 := sb.trans e2.grow
    cases o1 with
    | next w1 => exact fun σ4 H4 Hf4 A4 q1 q2 => ⟨w1, Hf4, A4, q1, sp3.trans q2, sbg.trans q2.grow, hw2⟩
    | cont w1 => exact fun σ4 H4 Hf4 A4 q1 q2 => ⟨w1, Hf4, A4, q1, sp3.trans q2, sbg.trans q2.grow, hw2⟩
    | brk w1 =>
      have eo : Fl.next w1 = o := Option.some.inj hw2
      subst eo
      exact fun σ4 H4 Hf4 A4 q1 q2 => hk w1 r hK σ4 H4 Hf4 A4 Dn q1 (p.step (sp3.trans q2))
    | ret r1 =>
      have eo : Fl.ret r1 = o := Option.some.inj hw2
      subst eo
      have er : kr r1 = r := Option.some.inj hK
      subst er
      rw [hr] at p
      show Post X ι σ3 _ H2 Hf2 _ (oR r1)
      have l := hL r1
      cases ho : oR r1 with
      | ret d s' => rw [ho] at p; exact fun v σ4 H4 Hf4 A4 q1 q2 q3 => p v σ4 H4 Hf4 A4 q1 (sp3.trans q2) q3
      | exc cl fs s' => rw [ho] at p; exact fun dx σ4 H4 Hf4 A4 q1 q2 q3 => p dx σ4 H4 Hf4 A4 q1 (sp3.trans q2) q3
      | next _ _ => rw [ho] at l; exact l.elim
      | brk _ _ => rw [ho] at l; exact l.elim
      | cont _ _ => rw [ho] at l; exact l.elim
  · have ei : i = xs.length := by omega
    subst ei
    rw [List.drop_length] at hw
    have eo : Fl.next w = o := Option.some.inj hw
    subst eo
    exact .inl ⟨wk.stop _ H' Hf' sb st'.sub (Nat.le_refl _), hk w r hK σ' H' Hf' A' Dn st' (p.step sp)⟩
end
/-- what a procedure's body gives, as a def's answer -/
def toEx : Jn Unit Er → Except Er Unit
  | .ex e => .error e
  | .go _ => .ok ()
/-- what follows a call that may raise -/
def exK {C R : Type} (K : C → Option R) (em : Er → R) : Except Er C → Option R
  | .ok c => K c
  | .error e => some (em e)
/-- a raise of the class cl -/
@[reducible] def oE (cl : Value) : Er → Out Unit := fun e => .exc cl (fer e) ()
section
variable {Pg : Program} {w : World} {K : KF} {mg : Str → Option Value} {base : Heap}
theorem fn_procE {x qual : Str} {st : Stmt} {f : Addr} {fd : FuncData} {N ps : List Str} {k : Nat} {P : Type} {argE : P → List D} {cl : Value} {g : P → Option (Jn Unit Er)} (F : Fun K x qual st f fd) (S : FnScope N ps (defScope st))
    (len : ∀ p, (argE p).length = ps.length)
    (body : ∀ (p : P) (cdv : Value) (A : Around) (outer : List Env) (s : Shared) (H : Hp) (E' : XK), Room k (A.deeper (envOfC qual (defScope st) s.heap.objs.size f cdv)) →
      BX (cxOf (L2.CX Pg w) Pg w K mg base N qual (defScope st) f cdv A outer s H E') io0 (argD 0 (argE p)) () (defBody st) (g p) (outJ (fun _ => []) (fun _ => ()) (oE cl))) :
    FnOk Pg w K mg base (L2.CX Pg w) (k + 1) f fd ps (spE K argE cl (fun p => (g p).map toEx) Ty.none) := by
  refine fn_pureE (fin := fun _ => .next [] ()) F S len (fun _ => .inr ⟨rfl, rfl⟩) fun p cdv A outer s H E' hr r hr' σ H' Hf A' Dn st q => ?_
  cases hm : g p with
  | none => rw [hm] at hr'; cases hr'
  | some o =>
    rw [hm] at hr'
    have e : toEx o = r := Option.some.inj hr'
    subst e
    refine body p cdv A outer s H E' hr o hm σ H' Hf A' Dn st ?_
    cases o with
    | go _ => exact q
    | ex e => exact q
end
section
variable {X : Cx} {S : Type} {ι : Io S} {Δ : Dl} {s : S} {R : Type} {out : R → Out S} {rest : List Stmt} {pos pos' p : Pos} {k : Nat}
theorem bx_doX {x : Str} {f : Addr} {fd : FuncData} {ps : List Str} {P C : Type} {argE : P → List D} {cl : Value} {g : P → Option (Except Er C)} {E : C → D} {es : List Expr} {M : (P → S → Option R) → Option R} {e1 : Expr} {kk : C → P → S → Option R} {em : Er → R}
    (F : FnOk X.prog X.w X.K X.mg X.base (L2.CX X.prog X.w) k f fd ps (spE X.K argE cl g E)) (hr : Room k X.A) (hm : X.mg x = some (.ref f)) (hk : PySem.W.keepIn X.K (.ref f) = true) (hb : Binds X.K fd ps [])
    (ha : AX X ι Δ s (e1 :: es) M argE) (hK : ∀ c y s1, BX X ι Δ s1 rest (kk c y s1) out) (ho : ∀ e, ∃ fs, fs = fer e ∧ ∀ s', out (em e) = .exc cl fs s' := by intro _; exact ⟨_, rfl, fun _ => rfl⟩)
    (hg : Gl X x := by rfl) (hdb : (x == ("__debug__" : Str)) = false := by decide) (he : starEach (e1 :: es) X.env = (false, eval e1 X.env) :: starEach es X.env := by rfl) (hpl : (backTo pos (starEach es X.env)).any (·.1) = false := by rfl)
    (hs : swapsWith (.Call (.Name x p) (e1 :: es) [] pos) none pos'.line X.env = pure false := by rfl) :
    BX X ι Δ s (.Expr (.Call (.Name x p) (e1 :: es) [] pos) pos' :: rest) (M fun y s1 => (g y).bind (exK (fun c => kk c y s1) em)) out := by
  intro r hr' σ H Hf A Dn st q
  refine bx_doE (kk := fun y s1 c => kk c y s1) (em := fun e _ => em e) F hr hm hk hb ha (fun y s1 c => hK c y s1) (fun e s' => by obtain ⟨fs, rfl, h⟩ := ho e; exact h s') hg hdb he hpl hs r ?_ σ H Hf A Dn st q
  rw [← hr']
  congr 1
end
/-- the first statement of a class -/
def clsFst : Stmt → Stmt
  | .ClassDef (body := b) .. => b.getD 0 (.Pass ⟨0, 0, 0, 0⟩)
  | s => s
/-- what the heap's beginning says of an exception class with the fields rule and index -/
structure ExCls (Pg : Program) (K : KF) (mg : Str → Option Value) (cn : Str) (st : Stmt) where
  C : Addr
  fI : Addr
  cc : Addr
  fd : FuncData
  g : mg cn = some (.ref C)
  T : OexC K C
  iC : PySem.W.findIn K (.ref C) "__init__" = some (some (.ref fI))
  tI : PySem.W.typeIn K (.ref fI) = some (.type "function")
  F : SupFn K Pg "__init__" (cn ++ ".__init__") st fI cc C fd
  sub : PySem.W.mroIn K C (.ref C) = some true
  m : PySem.W.ks_superIn K C C "__init__" = some (some (.builtin "ValueError.__init__"))
  B : PySem.W.subIn K (.ref C) (.type "ValueError") = some true
  n1 : PySem.W.findIn K (.ref C) "rule" = some none
  n2 : PySem.W.findIn K (.ref C) "index" = some none
  hs : mg "super" = none
  b : Binds K fd ["self", "rule", "index"] []
  xf : XfC K C
  xc : ExcC K C
end Ab
namespace Ab
open PySem PySem.Spec PyProof.Rows L2
/-! ### constants of a module: an int, a tuple of texts -/
/-- a tuple of texts of the written part -/
structure GTup (K : KF) (a : Addr) (l : List Str) : Prop where
  ex : ∃ (o : Obj) (its : Array Value) (n : Nat), K.lookup a = some o ∧ o.cls = .type "tuple" ∧ o.data = .seq its n ∧ its.size ≤ sizeLine ∧ Vals (l.map V.str) its.toList
  ok : ∀ x ∈ l, PySem.PyData.strOk x = true
  sz : l.length ≤ Line
theorem RpAll.ofStrs {K : KF} {H : Hp} : ∀ (l : List Str), (∀ x ∈ l, PySem.PyData.strOk x = true) → RpAll K H (l.map V.str) (l.map PyData.str)
  | [], _ => .nil
  | x :: l, h => .cons (.str x (h x List.mem_cons_self)) (RpAll.ofStrs l fun y hy => h y (List.mem_cons_of_mem _ hy))
section
variable {X : Cx} {S : Type} {ι : Io S} {Δ : Dl} {s : S} {R : Type} {p : Pos}
theorem ex_gI {x : Str} {i : Int} (h : ∃ u, X.mg x = some u ∧ RelV (V.int i) u) (hg : Gl X x := by rfl) (hd : (x == ("__debug__" : Str)) = false := by decide) : EX X ι Δ s (.Name x p) (R := R) (fun k => k i s) Ty.int := by
  intro k r hk σ H Hf A Q st q
  obtain ⟨u, h1, h2⟩ := h
  exact tE_of (pe_glob hg h1 h2 hd) (q i s hk _ H Hf st (ExtA.refl _ _ _ _) (.int i))
theorem ex_gT {x : Str} {a : Addr} {l : List Str} (hm : X.mg x = some (.ref a)) (h : GTup X.K a l) (hg : Gl X x := by rfl) (hd : (x == ("__debug__" : Str)) = false := by decide) : EX X ι Δ s (.Name x p) (R := R) (fun k => k l s) (Ty.tup Ty.str) := by
  intro k r hk σ H Hf A Q st q
  exact tE_of (pe_glob (v := .ref a) hg hm rfl hd) (q l s hk (.ref a) H Hf st (ExtA.refl _ _ _ _) (.tup (.inr h.ex) (by rw [List.length_map]; exact h.sz) (RpAll.ofStrs l h.ok)))
end
/-! ### order of pairs of ints -/
def ltP (x y : Int × Int) : Bool := HT.lexLt [x.1, x.2] [y.1, y.2]
theorem pair_vs {K : KF} {H : Hp} {v : V} {x : Int × Int} (r : Rp K H v (E2 x)) : ∃ a, v = .ref a ∧ SqT K H a (([x.1, x.2] : List Int).map V.int) := by
  cases r with
  | @tup a xs _ hs hz ra =>
    cases ra with
    | cons h1 t =>
      cases t with
      | cons h2 t =>
        cases t
        cases h1
        cases h2
        exact ⟨a, rfl, hs⟩
theorem opD_ltP {K : KF} : OpD K (rLtT K) E2 E2 PyData.bool (fun _ _ => True) ltP :=
  opD_of fun x y v w H Hf Q _ sb rv rw' => ⟨.bl (ltP x y), .bl _, fun q => by
    obtain ⟨a, rfl, h1⟩ := pair_vs rv
    obtain ⟨b, rfl, h2⟩ := pair_vs rw'
    exact ⟨a, b, _, _, rfl, rfl, sb.tup h1, sb.tup h2, q⟩⟩
section
variable {X : Cx} {S : Type} {ι : Io S} {Δ : Dl} {s : S} {R : Type} {pos : Pos} {a b : Expr} {k : Nat} {Ma : (Int × Int → S → Option R) → Option R} {Mb : S → (Int × Int → S → Option R) → Option R}
theorem ex_ltP (hr : Room k X.A) (ha : EX X ι Δ s a Ma E2) (hb : ∀ s1, EX X ι Δ s1 b (Mb s1) E2) : EX X ι Δ s (.Compare a [.Lt] [b] pos) (fun k => Ma fun x s1 => Mb s1 fun y s2 => k (ltP x y) s2) Ty.bool :=
  ex_cmpT (op_ltT (by have := hr.units; omega)) opD_ltP ha hb (nomark _)
theorem tx_ltP (hr : Room k X.A) (ha : EX X ι Δ s a Ma E2) (hb : ∀ s1, EX X ι Δ s1 b (Mb s1) E2) : TX X ι Δ s (.Compare a [.Lt] [b] pos) (fun k => Ma fun x s1 => Mb s1 fun y s2 => k (ltP x y) s2) :=
  tx_cmpT (op_ltT (by have := hr.units; omega)) opD_ltP ha hb (nomark _)
end
end Ab
namespace Ab
open PySem PySem.Spec PyProof.Rows L2
/-- what follows a call that stands in a try -/
def exT {C R : Type} (K : C → Option R) (S : Er → Option R) : Except Er C → Option R
  | .ok c => K c
  | .error e => S e
section
variable {X : Cx} {S : Type} {ι : Io S} {Δ : Dl} {s : S} {R : Type} {out : R → Out S} {rest : List Stmt} {pos pos' p : Pos} {k : Nat}
theorem bx_tryX (i j : Nat) {x n en cn : Str} {p0 np hp tp : Pos} {f : Addr} {fd : FuncData} {ps : List Str} {P C : Type} {argE : P → List D} {cl hcv : Value} {g : P → Option (Except Er C)} {E : C → D} {es : List Expr} {M : (P → S → Option R) → Option R} {e1 : Expr}
    {kk : C → P → S → Option R} {sm : Er → P → S → Option R} {b0 : Stmt} {suite : List Stmt}
    (F : FnOk X.prog X.w X.K X.mg X.base (L2.CX X.prog X.w) k f fd ps (spE X.K argE cl g E)) (hr : Room k X.A) (hm : X.mg x = some (.ref f)) (hk : PySem.W.keepIn X.K (.ref f) = true) (hb : Binds X.K fd ps [])
    (hN : X.N.Nodup) (ha : ∀ pn xe, AX (X.tr pn xe) ι Δ s (e1 :: es) M argE) (hK : ∀ c y s1, BX X ι ((i, some (.imm (E c))) :: Δ) s1 rest (kk c y s1) out)
    (hS : ∀ e y s1 a dx oe pn, Zc cl (some dx) oe → (∃ vs, oe.data = .fields vs) → BX (X.suite a ((a, oe) :: pn)) ι ((j, some (.exn a dx (fer e))) :: Δ) s1 (b0 :: suite) (sm e y s1) out)
    (hex : PySem.W.exmOne X.K cl hcv = some true) (hmc : X.mg cn = some hcv) (hret : ∀ r, ∃ d s', out r = .ret d s' := by intro _; exact ⟨_, _, rfl⟩)
    (hst : X.stack = X.env :: X.outer := by rfl) (hfr : X.env.frame = some X.env.locals := by rfl) (hgc : Gl X cn := by rfl) (hdc : (cn == ("__debug__" : Str)) = false := by decide)
    (hj : X.N[j]? = some en := by rfl) (hjl : X.env.kindOf en = some .local := by rfl) (hi : X.N[i]? = some n := by rfl) (hx : Loc X.env.scope n := by first | exact Or.inl rfl | exact Or.inr rfl)
    (hg : Gl X x := by rfl) (hdb : (x == ("__debug__" : Str)) = false := by decide) (he : starEach (e1 :: es) X.env = (false, eval e1 X.env) :: starEach es X.env := by rfl) (hpl : (backTo pos (starEach es X.env)).any (·.1) = false := by rfl)
    (hs : swapsWith (.Call (.Name x p) (e1 :: es) [] pos) (some (.Name n p0)) pos'.line X.env = pure false := by rfl) (hf : X.fn n = true ∨ X.env.scope.names.lookup n = some .local := by first | exact .inl rfl | exact .inr rfl)
    (hix : i ∉ ι.ix := by first | decide | exact of_decide_eq_true rfl) (hjx : j ∉ ι.ix := by first | decide | exact of_decide_eq_true rfl) :
    BX X ι Δ s (.Try [.Assign [.Name n p0] (.Call (.Name x p) (e1 :: es) [] pos) pos'] [.ExceptHandler (some (.Name cn np)) (some en) (b0 :: suite) hp] [] [] tp :: rest)
      (M fun y s1 => (g y).bind (exT (fun c => kk c y s1) (fun e => sm e y s1))) out := by
  intro r hr' σ H Hf A Dn st q
  refine bx_tryE i j (kk := fun y s1 c => kk c y s1) (sm := fun y s1 e => sm e y s1) F hr hm hk hb hst hfr hN ha (fun y s1 c => hK c y s1) (fun y s1 e a dx oe pn hz hd => hS e y s1 a dx oe pn hz hd) hret hex ⟨hgc, hdc, .inl hmc⟩ hj hjl hi hx hg hdb he hpl hs hf hix hjx r ?_ σ H Hf A Dn st q
  rw [← hr']
  congr 1
/-- None, as something that may be -/
theorem ex_nonO {a : Expr} {M : (Unit → S → Option R) → Option R} (h : EX X ι Δ s a M Ty.none) : EX X ι Δ s a (fun k => M fun _ s1 => k (none : Option Int) s1) (Ty.opt Ty.int) :=
  fun k r hk σ H Hf A Q st q => h (fun _ s1 => k none s1) r hk σ H Hf A Q st fun _ s1 hx v H1 Hf1 st1 e1 r1 => q none s1 hx v H1 Hf1 st1 e1 r1
end
/-! ### > of pairs -/
def rGtT (K : KF) : R2 := fun x y H Q => ∃ (a b : Addr) (ns ms : List Int), x = .ref a ∧ y = .ref b ∧ SqT K H a (ns.map V.int) ∧ SqT K H b (ms.map V.int) ∧
  Q (.bl (Ob.lexAt (fun j => decide (ns.getD j 0 = ms.getD j 0)) (fun j => decide (ms.getD j 0 < ns.getD j 0)) (decide (ns.length > ms.length)) 0 (min ns.length ms.length))) H
theorem op_gtT {X : Cx} (hu : X.A.units < cLine) : OpR X (compareOp .Gt) (rGtT X.K) := by
  intro pins s σ H x y v u Q I rx ry h
  obtain ⟨a, b, ns, ms, rfl, rfl, ha, hb, q⟩ := h
  cases rx
  cases ry
  obtain ⟨its, r1, p1, _⟩ := I.tuple ha
  obtain ⟨its2, r2, p2, _⟩ := I.tuple hb
  have i1 : IntsAre its ns := Vals.ints r1
  have i2 : IntsAre its2 ms := Vals.ints r2
  have e1 : its.toArray.size = ns.length := by rw [List.size_toArray]; exact i1.length
  have e2 : its2.toArray.size = ms.length := by rw [List.size_toArray]; exact i2.length
  have at1 : ∀ j (h1 : j < its.toArray.size), ∃ t, its.toArray[j] = .int (ns.getD j 0) t := fun j h1 => PyProof.Rows.IntsAre.int_at i1 _ _ (by simp at h1; simp [h1])
  have at2 : ∀ j (h1 : j < its2.toArray.size), ∃ t, its2.toArray[j] = .int (ms.getD j 0) t := fun j h1 => PyProof.Rows.IntsAre.int_at i2 _ _ (by simp at h1; simp [h1])
  have R := Ob.RcOp.tuples_gt (A := X.A) (s := s) (e := fun j => decide (ns.getD j 0 = ms.getD j 0)) (r := fun j => decide (ms.getD j 0 < ns.getD j 0)) p1 p2 hu (fun j h1 h2 => by
    obtain ⟨t, et⟩ := at1 j h1
    obtain ⟨t', et'⟩ := at2 j h2
    rw [et, et']
    have z : (ns.getD j 0 == ms.getD j 0) = decide (ns.getD j 0 = ms.getD j 0) := by
      by_cases q : ns.getD j 0 = ms.getD j 0
      · rw [decide_eq_true q]; exact beq_iff_eq.mpr q
      · rw [decide_eq_false q]; exact beq_eq_false_iff_ne.mpr q
    rw [← z]
    exact SeqAt.EqAt.int_int _ _ _ _) (fun j h1 h2 _ => by
    obtain ⟨t, et⟩ := at1 j h1
    obtain ⟨t', et'⟩ := at2 j h2
    rw [et, et']
    exact Ob.RcOp.gt_int _ _ _ _)
  rw [e1, e2] at R
  have z : wpAny (model X.prog X.w) X.A (compareOp .Gt (.ref a) (.ref b)) (EP X pins σ Q) X.xe s := R X.prog X.w X.xe (EP X pins σ Q) ⟨.bl _, H, I, rfl, q⟩
  exact z
theorem gtP_eq (x y : Int × Int) : Ob.lexAt (fun j => decide (([x.1, x.2] : List Int).getD j 0 = ([y.1, y.2] : List Int).getD j 0)) (fun j => decide (([y.1, y.2] : List Int).getD j 0 < ([x.1, x.2] : List Int).getD j 0)) (decide (([x.1, x.2] : List Int).length > ([y.1, y.2] : List Int).length)) 0 (min ([x.1, x.2] : List Int).length ([y.1, y.2] : List Int).length) = ltP y x := by
  show (if decide (x.1 = y.1) = true then (if decide (x.2 = y.2) = true then decide (2 > 2) else decide (y.2 < x.2)) else decide (y.1 < x.1)) = (if y.1 = x.1 then (if y.2 = x.2 then false else decide (y.2 < x.2)) else decide (y.1 < x.1))
  by_cases a : x.1 = y.1
  · by_cases b : x.2 = y.2
    · simp [a, b]
    · simp [a, b, Ne.symm b]
  · simp [a, Ne.symm a]
theorem opD_gtP {K : KF} : OpD K (rGtT K) E2 E2 PyData.bool (fun _ _ => True) (fun x y => ltP y x) :=
  opD_of fun x y v w H Hf Q _ sb rv rw' => ⟨.bl (ltP y x), .bl _, fun q => by
    obtain ⟨a, rfl, h1⟩ := pair_vs rv
    obtain ⟨b, rfl, h2⟩ := pair_vs rw'
    exact ⟨a, b, _, _, rfl, rfl, sb.tup h1, sb.tup h2, by rw [gtP_eq]; exact q⟩⟩
section
variable {X : Cx} {S : Type} {ι : Io S} {Δ : Dl} {s : S} {R : Type} {pos : Pos} {a b : Expr} {k : Nat} {Ma : (Int × Int → S → Option R) → Option R} {Mb : S → (Int × Int → S → Option R) → Option R}
theorem ex_gtP (hr : Room k X.A) (ha : EX X ι Δ s a Ma E2) (hb : ∀ s1, EX X ι Δ s1 b (Mb s1) E2) : EX X ι Δ s (.Compare a [.Gt] [b] pos) (fun k => Ma fun x s1 => Mb s1 fun y s2 => k (ltP y x) s2) Ty.bool :=
  ex_cmpT (op_gtT (by have := hr.units; omega)) opD_gtP ha hb (nomark _)
theorem tx_gtP (hr : Room k X.A) (ha : EX X ι Δ s a Ma E2) (hb : ∀ s1, EX X ι Δ s1 b (Mb s1) E2) : TX X ι Δ s (.Compare a [.Gt] [b] pos) (fun k => Ma fun x s1 => Mb s1 fun y s2 => k (ltP y x) s2) :=
  tx_cmpT (op_gtT (by have := hr.units; omega)) opD_gtP ha hb (nomark _)
end
end Ab
namespace Ab
open PySem PySem.Spec PyProof.Rows L2
/-! ### tuple * int -/
section
variable {X : Cx} {S : Type} {ι : Io S} {Δ : Dl} {s : S} {R : Type} {pos : Pos} {a b : Expr} {α : Type} {E : α → D} {Ma : (List α → S → Option R) → Option R} {Mb : S → (Int → S → Option R) → Option R}
theorem ex_repT (ha : EX X ι Δ s a Ma (Ty.tup E)) (hb : ∀ s1, EX X ι Δ s1 b (Mb s1) Ty.int) :
    EX X ι Δ s (.BinOp a .Mult b pos) (fun k => Ma fun l s1 => Mb s1 fun n s2 => guardM (l.isEmpty = false ∧ 2 ≤ n ∧ n ≤ 1000 ∧ l.length ≤ 1000) (k (List.replicate n.toNat l).flatten s2)) (Ty.tup E) := by
  refine ex_binG (C := fun (l : List α) (n : Int) => l.isEmpty = false ∧ 2 ≤ n ∧ n ≤ 1000 ∧ l.length ≤ 1000) (g := fun l n => (List.replicate n.toNat l).flatten) (pe_op op_repT (pE X a) (pE X b)) (fun l n v w H Hf Q c sb rv rw' q => ?_) ha hb
  obtain ⟨c1, c2, c3, c4⟩ := c
  cases rw'
  cases rv with
  | @tup p vs _ hs hz ra =>
    have hl := ra.len
    rw [List.length_map] at hl
    have rr : ∀ m, RpAll X.K Hf (List.replicate m vs).flatten ((List.replicate m l).flatten.map E) := by
      intro m
      induction m with
      | zero => exact .nil
      | succ m ih =>
        rw [List.replicate_succ, List.replicate_succ, List.flatten_cons, List.flatten_cons, List.map_append]
        exact ra.append ih
    refine ⟨p, n, vs, rfl, rfl, sb.tup hs, fun e => ?_, c2, c3, by omega, fun x nx => ?_⟩
    · subst e
      cases l with
      | nil => cases c1
      | cons y l => simp at hl
    · have ex := Ext.new (o := .tup (List.replicate n.toNat vs).flatten) nx sb
      refine q _ _ _ ex (Sub.new sb) (.tup (.inl (.inl upd_same)) ?_ ((rr _).up ex.grow))
      rw [List.length_flatten, List.map_replicate, List.sum_replicate_nat, hl]
      have h1 : n.toNat ≤ 1000 := by omega
      have : n.toNat * l.length ≤ 1000 * 1000 := Nat.mul_le_mul h1 c4
      show _ ≤ 16777216
      omega
end
/-! ### a datum read as a product of five -/
section
variable {α β γ δ ε : Type} {da : D → Option α} {db : D → Option β} {dc : D → Option γ} {dd : D → Option δ} {de : D → Option ε} {E : α → D} {F : β → D} {G : γ → D} {I : δ → D} {J : ε → D}
def decP5 (da : D → Option α) (db : D → Option β) (dc : D → Option γ) (dd : D → Option δ) (de : D → Option ε) : D → Option (α × β × γ × δ × ε)
  | .tuple [a, b, c, d, e] => (da a).bind fun x => (db b).bind fun y => (dc c).bind fun z => (dd d).bind fun u => (de e).bind fun v => some (x, y, z, u, v)
  | _ => none
theorem decP5_ok (h : DecOk da E) (k : DecOk db F) (l : DecOk dc G) (m : DecOk dd I) (n : DecOk de J) : DecOk (decP5 da db dc dd de) (Ty.p5 E F G I J) := fun d a e => by
  unfold decP5 at e
  split at e
  · obtain ⟨x, h1, e⟩ := bind_some e
    obtain ⟨y, h2, e⟩ := bind_some e
    obtain ⟨z, h3, e⟩ := bind_some e
    obtain ⟨u, h4, e⟩ := bind_some e
    obtain ⟨v, h5, e⟩ := bind_some e
    cases e
    show PyData.tuple [E x, F y, G z, I u, J v] = _
    rw [h _ _ h1, k _ _ h2, l _ _ h3, m _ _ h4, n _ _ h5]
  · cases e
theorem decP5_to (h : DecTo da E) (k : DecTo db F) (l : DecTo dc G) (m : DecTo dd I) (n : DecTo de J) : DecTo (decP5 da db dc dd de) (Ty.p5 E F G I J) := fun a => by
  show (da (E a.1)).bind _ = _
  rw [h a.1]
  show (db (F a.2.1)).bind _ = _
  rw [k a.2.1]
  show (dc (G a.2.2.1)).bind _ = _
  rw [l a.2.2.1]
  show (dd (I a.2.2.2.1)).bind _ = _
  rw [m a.2.2.2.1]
  show (de (J a.2.2.2.2)).bind _ = _
  rw [n a.2.2.2.2]
  rfl
end
end Ab
namespace Ab
open PySem PySem.Spec PyProof.Rows L2
/-! ### more forms of try: what stands in it is a return of a call, or a question whether the call gives None -/
section
variable {X : Cx} {S : Type} {ι : Io S} {Δ : Dl} {s : S} {R : Type} {out : R → Out S} {rest : List Stmt} {pos pos' p : Pos} {k : Nat}
theorem bx_tryR (j : Nat) {x en cn : Str} {np hp tp : Pos} {f : Addr} {fd : FuncData} {ps : List Str} {P C : Type} {argE : P → List D} {cl hcv : Value} {g : P → Option (Except Er C)} {E : C → D} {es : List Expr} {M : (P → S → Option R) → Option R} {e1 : Expr}
    {kk : C → P → S → R} {sm : Er → P → S → Option R} {b0 : Stmt} {suite : List Stmt}
    (F : FnOk X.prog X.w X.K X.mg X.base (L2.CX X.prog X.w) k f fd ps (spE X.K argE cl g E)) (hr : Room k X.A) (hm : X.mg x = some (.ref f)) (hk : PySem.W.keepIn X.K (.ref f) = true) (hb : Binds X.K fd ps [])
    (hN : X.N.Nodup) (ha : ∀ pn xe, AX (X.tr pn xe) ι Δ s (e1 :: es) M argE) (hK : ∀ c y s1, out (kk c y s1) = .ret (E c) s1)
    (hS : ∀ e y s1 a dx oe pn, Zc cl (some dx) oe → (∃ vs, oe.data = .fields vs) → BX (X.suite a ((a, oe) :: pn)) ι ((j, some (.exn a dx (fer e))) :: Δ) s1 (b0 :: suite) (sm e y s1) out)
    (hex : PySem.W.exmOne X.K cl hcv = some true) (hmc : X.mg cn = some hcv) (hret : ∀ r, ∃ d s', out r = .ret d s' := by intro _; exact ⟨_, _, rfl⟩)
    (hst : X.stack = X.env :: X.outer := by rfl) (hfr : X.env.frame = some X.env.locals := by rfl) (hgc : Gl X cn := by rfl) (hdc : (cn == ("__debug__" : Str)) = false := by decide)
    (hj : X.N[j]? = some en := by rfl) (hjl : X.env.kindOf en = some .local := by rfl)
    (hg : Gl X x := by rfl) (hdb : (x == ("__debug__" : Str)) = false := by decide) (he : starEach (e1 :: es) X.env = (false, eval e1 X.env) :: starEach es X.env := by rfl) (hpl : (backTo pos (starEach es X.env)).any (·.1) = false := by rfl)
    (hjx : j ∉ ι.ix := by first | decide | exact of_decide_eq_true rfl) :
    BX X ι Δ s (.Try [.Return (some (.Call (.Name x p) (e1 :: es) [] pos)) pos'] [.ExceptHandler (some (.Name cn np)) (some en) (b0 :: suite) hp] [] [] tp :: rest)
      (M fun y s1 => (g y).bind (exT (fun c => some (kk c y s1)) (fun e => sm e y s1))) out := by
  intro r hr' σ H Hf A Dn st q
  refine tS_inv fun pins sh I => tS_cons (ps_try_as hst hfr hN hj hjl ⟨hgc, hdc, .inl hmc⟩ (takesF X) (tb := fun W D σ H => ∀ pn xe, Takes (X.tr pn xe) W → tS (X.tr pn xe) [.Return (some (.Call (.Name x p) (e1 :: es) [] pos)) pos'] D σ H)
    (ts := fun a cls d D σ H => ∀ oe pn, Zc cls d oe → (∃ vs, oe.data = .fields vs) → tS (X.suite a ((a, oe) :: pn)) (b0 :: suite) D σ H)
    (fun W pn xe tk _ => ⟨fun pins s σ H D I h => (pS (X.tr pn xe) _).run pins s σ H D I (h pn xe tk)⟩)
    (fun a oe cls d pn hz hd => ⟨fun pins s σ H D I h => (pS (X.suite a ((a, oe) :: pn)) _).run pins s σ H D I (h oe pn hz hd)⟩)) ?_
  have hlenj : j < σ.length := by rw [I.len]; exact (List.getElem?_eq_some_iff.mp hj).1
  intro pn xe tk
  refine tS_end (ps_ret (X := X.tr pn xe) (pe_callS (X := X.tr pn xe) (E := WE (wAs X.K hcv j _ (WF X) _)) F hr hg hm hk hb (fun σ => passAt tk σ) (pA (X.tr pn xe) _) hdb he hpl)) ?_
  refine ha pn xe _ r hr' σ H Hf A _ st fun y s1 hx' vs H1 Hf1 st1 e1 r1 => ?_
  obtain ⟨z, h1, h2⟩ := bind_some hx'
  refine ⟨y, z, Hf1, st1.sub, r1, h1, ?_⟩
  cases z with
  | ok c =>
    intro v H2 Hf2 sb ex rv
    have er : kk c y s1 = r := Option.some.inj h2
    subst er
    rw [hK] at q
    exact q v σ H2 Hf2 A (sat_tr (st1.up ex sb)) ((e1.trans ex.toA).stp ι.ix σ) rv
  | error e =>
    refine fun dx H2 Hf2 sb ex xd => ⟨true, hex, fun _ a na oe pn' hz hd => ?_, fun z => nomatch z⟩
    refine hS e y s1 a dx oe pn' hz hd r h2 _ H2 Hf2 _ _ ((st1.up ex sb).set (P := ι.tr s1) (as := []) hlenj (by rw [ι.keys]; exact hjx) (T := .exn a dx (fer e)) ⟨rfl, rfl, xd⟩ (fun b hb => by simp at hb)) ?_
    obtain ⟨d, s', ho⟩ := hret r
    have q' := q.step (σ1 := σ.set j (some (.ref a))) (((e1.trans ex.toA).stp ι.ix σ).trans (stp_cut hjx))
    rw [ho] at q' ⊢
    exact fun v σ' H' Hf' A' h1 h2 h3 => q' v σ' H' Hf' A' h1 h2 h3
/-- try: if f(..) is not None: .. except C as e: .., f a procedure -/
theorem bx_tryI (j : Nat) {x en cn : Str} {np hp tp cp ip : Pos} {jc : Nat} {f : Addr} {fd : FuncData} {ps : List Str} {P : Type} {argE : P → List D} {cl hcv : Value} {g : P → Option (Except Er Unit)} {es : List Expr} {M : (P → S → Option R) → Option R} {e1 : Expr}
    {kk : Unit → P → S → Option R} {sm : Er → P → S → Option R} {b0 : Stmt} {suite T : List Stmt}
    (F : FnOk X.prog X.w X.K X.mg X.base (L2.CX X.prog X.w) k f fd ps (spE X.K argE cl g Ty.none)) (hr : Room k X.A) (hm : X.mg x = some (.ref f)) (hk : PySem.W.keepIn X.K (.ref f) = true) (hb : Binds X.K fd ps [])
    (hN : X.N.Nodup) (ha : ∀ pn xe, AX (X.tr pn xe) ι Δ s (e1 :: es) M argE) (hK : ∀ c y s1, BX X ι Δ s1 rest (kk c y s1) out)
    (hS : ∀ e y s1 a dx oe pn, Zc cl (some dx) oe → (∃ vs, oe.data = .fields vs) → BX (X.suite a ((a, oe) :: pn)) ι ((j, some (.exn a dx (fer e))) :: Δ) s1 (b0 :: suite) (sm e y s1) out)
    (hex : PySem.W.exmOne X.K cl hcv = some true) (hmc : X.mg cn = some hcv) (hret : ∀ r, ∃ d s', out r = .ret d s' := by intro _; exact ⟨_, _, rfl⟩)
    (hst : X.stack = X.env :: X.outer := by rfl) (hfr : X.env.frame = some X.env.locals := by rfl) (hgc : Gl X cn := by rfl) (hdc : (cn == ("__debug__" : Str)) = false := by decide)
    (hj : X.N[j]? = some en := by rfl) (hjl : X.env.kindOf en = some .local := by rfl)
    (hg : Gl X x := by rfl) (hdb : (x == ("__debug__" : Str)) = false := by decide) (he : starEach (e1 :: es) X.env = (false, eval e1 X.env) :: starEach es X.env := by rfl) (hpl : (backTo pos (starEach es X.env)).any (·.1) = false := by rfl)
    (h1 : behindInMarks .IsNot (.Constant .none jc cp) = false := by rfl) (hjx : j ∉ ι.ix := by first | decide | exact of_decide_eq_true rfl) :
    BX X ι Δ s (.Try [.If (.Compare (.Call (.Name x p) (e1 :: es) [] pos) [.IsNot] [.Constant .none jc cp] pos') T [] ip] [.ExceptHandler (some (.Name cn np)) (some en) (b0 :: suite) hp] [] [] tp :: rest)
      (M fun y s1 => (g y).bind (exT (fun c => kk c y s1) (fun e => sm e y s1))) out := by
  intro r hr' σ H Hf A Dn st q
  refine tS_inv fun pins sh I => tS_cons (ps_try_as hst hfr hN hj hjl ⟨hgc, hdc, .inl hmc⟩ (takesF X) (tb := fun W D σ H => ∀ pn xe, Takes (X.tr pn xe) W → tS (X.tr pn xe) [.If (.Compare (.Call (.Name x p) (e1 :: es) [] pos) [.IsNot] [.Constant .none jc cp] pos') T [] ip] D σ H)
    (ts := fun a cls d D σ H => ∀ oe pn, Zc cls d oe → (∃ vs, oe.data = .fields vs) → tS (X.suite a ((a, oe) :: pn)) (b0 :: suite) D σ H)
    (fun W pn xe tk _ => ⟨fun pins s σ H D I h => (pS (X.tr pn xe) _).run pins s σ H D I (h pn xe tk)⟩)
    (fun a oe cls d pn hz hd => ⟨fun pins s σ H D I h => (pS (X.suite a ((a, oe) :: pn)) _).run pins s σ H D I (h oe pn hz hd)⟩)) ?_
  have hlenj : j < σ.length := by rw [I.len]; exact (List.getElem?_eq_some_iff.mp hj).1
  intro pn xe tk
  refine tS_end (ps_if (X := X.tr pn xe) (pt_cmp (pc_notN (pe_callS (X := X.tr pn xe) (E := WE (wAs X.K hcv j _ (WF X) _)) F hr hg hm hk hb (fun σ => passAt tk σ) (pA (X.tr pn xe) _) hdb he hpl)) h1) (pS (X.tr pn xe) T) (pS (X.tr pn xe) [])) ?_
  refine ha pn xe _ r hr' σ H Hf A _ st fun y s1 hx' vs H1 Hf1 st1 e1 r1 => ?_
  obtain ⟨z, h1, h2⟩ := bind_some hx'
  refine ⟨y, z, Hf1, st1.sub, r1, h1, ?_⟩
  cases z with
  | ok c =>
    intro v H2 Hf2 sb ex rv
    have ev : v = .non := by cases rv; rfl
    subst ev
    exact ⟨_, rfl, tS_of pss_nil (hK c y s1 r h2 σ H2 Hf2 A Dn (st1.up ex sb) (q.step ((e1.trans ex.toA).stp ι.ix σ)))⟩
  | error e =>
    refine fun dx H2 Hf2 sb ex xd => ⟨true, hex, fun _ a na oe pn' hz hd => ?_, fun z => nomatch z⟩
    refine hS e y s1 a dx oe pn' hz hd r h2 _ H2 Hf2 _ _ ((st1.up ex sb).set (P := ι.tr s1) (as := []) hlenj (by rw [ι.keys]; exact hjx) (T := .exn a dx (fer e)) ⟨rfl, rfl, xd⟩ (fun b hb => by simp at hb)) ?_
    obtain ⟨d, s', ho⟩ := hret r
    have q' := q.step (σ1 := σ.set j (some (.ref a))) (((e1.trans ex.toA).stp ι.ix σ).trans (stp_cut hjx))
    rw [ho] at q' ⊢
    exact fun v σ' H' Hf' A' h1 h2 h3 => q' v σ' H' Hf' A' h1 h2 h3
end
end Ab
namespace K54
open PySem PySem.Spec PyProof.Rows L2 Ab
def topS (i : Nat) : Stmt := PySem.Challenge.pw_allbranches_k54_lettered_graphs.main.body.getD i (.Pass ⟨0, 0, 0, 0⟩)
abbrev s_require : Stmt := topS 4
abbrev s_check_edges : Stmt := topS 5
abbrev s_check_set : Stmt := topS 6
abbrev s_word_right : Stmt := topS 11
abbrev s_check_lettered : Stmt := topS 12
abbrev s__law_state : Stmt := topS 14
abbrev s__law_draw : Stmt := topS 15
abbrev s__law_pick : Stmt := topS 16
abbrev s__law_graph : Stmt := topS 17
abbrev s__law_raised : Stmt := topS 18
abbrev s__law_broken : Stmt := topS 19
abbrev s_law : Stmt := topS 20
abbrev s_GraphError : Stmt := clsFst (topS 2)
theorem sc__law_draw : FnScope ["state", "many", "cells", "value", "mixed"] ["state", "many"] (defScope s__law_draw) := ⟨rfl, rfl, rfl, by decide +kernel, rfl, by decide +kernel, by decide +kernel⟩
theorem sc__law_state : FnScope ["script", "seed", "cell"] ["script"] (defScope s__law_state) := ⟨rfl, rfl, rfl, by decide +kernel, rfl, by decide +kernel, by decide +kernel⟩
theorem sc_require : FnScope ["holds", "rule", "index"] ["holds", "rule", "index"] (defScope s_require) := ⟨rfl, rfl, rfl, by decide +kernel, rfl, by decide +kernel, by decide +kernel⟩
theorem sc_check_edges : FnScope ["many", "edges", "index", "one", "other"] ["many", "edges"] (defScope s_check_edges) := ⟨rfl, rfl, rfl, by decide +kernel, rfl, by decide +kernel, by decide +kernel⟩
theorem sc_check_set : FnScope ["many", "some", "rule", "index", "vertex"] ["many", "some", "rule"] (defScope s_check_set) := ⟨rfl, rfl, rfl, by decide +kernel, rfl, by decide +kernel, by decide +kernel⟩
theorem sc_word_right : FnScope ["graph", "vertex", "_", "inputs", "outputs", "words"] ["graph", "vertex"] (defScope s_word_right) := ⟨rfl, rfl, rfl, by decide +kernel, rfl, by decide +kernel, by decide +kernel⟩
theorem sc_check_lettered : FnScope ["graph", "many", "edges", "inputs", "outputs", "words", "vertex"] ["graph"] (defScope s_check_lettered) := ⟨rfl, rfl, rfl, by decide +kernel, rfl, by decide +kernel, by decide +kernel⟩
theorem sc__law_pick : FnScope ["state", "row"] ["state", "row"] (defScope s__law_pick) := ⟨rfl, rfl, rfl, by decide +kernel, rfl, by decide +kernel, by decide +kernel⟩
theorem sc__law_graph : FnScope ["state", "most", "planes_alone", "many", "dense", "edges", "one", "outs", "ins", "labels", "v", "words", "other"] ["state", "most", "planes_alone"] (defScope s__law_graph) := ⟨rfl, rfl, rfl, by decide +kernel, rfl, by decide +kernel, by decide +kernel⟩
theorem sc__law_raised : FnScope ["graph", "e"] ["graph"] (defScope s__law_raised) := ⟨rfl, rfl, rfl, by decide +kernel, rfl, by decide +kernel, by decide +kernel⟩
theorem sc__law_broken : FnScope ["state", "graph", "many", "edges", "ins", "outs", "labels", "kind", "wrong", "k", "odd"] ["state", "graph"] (defScope s__law_broken) := ⟨rfl, rfl, rfl, by decide +kernel, rfl, by decide +kernel, by decide +kernel⟩
theorem sc_law : FnScope ["script", "state", "turn", "graph", "wrong", "rule", "index", "two"] ["script"] (defScope s_law) := ⟨rfl, rfl, rfl, by decide +kernel, rfl, by decide +kernel, by decide +kernel⟩
structure Txt (K : KF) (mg : Str → Option Value) where
  a_require : Addr
  d_require : FuncData
  F_require : Fun K "require" "require" s_require a_require d_require
  g_require : mg "require" = some (.ref a_require)
  k_require : PySem.W.keepIn K (.ref a_require) = true
  b_require : Binds K d_require ["holds", "rule", "index"] []
  a_check_edges : Addr
  d_check_edges : FuncData
  F_check_edges : Fun K "check_edges" "check_edges" s_check_edges a_check_edges d_check_edges
  g_check_edges : mg "check_edges" = some (.ref a_check_edges)
  k_check_edges : PySem.W.keepIn K (.ref a_check_edges) = true
  b_check_edges : Binds K d_check_edges ["many", "edges"] []
  a_check_set : Addr
  d_check_set : FuncData
  F_check_set : Fun K "check_set" "check_set" s_check_set a_check_set d_check_set
  g_check_set : mg "check_set" = some (.ref a_check_set)
  k_check_set : PySem.W.keepIn K (.ref a_check_set) = true
  b_check_set : Binds K d_check_set ["many", "some", "rule"] []
  a_word_right : Addr
  d_word_right : FuncData
  F_word_right : Fun K "word_right" "word_right" s_word_right a_word_right d_word_right
  g_word_right : mg "word_right" = some (.ref a_word_right)
  k_word_right : PySem.W.keepIn K (.ref a_word_right) = true
  b_word_right : Binds K d_word_right ["graph", "vertex"] []
  a_check_lettered : Addr
  d_check_lettered : FuncData
  F_check_lettered : Fun K "check_lettered" "check_lettered" s_check_lettered a_check_lettered d_check_lettered
  g_check_lettered : mg "check_lettered" = some (.ref a_check_lettered)
  k_check_lettered : PySem.W.keepIn K (.ref a_check_lettered) = true
  b_check_lettered : Binds K d_check_lettered ["graph"] []
  a__law_state : Addr
  d__law_state : FuncData
  F__law_state : Fun K "_law_state" "_law_state" s__law_state a__law_state d__law_state
  g__law_state : mg "_law_state" = some (.ref a__law_state)
  k__law_state : PySem.W.keepIn K (.ref a__law_state) = true
  b__law_state : Binds K d__law_state ["script"] []
  a__law_draw : Addr
  d__law_draw : FuncData
  F__law_draw : Fun K "_law_draw" "_law_draw" s__law_draw a__law_draw d__law_draw
  g__law_draw : mg "_law_draw" = some (.ref a__law_draw)
  k__law_draw : PySem.W.keepIn K (.ref a__law_draw) = true
  b__law_draw : Binds K d__law_draw ["state", "many"] []
  a__law_pick : Addr
  d__law_pick : FuncData
  F__law_pick : Fun K "_law_pick" "_law_pick" s__law_pick a__law_pick d__law_pick
  g__law_pick : mg "_law_pick" = some (.ref a__law_pick)
  k__law_pick : PySem.W.keepIn K (.ref a__law_pick) = true
  b__law_pick : Binds K d__law_pick ["state", "row"] []
  a__law_graph : Addr
  d__law_graph : FuncData
  F__law_graph : Fun K "_law_graph" "_law_graph" s__law_graph a__law_graph d__law_graph
  g__law_graph : mg "_law_graph" = some (.ref a__law_graph)
  k__law_graph : PySem.W.keepIn K (.ref a__law_graph) = true
  b__law_graph : Binds K d__law_graph ["state", "most", "planes_alone"] []
  a__law_raised : Addr
  d__law_raised : FuncData
  F__law_raised : Fun K "_law_raised" "_law_raised" s__law_raised a__law_raised d__law_raised
  g__law_raised : mg "_law_raised" = some (.ref a__law_raised)
  k__law_raised : PySem.W.keepIn K (.ref a__law_raised) = true
  b__law_raised : Binds K d__law_raised ["graph"] []
  a__law_broken : Addr
  d__law_broken : FuncData
  F__law_broken : Fun K "_law_broken" "_law_broken" s__law_broken a__law_broken d__law_broken
  g__law_broken : mg "_law_broken" = some (.ref a__law_broken)
  k__law_broken : PySem.W.keepIn K (.ref a__law_broken) = true
  b__law_broken : Binds K d__law_broken ["state", "graph"] []
  a_law : Addr
  d_law : FuncData
  F_law : Fun K "law" "law" s_law a_law d_law
  g_law : mg "law" = some (.ref a_law)
  k_law : PySem.W.keepIn K (.ref a_law) = true
  b_law : Binds K d_law ["script"] []
  n_abs : mg "abs" = none
  n_enumerate : mg "enumerate" = none
  n_int : mg "int" = none
  n_len : mg "len" = none
  n_range : mg "range" = none
  n_tuple : mg "tuple" = none
  mo_INPUT_WORDS : Addr
  m_INPUT_WORDS : mg "INPUT_WORDS" = some (.ref mo_INPUT_WORDS)
  t_INPUT_WORDS : GTup K mo_INPUT_WORDS [("XY" : Str), ("X" : Str), ("Y" : Str)]
  m_MOST_VERTICES : ∃ u, mg "MOST_VERTICES" = some u ∧ RelV (V.int 24) u
  mo_WORDS : Addr
  m_WORDS : mg "WORDS" = some (.ref mo_WORDS)
  t_WORDS : GTup K mo_WORDS [("XY" : Str), ("XZ" : Str), ("YZ" : Str), ("X" : Str), ("Y" : Str), ("Z" : Str)]
def m_require (holds0 : Bool) (rule0 : Str) (index0 : Int) : Option (Jn Unit Er) := if (!holds0) = true then Option.map Jn.ex (some ((rule0, index0))) else some (Jn.go ())
def m_check_edges (many0 : Int) (edges0 : (List (Int × Int))) : Option (Jn Unit Er) := (forE (W := Unit) (R := Er) (fun (w0 : Unit) (it0 : (Int × (Int × Int))) => ((m_require (decide ((0 : Int) ≤ it0.2.1) && (decide (it0.2.1 < it0.2.2) && decide (it0.2.2 < many0))) ("edge" : Str) it0.1).map toEx).bind (exK (fun _ => (if (decide (it0.1 = (0 : Int))) = true then some (true, ()) else (atI edges0 (it0.1 - (1 : Int))).bind fun z0 => some ((ltP z0 (it0.2.1, it0.2.2)), ())).bind fun z1 => ((m_require z1.1 ("edge" : Str) it0.1).map toEx).bind (exK (fun _ => some (Fl.next ())) (fun e => Fl.ret e))) (fun e => Fl.ret e))) (enumL edges0) ()).bind (flK (W := Unit) (Rr := Er) (fun w1 => some (Jn.go ())) (fun r => Jn.ex r))
def m_check_set (many0 : Int) (some0 : (List Int)) (rule0 : Str) : Option (Jn Unit Er) := (forE (W := Unit) (R := Er) (fun (w0 : Unit) (it0 : (Int × Int)) => ((m_require (decide ((0 : Int) ≤ it0.2) && decide (it0.2 < many0)) rule0 it0.1).map toEx).bind (exK (fun _ => (if (decide (it0.1 = (0 : Int))) = true then some (true, ()) else (atI some0 (it0.1 - (1 : Int))).bind fun z0 => some ((decide (z0 < it0.2)), ())).bind fun z1 => ((m_require z1.1 rule0 it0.1).map toEx).bind (exK (fun _ => some (Fl.next ())) (fun e => Fl.ret e))) (fun e => Fl.ret e))) (enumL some0) ()).bind (flK (W := Unit) (Rr := Er) (fun w1 => some (Jn.go ())) (fun r => Jn.ex r))
def m_word_right (graph0 : (Int × (List (Int × Int)) × (List Int) × (List Int) × (List Str))) (vertex0 : Int) : Option Bool := letM graph0 fun u0 => if (decide (vertex0 ∈ u0.2.2.2.1)) = true then (atI u0.2.2.2.2 vertex0).bind fun z0 => some ((decide (z0 = ("" : Str)))) else (atI u0.2.2.2.2 vertex0).bind fun z1 => some ((memB z1 (if (decide (vertex0 ∈ u0.2.2.1)) = true then [("XY" : Str), ("X" : Str), ("Y" : Str)] else [("XY" : Str), ("XZ" : Str), ("YZ" : Str), ("X" : Str), ("Y" : Str), ("Z" : Str)])))
def m_check_lettered (graph0 : (Int × (List (Int × Int)) × (List Int) × (List Int) × (List Str))) : Option (Jn Unit Er) := letM graph0 fun u0 => ((m_require (decide ((1 : Int) ≤ u0.1) && decide (u0.1 ≤ (24 : Int))) ("many" : Str) u0.1).map toEx).bind (exK (fun _ => ((m_check_edges u0.1 u0.2.1).map toEx).bind (exK (fun _ => ((m_check_set u0.1 u0.2.2.1 ("inputs" : Str)).map toEx).bind (exK (fun _ => ((m_check_set u0.1 u0.2.2.2.1 ("outputs" : Str)).map toEx).bind (exK (fun _ => ((m_require (decide ((u0.2.2.2.2.length : Int) = u0.1)) ("planes" : Str) (u0.2.2.2.2.length : Int)).map toEx).bind (exK (fun _ => guardM (u0.1.natAbs ≤ Line) ((forE (W := Unit) (R := Er) (fun (w0 : Unit) (vertex0 : Int) => (m_word_right graph0 vertex0).bind fun z0 => ((m_require z0 ("plane" : Str) vertex0).map toEx).bind (exK (fun _ => some (Fl.next ())) (fun e => Fl.ret e))) (rangeL 0 u0.1.toNat) ()).bind (flK (W := Unit) (Rr := Er) (fun w1 => some (Jn.go ())) (fun r => Jn.ex r)))) (fun e => Jn.ex e))) (fun e => Jn.ex e))) (fun e => Jn.ex e))) (fun e => Jn.ex e))) (fun e => Jn.ex e))
def m_law_pick (row0 : (List Int)) (s : Rs) : Option (Int × Rs) := (drawR (row0.length : Int) s).bind fun z0 => (atI row0 z0.1).bind fun z1 => some ((z1, z0.2))
def m_law_pick__1 (row0 : (List Str)) (s : Rs) : Option (Str × Rs) := (drawR (row0.length : Int) s).bind fun z0 => (atI row0 z0.1).bind fun z1 => some ((z1, z0.2))
def m_law_pick__2 (row0 : (List (Int × Int))) (s : Rs) : Option ((Int × Int) × Rs) := (drawR (row0.length : Int) s).bind fun z0 => (atI row0 z0.1).bind fun z1 => some ((z1, z0.2))
def m_law_pick__3 (row0 : (List (List Str))) (s : Rs) : Option ((List Str) × Rs) := (drawR (row0.length : Int) s).bind fun z0 => (atI row0 z0.1).bind fun z1 => some ((z1, z0.2))
def m_law_graph (most0 : Int) (planes_alone0 : Bool) (s : Rs) : Option ((Int × (List (Int × Int)) × (List Int) × (List Int) × (List Str)) × Rs) := (drawR most0 s).bind fun z0 => letM ((1 : Int) + z0.1) fun many0 => (m_law_pick [(2 : Int), (3 : Int), (5 : Int)] z0.2).bind fun z1 => letM z1.1 fun dense0 => letM ([] : List (Int × Int)) fun edges0 => guardM (many0.natAbs ≤ Line) (((rangeL 0 many0.toNat).foldlM (fun (w0 : (List (Int × Int)) × Rs) (one0 : Int) => guardM ((one0 + (1 : Int)).natAbs ≤ Line ∧ many0.natAbs ≤ Line ∧ many0 - (one0 + (1 : Int)) ≤ (Line : Int)) ((compM (fun (other0 : Int) s0 => (drawR dense0 s0).bind fun z2 => if (decide (z2.1 = (0 : Int))) = true then some (some (one0, other0), z2.2) else some (none, z2.2)) (rangeL (one0 + (1 : Int)) (many0 - (one0 + (1 : Int))).toNat) w0.2).bind fun z3 => guardM (w0.1.length + z3.1.length ≤ Line) (letM (w0.1 ++ z3.1) fun edges1 => some ((edges1, z3.2))))) (edges0, z1.2)).bind fun w1 => guardM (many0.natAbs ≤ Line) ((compM (fun (v0 : Int) s1 => (drawR (4 : Int) s1).bind fun z4 => if (decide (z4.1 = (0 : Int))) = true then some (some v0, z4.2) else some (none, z4.2)) (rangeL 0 many0.toNat) w1.2).bind fun z5 => letM z5.1 fun outs0 => guardM (many0.natAbs ≤ Line) ((compM (fun (v1 : Int) s2 => (drawR (5 : Int) s2).bind fun z6 => if (decide (z6.1 = (0 : Int))) = true then some (some v1, z6.2) else some (none, z6.2)) (rangeL 0 many0.toNat) z5.2).bind fun z7 => letM z7.1 fun ins0 => letM ([] : List Str) fun labels0 => guardM (many0.natAbs ≤ Line) (((rangeL 0 many0.toNat).foldlM (fun (w2 : (List Str) × Rs) (v2 : Int) => letM (if planes_alone0 = true then [("XY" : Str), ("XZ" : Str), ("YZ" : Str)] else [("XY" : Str), ("XZ" : Str), ("YZ" : Str), ("X" : Str), ("Y" : Str), ("Z" : Str), ("X" : Str), ("Y" : Str), ("Z" : Str)]) fun words0 => (if (decide (v2 ∈ ins0)) = true then letM (if planes_alone0 = true then [("XY" : Str)] else [("XY" : Str), ("X" : Str), ("Y" : Str)]) fun words1 => some ((words1, w2.2)) else some ((words0, w2.2))).bind fun (w4 : (List Str) × Rs) => (if (decide (v2 ∈ outs0)) = true then some (("" : Str), w4.2) else (m_law_pick__1 w4.1 w4.2).bind fun z8 => some (z8.1, z8.2)).bind fun z9 => guardM (w2.1.length < Line) (letM (w2.1 ++ [z9.1]) fun labels1 => some ((labels1, z9.2)))) (labels0, z7.2)).bind fun w3 => some (((many0, w1.1, ins0, outs0, w3.1), w3.2))))))
def m_law_raised (graph0 : (Int × (List (Int × Int)) × (List Int) × (List Int) × (List Str))) : Option (Str × Int) := ((m_check_lettered graph0).map toEx).bind (exT (fun _ => some ((("" : Str), (0 : Int)))) (fun e0 => some ((e0.1, e0.2))))
def m_law_broken (graph0 : (Int × (List (Int × Int)) × (List Int) × (List Int) × (List Str))) (s : Rs) : Option (((Int × (List (Int × Int)) × (List Int) × (List Int) × (List Str)) × Str × Int) × Rs) := letM graph0 fun u0 => (drawR (6 : Int) s).bind fun z0 => letM z0.1 fun kind0 => if (decide (kind0 = (0 : Int))) = true then (m_law_pick [(0 : Int), (25 : Int), (-1 : Int)] z0.2).bind fun z1 => letM z1.1 fun wrong0 => (decTd ((Ty.p5 Ty.int (Ty.tup (Ty.p2 Ty.int Ty.int)) (Ty.tup Ty.int) (Ty.tup Ty.int) (Ty.tup Ty.str)) graph0)).bind fun z3 => guardM ([(Ty.int wrong0)].length + (sliceL z3 (some (1 : Int)) none).length ≤ Line) (((decP5 decI (decT (decP2 decI decI)) (decT decI) (decT decI) (decT decS)) ((Ty.tup Ty.dyn) ([(Ty.int wrong0)] ++ (sliceL z3 (some (1 : Int)) none)))).bind fun z4 => some (((z4, ("many" : Str), wrong0), z1.2))) else if (decide (kind0 = (1 : Int))) = true then (drawR ((u0.2.1.length : Int) + (1 : Int)) z0.2).bind fun z5 => letM z5.1 fun k0 => (if (decide ((0 : Int) < k0)) = true then (atI u0.2.1 (k0 - (1 : Int))).bind fun z8 => some ([z8], z5.2) else some (([] : List (Int × Int)), z5.2)).bind fun z9 => guardM ([((0 : Int), (0 : Int)), ((1 : Int), (0 : Int)), ((-1 : Int), (0 : Int)), ((0 : Int), u0.1)].length + z9.1.length ≤ Line) ((m_law_pick__2 ([((0 : Int), (0 : Int)), ((1 : Int), (0 : Int)), ((-1 : Int), (0 : Int)), ((0 : Int), u0.1)] ++ z9.1) z9.2).bind fun z10 => letM z10.1 fun odd0 => guardM ((sliceL u0.2.1 none (some k0)).length + [odd0].length ≤ Line) (guardM (((sliceL u0.2.1 none (some k0)) ++ [odd0]).length + (sliceL u0.2.1 (some k0) none).length ≤ Line) (some ((((u0.1, (((sliceL u0.2.1 none (some k0)) ++ [odd0]) ++ (sliceL u0.2.1 (some k0) none)), u0.2.2.1, u0.2.2.2.1, u0.2.2.2.2), ("edge" : Str), k0), z10.2))))) else if (decide (kind0 = (2 : Int))) = true then (drawR ((u0.2.2.1.length : Int) + (1 : Int)) z0.2).bind fun z11 => letM z11.1 fun k1 => (m_law_pick [(-1 : Int), u0.1] z11.2).bind fun z12 => guardM ((sliceL u0.2.2.1 none (some k1)).length + [z12.1].length ≤ Line) (guardM (((sliceL u0.2.2.1 none (some k1)) ++ [z12.1]).length + (sliceL u0.2.2.1 (some k1) none).length ≤ Line) (some ((((u0.1, u0.2.1, (((sliceL u0.2.2.1 none (some k1)) ++ [z12.1]) ++ (sliceL u0.2.2.1 (some k1) none)), u0.2.2.2.1, u0.2.2.2.2), ("inputs" : Str), k1), z12.2)))) else if (decide (kind0 = (3 : Int))) = true then (drawR ((u0.2.2.2.1.length : Int) + (1 : Int)) z0.2).bind fun z13 => letM z13.1 fun k2 => (m_law_pick [(-1 : Int), u0.1] z13.2).bind fun z14 => guardM ((sliceL u0.2.2.2.1 none (some k2)).length + [z14.1].length ≤ Line) (guardM (((sliceL u0.2.2.2.1 none (some k2)) ++ [z14.1]).length + (sliceL u0.2.2.2.1 (some k2) none).length ≤ Line) (some ((((u0.1, u0.2.1, u0.2.2.1, (((sliceL u0.2.2.2.1 none (some k2)) ++ [z14.1]) ++ (sliceL u0.2.2.2.1 (some k2) none)), u0.2.2.2.2), ("outputs" : Str), k2), z14.2)))) else if (decide (kind0 = (4 : Int))) = true then guardM (u0.2.2.2.2.length + [("XY" : Str)].length ≤ Line) ((m_law_pick__3 [(sliceL u0.2.2.2.2 (some (1 : Int)) none), (u0.2.2.2.2 ++ [("XY" : Str)])] z0.2).bind fun z15 => letM z15.1 fun wrong1 => some ((((u0.1, u0.2.1, u0.2.2.1, u0.2.2.2.1, wrong1), ("planes" : Str), (wrong1.length : Int)), z15.2))) else (drawR u0.1 z0.2).bind fun z16 => letM z16.1 fun k3 => (m_law_pick__1 [("" : Str), ("YX" : Str), ("x" : Str), ("I" : Str), ("XYZ" : Str)] z16.2).bind fun z17 => letM z17.1 fun odd1 => (if (decide (k3 ∈ u0.2.2.2.1)) = true then (m_law_pick__1 [("XY" : Str), ("Z" : Str), ("o" : Str)] z17.2).bind fun z18 => letM z18.1 fun odd2 => some ((odd2, z18.2)) else (if (decide (k3 ∈ u0.2.2.1)) = true then (m_law_pick__1 [("XZ" : Str), ("YZ" : Str), ("Z" : Str), ("" : Str)] z17.2).bind fun z19 => letM z19.1 fun odd3 => some ((odd3, z19.2)) else some ((odd1, z17.2))).bind fun (w1 : Str × Rs) => some ((w1.1, w1.2))).bind fun (w0 : Str × Rs) => guardM ((sliceL u0.2.2.2.2 none (some k3)).length + [w0.1].length ≤ Line) (guardM (((sliceL u0.2.2.2.2 none (some k3)) ++ [w0.1]).length + (sliceL u0.2.2.2.2 (some (k3 + (1 : Int))) none).length ≤ Line) (some ((((u0.1, u0.2.1, u0.2.2.1, u0.2.2.2.1, (((sliceL u0.2.2.2.2 none (some k3)) ++ [w0.1]) ++ (sliceL u0.2.2.2.2 (some (k3 + (1 : Int))) none))), ("plane" : Str), k3), w0.2))))
def m_law (s : Rs) : Option (Bool × Rs) := guardM ((3 : Int).natAbs ≤ Line) ((forE (W := Rs) (R := (Bool × Rs)) (fun (w0 : Rs) (turn0 : Int) => (m_law_pick [(4 : Int), (24 : Int)] w0).bind fun z2 => (drawR (3 : Int) z2.2).bind fun z3 => (m_law_graph z2.1 (decide (z3.1 = (0 : Int))) z3.2).bind fun z4 => letM z4.1 fun graph0 => (m_law_broken graph0 z4.2).bind fun z5 => letM z5.1 fun u0 => (m_law_raised graph0).bind fun z6 => (if (!decide (z6 = (("" : Str), (0 : Int)))) = true then some (true, z5.2) else (m_law_raised u0.1).bind fun z7 => some ((!decide (z7 = (u0.2.1, u0.2.2))), z5.2)).bind fun z8 => if z8.1 = true then Option.map Fl.ret (some ((false, z8.2))) else (if (memB u0.2.1 [("planes" : Str), ("plane" : Str)]) = true then guardM (u0.1.2.2.2.1.length + [graph0.1].length ≤ Line) (letM (u0.1.1, u0.1.2.1, u0.1.2.2.1, (u0.1.2.2.2.1 ++ [graph0.1]), u0.1.2.2.2.2) fun two0 => (m_law_raised two0).bind fun z9 => if (!decide (z9 = (("outputs" : Str), (graph0.2.2.2.1.length : Int)))) = true then Option.map Jn.ex (some ((false, z8.2))) else some (Jn.go z8.2)) else some (Jn.go z8.2)).bind (jnK (P := (Bool × Rs)) (W := Rs) (fun (w2 : Rs) => some (Fl.next w2)) Fl.ret)) (rangeL 0 (3 : Int).toNat) s).bind (flK (W := Rs) (Rr := (Bool × Rs)) (fun w1 => some ((true, w1))) (fun r => r)))
/-- what is asked of the class in a try -/
structure Xk (Pg : Program) (K : KF) (mg : Str → Option Value) extends ExCls Pg K mg "GraphError" s_GraphError where
  ex : PySem.W.exmOne K (.ref C) (.ref C) = some true
section
variable {Pg : Program} {w : World} {K : KF} {mg : Str → Option Value} {base : Heap}
theorem ok__law_draw (T : Txt K mg) : FnOk Pg w K mg base CX0 1 T.a__law_draw T.d__law_draw ["state", "many"] (spS K 1 (io1 rtR 0) (fun n : Int × Unit => [PyData.int n.1]) (fun n s => drawR n.1 s) Ty.int) := by
  refine T.F__law_draw.ok sc__law_draw (fun vs H Q E' h => ?_) (fun cdv A outer s H vs Q E' hr h => ?_)
  · obtain ⟨p, s, c, s', Hf, As, _, hl, _⟩ := h
    rw [hl]; rfl
  · have pv : ∀ {X : Cx} (i : Nat) {x : Str} {p : Pos}, X.N[i]? = some x → Vis X.env.scope x → (x == ("__debug__" : Str)) = false → (x == ("__classdict__" : Str)) = false → PE X (.Name x p) (tVar i) := fun i _ _ h1 h2 h3 h4 => pe_var h1 h2 h3 h4
    refine ⟨_, pss_cons (ps_set (i := 2) sc__law_draw.nd rfl (.inl rfl) (pe_ix L2.ix_list (pv 0 rfl (.inl rfl) rfl rfl) pe_int (fun _ _ => rfl)))
      (pss_cons (ps_while PassesOwn.never (pw_and (pt_cmpR op_gt (pe_callB call_len (by rfl) T.n_len Bo.len (pa_cons (pv 2 rfl (.inl rfl) rfl rfl) pa_nil)) pe_int (nomark _)) (pw_and1 (pt_cmpR op_eq (pe_ix L2.ix_list (pv 2 rfl (.inl rfl) rfl rfl) pe_int (fun _ _ => rfl)) pe_int (nomark _)))).pt
        (pss_one (ps_expr (pe_bm PySem.F.plainAttrs_list PySem.F.slot_list_pop PySem.F.type_list_pop mt_popAt (pv 2 rfl (.inl rfl) rfl rfl) (pa_cons pe_int pa_nil)))))
      (pss_cons (ps_if (pt_cmpR op_gt (pe_callB call_len (by rfl) T.n_len Bo.len (pa_cons (pv 2 rfl (.inl rfl) rfl rfl) pa_nil)) pe_int (nomark _))
        (pss_cons (ps_set (i := 3) sc__law_draw.nd rfl (.inl rfl) (pe_ix L2.ix_list (pv 2 rfl (.inl rfl) rfl rfl) pe_int (fun _ _ => rfl)))
        (pss_cons (ps_asg (pe_op op_fdivN (pv 3 rfl (.inl rfl) rfl rfl) (pv 1 rfl (.inl rfl) rfl rfl)) (pg_sub (pv 2 rfl (.inl rfl) rfl rfl) pe_int set_list))
        (pss_one (ps_ret (pe_op op_modN (pe_callTy call_int1 (by rfl) T.n_int Bo.int (pa_cons (pv 3 rfl (.inl rfl) rfl rfl) pa_nil)) (pv 1 rfl (.inl rfl) rfl rfl))))))
        pss_nil)
      (pss_cons (ps_set (i := 4) sc__law_draw.nd rfl (.inl rfl) (pe_op op_modN (pe_callTy call_int1 (by rfl) T.n_int Bo.int (pa_cons (pe_op op_add (pe_op op_mul (pe_ix L2.ix_list (pv 0 rfl (.inl rfl) rfl rfl) pe_int (fun _ _ => rfl)) pe_int) pe_int) pa_nil)) pe_int))
      (pss_cons (ps_asg (pv 4 rfl (.inl rfl) rfl rfl) (pg_sub (pv 0 rfl (.inl rfl) rfl rfl) pe_int set_list))
      (pss_one (ps_ret (pe_op op_modN (pe_callTy call_int1 (by rfl) T.n_int Bo.int (pa_cons (pe_op op_fdivN (pv 4 rfl (.inl rfl) rfl rfl) pe_int) pa_nil)) (pv 1 rfl (.inl rfl) rfl rfl)))))))), draw_pure h⟩
theorem ok__law_state (T : Txt K mg) : FnOk Pg w K mg base CX0 1 T.a__law_state T.d__law_state ["script"] (spSt K) := by
  refine T.F__law_state.ok sc__law_state (fun vs H Q E' h => ?_) (fun cdv A outer s H vs Q E' hr h => ?_)
  · obtain ⟨a, ns, rfl, _⟩ := h
    rfl
  · have pv : ∀ {X : Cx} (i : Nat) {x : Str} {p : Pos}, X.N[i]? = some x → Vis X.env.scope x → (x == ("__debug__" : Str)) = false → (x == ("__classdict__" : Str)) = false → PE X (.Name x p) (tVar i) := fun i _ _ h1 h2 h3 h4 => pe_var h1 h2 h3 h4
    refine ⟨_, pss_cons (ps_set (i := 1) sc__law_state.nd rfl (.inl rfl) pe_int)
      (pss_cons (ps_for PassesOwn.never rfl (pi_list (pv 0 rfl (.inl rfl) rfl rfl)) (pg_name (i := 2) sc__law_state.nd rfl (.inl rfl))
        (pss_one (ps_set (i := 1) sc__law_state.nd rfl (.inl rfl) (pe_op op_modN (pe_callTy call_int1 (by rfl) T.n_int Bo.int (pa_cons (pe_op op_add (pe_op op_mul (pv 1 rfl (.inl rfl) rfl rfl) pe_int) (pv 2 rfl (.inl rfl) rfl rfl)) pa_nil)) pe_int))))
      (pss_one (ps_ret (pe_lst (pa_cons (pe_lc (own := [("cell", 2)]) rfl sc__law_state.nd (pi_list (pv 0 rfl (.inl rfl) rfl rfl)) (blkOk_by (by kernel_rfl)) (fun _ _ _ _ _ => pg_name (i := 2) sc__law_state.nd rfl (.inl rfl)) (fun _ _ _ _ _ => pts_nil) (fun _ _ _ _ _ => pe_callB call_abs (by rfl) T.n_abs Bo.abs (pa_cons (pv 2 rfl (.inl rfl) rfl rfl) pa_nil)) (fun _ => rfl)) (pa_cons (pe_op op_add (pv 1 rfl (.inl rfl) rfl rfl) pe_int) pa_nil)))))), state_pure h⟩
theorem ok_cls (T : ExCls Pg K mg "GraphError" s_GraphError) : FnOk Pg w K mg base CX0 1 T.fI T.fd ["self", "rule", "index"] (spI T.C) :=
  init_ri (k := 0) T.F (supC_ok (by decide +kernel)) rfl rfl rfl T.T T.sub T.m T.B T.n1 T.n2 rfl rfl T.hs (fun _ => rfl)
theorem ok_require (T : Txt K mg) (G : ExCls Pg K mg "GraphError" s_GraphError) : FnOk Pg w K mg base (L2.CX Pg w) 3 T.a_require T.d_require ["holds", "rule", "index"] (spE K (fun p : Bool × Str × Int × Unit => [Ty.bool p.1, Ty.str p.2.1, Ty.int p.2.2.1]) (.ref G.C) (fun p => (m_require p.1 p.2.1 p.2.2.1).map toEx) Ty.none) := by
  refine fn_procE T.F_require sc_require (fun _ => rfl) (fun p cdv A outer s H E' hr => ?_)
  obtain ⟨holds0, rule0, index0, _⟩ := p
  refine BX_to (m' := m_require holds0 rule0 index0) (bx_ifX (P := Er) Jn.ex (tx_not (tx_val (ex_var (E := Ty.bool) (a := holds0) 0 rfl))) (fun q0 => (bx_raise (P := Str × Int × Unit) (G := fun q => [Ty.str q.1, Ty.int q.2.1]) (ge := fun q => (q.1, q.2.1)) (kk := fun q _ => (q.1, q.2.1)) rfl G.T G.iC G.tI (ok_cls G) (hr.mono (by decide)) G.b G.g (ax_cons (E := Ty.str) (F := (fun q : Int × Unit => [Ty.int q.1])) (ex_var (E := Ty.str) (a := rule0) 1 rfl) (fun _ => (ax_cons (E := Ty.int) (F := (fun q : Unit => [])) (ex_var (E := Ty.int) (a := index0) 2 rfl) (fun _ => ax_nil)))))) (fun q0 => (bx_nil (r := Jn.go ()) rfl le_nil))) ?_
  rfl
theorem ok_check_edges (T : Txt K mg) (G : ExCls Pg K mg "GraphError" s_GraphError) : FnOk Pg w K mg base (L2.CX Pg w) 4 T.a_check_edges T.d_check_edges ["many", "edges"] (spE K (fun p : Int × (List (Int × Int)) × Unit => [Ty.int p.1, (Ty.tup (Ty.p2 Ty.int Ty.int)) p.2.1]) (.ref G.C) (fun p => (m_check_edges p.1 p.2.1).map toEx) Ty.none) := by
  refine fn_procE T.F_check_edges sc_check_edges (fun _ => rfl) (fun p cdv A outer s H E' hr => ?_)
  obtain ⟨many0, edges0, _⟩ := p
  refine BX_to (m' := m_check_edges many0 edges0) (bx_forX (W := Unit) (Rr := Er) (fun w0 : Unit => [iv 1 (Ty.tup (Ty.p2 Ty.int Ty.int)) edges0, iv 0 Ty.int many0]) (fun w0 : Unit => ()) (oE (.ref G.C)) (w0 := (fun q => ())) (kr := fun r => Jn.ex r) (it_enumT T.n_enumerate (ex_var (E := (Ty.tup (Ty.p2 Ty.int Ty.int))) (a := edges0) 1 rfl)) (gx_tup (E := (Ty.p2 Ty.int (Ty.p2 Ty.int Ty.int))) (F := fun x => [Ty.int x.1, (Ty.p2 Ty.int Ty.int) x.2]) (gxs_cons (GX.map (F := Ty.int) (E := fun x : (Int × (Int × Int)) => Ty.int x.1) (gx_name 2 sc_check_edges.nd) (fun x : (Int × (Int × Int)) => x.1) (fun _ => rfl)) (gxs_cons (GX.map (F := (Ty.p2 Ty.int Ty.int)) (E := fun x : (Int × (Int × Int)) => (Ty.p2 Ty.int Ty.int) x.2) (gx_tup (E := (Ty.p2 Ty.int Ty.int)) (F := fun x => [Ty.int x.1, Ty.int x.2]) (gxs_cons (GX.map (F := Ty.int) (E := fun x : (Int × Int) => Ty.int x.1) (gx_name 3 sc_check_edges.nd) (fun x : (Int × Int) => x.1) (fun _ => rfl)) (gxs_cons (GX.map (F := Ty.int) (E := fun x : (Int × Int) => Ty.int x.2) (gx_name 4 sc_check_edges.nd) (fun x : (Int × Int) => x.2) (fun _ => rfl)) gxs_nil)) (fun _ => rfl) (fun _ => rfl)) (fun x : (Int × (Int × Int)) => x.2) (fun _ => rfl)) gxs_nil)) (fun _ => rfl) (fun _ => rfl)) (fun _ => rfl) (fun _ => (le_cons rfl (le_cons rfl le_nil))) (fun w0 it0 => (bx_doX (em := fun e => Fl.ret e) (ok_require T G) (hr.mono (by decide)) T.g_require T.k_require T.b_require (ax_cons (E := Ty.bool) (F := (fun q : Str × Int × Unit => [Ty.str q.1, Ty.int q.2.1])) (ex_chain3T (g := fun i j => decide (i ≤ j)) (g' := fun i j => decide (i < j)) (g'' := fun i j => decide (i < j)) op_le op_lt op_lt ex_int (fun _ => (ex_var (E := Ty.int) (a := it0.2.1) 3 rfl)) (fun _ => (ex_var (E := Ty.int) (a := it0.2.2) 4 rfl)) (fun _ => (ex_var (E := Ty.int) (a := many0) 0 rfl))) (fun _ => (ax_cons (E := Ty.str) (F := (fun q : Int × Unit => [Ty.int q.1])) (ex_str (by decide +kernel)) (fun _ => (ax_cons (E := Ty.int) (F := (fun q : Unit => [])) (ex_var (E := Ty.int) (a := it0.1) 2 rfl) (fun _ => ax_nil)))))) (fun _ _ _ => (bx_doX (em := fun e => Fl.ret e) (ok_require T G) (hr.mono (by decide)) T.g_require T.k_require T.b_require (ax_cons (E := Ty.bool) (F := (fun q : Str × Int × Unit => [Ty.str q.1, Ty.int q.2.1])) (ex_or (ex_eq hr Eqn.int (ex_var (E := Ty.int) (a := it0.1) 2 rfl) (fun _ => ex_int)) (fun _ => (ex_one (ex_ltP hr (ex_ixT (ex_var (E := (Ty.tup (Ty.p2 Ty.int Ty.int))) (a := edges0) 1 rfl) (fun _ => (ex_sub (ex_var (E := Ty.int) (a := it0.1) 2 rfl) (fun _ => ex_int)))) (fun _ => (ex_tup (E := (Ty.p2 Ty.int Ty.int)) (ax_cons (E := Ty.int) (F := (fun q : Int => [Ty.int q])) (ex_var (E := Ty.int) (a := it0.2.1) 3 rfl) (fun _ => (ax_one (E := Ty.int) (ex_var (E := Ty.int) (a := it0.2.2) 4 rfl)))) (fun _ => rfl) (fun _ => Nat.le_of_ble_eq_true rfl))))))) (fun _ => (ax_cons (E := Ty.str) (F := (fun q : Int × Unit => [Ty.int q.1])) (ex_str (by decide +kernel)) (fun _ => (ax_cons (E := Ty.int) (F := (fun q : Unit => [])) (ex_var (E := Ty.int) (a := it0.1) 2 rfl) (fun _ => ax_nil)))))) (fun _ _ _ => (bx_nil (r := Fl.next ()) rfl (le_cons rfl (le_cons rfl le_nil)))))))) (fun w1 => (bx_nil (r := Jn.go ()) rfl le_nil)) (fun _ => rfl) (passes_of rfl)) ?_
  rfl
theorem ok_check_set (T : Txt K mg) (G : ExCls Pg K mg "GraphError" s_GraphError) : FnOk Pg w K mg base (L2.CX Pg w) 4 T.a_check_set T.d_check_set ["many", "some", "rule"] (spE K (fun p : Int × (List Int) × Str × Unit => [Ty.int p.1, (Ty.tup Ty.int) p.2.1, Ty.str p.2.2.1]) (.ref G.C) (fun p => (m_check_set p.1 p.2.1 p.2.2.1).map toEx) Ty.none) := by
  refine fn_procE T.F_check_set sc_check_set (fun _ => rfl) (fun p cdv A outer s H E' hr => ?_)
  obtain ⟨many0, some0, rule0, _⟩ := p
  refine BX_to (m' := m_check_set many0 some0 rule0) (bx_forX (W := Unit) (Rr := Er) (fun w0 : Unit => [iv 2 Ty.str rule0, iv 1 (Ty.tup Ty.int) some0, iv 0 Ty.int many0]) (fun w0 : Unit => ()) (oE (.ref G.C)) (w0 := (fun q => ())) (kr := fun r => Jn.ex r) (it_enumT T.n_enumerate (ex_var (E := (Ty.tup Ty.int)) (a := some0) 1 rfl)) (gx_tup (E := (Ty.p2 Ty.int Ty.int)) (F := fun x => [Ty.int x.1, Ty.int x.2]) (gxs_cons (GX.map (F := Ty.int) (E := fun x : (Int × Int) => Ty.int x.1) (gx_name 3 sc_check_set.nd) (fun x : (Int × Int) => x.1) (fun _ => rfl)) (gxs_cons (GX.map (F := Ty.int) (E := fun x : (Int × Int) => Ty.int x.2) (gx_name 4 sc_check_set.nd) (fun x : (Int × Int) => x.2) (fun _ => rfl)) gxs_nil)) (fun _ => rfl) (fun _ => rfl)) (fun _ => rfl) (fun _ => (le_cons rfl (le_cons rfl (le_cons rfl le_nil)))) (fun w0 it0 => (bx_doX (em := fun e => Fl.ret e) (ok_require T G) (hr.mono (by decide)) T.g_require T.k_require T.b_require (ax_cons (E := Ty.bool) (F := (fun q : Str × Int × Unit => [Ty.str q.1, Ty.int q.2.1])) (ex_chainT (g := fun i j => decide (i ≤ j)) (g' := fun i j => decide (i < j)) op_le op_lt ex_int (fun _ => (ex_var (E := Ty.int) (a := it0.2) 4 rfl)) (fun _ => (ex_var (E := Ty.int) (a := many0) 0 rfl))) (fun _ => (ax_cons (E := Ty.str) (F := (fun q : Int × Unit => [Ty.int q.1])) (ex_var (E := Ty.str) (a := rule0) 2 rfl) (fun _ => (ax_cons (E := Ty.int) (F := (fun q : Unit => [])) (ex_var (E := Ty.int) (a := it0.1) 3 rfl) (fun _ => ax_nil)))))) (fun _ _ _ => (bx_doX (em := fun e => Fl.ret e) (ok_require T G) (hr.mono (by decide)) T.g_require T.k_require T.b_require (ax_cons (E := Ty.bool) (F := (fun q : Str × Int × Unit => [Ty.str q.1, Ty.int q.2.1])) (ex_or (ex_eq hr Eqn.int (ex_var (E := Ty.int) (a := it0.1) 3 rfl) (fun _ => ex_int)) (fun _ => (ex_one (ex_lt (ex_ixT (ex_var (E := (Ty.tup Ty.int)) (a := some0) 1 rfl) (fun _ => (ex_sub (ex_var (E := Ty.int) (a := it0.1) 3 rfl) (fun _ => ex_int)))) (fun _ => (ex_var (E := Ty.int) (a := it0.2) 4 rfl)))))) (fun _ => (ax_cons (E := Ty.str) (F := (fun q : Int × Unit => [Ty.int q.1])) (ex_var (E := Ty.str) (a := rule0) 2 rfl) (fun _ => (ax_cons (E := Ty.int) (F := (fun q : Unit => [])) (ex_var (E := Ty.int) (a := it0.1) 3 rfl) (fun _ => ax_nil)))))) (fun _ _ _ => (bx_nil (r := Fl.next ()) rfl (le_cons rfl (le_cons rfl (le_cons rfl le_nil))))))))) (fun w1 => (bx_nil (r := Jn.go ()) rfl le_nil)) (fun _ => rfl) (passes_of rfl)) ?_
  rfl
theorem ok_word_right (T : Txt K mg) : FnOk Pg w K mg base CX0 1 T.a_word_right T.d_word_right ["graph", "vertex"] (spP K (fun p : (Int × (List (Int × Int)) × (List Int) × (List Int) × (List Str)) × Int × Unit => [(Ty.p5 Ty.int (Ty.tup (Ty.p2 Ty.int Ty.int)) (Ty.tup Ty.int) (Ty.tup Ty.int) (Ty.tup Ty.str)) p.1, Ty.int p.2.1]) (fun p => m_word_right p.1 p.2.1) Ty.bool) := by
  refine fn_pure T.F_word_right sc_word_right (fun _ => rfl) (fun p cdv A outer s H E' hr => ?_)
  obtain ⟨graph0, vertex0, _⟩ := p
  refine BX_to (m' := m_word_right graph0 vertex0) (bx_unp (E := (Ty.p5 Ty.int (Ty.tup (Ty.p2 Ty.int Ty.int)) (Ty.tup Ty.int) (Ty.tup Ty.int) (Ty.tup Ty.str))) (ex_var (E := (Ty.p5 Ty.int (Ty.tup (Ty.p2 Ty.int Ty.int)) (Ty.tup Ty.int) (Ty.tup Ty.int) (Ty.tup Ty.str))) (a := graph0) 0 rfl) (gx_tup (E := (Ty.p5 Ty.int (Ty.tup (Ty.p2 Ty.int Ty.int)) (Ty.tup Ty.int) (Ty.tup Ty.int) (Ty.tup Ty.str))) (F := fun x => [Ty.int x.1, (Ty.tup (Ty.p2 Ty.int Ty.int)) x.2.1, (Ty.tup Ty.int) x.2.2.1, (Ty.tup Ty.int) x.2.2.2.1, (Ty.tup Ty.str) x.2.2.2.2]) (gxs_cons (GX.map (F := Ty.int) (E := fun x : (Int × (List (Int × Int)) × (List Int) × (List Int) × (List Str)) => Ty.int x.1) (gx_name 2 sc_word_right.nd) (fun x : (Int × (List (Int × Int)) × (List Int) × (List Int) × (List Str)) => x.1) (fun _ => rfl)) (gxs_cons (GX.map (F := (Ty.tup (Ty.p2 Ty.int Ty.int))) (E := fun x : (Int × (List (Int × Int)) × (List Int) × (List Int) × (List Str)) => (Ty.tup (Ty.p2 Ty.int Ty.int)) x.2.1) (gx_name 2 sc_word_right.nd) (fun x : (Int × (List (Int × Int)) × (List Int) × (List Int) × (List Str)) => x.2.1) (fun _ => rfl)) (gxs_cons (GX.map (F := (Ty.tup Ty.int)) (E := fun x : (Int × (List (Int × Int)) × (List Int) × (List Int) × (List Str)) => (Ty.tup Ty.int) x.2.2.1) (gx_name 3 sc_word_right.nd) (fun x : (Int × (List (Int × Int)) × (List Int) × (List Int) × (List Str)) => x.2.2.1) (fun _ => rfl)) (gxs_cons (GX.map (F := (Ty.tup Ty.int)) (E := fun x : (Int × (List (Int × Int)) × (List Int) × (List Int) × (List Str)) => (Ty.tup Ty.int) x.2.2.2.1) (gx_name 4 sc_word_right.nd) (fun x : (Int × (List (Int × Int)) × (List Int) × (List Int) × (List Str)) => x.2.2.2.1) (fun _ => rfl)) (gxs_cons (GX.map (F := (Ty.tup Ty.str)) (E := fun x : (Int × (List (Int × Int)) × (List Int) × (List Int) × (List Str)) => (Ty.tup Ty.str) x.2.2.2.2) (gx_name 5 sc_word_right.nd) (fun x : (Int × (List (Int × Int)) × (List Int) × (List Int) × (List Str)) => x.2.2.2.2) (fun _ => rfl)) gxs_nil))))) (fun _ => rfl) (fun _ => rfl)) (fun u0 q0 => (bx_ifR (tx_inT hr Eqn.int (ex_var (E := Ty.int) (a := vertex0) 1 rfl) (fun _ => (ex_var (E := (Ty.tup Ty.int)) (a := u0.2.2.2.1) 4 rfl))) (fun q1 => (bx_ret (E := Ty.bool) (k := fun x q => x) (ex_eq hr Eqn.str (ex_ixT (ex_var (E := (Ty.tup Ty.str)) (a := u0.2.2.2.2) 5 rfl) (fun _ => (ex_var (E := Ty.int) (a := vertex0) 1 rfl))) (fun _ => (ex_str (by decide +kernel)))) (fun _ _ => rfl))) (fun q1 => (bx_ret (E := Ty.bool) (k := fun x q => x) (ex_inT hr Eqn.str (ex_ixT (ex_var (E := (Ty.tup Ty.str)) (a := u0.2.2.2.2) 5 rfl) (fun _ => (ex_var (E := Ty.int) (a := vertex0) 1 rfl))) (fun _ => (ex_ifT (E := (Ty.tup Ty.str)) (tx_inT hr Eqn.int (ex_var (E := Ty.int) (a := vertex0) 1 rfl) (fun _ => (ex_var (E := (Ty.tup Ty.int)) (a := u0.2.2.1) 3 rfl))) (fun _ => (ex_gT T.m_INPUT_WORDS T.t_INPUT_WORDS)) (fun _ => (ex_gT T.m_WORDS T.t_WORDS))))) (fun _ _ => rfl)))))) ?_
  rfl
theorem ok_check_lettered (T : Txt K mg) (G : ExCls Pg K mg "GraphError" s_GraphError) : FnOk Pg w K mg base (L2.CX Pg w) 5 T.a_check_lettered T.d_check_lettered ["graph"] (spE K (fun p : (Int × (List (Int × Int)) × (List Int) × (List Int) × (List Str)) × Unit => [(Ty.p5 Ty.int (Ty.tup (Ty.p2 Ty.int Ty.int)) (Ty.tup Ty.int) (Ty.tup Ty.int) (Ty.tup Ty.str)) p.1]) (.ref G.C) (fun p => (m_check_lettered p.1).map toEx) Ty.none) := by
  refine fn_procE T.F_check_lettered sc_check_lettered (fun _ => rfl) (fun p cdv A outer s H E' hr => ?_)
  obtain ⟨graph0, _⟩ := p
  refine BX_to (m' := m_check_lettered graph0) (bx_unp (E := (Ty.p5 Ty.int (Ty.tup (Ty.p2 Ty.int Ty.int)) (Ty.tup Ty.int) (Ty.tup Ty.int) (Ty.tup Ty.str))) (ex_var (E := (Ty.p5 Ty.int (Ty.tup (Ty.p2 Ty.int Ty.int)) (Ty.tup Ty.int) (Ty.tup Ty.int) (Ty.tup Ty.str))) (a := graph0) 0 rfl) (gx_tup (E := (Ty.p5 Ty.int (Ty.tup (Ty.p2 Ty.int Ty.int)) (Ty.tup Ty.int) (Ty.tup Ty.int) (Ty.tup Ty.str))) (F := fun x => [Ty.int x.1, (Ty.tup (Ty.p2 Ty.int Ty.int)) x.2.1, (Ty.tup Ty.int) x.2.2.1, (Ty.tup Ty.int) x.2.2.2.1, (Ty.tup Ty.str) x.2.2.2.2]) (gxs_cons (GX.map (F := Ty.int) (E := fun x : (Int × (List (Int × Int)) × (List Int) × (List Int) × (List Str)) => Ty.int x.1) (gx_name 1 sc_check_lettered.nd) (fun x : (Int × (List (Int × Int)) × (List Int) × (List Int) × (List Str)) => x.1) (fun _ => rfl)) (gxs_cons (GX.map (F := (Ty.tup (Ty.p2 Ty.int Ty.int))) (E := fun x : (Int × (List (Int × Int)) × (List Int) × (List Int) × (List Str)) => (Ty.tup (Ty.p2 Ty.int Ty.int)) x.2.1) (gx_name 2 sc_check_lettered.nd) (fun x : (Int × (List (Int × Int)) × (List Int) × (List Int) × (List Str)) => x.2.1) (fun _ => rfl)) (gxs_cons (GX.map (F := (Ty.tup Ty.int)) (E := fun x : (Int × (List (Int × Int)) × (List Int) × (List Int) × (List Str)) => (Ty.tup Ty.int) x.2.2.1) (gx_name 3 sc_check_lettered.nd) (fun x : (Int × (List (Int × Int)) × (List Int) × (List Int) × (List Str)) => x.2.2.1) (fun _ => rfl)) (gxs_cons (GX.map (F := (Ty.tup Ty.int)) (E := fun x : (Int × (List (Int × Int)) × (List Int) × (List Int) × (List Str)) => (Ty.tup Ty.int) x.2.2.2.1) (gx_name 4 sc_check_lettered.nd) (fun x : (Int × (List (Int × Int)) × (List Int) × (List Int) × (List Str)) => x.2.2.2.1) (fun _ => rfl)) (gxs_cons (GX.map (F := (Ty.tup Ty.str)) (E := fun x : (Int × (List (Int × Int)) × (List Int) × (List Int) × (List Str)) => (Ty.tup Ty.str) x.2.2.2.2) (gx_name 5 sc_check_lettered.nd) (fun x : (Int × (List (Int × Int)) × (List Int) × (List Int) × (List Str)) => x.2.2.2.2) (fun _ => rfl)) gxs_nil))))) (fun _ => rfl) (fun _ => rfl)) (fun u0 q0 => (bx_doX (em := fun e => Jn.ex e) (ok_require T G) (hr.mono (by decide)) T.g_require T.k_require T.b_require (ax_cons (E := Ty.bool) (F := (fun q : Str × Int × Unit => [Ty.str q.1, Ty.int q.2.1])) (ex_chainT (g := fun i j => decide (i ≤ j)) (g' := fun i j => decide (i ≤ j)) op_le op_le ex_int (fun _ => (ex_var (E := Ty.int) (a := u0.1) 1 rfl)) (fun _ => (ex_gI T.m_MOST_VERTICES))) (fun _ => (ax_cons (E := Ty.str) (F := (fun q : Int × Unit => [Ty.int q.1])) (ex_str (by decide +kernel)) (fun _ => (ax_cons (E := Ty.int) (F := (fun q : Unit => [])) (ex_var (E := Ty.int) (a := u0.1) 1 rfl) (fun _ => ax_nil)))))) (fun _ _ _ => (bx_doX (em := fun e => Jn.ex e) (ok_check_edges T G) (hr.mono (by decide)) T.g_check_edges T.k_check_edges T.b_check_edges (ax_cons (E := Ty.int) (F := (fun q : (List (Int × Int)) × Unit => [(Ty.tup (Ty.p2 Ty.int Ty.int)) q.1])) (ex_var (E := Ty.int) (a := u0.1) 1 rfl) (fun _ => (ax_cons (E := (Ty.tup (Ty.p2 Ty.int Ty.int))) (F := (fun q : Unit => [])) (ex_var (E := (Ty.tup (Ty.p2 Ty.int Ty.int))) (a := u0.2.1) 2 rfl) (fun _ => ax_nil)))) (fun _ _ _ => (bx_doX (em := fun e => Jn.ex e) (ok_check_set T G) (hr.mono (by decide)) T.g_check_set T.k_check_set T.b_check_set (ax_cons (E := Ty.int) (F := (fun q : (List Int) × Str × Unit => [(Ty.tup Ty.int) q.1, Ty.str q.2.1])) (ex_var (E := Ty.int) (a := u0.1) 1 rfl) (fun _ => (ax_cons (E := (Ty.tup Ty.int)) (F := (fun q : Str × Unit => [Ty.str q.1])) (ex_var (E := (Ty.tup Ty.int)) (a := u0.2.2.1) 3 rfl) (fun _ => (ax_cons (E := Ty.str) (F := (fun q : Unit => [])) (ex_str (by decide +kernel)) (fun _ => ax_nil)))))) (fun _ _ _ => (bx_doX (em := fun e => Jn.ex e) (ok_check_set T G) (hr.mono (by decide)) T.g_check_set T.k_check_set T.b_check_set (ax_cons (E := Ty.int) (F := (fun q : (List Int) × Str × Unit => [(Ty.tup Ty.int) q.1, Ty.str q.2.1])) (ex_var (E := Ty.int) (a := u0.1) 1 rfl) (fun _ => (ax_cons (E := (Ty.tup Ty.int)) (F := (fun q : Str × Unit => [Ty.str q.1])) (ex_var (E := (Ty.tup Ty.int)) (a := u0.2.2.2.1) 4 rfl) (fun _ => (ax_cons (E := Ty.str) (F := (fun q : Unit => [])) (ex_str (by decide +kernel)) (fun _ => ax_nil)))))) (fun _ _ _ => (bx_doX (em := fun e => Jn.ex e) (ok_require T G) (hr.mono (by decide)) T.g_require T.k_require T.b_require (ax_cons (E := Ty.bool) (F := (fun q : Str × Int × Unit => [Ty.str q.1, Ty.int q.2.1])) (ex_eq hr Eqn.int (ex_lenT T.n_len (ex_var (E := (Ty.tup Ty.str)) (a := u0.2.2.2.2) 5 rfl)) (fun _ => (ex_var (E := Ty.int) (a := u0.1) 1 rfl))) (fun _ => (ax_cons (E := Ty.str) (F := (fun q : Int × Unit => [Ty.int q.1])) (ex_str (by decide +kernel)) (fun _ => (ax_cons (E := Ty.int) (F := (fun q : Unit => [])) (ex_lenT T.n_len (ex_var (E := (Ty.tup Ty.str)) (a := u0.2.2.2.2) 5 rfl)) (fun _ => ax_nil)))))) (fun _ _ _ => (bx_forX (W := Unit) (Rr := Er) (fun w0 : Unit => [iv 0 (Ty.p5 Ty.int (Ty.tup (Ty.p2 Ty.int Ty.int)) (Ty.tup Ty.int) (Ty.tup Ty.int) (Ty.tup Ty.str)) graph0]) (fun w0 : Unit => ()) (oE (.ref G.C)) (w0 := (fun q => ())) (kr := fun r => Jn.ex r) (it_range1 T.n_range (ex_var (E := Ty.int) (a := u0.1) 1 rfl)) (gx_name 6 sc_check_lettered.nd) (fun _ => rfl) (fun _ => (le_cons rfl le_nil)) (fun w0 vertex0 => (bx_doX (em := fun e => Fl.ret e) (ok_require T G) (hr.mono (by decide)) T.g_require T.k_require T.b_require (ax_cons (E := Ty.bool) (F := (fun q : Str × Int × Unit => [Ty.str q.1, Ty.int q.2.1])) (ex_call (ok_word_right T) (hr.mono (by decide)) T.g_word_right T.k_word_right T.b_word_right (ax_cons (E := (Ty.p5 Ty.int (Ty.tup (Ty.p2 Ty.int Ty.int)) (Ty.tup Ty.int) (Ty.tup Ty.int) (Ty.tup Ty.str))) (F := (fun q : Int × Unit => [Ty.int q.1])) (ex_var (E := (Ty.p5 Ty.int (Ty.tup (Ty.p2 Ty.int Ty.int)) (Ty.tup Ty.int) (Ty.tup Ty.int) (Ty.tup Ty.str))) (a := graph0) 0 rfl) (fun _ => (ax_cons (E := Ty.int) (F := (fun q : Unit => [])) (ex_var (E := Ty.int) (a := vertex0) 6 rfl) (fun _ => ax_nil))))) (fun _ => (ax_cons (E := Ty.str) (F := (fun q : Int × Unit => [Ty.int q.1])) (ex_str (by decide +kernel)) (fun _ => (ax_cons (E := Ty.int) (F := (fun q : Unit => [])) (ex_var (E := Ty.int) (a := vertex0) 6 rfl) (fun _ => ax_nil)))))) (fun _ _ _ => (bx_nil (r := Fl.next ()) rfl (le_cons rfl le_nil))))) (fun w1 => (bx_nil (r := Jn.go ()) rfl le_nil)) (fun _ => rfl) (passes_of rfl)))))))))))))) ?_
  rfl
theorem ok__law_pick (T : Txt K mg) : FnOk Pg w K mg base CX0 2 T.a__law_pick T.d__law_pick ["state", "row"] (spS K 1 (io1 rtR 0) (fun p : (List Int) × Unit => [(Ty.lst Ty.int) p.1]) (fun p s => m_law_pick p.1 s) Ty.int) := by
  refine fn_state T.F__law_pick sc__law_pick (fun _ => rfl) (fun p s cdv A outer sh H E' hr => ?_)
  obtain ⟨row0, _⟩ := p
  refine BX_to (m' := m_law_pick row0 s) (bx_ret (E := Ty.int) (k := fun x q => (x, q)) (ex_ixL (ex_var (E := (Ty.lst Ty.int)) (a := row0) 1 rfl) (fun _ => (ex_callS (ok__law_draw T) (hr.mono (by decide)) T.g__law_draw T.k__law_draw T.b__law_draw (ax_cons (E := Ty.int) (F := (fun q : Unit => [])) (ex_lenL T.n_len (ex_var (E := (Ty.lst Ty.int)) (a := row0) 1 rfl)) (fun _ => ax_nil))))) (fun _ _ => rfl)) ?_
  rfl
theorem ok__law_pick__1 (T : Txt K mg) : FnOk Pg w K mg base CX0 2 T.a__law_pick T.d__law_pick ["state", "row"] (spS K 1 (io1 rtR 0) (fun p : (List Str) × Unit => [(Ty.lst Ty.str) p.1]) (fun p s => m_law_pick__1 p.1 s) Ty.str) := by
  refine fn_state T.F__law_pick sc__law_pick (fun _ => rfl) (fun p s cdv A outer sh H E' hr => ?_)
  obtain ⟨row0, _⟩ := p
  refine BX_to (m' := m_law_pick__1 row0 s) (bx_ret (E := Ty.str) (k := fun x q => (x, q)) (ex_ixL (ex_var (E := (Ty.lst Ty.str)) (a := row0) 1 rfl) (fun _ => (ex_callS (ok__law_draw T) (hr.mono (by decide)) T.g__law_draw T.k__law_draw T.b__law_draw (ax_cons (E := Ty.int) (F := (fun q : Unit => [])) (ex_lenL T.n_len (ex_var (E := (Ty.lst Ty.str)) (a := row0) 1 rfl)) (fun _ => ax_nil))))) (fun _ _ => rfl)) ?_
  rfl
theorem ok__law_pick__2 (T : Txt K mg) : FnOk Pg w K mg base CX0 2 T.a__law_pick T.d__law_pick ["state", "row"] (spS K 1 (io1 rtR 0) (fun p : (List (Int × Int)) × Unit => [(Ty.lst (Ty.p2 Ty.int Ty.int)) p.1]) (fun p s => m_law_pick__2 p.1 s) (Ty.p2 Ty.int Ty.int)) := by
  refine fn_state T.F__law_pick sc__law_pick (fun _ => rfl) (fun p s cdv A outer sh H E' hr => ?_)
  obtain ⟨row0, _⟩ := p
  refine BX_to (m' := m_law_pick__2 row0 s) (bx_ret (E := (Ty.p2 Ty.int Ty.int)) (k := fun x q => (x, q)) (ex_ixL (ex_var (E := (Ty.lst (Ty.p2 Ty.int Ty.int))) (a := row0) 1 rfl) (fun _ => (ex_callS (ok__law_draw T) (hr.mono (by decide)) T.g__law_draw T.k__law_draw T.b__law_draw (ax_cons (E := Ty.int) (F := (fun q : Unit => [])) (ex_lenL T.n_len (ex_var (E := (Ty.lst (Ty.p2 Ty.int Ty.int))) (a := row0) 1 rfl)) (fun _ => ax_nil))))) (fun _ _ => rfl)) ?_
  rfl
theorem ok__law_pick__3 (T : Txt K mg) : FnOk Pg w K mg base CX0 2 T.a__law_pick T.d__law_pick ["state", "row"] (spS K 1 (io1 rtR 0) (fun p : (List (List Str)) × Unit => [(Ty.lst (Ty.tup Ty.str)) p.1]) (fun p s => m_law_pick__3 p.1 s) (Ty.tup Ty.str)) := by
  refine fn_state T.F__law_pick sc__law_pick (fun _ => rfl) (fun p s cdv A outer sh H E' hr => ?_)
  obtain ⟨row0, _⟩ := p
  refine BX_to (m' := m_law_pick__3 row0 s) (bx_ret (E := (Ty.tup Ty.str)) (k := fun x q => (x, q)) (ex_ixL (ex_var (E := (Ty.lst (Ty.tup Ty.str))) (a := row0) 1 rfl) (fun _ => (ex_callS (ok__law_draw T) (hr.mono (by decide)) T.g__law_draw T.k__law_draw T.b__law_draw (ax_cons (E := Ty.int) (F := (fun q : Unit => [])) (ex_lenL T.n_len (ex_var (E := (Ty.lst (Ty.tup Ty.str))) (a := row0) 1 rfl)) (fun _ => ax_nil))))) (fun _ _ => rfl)) ?_
  rfl
theorem ok__law_graph (T : Txt K mg) : FnOk Pg w K mg base CX0 3 T.a__law_graph T.d__law_graph ["state", "most", "planes_alone"] (spS K 1 (io1 rtR 0) (fun p : Int × Bool × Unit => [Ty.int p.1, Ty.bool p.2.1]) (fun p s => m_law_graph p.1 p.2.1 s) (Ty.p5 Ty.int (Ty.tup (Ty.p2 Ty.int Ty.int)) (Ty.tup Ty.int) (Ty.tup Ty.int) (Ty.tup Ty.str))) := by
  refine fn_state T.F__law_graph sc__law_graph (fun _ => rfl) (fun p s cdv A outer sh H E' hr => ?_)
  obtain ⟨most0, planes_alone0, _⟩ := p
  refine BX_to (m' := m_law_graph most0 planes_alone0 s) (bx_setL (E := Ty.int) 3 sc__law_graph.nd (ex_add ex_int (fun _ => (ex_callS (ok__law_draw T) (hr.mono (by decide)) T.g__law_draw T.k__law_draw T.b__law_draw (ax_cons (E := Ty.int) (F := (fun q : Unit => [])) (ex_var (E := Ty.int) (a := most0) 1 rfl) (fun _ => ax_nil))))) (fun many0 q0 => (bx_setL (E := Ty.int) 4 sc__law_graph.nd (ex_callS (ok__law_pick T) (hr.mono (by decide)) T.g__law_pick T.k__law_pick T.b__law_pick (ax_cons (E := (Ty.lst Ty.int)) (F := (fun q : Unit => [])) (EO.ex (eo_lst (E := Ty.int) (al_cons (E := Ty.int) ex_int (fun _ => (al_cons (E := Ty.int) ex_int (fun _ => (al_cons (E := Ty.int) ex_int (fun _ => (al_nil (E := Ty.int)))))))))) (fun _ => ax_nil))) (fun dense0 q1 => (bx_setL (E := (Ty.lst (Ty.p2 Ty.int Ty.int))) 5 sc__law_graph.nd (EO.ex (eo_lst (E := (Ty.p2 Ty.int Ty.int)) (al_nil (E := (Ty.p2 Ty.int Ty.int))))) (fun edges0 q2 => (bx_for (W := (List (Int × Int)) × Rs) (fun w0 : (List (Int × Int)) × Rs => [iv 5 (Ty.lst (Ty.p2 Ty.int Ty.int)) w0.1, iv 4 Ty.int dense0, iv 3 Ty.int many0, iv 2 Ty.bool planes_alone0]) (fun w0 : (List (Int × Int)) × Rs => w0.2) (w0 := (fun q => (edges0, q))) (it_range1 T.n_range (ex_var (E := Ty.int) (a := many0) 3 rfl)) (gx_name 6 sc__law_graph.nd) (fun _ => rfl) (fun _ => (le_cons rfl (le_cons rfl (le_cons rfl (le_cons rfl le_nil))))) (fun w0 one0 => (bx_setL (E := (Ty.lst (Ty.p2 Ty.int Ty.int))) 5 sc__law_graph.nd (ex_catL (ex_var (E := (Ty.lst (Ty.p2 Ty.int Ty.int))) (a := w0.1) 5 rfl) (fun _ => (EO.ex (LO.eo (lo_comp (own := [("other", 12)]) sc__law_graph.nd (it_range2 T.n_range (ex_add (ex_var (E := Ty.int) (a := one0) 6 rfl) (fun _ => ex_int)) (fun _ => (ex_var (E := Ty.int) (a := many0) 3 rfl))) (fun _ _ _ _ _ => gx_name 12 sc__law_graph.nd) (fun _ _ _ _ _ other0 _ => cx_one (tx_eq hr Eqn.int (ex_callS (ok__law_draw T) (hr.mono (by decide)) T.g__law_draw T.k__law_draw T.b__law_draw (ax_cons (E := Ty.int) (F := (fun q : Unit => [])) (ex_var (E := Ty.int) (a := dense0) 4 rfl) (fun _ => ax_nil))) (fun _ => ex_int))) (fun _ _ _ _ _ other0 _ => (ex_tup (E := (Ty.p2 Ty.int Ty.int)) (ax_cons (E := Ty.int) (F := (fun q : Int => [Ty.int q])) (ex_var (E := Ty.int) (a := one0) 6 rfl) (fun _ => (ax_one (E := Ty.int) (ex_var (E := Ty.int) (a := other0) 12 rfl)))) (fun _ => rfl) (fun _ => Nat.le_of_ble_eq_true rfl)))))))) (fun edges1 q3 => (bx_nil (r := (edges1, q3)) rfl (le_cons rfl (le_cons rfl (le_cons rfl (le_cons rfl le_nil)))))))) (fun w1 => (bx_setL (E := (Ty.tup Ty.int)) 7 sc__law_graph.nd (ex_tupleL T.n_tuple (EO.ex (LO.eo (lo_comp (own := [("v", 10)]) sc__law_graph.nd (it_range1 T.n_range (ex_var (E := Ty.int) (a := many0) 3 rfl)) (fun _ _ _ _ _ => gx_name 10 sc__law_graph.nd) (fun _ _ _ _ _ v0 _ => cx_one (tx_eq hr Eqn.int (ex_callS (ok__law_draw T) (hr.mono (by decide)) T.g__law_draw T.k__law_draw T.b__law_draw (ax_cons (E := Ty.int) (F := (fun q : Unit => [])) ex_int (fun _ => ax_nil))) (fun _ => ex_int))) (fun _ _ _ _ _ v0 _ => (ex_var (E := Ty.int) (a := v0) 10 rfl)))))) (fun outs0 q5 => (bx_setL (E := (Ty.tup Ty.int)) 8 sc__law_graph.nd (ex_tupleL T.n_tuple (EO.ex (LO.eo (lo_comp (own := [("v", 10)]) sc__law_graph.nd (it_range1 T.n_range (ex_var (E := Ty.int) (a := many0) 3 rfl)) (fun _ _ _ _ _ => gx_name 10 sc__law_graph.nd) (fun _ _ _ _ _ v1 _ => cx_one (tx_eq hr Eqn.int (ex_callS (ok__law_draw T) (hr.mono (by decide)) T.g__law_draw T.k__law_draw T.b__law_draw (ax_cons (E := Ty.int) (F := (fun q : Unit => [])) ex_int (fun _ => ax_nil))) (fun _ => ex_int))) (fun _ _ _ _ _ v1 _ => (ex_var (E := Ty.int) (a := v1) 10 rfl)))))) (fun ins0 q7 => (bx_setOL (E := Ty.str) 9 sc__law_graph.nd (eo_lst (E := Ty.str) (al_nil (E := Ty.str))) (fun labels0 q9 => (bx_for (W := (List Str) × Rs) (fun w2 : (List Str) × Rs => [ov 9 Ty.str w2.1, iv 8 (Ty.tup Ty.int) ins0, iv 7 (Ty.tup Ty.int) outs0, iv 5 (Ty.lst (Ty.p2 Ty.int Ty.int)) w1.1, iv 3 Ty.int many0, iv 2 Ty.bool planes_alone0]) (fun w2 : (List Str) × Rs => w2.2) (w0 := (fun q => (labels0, q))) (it_range1 T.n_range (ex_var (E := Ty.int) (a := many0) 3 rfl)) (gx_name 10 sc__law_graph.nd) (fun _ => rfl) (fun _ => (le_cons rfl (le_cons rfl (le_cons rfl (le_cons rfl (le_cons rfl (le_cons rfl le_nil))))))) (fun w2 v2 => (bx_setL (E := (Ty.lst Ty.str)) 11 sc__law_graph.nd (ex_ifT (E := (Ty.lst Ty.str)) (tx_val (ex_var (E := Ty.bool) (a := planes_alone0) 2 rfl)) (fun _ => (EO.ex (eo_lst (E := Ty.str) (al_cons (E := Ty.str) (ex_str (by decide +kernel)) (fun _ => (al_cons (E := Ty.str) (ex_str (by decide +kernel)) (fun _ => (al_cons (E := Ty.str) (ex_str (by decide +kernel)) (fun _ => (al_nil (E := Ty.str))))))))))) (fun _ => (EO.ex (eo_lst (E := Ty.str) (al_cons (E := Ty.str) (ex_str (by decide +kernel)) (fun _ => (al_cons (E := Ty.str) (ex_str (by decide +kernel)) (fun _ => (al_cons (E := Ty.str) (ex_str (by decide +kernel)) (fun _ => (al_cons (E := Ty.str) (ex_str (by decide +kernel)) (fun _ => (al_cons (E := Ty.str) (ex_str (by decide +kernel)) (fun _ => (al_cons (E := Ty.str) (ex_str (by decide +kernel)) (fun _ => (al_cons (E := Ty.str) (ex_str (by decide +kernel)) (fun _ => (al_cons (E := Ty.str) (ex_str (by decide +kernel)) (fun _ => (al_cons (E := Ty.str) (ex_str (by decide +kernel)) (fun _ => (al_nil (E := Ty.str)))))))))))))))))))))))) (fun words0 q10 => (bx_if (W := (List Str) × Rs) (fun w4 : (List Str) × Rs => [iv 11 (Ty.lst Ty.str) w4.1, iv 10 Ty.int v2, ov 9 Ty.str w2.1, iv 8 (Ty.tup Ty.int) ins0, iv 7 (Ty.tup Ty.int) outs0, iv 5 (Ty.lst (Ty.p2 Ty.int Ty.int)) w1.1, iv 3 Ty.int many0, iv 2 Ty.bool planes_alone0]) (fun w4 : (List Str) × Rs => w4.2) (tx_inT hr Eqn.int (ex_var (E := Ty.int) (a := v2) 10 rfl) (fun _ => (ex_var (E := (Ty.tup Ty.int)) (a := ins0) 8 rfl))) (fun q11 => (bx_setL (E := (Ty.lst Ty.str)) 11 sc__law_graph.nd (ex_ifT (E := (Ty.lst Ty.str)) (tx_val (ex_var (E := Ty.bool) (a := planes_alone0) 2 rfl)) (fun _ => (EO.ex (eo_lst (E := Ty.str) (al_cons (E := Ty.str) (ex_str (by decide +kernel)) (fun _ => (al_nil (E := Ty.str))))))) (fun _ => (EO.ex (eo_lst (E := Ty.str) (al_cons (E := Ty.str) (ex_str (by decide +kernel)) (fun _ => (al_cons (E := Ty.str) (ex_str (by decide +kernel)) (fun _ => (al_cons (E := Ty.str) (ex_str (by decide +kernel)) (fun _ => (al_nil (E := Ty.str)))))))))))) (fun words1 q12 => (bx_nil (r := (words1, q12)) rfl (le_cons rfl (le_cons rfl (le_cons rfl (le_cons rfl (le_cons rfl (le_cons rfl (le_cons rfl (le_cons rfl le_nil)))))))))))) (fun q11 => (bx_nil (r := (words0, q11)) rfl (le_cons rfl (le_cons rfl (le_cons rfl (le_cons rfl (le_cons rfl (le_cons rfl (le_cons rfl (le_cons rfl le_nil)))))))))) (fun w4 => (bx_append (E := Ty.str) (l := w2.1) 9 rfl (ex_if (E := Ty.str) (tx_inT hr Eqn.int (ex_var (E := Ty.int) (a := v2) 10 rfl) (fun _ => (ex_var (E := (Ty.tup Ty.int)) (a := outs0) 7 rfl))) (fun _ => (ex_str (by decide +kernel))) (fun _ => (ex_callS (ok__law_pick__1 T) (hr.mono (by decide)) T.g__law_pick T.k__law_pick T.b__law_pick (ax_cons (E := (Ty.lst Ty.str)) (F := (fun q : Unit => [])) (ex_var (E := (Ty.lst Ty.str)) (a := w4.1) 11 rfl) (fun _ => ax_nil))))) (fun labels1 q13 => (bx_nil (r := (labels1, q13)) rfl (le_cons rfl (le_cons rfl (le_cons rfl (le_cons rfl (le_cons rfl (le_cons rfl le_nil)))))))))))))) (fun w3 => (bx_freeze (E := Ty.str) (l := w3.1) 9 rfl (bx_ret (E := (Ty.p5 Ty.int (Ty.tup (Ty.p2 Ty.int Ty.int)) (Ty.tup Ty.int) (Ty.tup Ty.int) (Ty.tup Ty.str))) (k := fun x q => (x, q)) (ex_tup (E := (Ty.p5 Ty.int (Ty.tup (Ty.p2 Ty.int Ty.int)) (Ty.tup Ty.int) (Ty.tup Ty.int) (Ty.tup Ty.str))) (ax_cons (E := Ty.int) (F := (fun q : (List (Int × Int)) × (List Int) × (List Int) × (List Str) => [(Ty.tup (Ty.p2 Ty.int Ty.int)) q.1, (Ty.tup Ty.int) q.2.1, (Ty.tup Ty.int) q.2.2.1, (Ty.tup Ty.str) q.2.2.2])) (ex_var (E := Ty.int) (a := many0) 3 rfl) (fun _ => (ax_cons (E := (Ty.tup (Ty.p2 Ty.int Ty.int))) (F := (fun q : (List Int) × (List Int) × (List Str) => [(Ty.tup Ty.int) q.1, (Ty.tup Ty.int) q.2.1, (Ty.tup Ty.str) q.2.2])) (ex_tupleL T.n_tuple (ex_var (E := (Ty.lst (Ty.p2 Ty.int Ty.int))) (a := w1.1) 5 rfl)) (fun _ => (ax_cons (E := (Ty.tup Ty.int)) (F := (fun q : (List Int) × (List Str) => [(Ty.tup Ty.int) q.1, (Ty.tup Ty.str) q.2])) (ex_var (E := (Ty.tup Ty.int)) (a := ins0) 8 rfl) (fun _ => (ax_cons (E := (Ty.tup Ty.int)) (F := (fun q : (List Str) => [(Ty.tup Ty.str) q])) (ex_var (E := (Ty.tup Ty.int)) (a := outs0) 7 rfl) (fun _ => (ax_one (E := (Ty.tup Ty.str)) (ex_tupleL T.n_tuple (ex_var (E := (Ty.lst Ty.str)) (a := w3.1) 9 rfl))))))))))) (fun _ => rfl) (fun _ => Nat.le_of_ble_eq_true rfl)) (fun _ _ => rfl))))))))))))))))))) ?_
  rfl
theorem ok__law_raised (T : Txt K mg) (G : Xk Pg K mg) : FnOk Pg w K mg base CX0 6 T.a__law_raised T.d__law_raised ["graph"] (spP K (fun p : (Int × (List (Int × Int)) × (List Int) × (List Int) × (List Str)) × Unit => [(Ty.p5 Ty.int (Ty.tup (Ty.p2 Ty.int Ty.int)) (Ty.tup Ty.int) (Ty.tup Ty.int) (Ty.tup Ty.str)) p.1]) (fun p => m_law_raised p.1) (Ty.p2 Ty.str Ty.int)) := by
  refine fn_pure T.F__law_raised sc__law_raised (fun _ => rfl) (fun p cdv A outer s H E' hr => ?_)
  obtain ⟨graph0, _⟩ := p
  refine BX_to (m' := m_law_raised graph0) (bx_tryI 1 (ok_check_lettered T G.toExCls) (hr.mono (by decide)) T.g_check_lettered T.k_check_lettered T.b_check_lettered sc__law_raised.nd (fun _ _ => (ax_cons (E := (Ty.p5 Ty.int (Ty.tup (Ty.p2 Ty.int Ty.int)) (Ty.tup Ty.int) (Ty.tup Ty.int) (Ty.tup Ty.str))) (F := (fun q : Unit => [])) (ex_var (E := (Ty.p5 Ty.int (Ty.tup (Ty.p2 Ty.int Ty.int)) (Ty.tup Ty.int) (Ty.tup Ty.int) (Ty.tup Ty.str))) (a := graph0) 0 rfl) (fun _ => ax_nil))) (fun _ _ _ => (bx_ret (E := (Ty.p2 Ty.str Ty.int)) (k := fun x q => x) (ex_tup (E := (Ty.p2 Ty.str Ty.int)) (ax_cons (E := Ty.str) (F := (fun q : Int => [Ty.int q])) (ex_str (by decide +kernel)) (fun _ => (ax_one (E := Ty.int) ex_int))) (fun _ => rfl) (fun _ => Nat.le_of_ble_eq_true rfl)) (fun _ _ => rfl))) (fun e0 _ _ a dx oe pn hz hd => (bx_ret (E := (Ty.p2 Ty.str Ty.int)) (k := fun x q => x) (ex_tup (E := (Ty.p2 Ty.str Ty.int)) (ax_cons (E := Ty.str) (F := (fun q : Int => [Ty.int q])) (ex_excF (E := Ty.str) (v := e0.1) 1 G.xf G.n1 hz hd rfl rfl) (fun _ => (ax_one (E := Ty.int) (ex_excF (E := Ty.int) (v := e0.2) 1 G.xf G.n2 hz hd rfl rfl)))) (fun _ => rfl) (fun _ => Nat.le_of_ble_eq_true rfl)) (fun _ _ => rfl))) G.ex G.g) ?_
  rfl
theorem ok__law_broken (T : Txt K mg) : FnOk Pg w K mg base CX0 3 T.a__law_broken T.d__law_broken ["state", "graph"] (spS K 1 (io1 rtR 0) (fun p : (Int × (List (Int × Int)) × (List Int) × (List Int) × (List Str)) × Unit => [(Ty.p5 Ty.int (Ty.tup (Ty.p2 Ty.int Ty.int)) (Ty.tup Ty.int) (Ty.tup Ty.int) (Ty.tup Ty.str)) p.1]) (fun p s => m_law_broken p.1 s) (Ty.p3 (Ty.p5 Ty.int (Ty.tup (Ty.p2 Ty.int Ty.int)) (Ty.tup Ty.int) (Ty.tup Ty.int) (Ty.tup Ty.str)) Ty.str Ty.int)) := by
  refine fn_state T.F__law_broken sc__law_broken (fun _ => rfl) (fun p s cdv A outer sh H E' hr => ?_)
  obtain ⟨graph0, _⟩ := p
  refine BX_to (m' := m_law_broken graph0 s) (bx_unp (E := (Ty.p5 Ty.int (Ty.tup (Ty.p2 Ty.int Ty.int)) (Ty.tup Ty.int) (Ty.tup Ty.int) (Ty.tup Ty.str))) (ex_var (E := (Ty.p5 Ty.int (Ty.tup (Ty.p2 Ty.int Ty.int)) (Ty.tup Ty.int) (Ty.tup Ty.int) (Ty.tup Ty.str))) (a := graph0) 1 rfl) (gx_tup (E := (Ty.p5 Ty.int (Ty.tup (Ty.p2 Ty.int Ty.int)) (Ty.tup Ty.int) (Ty.tup Ty.int) (Ty.tup Ty.str))) (F := fun x => [Ty.int x.1, (Ty.tup (Ty.p2 Ty.int Ty.int)) x.2.1, (Ty.tup Ty.int) x.2.2.1, (Ty.tup Ty.int) x.2.2.2.1, (Ty.tup Ty.str) x.2.2.2.2]) (gxs_cons (GX.map (F := Ty.int) (E := fun x : (Int × (List (Int × Int)) × (List Int) × (List Int) × (List Str)) => Ty.int x.1) (gx_name 2 sc__law_broken.nd) (fun x : (Int × (List (Int × Int)) × (List Int) × (List Int) × (List Str)) => x.1) (fun _ => rfl)) (gxs_cons (GX.map (F := (Ty.tup (Ty.p2 Ty.int Ty.int))) (E := fun x : (Int × (List (Int × Int)) × (List Int) × (List Int) × (List Str)) => (Ty.tup (Ty.p2 Ty.int Ty.int)) x.2.1) (gx_name 3 sc__law_broken.nd) (fun x : (Int × (List (Int × Int)) × (List Int) × (List Int) × (List Str)) => x.2.1) (fun _ => rfl)) (gxs_cons (GX.map (F := (Ty.tup Ty.int)) (E := fun x : (Int × (List (Int × Int)) × (List Int) × (List Int) × (List Str)) => (Ty.tup Ty.int) x.2.2.1) (gx_name 4 sc__law_broken.nd) (fun x : (Int × (List (Int × Int)) × (List Int) × (List Int) × (List Str)) => x.2.2.1) (fun _ => rfl)) (gxs_cons (GX.map (F := (Ty.tup Ty.int)) (E := fun x : (Int × (List (Int × Int)) × (List Int) × (List Int) × (List Str)) => (Ty.tup Ty.int) x.2.2.2.1) (gx_name 5 sc__law_broken.nd) (fun x : (Int × (List (Int × Int)) × (List Int) × (List Int) × (List Str)) => x.2.2.2.1) (fun _ => rfl)) (gxs_cons (GX.map (F := (Ty.tup Ty.str)) (E := fun x : (Int × (List (Int × Int)) × (List Int) × (List Int) × (List Str)) => (Ty.tup Ty.str) x.2.2.2.2) (gx_name 6 sc__law_broken.nd) (fun x : (Int × (List (Int × Int)) × (List Int) × (List Int) × (List Str)) => x.2.2.2.2) (fun _ => rfl)) gxs_nil))))) (fun _ => rfl) (fun _ => rfl)) (fun u0 q0 => (bx_setL (E := Ty.int) 7 sc__law_broken.nd (ex_callS (ok__law_draw T) (hr.mono (by decide)) T.g__law_draw T.k__law_draw T.b__law_draw (ax_cons (E := Ty.int) (F := (fun q : Unit => [])) ex_int (fun _ => ax_nil))) (fun kind0 q1 => (bx_ifR (tx_eq hr Eqn.int (ex_var (E := Ty.int) (a := kind0) 7 rfl) (fun _ => ex_int)) (fun q2 => (bx_setL (E := Ty.int) 8 sc__law_broken.nd (ex_callS (ok__law_pick T) (hr.mono (by decide)) T.g__law_pick T.k__law_pick T.b__law_pick (ax_cons (E := (Ty.lst Ty.int)) (F := (fun q : Unit => [])) (EO.ex (eo_lst (E := Ty.int) (al_cons (E := Ty.int) ex_int (fun _ => (al_cons (E := Ty.int) ex_int (fun _ => (al_cons (E := Ty.int) (ex_neg ex_int) (fun _ => (al_nil (E := Ty.int)))))))))) (fun _ => ax_nil))) (fun wrong0 q3 => (bx_ret (E := (Ty.p3 (Ty.p5 Ty.int (Ty.tup (Ty.p2 Ty.int Ty.int)) (Ty.tup Ty.int) (Ty.tup Ty.int) (Ty.tup Ty.str)) Ty.str Ty.int)) (k := fun x q => (x, q)) (ex_tup (E := (Ty.p3 (Ty.p5 Ty.int (Ty.tup (Ty.p2 Ty.int Ty.int)) (Ty.tup Ty.int) (Ty.tup Ty.int) (Ty.tup Ty.str)) Ty.str Ty.int)) (ax_cons (E := (Ty.p5 Ty.int (Ty.tup (Ty.p2 Ty.int Ty.int)) (Ty.tup Ty.int) (Ty.tup Ty.int) (Ty.tup Ty.str))) (F := (fun q : Str × Int => [Ty.str q.1, Ty.int q.2])) (ex_dec (E := (Ty.p5 Ty.int (Ty.tup (Ty.p2 Ty.int Ty.int)) (Ty.tup Ty.int) (Ty.tup Ty.int) (Ty.tup Ty.str))) (decP5 decI (decT (decP2 decI decI)) (decT decI) (decT decI) (decT decS)) (decP5_ok decI_ok (decT_ok (decP2_ok decI_ok decI_ok)) (decT_ok decI_ok) (decT_ok decI_ok) (decT_ok decS_ok)) (ex_dyn (E := (Ty.tup Ty.dyn)) (ex_catT (ex_tupL (E := Ty.dyn) (al_cons (E := Ty.dyn) (ex_dyn (E := Ty.int) (ex_var (E := Ty.int) (a := wrong0) 8 rfl)) (fun _ => (al_nil (E := Ty.dyn))))) (fun _ => (ex_slT (ex_dec (E := (Ty.tup Ty.dyn)) decTd decTd_ok (ex_dyn (E := (Ty.p5 Ty.int (Ty.tup (Ty.p2 Ty.int Ty.int)) (Ty.tup Ty.int) (Ty.tup Ty.int) (Ty.tup Ty.str))) (ex_var (E := (Ty.p5 Ty.int (Ty.tup (Ty.p2 Ty.int Ty.int)) (Ty.tup Ty.int) (Ty.tup Ty.int) (Ty.tup Ty.str))) (a := graph0) 1 rfl))) (.is (fun _ => ex_int)) .no))))) (fun _ => (ax_cons (E := Ty.str) (F := (fun q : Int => [Ty.int q])) (ex_str (by decide +kernel)) (fun _ => (ax_one (E := Ty.int) (ex_var (E := Ty.int) (a := wrong0) 8 rfl)))))) (fun _ => rfl) (fun _ => Nat.le_of_ble_eq_true rfl)) (fun _ _ => rfl))))) (fun q2 => (bx_ifR (tx_eq hr Eqn.int (ex_var (E := Ty.int) (a := kind0) 7 rfl) (fun _ => ex_int)) (fun q4 => (bx_setL (E := Ty.int) 9 sc__law_broken.nd (ex_callS (ok__law_draw T) (hr.mono (by decide)) T.g__law_draw T.k__law_draw T.b__law_draw (ax_cons (E := Ty.int) (F := (fun q : Unit => [])) (ex_add (ex_lenT T.n_len (ex_var (E := (Ty.tup (Ty.p2 Ty.int Ty.int))) (a := u0.2.1) 3 rfl)) (fun _ => ex_int)) (fun _ => ax_nil))) (fun k0 q5 => (bx_setL (E := (Ty.p2 Ty.int Ty.int)) 10 sc__law_broken.nd (ex_callS (ok__law_pick__2 T) (hr.mono (by decide)) T.g__law_pick T.k__law_pick T.b__law_pick (ax_cons (E := (Ty.lst (Ty.p2 Ty.int Ty.int))) (F := (fun q : Unit => [])) (ex_catL (EO.ex (eo_lst (E := (Ty.p2 Ty.int Ty.int)) (al_cons (E := (Ty.p2 Ty.int Ty.int)) (ex_tup (E := (Ty.p2 Ty.int Ty.int)) (ax_cons (E := Ty.int) (F := (fun q : Int => [Ty.int q])) ex_int (fun _ => (ax_one (E := Ty.int) ex_int))) (fun _ => rfl) (fun _ => Nat.le_of_ble_eq_true rfl)) (fun _ => (al_cons (E := (Ty.p2 Ty.int Ty.int)) (ex_tup (E := (Ty.p2 Ty.int Ty.int)) (ax_cons (E := Ty.int) (F := (fun q : Int => [Ty.int q])) ex_int (fun _ => (ax_one (E := Ty.int) ex_int))) (fun _ => rfl) (fun _ => Nat.le_of_ble_eq_true rfl)) (fun _ => (al_cons (E := (Ty.p2 Ty.int Ty.int)) (ex_tup (E := (Ty.p2 Ty.int Ty.int)) (ax_cons (E := Ty.int) (F := (fun q : Int => [Ty.int q])) (ex_neg ex_int) (fun _ => (ax_one (E := Ty.int) ex_int))) (fun _ => rfl) (fun _ => Nat.le_of_ble_eq_true rfl)) (fun _ => (al_cons (E := (Ty.p2 Ty.int Ty.int)) (ex_tup (E := (Ty.p2 Ty.int Ty.int)) (ax_cons (E := Ty.int) (F := (fun q : Int => [Ty.int q])) ex_int (fun _ => (ax_one (E := Ty.int) (ex_var (E := Ty.int) (a := u0.1) 2 rfl)))) (fun _ => rfl) (fun _ => Nat.le_of_ble_eq_true rfl)) (fun _ => (al_nil (E := (Ty.p2 Ty.int Ty.int))))))))))))) (fun _ => (ex_if (E := (Ty.lst (Ty.p2 Ty.int Ty.int))) (tx_gt (ex_var (E := Ty.int) (a := k0) 9 rfl) (fun _ => ex_int)) (fun _ => (EO.ex (eo_lst (E := (Ty.p2 Ty.int Ty.int)) (al_cons (E := (Ty.p2 Ty.int Ty.int)) (ex_ixT (ex_var (E := (Ty.tup (Ty.p2 Ty.int Ty.int))) (a := u0.2.1) 3 rfl) (fun _ => (ex_sub (ex_var (E := Ty.int) (a := k0) 9 rfl) (fun _ => ex_int)))) (fun _ => (al_nil (E := (Ty.p2 Ty.int Ty.int)))))))) (fun _ => (EO.ex (eo_lst (E := (Ty.p2 Ty.int Ty.int)) (al_nil (E := (Ty.p2 Ty.int Ty.int))))))))) (fun _ => ax_nil))) (fun odd0 q6 => (bx_ret (E := (Ty.p3 (Ty.p5 Ty.int (Ty.tup (Ty.p2 Ty.int Ty.int)) (Ty.tup Ty.int) (Ty.tup Ty.int) (Ty.tup Ty.str)) Ty.str Ty.int)) (k := fun x q => (x, q)) (ex_tup (E := (Ty.p3 (Ty.p5 Ty.int (Ty.tup (Ty.p2 Ty.int Ty.int)) (Ty.tup Ty.int) (Ty.tup Ty.int) (Ty.tup Ty.str)) Ty.str Ty.int)) (ax_cons (E := (Ty.p5 Ty.int (Ty.tup (Ty.p2 Ty.int Ty.int)) (Ty.tup Ty.int) (Ty.tup Ty.int) (Ty.tup Ty.str))) (F := (fun q : Str × Int => [Ty.str q.1, Ty.int q.2])) (ex_tup (E := (Ty.p5 Ty.int (Ty.tup (Ty.p2 Ty.int Ty.int)) (Ty.tup Ty.int) (Ty.tup Ty.int) (Ty.tup Ty.str))) (ax_cons (E := Ty.int) (F := (fun q : (List (Int × Int)) × (List Int) × (List Int) × (List Str) => [(Ty.tup (Ty.p2 Ty.int Ty.int)) q.1, (Ty.tup Ty.int) q.2.1, (Ty.tup Ty.int) q.2.2.1, (Ty.tup Ty.str) q.2.2.2])) (ex_var (E := Ty.int) (a := u0.1) 2 rfl) (fun _ => (ax_cons (E := (Ty.tup (Ty.p2 Ty.int Ty.int))) (F := (fun q : (List Int) × (List Int) × (List Str) => [(Ty.tup Ty.int) q.1, (Ty.tup Ty.int) q.2.1, (Ty.tup Ty.str) q.2.2])) (ex_catT (ex_catT (ex_slT (ex_var (E := (Ty.tup (Ty.p2 Ty.int Ty.int))) (a := u0.2.1) 3 rfl) .no (.is (fun _ => (ex_var (E := Ty.int) (a := k0) 9 rfl)))) (fun _ => (ex_tupL (E := (Ty.p2 Ty.int Ty.int)) (al_cons (E := (Ty.p2 Ty.int Ty.int)) (ex_var (E := (Ty.p2 Ty.int Ty.int)) (a := odd0) 10 rfl) (fun _ => (al_nil (E := (Ty.p2 Ty.int Ty.int)))))))) (fun _ => (ex_slT (ex_var (E := (Ty.tup (Ty.p2 Ty.int Ty.int))) (a := u0.2.1) 3 rfl) (.is (fun _ => (ex_var (E := Ty.int) (a := k0) 9 rfl))) .no))) (fun _ => (ax_cons (E := (Ty.tup Ty.int)) (F := (fun q : (List Int) × (List Str) => [(Ty.tup Ty.int) q.1, (Ty.tup Ty.str) q.2])) (ex_var (E := (Ty.tup Ty.int)) (a := u0.2.2.1) 4 rfl) (fun _ => (ax_cons (E := (Ty.tup Ty.int)) (F := (fun q : (List Str) => [(Ty.tup Ty.str) q])) (ex_var (E := (Ty.tup Ty.int)) (a := u0.2.2.2.1) 5 rfl) (fun _ => (ax_one (E := (Ty.tup Ty.str)) (ex_var (E := (Ty.tup Ty.str)) (a := u0.2.2.2.2) 6 rfl)))))))))) (fun _ => rfl) (fun _ => Nat.le_of_ble_eq_true rfl)) (fun _ => (ax_cons (E := Ty.str) (F := (fun q : Int => [Ty.int q])) (ex_str (by decide +kernel)) (fun _ => (ax_one (E := Ty.int) (ex_var (E := Ty.int) (a := k0) 9 rfl)))))) (fun _ => rfl) (fun _ => Nat.le_of_ble_eq_true rfl)) (fun _ _ => rfl))))))) (fun q4 => (bx_ifR (tx_eq hr Eqn.int (ex_var (E := Ty.int) (a := kind0) 7 rfl) (fun _ => ex_int)) (fun q7 => (bx_setL (E := Ty.int) 9 sc__law_broken.nd (ex_callS (ok__law_draw T) (hr.mono (by decide)) T.g__law_draw T.k__law_draw T.b__law_draw (ax_cons (E := Ty.int) (F := (fun q : Unit => [])) (ex_add (ex_lenT T.n_len (ex_var (E := (Ty.tup Ty.int)) (a := u0.2.2.1) 4 rfl)) (fun _ => ex_int)) (fun _ => ax_nil))) (fun k1 q8 => (bx_ret (E := (Ty.p3 (Ty.p5 Ty.int (Ty.tup (Ty.p2 Ty.int Ty.int)) (Ty.tup Ty.int) (Ty.tup Ty.int) (Ty.tup Ty.str)) Ty.str Ty.int)) (k := fun x q => (x, q)) (ex_tup (E := (Ty.p3 (Ty.p5 Ty.int (Ty.tup (Ty.p2 Ty.int Ty.int)) (Ty.tup Ty.int) (Ty.tup Ty.int) (Ty.tup Ty.str)) Ty.str Ty.int)) (ax_cons (E := (Ty.p5 Ty.int (Ty.tup (Ty.p2 Ty.int Ty.int)) (Ty.tup Ty.int) (Ty.tup Ty.int) (Ty.tup Ty.str))) (F := (fun q : Str × Int => [Ty.str q.1, Ty.int q.2])) (ex_tup (E := (Ty.p5 Ty.int (Ty.tup (Ty.p2 Ty.int Ty.int)) (Ty.tup Ty.int) (Ty.tup Ty.int) (Ty.tup Ty.str))) (ax_cons (E := Ty.int) (F := (fun q : (List (Int × Int)) × (List Int) × (List Int) × (List Str) => [(Ty.tup (Ty.p2 Ty.int Ty.int)) q.1, (Ty.tup Ty.int) q.2.1, (Ty.tup Ty.int) q.2.2.1, (Ty.tup Ty.str) q.2.2.2])) (ex_var (E := Ty.int) (a := u0.1) 2 rfl) (fun _ => (ax_cons (E := (Ty.tup (Ty.p2 Ty.int Ty.int))) (F := (fun q : (List Int) × (List Int) × (List Str) => [(Ty.tup Ty.int) q.1, (Ty.tup Ty.int) q.2.1, (Ty.tup Ty.str) q.2.2])) (ex_var (E := (Ty.tup (Ty.p2 Ty.int Ty.int))) (a := u0.2.1) 3 rfl) (fun _ => (ax_cons (E := (Ty.tup Ty.int)) (F := (fun q : (List Int) × (List Str) => [(Ty.tup Ty.int) q.1, (Ty.tup Ty.str) q.2])) (ex_catT (ex_catT (ex_slT (ex_var (E := (Ty.tup Ty.int)) (a := u0.2.2.1) 4 rfl) .no (.is (fun _ => (ex_var (E := Ty.int) (a := k1) 9 rfl)))) (fun _ => (ex_tupL (E := Ty.int) (al_cons (E := Ty.int) (ex_callS (ok__law_pick T) (hr.mono (by decide)) T.g__law_pick T.k__law_pick T.b__law_pick (ax_cons (E := (Ty.lst Ty.int)) (F := (fun q : Unit => [])) (EO.ex (eo_lst (E := Ty.int) (al_cons (E := Ty.int) (ex_neg ex_int) (fun _ => (al_cons (E := Ty.int) (ex_var (E := Ty.int) (a := u0.1) 2 rfl) (fun _ => (al_nil (E := Ty.int)))))))) (fun _ => ax_nil))) (fun _ => (al_nil (E := Ty.int))))))) (fun _ => (ex_slT (ex_var (E := (Ty.tup Ty.int)) (a := u0.2.2.1) 4 rfl) (.is (fun _ => (ex_var (E := Ty.int) (a := k1) 9 rfl))) .no))) (fun _ => (ax_cons (E := (Ty.tup Ty.int)) (F := (fun q : (List Str) => [(Ty.tup Ty.str) q])) (ex_var (E := (Ty.tup Ty.int)) (a := u0.2.2.2.1) 5 rfl) (fun _ => (ax_one (E := (Ty.tup Ty.str)) (ex_var (E := (Ty.tup Ty.str)) (a := u0.2.2.2.2) 6 rfl)))))))))) (fun _ => rfl) (fun _ => Nat.le_of_ble_eq_true rfl)) (fun _ => (ax_cons (E := Ty.str) (F := (fun q : Int => [Ty.int q])) (ex_str (by decide +kernel)) (fun _ => (ax_one (E := Ty.int) (ex_var (E := Ty.int) (a := k1) 9 rfl)))))) (fun _ => rfl) (fun _ => Nat.le_of_ble_eq_true rfl)) (fun _ _ => rfl))))) (fun q7 => (bx_ifR (tx_eq hr Eqn.int (ex_var (E := Ty.int) (a := kind0) 7 rfl) (fun _ => ex_int)) (fun q9 => (bx_setL (E := Ty.int) 9 sc__law_broken.nd (ex_callS (ok__law_draw T) (hr.mono (by decide)) T.g__law_draw T.k__law_draw T.b__law_draw (ax_cons (E := Ty.int) (F := (fun q : Unit => [])) (ex_add (ex_lenT T.n_len (ex_var (E := (Ty.tup Ty.int)) (a := u0.2.2.2.1) 5 rfl)) (fun _ => ex_int)) (fun _ => ax_nil))) (fun k2 q10 => (bx_ret (E := (Ty.p3 (Ty.p5 Ty.int (Ty.tup (Ty.p2 Ty.int Ty.int)) (Ty.tup Ty.int) (Ty.tup Ty.int) (Ty.tup Ty.str)) Ty.str Ty.int)) (k := fun x q => (x, q)) (ex_tup (E := (Ty.p3 (Ty.p5 Ty.int (Ty.tup (Ty.p2 Ty.int Ty.int)) (Ty.tup Ty.int) (Ty.tup Ty.int) (Ty.tup Ty.str)) Ty.str Ty.int)) (ax_cons (E := (Ty.p5 Ty.int (Ty.tup (Ty.p2 Ty.int Ty.int)) (Ty.tup Ty.int) (Ty.tup Ty.int) (Ty.tup Ty.str))) (F := (fun q : Str × Int => [Ty.str q.1, Ty.int q.2])) (ex_tup (E := (Ty.p5 Ty.int (Ty.tup (Ty.p2 Ty.int Ty.int)) (Ty.tup Ty.int) (Ty.tup Ty.int) (Ty.tup Ty.str))) (ax_cons (E := Ty.int) (F := (fun q : (List (Int × Int)) × (List Int) × (List Int) × (List Str) => [(Ty.tup (Ty.p2 Ty.int Ty.int)) q.1, (Ty.tup Ty.int) q.2.1, (Ty.tup Ty.int) q.2.2.1, (Ty.tup Ty.str) q.2.2.2])) (ex_var (E := Ty.int) (a := u0.1) 2 rfl) (fun _ => (ax_cons (E := (Ty.tup (Ty.p2 Ty.int Ty.int))) (F := (fun q : (List Int) × (List Int) × (List Str) => [(Ty.tup Ty.int) q.1, (Ty.tup Ty.int) q.2.1, (Ty.tup Ty.str) q.2.2])) (ex_var (E := (Ty.tup (Ty.p2 Ty.int Ty.int))) (a := u0.2.1) 3 rfl) (fun _ => (ax_cons (E := (Ty.tup Ty.int)) (F := (fun q : (List Int) × (List Str) => [(Ty.tup Ty.int) q.1, (Ty.tup Ty.str) q.2])) (ex_var (E := (Ty.tup Ty.int)) (a := u0.2.2.1) 4 rfl) (fun _ => (ax_cons (E := (Ty.tup Ty.int)) (F := (fun q : (List Str) => [(Ty.tup Ty.str) q])) (ex_catT (ex_catT (ex_slT (ex_var (E := (Ty.tup Ty.int)) (a := u0.2.2.2.1) 5 rfl) .no (.is (fun _ => (ex_var (E := Ty.int) (a := k2) 9 rfl)))) (fun _ => (ex_tupL (E := Ty.int) (al_cons (E := Ty.int) (ex_callS (ok__law_pick T) (hr.mono (by decide)) T.g__law_pick T.k__law_pick T.b__law_pick (ax_cons (E := (Ty.lst Ty.int)) (F := (fun q : Unit => [])) (EO.ex (eo_lst (E := Ty.int) (al_cons (E := Ty.int) (ex_neg ex_int) (fun _ => (al_cons (E := Ty.int) (ex_var (E := Ty.int) (a := u0.1) 2 rfl) (fun _ => (al_nil (E := Ty.int)))))))) (fun _ => ax_nil))) (fun _ => (al_nil (E := Ty.int))))))) (fun _ => (ex_slT (ex_var (E := (Ty.tup Ty.int)) (a := u0.2.2.2.1) 5 rfl) (.is (fun _ => (ex_var (E := Ty.int) (a := k2) 9 rfl))) .no))) (fun _ => (ax_one (E := (Ty.tup Ty.str)) (ex_var (E := (Ty.tup Ty.str)) (a := u0.2.2.2.2) 6 rfl)))))))))) (fun _ => rfl) (fun _ => Nat.le_of_ble_eq_true rfl)) (fun _ => (ax_cons (E := Ty.str) (F := (fun q : Int => [Ty.int q])) (ex_str (by decide +kernel)) (fun _ => (ax_one (E := Ty.int) (ex_var (E := Ty.int) (a := k2) 9 rfl)))))) (fun _ => rfl) (fun _ => Nat.le_of_ble_eq_true rfl)) (fun _ _ => rfl))))) (fun q9 => (bx_ifR (tx_eq hr Eqn.int (ex_var (E := Ty.int) (a := kind0) 7 rfl) (fun _ => ex_int)) (fun q11 => (bx_setL (E := (Ty.tup Ty.str)) 8 sc__law_broken.nd (ex_callS (ok__law_pick__3 T) (hr.mono (by decide)) T.g__law_pick T.k__law_pick T.b__law_pick (ax_cons (E := (Ty.lst (Ty.tup Ty.str))) (F := (fun q : Unit => [])) (EO.ex (eo_lst (E := (Ty.tup Ty.str)) (al_cons (E := (Ty.tup Ty.str)) (ex_slT (ex_var (E := (Ty.tup Ty.str)) (a := u0.2.2.2.2) 6 rfl) (.is (fun _ => ex_int)) .no) (fun _ => (al_cons (E := (Ty.tup Ty.str)) (ex_catT (ex_var (E := (Ty.tup Ty.str)) (a := u0.2.2.2.2) 6 rfl) (fun _ => (ex_tupL (E := Ty.str) (al_cons (E := Ty.str) (ex_str (by decide +kernel)) (fun _ => (al_nil (E := Ty.str))))))) (fun _ => (al_nil (E := (Ty.tup Ty.str))))))))) (fun _ => ax_nil))) (fun wrong1 q12 => (bx_ret (E := (Ty.p3 (Ty.p5 Ty.int (Ty.tup (Ty.p2 Ty.int Ty.int)) (Ty.tup Ty.int) (Ty.tup Ty.int) (Ty.tup Ty.str)) Ty.str Ty.int)) (k := fun x q => (x, q)) (ex_tup (E := (Ty.p3 (Ty.p5 Ty.int (Ty.tup (Ty.p2 Ty.int Ty.int)) (Ty.tup Ty.int) (Ty.tup Ty.int) (Ty.tup Ty.str)) Ty.str Ty.int)) (ax_cons (E := (Ty.p5 Ty.int (Ty.tup (Ty.p2 Ty.int Ty.int)) (Ty.tup Ty.int) (Ty.tup Ty.int) (Ty.tup Ty.str))) (F := (fun q : Str × Int => [Ty.str q.1, Ty.int q.2])) (ex_tup (E := (Ty.p5 Ty.int (Ty.tup (Ty.p2 Ty.int Ty.int)) (Ty.tup Ty.int) (Ty.tup Ty.int) (Ty.tup Ty.str))) (ax_cons (E := Ty.int) (F := (fun q : (List (Int × Int)) × (List Int) × (List Int) × (List Str) => [(Ty.tup (Ty.p2 Ty.int Ty.int)) q.1, (Ty.tup Ty.int) q.2.1, (Ty.tup Ty.int) q.2.2.1, (Ty.tup Ty.str) q.2.2.2])) (ex_var (E := Ty.int) (a := u0.1) 2 rfl) (fun _ => (ax_cons (E := (Ty.tup (Ty.p2 Ty.int Ty.int))) (F := (fun q : (List Int) × (List Int) × (List Str) => [(Ty.tup Ty.int) q.1, (Ty.tup Ty.int) q.2.1, (Ty.tup Ty.str) q.2.2])) (ex_var (E := (Ty.tup (Ty.p2 Ty.int Ty.int))) (a := u0.2.1) 3 rfl) (fun _ => (ax_cons (E := (Ty.tup Ty.int)) (F := (fun q : (List Int) × (List Str) => [(Ty.tup Ty.int) q.1, (Ty.tup Ty.str) q.2])) (ex_var (E := (Ty.tup Ty.int)) (a := u0.2.2.1) 4 rfl) (fun _ => (ax_cons (E := (Ty.tup Ty.int)) (F := (fun q : (List Str) => [(Ty.tup Ty.str) q])) (ex_var (E := (Ty.tup Ty.int)) (a := u0.2.2.2.1) 5 rfl) (fun _ => (ax_one (E := (Ty.tup Ty.str)) (ex_var (E := (Ty.tup Ty.str)) (a := wrong1) 8 rfl)))))))))) (fun _ => rfl) (fun _ => Nat.le_of_ble_eq_true rfl)) (fun _ => (ax_cons (E := Ty.str) (F := (fun q : Int => [Ty.int q])) (ex_str (by decide +kernel)) (fun _ => (ax_one (E := Ty.int) (ex_lenT T.n_len (ex_var (E := (Ty.tup Ty.str)) (a := wrong1) 8 rfl))))))) (fun _ => rfl) (fun _ => Nat.le_of_ble_eq_true rfl)) (fun _ _ => rfl))))) (fun q11 => (bx_setL (E := Ty.int) 9 sc__law_broken.nd (ex_callS (ok__law_draw T) (hr.mono (by decide)) T.g__law_draw T.k__law_draw T.b__law_draw (ax_cons (E := Ty.int) (F := (fun q : Unit => [])) (ex_var (E := Ty.int) (a := u0.1) 2 rfl) (fun _ => ax_nil))) (fun k3 q13 => (bx_setL (E := Ty.str) 10 sc__law_broken.nd (ex_callS (ok__law_pick__1 T) (hr.mono (by decide)) T.g__law_pick T.k__law_pick T.b__law_pick (ax_cons (E := (Ty.lst Ty.str)) (F := (fun q : Unit => [])) (EO.ex (eo_lst (E := Ty.str) (al_cons (E := Ty.str) (ex_str (by decide +kernel)) (fun _ => (al_cons (E := Ty.str) (ex_str (by decide +kernel)) (fun _ => (al_cons (E := Ty.str) (ex_str (by decide +kernel)) (fun _ => (al_cons (E := Ty.str) (ex_str (by decide +kernel)) (fun _ => (al_cons (E := Ty.str) (ex_str (by decide +kernel)) (fun _ => (al_nil (E := Ty.str)))))))))))))) (fun _ => ax_nil))) (fun odd1 q14 => (bx_if (W := Str × Rs) (fun w0 : Str × Rs => [iv 10 Ty.str w0.1, iv 9 Ty.int k3, iv 6 (Ty.tup Ty.str) u0.2.2.2.2, iv 5 (Ty.tup Ty.int) u0.2.2.2.1, iv 4 (Ty.tup Ty.int) u0.2.2.1, iv 3 (Ty.tup (Ty.p2 Ty.int Ty.int)) u0.2.1, iv 2 Ty.int u0.1]) (fun w0 : Str × Rs => w0.2) (tx_inT hr Eqn.int (ex_var (E := Ty.int) (a := k3) 9 rfl) (fun _ => (ex_var (E := (Ty.tup Ty.int)) (a := u0.2.2.2.1) 5 rfl))) (fun q15 => (bx_setL (E := Ty.str) 10 sc__law_broken.nd (ex_callS (ok__law_pick__1 T) (hr.mono (by decide)) T.g__law_pick T.k__law_pick T.b__law_pick (ax_cons (E := (Ty.lst Ty.str)) (F := (fun q : Unit => [])) (EO.ex (eo_lst (E := Ty.str) (al_cons (E := Ty.str) (ex_str (by decide +kernel)) (fun _ => (al_cons (E := Ty.str) (ex_str (by decide +kernel)) (fun _ => (al_cons (E := Ty.str) (ex_str (by decide +kernel)) (fun _ => (al_nil (E := Ty.str)))))))))) (fun _ => ax_nil))) (fun odd2 q16 => (bx_nil (r := (odd2, q16)) rfl (le_cons rfl (le_cons rfl (le_cons rfl (le_cons rfl (le_cons rfl (le_cons rfl (le_cons rfl le_nil))))))))))) (fun q15 => (bx_if (W := Str × Rs) (fun w1 : Str × Rs => [iv 10 Ty.str w1.1, iv 9 Ty.int k3, iv 6 (Ty.tup Ty.str) u0.2.2.2.2, iv 5 (Ty.tup Ty.int) u0.2.2.2.1, iv 4 (Ty.tup Ty.int) u0.2.2.1, iv 3 (Ty.tup (Ty.p2 Ty.int Ty.int)) u0.2.1, iv 2 Ty.int u0.1]) (fun w1 : Str × Rs => w1.2) (tx_inT hr Eqn.int (ex_var (E := Ty.int) (a := k3) 9 rfl) (fun _ => (ex_var (E := (Ty.tup Ty.int)) (a := u0.2.2.1) 4 rfl))) (fun q17 => (bx_setL (E := Ty.str) 10 sc__law_broken.nd (ex_callS (ok__law_pick__1 T) (hr.mono (by decide)) T.g__law_pick T.k__law_pick T.b__law_pick (ax_cons (E := (Ty.lst Ty.str)) (F := (fun q : Unit => [])) (EO.ex (eo_lst (E := Ty.str) (al_cons (E := Ty.str) (ex_str (by decide +kernel)) (fun _ => (al_cons (E := Ty.str) (ex_str (by decide +kernel)) (fun _ => (al_cons (E := Ty.str) (ex_str (by decide +kernel)) (fun _ => (al_cons (E := Ty.str) (ex_str (by decide +kernel)) (fun _ => (al_nil (E := Ty.str)))))))))))) (fun _ => ax_nil))) (fun odd3 q18 => (bx_nil (r := (odd3, q18)) rfl (le_cons rfl (le_cons rfl (le_cons rfl (le_cons rfl (le_cons rfl (le_cons rfl (le_cons rfl le_nil))))))))))) (fun q17 => (bx_nil (r := (odd1, q17)) rfl (le_cons rfl (le_cons rfl (le_cons rfl (le_cons rfl (le_cons rfl (le_cons rfl (le_cons rfl le_nil))))))))) (fun w1 => (bx_nil (r := (w1.1, w1.2)) rfl (le_cons rfl (le_cons rfl (le_cons rfl (le_cons rfl (le_cons rfl (le_cons rfl (le_cons rfl le_nil))))))))))) (fun w0 => (bx_ret (E := (Ty.p3 (Ty.p5 Ty.int (Ty.tup (Ty.p2 Ty.int Ty.int)) (Ty.tup Ty.int) (Ty.tup Ty.int) (Ty.tup Ty.str)) Ty.str Ty.int)) (k := fun x q => (x, q)) (ex_tup (E := (Ty.p3 (Ty.p5 Ty.int (Ty.tup (Ty.p2 Ty.int Ty.int)) (Ty.tup Ty.int) (Ty.tup Ty.int) (Ty.tup Ty.str)) Ty.str Ty.int)) (ax_cons (E := (Ty.p5 Ty.int (Ty.tup (Ty.p2 Ty.int Ty.int)) (Ty.tup Ty.int) (Ty.tup Ty.int) (Ty.tup Ty.str))) (F := (fun q : Str × Int => [Ty.str q.1, Ty.int q.2])) (ex_tup (E := (Ty.p5 Ty.int (Ty.tup (Ty.p2 Ty.int Ty.int)) (Ty.tup Ty.int) (Ty.tup Ty.int) (Ty.tup Ty.str))) (ax_cons (E := Ty.int) (F := (fun q : (List (Int × Int)) × (List Int) × (List Int) × (List Str) => [(Ty.tup (Ty.p2 Ty.int Ty.int)) q.1, (Ty.tup Ty.int) q.2.1, (Ty.tup Ty.int) q.2.2.1, (Ty.tup Ty.str) q.2.2.2])) (ex_var (E := Ty.int) (a := u0.1) 2 rfl) (fun _ => (ax_cons (E := (Ty.tup (Ty.p2 Ty.int Ty.int))) (F := (fun q : (List Int) × (List Int) × (List Str) => [(Ty.tup Ty.int) q.1, (Ty.tup Ty.int) q.2.1, (Ty.tup Ty.str) q.2.2])) (ex_var (E := (Ty.tup (Ty.p2 Ty.int Ty.int))) (a := u0.2.1) 3 rfl) (fun _ => (ax_cons (E := (Ty.tup Ty.int)) (F := (fun q : (List Int) × (List Str) => [(Ty.tup Ty.int) q.1, (Ty.tup Ty.str) q.2])) (ex_var (E := (Ty.tup Ty.int)) (a := u0.2.2.1) 4 rfl) (fun _ => (ax_cons (E := (Ty.tup Ty.int)) (F := (fun q : (List Str) => [(Ty.tup Ty.str) q])) (ex_var (E := (Ty.tup Ty.int)) (a := u0.2.2.2.1) 5 rfl) (fun _ => (ax_one (E := (Ty.tup Ty.str)) (ex_catT (ex_catT (ex_slT (ex_var (E := (Ty.tup Ty.str)) (a := u0.2.2.2.2) 6 rfl) .no (.is (fun _ => (ex_var (E := Ty.int) (a := k3) 9 rfl)))) (fun _ => (ex_tupL (E := Ty.str) (al_cons (E := Ty.str) (ex_var (E := Ty.str) (a := w0.1) 10 rfl) (fun _ => (al_nil (E := Ty.str))))))) (fun _ => (ex_slT (ex_var (E := (Ty.tup Ty.str)) (a := u0.2.2.2.2) 6 rfl) (.is (fun _ => (ex_add (ex_var (E := Ty.int) (a := k3) 9 rfl) (fun _ => ex_int)))) .no)))))))))))) (fun _ => rfl) (fun _ => Nat.le_of_ble_eq_true rfl)) (fun _ => (ax_cons (E := Ty.str) (F := (fun q : Int => [Ty.int q])) (ex_str (by decide +kernel)) (fun _ => (ax_one (E := Ty.int) (ex_var (E := Ty.int) (a := k3) 9 rfl)))))) (fun _ => rfl) (fun _ => Nat.le_of_ble_eq_true rfl)) (fun _ _ => rfl)))))))))))))))))))))) ?_
  rfl
theorem ok_law (T : Txt K mg) (G : Xk Pg K mg) : FnOk Pg w K mg base CX0 7 T.a_law T.d_law ["script"] (spLaw K m_law) := by
  refine fn_law T.F_law sc_law ((ok__law_state T).mono (by decide)) T.g__law_state T.k__law_state T.b__law_state rfl rfl rfl (by first | exact .inl rfl | exact .inr rfl) (by first | exact .inl rfl | exact .inr (.inl rfl) | exact .inr (.inr rfl)) (by rfl) (fun s cdv A outer sh H E' hr => ?_)
  refine BX_to (m' := m_law s) (bx_forE (W := Rs) (Rr := (Bool × Rs)) (fun w0 : Rs => []) (fun w0 : Rs => w0) (fun r : (Bool × Rs) => Ty.bool r.1) (fun r : (Bool × Rs) => r.2) (w0 := (fun q => q)) (kr := fun r => r) (it_range1 T.n_range ex_int) (gx_name 2 sc_law.nd) (fun _ => rfl) (fun _ => le_nil) (fun w0 turn0 => (bx_setL (E := (Ty.p5 Ty.int (Ty.tup (Ty.p2 Ty.int Ty.int)) (Ty.tup Ty.int) (Ty.tup Ty.int) (Ty.tup Ty.str))) 3 sc_law.nd (ex_callS (ok__law_graph T) (hr.mono (by decide)) T.g__law_graph T.k__law_graph T.b__law_graph (ax_cons (E := Ty.int) (F := (fun q : Bool × Unit => [Ty.bool q.1])) (ex_callS (ok__law_pick T) (hr.mono (by decide)) T.g__law_pick T.k__law_pick T.b__law_pick (ax_cons (E := (Ty.lst Ty.int)) (F := (fun q : Unit => [])) (EO.ex (eo_lst (E := Ty.int) (al_cons (E := Ty.int) ex_int (fun _ => (al_cons (E := Ty.int) ex_int (fun _ => (al_nil (E := Ty.int)))))))) (fun _ => ax_nil))) (fun _ => (ax_cons (E := Ty.bool) (F := (fun q : Unit => [])) (ex_eq hr Eqn.int (ex_callS (ok__law_draw T) (hr.mono (by decide)) T.g__law_draw T.k__law_draw T.b__law_draw (ax_cons (E := Ty.int) (F := (fun q : Unit => [])) ex_int (fun _ => ax_nil))) (fun _ => ex_int)) (fun _ => ax_nil))))) (fun graph0 q0 => (bx_unp (E := (Ty.p3 (Ty.p5 Ty.int (Ty.tup (Ty.p2 Ty.int Ty.int)) (Ty.tup Ty.int) (Ty.tup Ty.int) (Ty.tup Ty.str)) Ty.str Ty.int)) (ex_callS (ok__law_broken T) (hr.mono (by decide)) T.g__law_broken T.k__law_broken T.b__law_broken (ax_cons (E := (Ty.p5 Ty.int (Ty.tup (Ty.p2 Ty.int Ty.int)) (Ty.tup Ty.int) (Ty.tup Ty.int) (Ty.tup Ty.str))) (F := (fun q : Unit => [])) (ex_var (E := (Ty.p5 Ty.int (Ty.tup (Ty.p2 Ty.int Ty.int)) (Ty.tup Ty.int) (Ty.tup Ty.int) (Ty.tup Ty.str))) (a := graph0) 3 rfl) (fun _ => ax_nil))) (gx_tup (E := (Ty.p3 (Ty.p5 Ty.int (Ty.tup (Ty.p2 Ty.int Ty.int)) (Ty.tup Ty.int) (Ty.tup Ty.int) (Ty.tup Ty.str)) Ty.str Ty.int)) (F := fun x => [(Ty.p5 Ty.int (Ty.tup (Ty.p2 Ty.int Ty.int)) (Ty.tup Ty.int) (Ty.tup Ty.int) (Ty.tup Ty.str)) x.1, Ty.str x.2.1, Ty.int x.2.2]) (gxs_cons (GX.map (F := (Ty.p5 Ty.int (Ty.tup (Ty.p2 Ty.int Ty.int)) (Ty.tup Ty.int) (Ty.tup Ty.int) (Ty.tup Ty.str))) (E := fun x : ((Int × (List (Int × Int)) × (List Int) × (List Int) × (List Str)) × Str × Int) => (Ty.p5 Ty.int (Ty.tup (Ty.p2 Ty.int Ty.int)) (Ty.tup Ty.int) (Ty.tup Ty.int) (Ty.tup Ty.str)) x.1) (gx_name 4 sc_law.nd) (fun x : ((Int × (List (Int × Int)) × (List Int) × (List Int) × (List Str)) × Str × Int) => x.1) (fun _ => rfl)) (gxs_cons (GX.map (F := Ty.str) (E := fun x : ((Int × (List (Int × Int)) × (List Int) × (List Int) × (List Str)) × Str × Int) => Ty.str x.2.1) (gx_name 5 sc_law.nd) (fun x : ((Int × (List (Int × Int)) × (List Int) × (List Int) × (List Str)) × Str × Int) => x.2.1) (fun _ => rfl)) (gxs_cons (GX.map (F := Ty.int) (E := fun x : ((Int × (List (Int × Int)) × (List Int) × (List Int) × (List Str)) × Str × Int) => Ty.int x.2.2) (gx_name 6 sc_law.nd) (fun x : ((Int × (List (Int × Int)) × (List Int) × (List Int) × (List Str)) × Str × Int) => x.2.2) (fun _ => rfl)) gxs_nil))) (fun _ => rfl) (fun _ => rfl)) (fun u0 q1 => (bx_ifX (P := (Bool × Rs)) Fl.ret (WX.tx (wx_or (tx_ne hr (Eqn.p2 Eqn.str Eqn.int) (ex_call (ok__law_raised T G) (hr.mono (by decide)) T.g__law_raised T.k__law_raised T.b__law_raised (ax_cons (E := (Ty.p5 Ty.int (Ty.tup (Ty.p2 Ty.int Ty.int)) (Ty.tup Ty.int) (Ty.tup Ty.int) (Ty.tup Ty.str))) (F := (fun q : Unit => [])) (ex_var (E := (Ty.p5 Ty.int (Ty.tup (Ty.p2 Ty.int Ty.int)) (Ty.tup Ty.int) (Ty.tup Ty.int) (Ty.tup Ty.str))) (a := graph0) 3 rfl) (fun _ => ax_nil))) (fun _ => (ex_tup (E := (Ty.p2 Ty.str Ty.int)) (ax_cons (E := Ty.str) (F := (fun q : Int => [Ty.int q])) (ex_str (by decide +kernel)) (fun _ => (ax_one (E := Ty.int) ex_int))) (fun _ => rfl) (fun _ => Nat.le_of_ble_eq_true rfl)))) (fun _ => (wx_or1 (tx_ne hr (Eqn.p2 Eqn.str Eqn.int) (ex_call (ok__law_raised T G) (hr.mono (by decide)) T.g__law_raised T.k__law_raised T.b__law_raised (ax_cons (E := (Ty.p5 Ty.int (Ty.tup (Ty.p2 Ty.int Ty.int)) (Ty.tup Ty.int) (Ty.tup Ty.int) (Ty.tup Ty.str))) (F := (fun q : Unit => [])) (ex_var (E := (Ty.p5 Ty.int (Ty.tup (Ty.p2 Ty.int Ty.int)) (Ty.tup Ty.int) (Ty.tup Ty.int) (Ty.tup Ty.str))) (a := u0.1) 4 rfl) (fun _ => ax_nil))) (fun _ => (ex_tup (E := (Ty.p2 Ty.str Ty.int)) (ax_cons (E := Ty.str) (F := (fun q : Int => [Ty.int q])) (ex_var (E := Ty.str) (a := u0.2.1) 5 rfl) (fun _ => (ax_one (E := Ty.int) (ex_var (E := Ty.int) (a := u0.2.2) 6 rfl)))) (fun _ => rfl) (fun _ => Nat.le_of_ble_eq_true rfl)))))))) (fun q2 => (bx_ret (E := Ty.bool) (k := fun x q => (x, q)) ex_bool (fun _ _ => rfl))) (fun q2 => (bx_ifJ (P := (Bool × Rs)) (W := Rs) Fl.ret (fun w2 : Rs => []) (fun w2 : Rs => w2) (tx_inL hr Eqn.str (ex_var (E := Ty.str) (a := u0.2.1) 5 rfl) (fun _ => (EO.ex (eo_lst (E := Ty.str) (al_cons (E := Ty.str) (ex_str (by decide +kernel)) (fun _ => (al_cons (E := Ty.str) (ex_str (by decide +kernel)) (fun _ => (al_nil (E := Ty.str)))))))))) (fun q3 => (bx_setL (E := (Ty.p5 Ty.int (Ty.tup (Ty.p2 Ty.int Ty.int)) (Ty.tup Ty.int) (Ty.tup Ty.int) (Ty.tup Ty.str))) 7 sc_law.nd (ex_tup (E := (Ty.p5 Ty.int (Ty.tup (Ty.p2 Ty.int Ty.int)) (Ty.tup Ty.int) (Ty.tup Ty.int) (Ty.tup Ty.str))) (ax_cons (E := Ty.int) (F := (fun q : (List (Int × Int)) × (List Int) × (List Int) × (List Str) => [(Ty.tup (Ty.p2 Ty.int Ty.int)) q.1, (Ty.tup Ty.int) q.2.1, (Ty.tup Ty.int) q.2.2.1, (Ty.tup Ty.str) q.2.2.2])) (ex_prj (Ea := (Ty.p5 Ty.int (Ty.tup (Ty.p2 Ty.int Ty.int)) (Ty.tup Ty.int) (Ty.tup Ty.int) (Ty.tup Ty.str))) (Eb := Ty.int) (fun g : (Int × (List (Int × Int)) × (List Int) × (List Int) × (List Str)) => g.1) (fun _ => rfl) (fun _ => rfl) (ex_var (E := (Ty.p5 Ty.int (Ty.tup (Ty.p2 Ty.int Ty.int)) (Ty.tup Ty.int) (Ty.tup Ty.int) (Ty.tup Ty.str))) (a := u0.1) 4 rfl)) (fun _ => (ax_cons (E := (Ty.tup (Ty.p2 Ty.int Ty.int))) (F := (fun q : (List Int) × (List Int) × (List Str) => [(Ty.tup Ty.int) q.1, (Ty.tup Ty.int) q.2.1, (Ty.tup Ty.str) q.2.2])) (ex_prj (Ea := (Ty.p5 Ty.int (Ty.tup (Ty.p2 Ty.int Ty.int)) (Ty.tup Ty.int) (Ty.tup Ty.int) (Ty.tup Ty.str))) (Eb := (Ty.tup (Ty.p2 Ty.int Ty.int))) (fun g : (Int × (List (Int × Int)) × (List Int) × (List Int) × (List Str)) => g.2.1) (fun _ => rfl) (fun _ => rfl) (ex_var (E := (Ty.p5 Ty.int (Ty.tup (Ty.p2 Ty.int Ty.int)) (Ty.tup Ty.int) (Ty.tup Ty.int) (Ty.tup Ty.str))) (a := u0.1) 4 rfl)) (fun _ => (ax_cons (E := (Ty.tup Ty.int)) (F := (fun q : (List Int) × (List Str) => [(Ty.tup Ty.int) q.1, (Ty.tup Ty.str) q.2])) (ex_prj (Ea := (Ty.p5 Ty.int (Ty.tup (Ty.p2 Ty.int Ty.int)) (Ty.tup Ty.int) (Ty.tup Ty.int) (Ty.tup Ty.str))) (Eb := (Ty.tup Ty.int)) (fun g : (Int × (List (Int × Int)) × (List Int) × (List Int) × (List Str)) => g.2.2.1) (fun _ => rfl) (fun _ => rfl) (ex_var (E := (Ty.p5 Ty.int (Ty.tup (Ty.p2 Ty.int Ty.int)) (Ty.tup Ty.int) (Ty.tup Ty.int) (Ty.tup Ty.str))) (a := u0.1) 4 rfl)) (fun _ => (ax_cons (E := (Ty.tup Ty.int)) (F := (fun q : (List Str) => [(Ty.tup Ty.str) q])) (ex_catT (ex_prj (Ea := (Ty.p5 Ty.int (Ty.tup (Ty.p2 Ty.int Ty.int)) (Ty.tup Ty.int) (Ty.tup Ty.int) (Ty.tup Ty.str))) (Eb := (Ty.tup Ty.int)) (fun g : (Int × (List (Int × Int)) × (List Int) × (List Int) × (List Str)) => g.2.2.2.1) (fun _ => rfl) (fun _ => rfl) (ex_var (E := (Ty.p5 Ty.int (Ty.tup (Ty.p2 Ty.int Ty.int)) (Ty.tup Ty.int) (Ty.tup Ty.int) (Ty.tup Ty.str))) (a := u0.1) 4 rfl)) (fun _ => (ex_tupL (E := Ty.int) (al_cons (E := Ty.int) (ex_prj (Ea := (Ty.p5 Ty.int (Ty.tup (Ty.p2 Ty.int Ty.int)) (Ty.tup Ty.int) (Ty.tup Ty.int) (Ty.tup Ty.str))) (Eb := Ty.int) (fun g : (Int × (List (Int × Int)) × (List Int) × (List Int) × (List Str)) => g.1) (fun _ => rfl) (fun _ => rfl) (ex_var (E := (Ty.p5 Ty.int (Ty.tup (Ty.p2 Ty.int Ty.int)) (Ty.tup Ty.int) (Ty.tup Ty.int) (Ty.tup Ty.str))) (a := graph0) 3 rfl)) (fun _ => (al_nil (E := Ty.int))))))) (fun _ => (ax_one (E := (Ty.tup Ty.str)) (ex_prj (Ea := (Ty.p5 Ty.int (Ty.tup (Ty.p2 Ty.int Ty.int)) (Ty.tup Ty.int) (Ty.tup Ty.int) (Ty.tup Ty.str))) (Eb := (Ty.tup Ty.str)) (fun g : (Int × (List (Int × Int)) × (List Int) × (List Int) × (List Str)) => g.2.2.2.2) (fun _ => rfl) (fun _ => rfl) (ex_var (E := (Ty.p5 Ty.int (Ty.tup (Ty.p2 Ty.int Ty.int)) (Ty.tup Ty.int) (Ty.tup Ty.int) (Ty.tup Ty.str))) (a := u0.1) 4 rfl))))))))))) (fun _ => rfl) (fun _ => Nat.le_of_ble_eq_true rfl)) (fun two0 q4 => (bx_ifX (P := (Bool × Rs)) Jn.ex (tx_ne hr (Eqn.p2 Eqn.str Eqn.int) (ex_call (ok__law_raised T G) (hr.mono (by decide)) T.g__law_raised T.k__law_raised T.b__law_raised (ax_cons (E := (Ty.p5 Ty.int (Ty.tup (Ty.p2 Ty.int Ty.int)) (Ty.tup Ty.int) (Ty.tup Ty.int) (Ty.tup Ty.str))) (F := (fun q : Unit => [])) (ex_var (E := (Ty.p5 Ty.int (Ty.tup (Ty.p2 Ty.int Ty.int)) (Ty.tup Ty.int) (Ty.tup Ty.int) (Ty.tup Ty.str))) (a := two0) 7 rfl) (fun _ => ax_nil))) (fun _ => (ex_tup (E := (Ty.p2 Ty.str Ty.int)) (ax_cons (E := Ty.str) (F := (fun q : Int => [Ty.int q])) (ex_str (by decide +kernel)) (fun _ => (ax_one (E := Ty.int) (ex_lenT T.n_len (ex_prj (Ea := (Ty.p5 Ty.int (Ty.tup (Ty.p2 Ty.int Ty.int)) (Ty.tup Ty.int) (Ty.tup Ty.int) (Ty.tup Ty.str))) (Eb := (Ty.tup Ty.int)) (fun g : (Int × (List (Int × Int)) × (List Int) × (List Int) × (List Str)) => g.2.2.2.1) (fun _ => rfl) (fun _ => rfl) (ex_var (E := (Ty.p5 Ty.int (Ty.tup (Ty.p2 Ty.int Ty.int)) (Ty.tup Ty.int) (Ty.tup Ty.int) (Ty.tup Ty.str))) (a := graph0) 3 rfl)))))) (fun _ => rfl) (fun _ => Nat.le_of_ble_eq_true rfl)))) (fun q5 => (bx_ret (E := Ty.bool) (k := fun x q => (x, q)) ex_bool (fun _ _ => rfl))) (fun q5 => (bx_nil (r := Jn.go q5) rfl le_nil)))))) (fun q3 => (bx_nil (r := Jn.go q3) rfl le_nil)) (fun w2 => (bx_nil (r := Fl.next w2) rfl le_nil)))))))))) (fun w1 => (bx_ret (E := Ty.bool) (k := fun x q => (x, q)) ex_bool (fun _ _ => rfl))) (fun _ => rfl)) ?_
  rfl
end
end K54
namespace K54
open PySem PySem.Spec PyProof.Rows L2 Ab
/-! ### the drawn lettered graph -/
theorem Y.pickF {α β S : Type} {g : α → β} {f : α → S → Option (Option β × S)} {xs : List α} {s : S} (k : ∀ x s, x ∈ xs → Y (f x s) (fun o => o.1 = none ∨ o.1 = .some (g x))) : Y (Ab.compM f xs s) (fun o => o.1.Sublist (xs.map g)) := by
  have := Y.compM (f := f) (I := fun p acc _ => acc.Sublist (p.map g)) xs [] [] s (List.Sublist.refl _) fun p x acc s hp h => (k x s (by simpa using pre_mem hp)).mono fun o ho => by
    rw [List.map_append]
    rcases ho with ho | ho
    · rw [ho]; simpa using h.trans (List.sublist_append_left _ _)
    · rw [ho]; exact h.append (List.Sublist.refl _)
  simpa using this
/-- one of a row -/
def pickM {α : Type} (row : List α) (s : Rs) : Option (α × Rs) := (drawR (row.length : Int) s).bind fun z0 => (atI row z0.1).bind fun z1 => some ((z1, z0.2))
theorem pick_mem {α : Type} {P : α → Prop} {row : List α} {s : Rs} (h0 : 0 < row.length) (h1 : row.length < 1000000) (h : ∀ x ∈ row, P x) : Y (pickM row s) (fun p => P p.1) := by
  refine Y.bind (Y.draw (by omega) (by omega)) fun z hz => ?_
  exact Y.bind (at_mem hz.1 hz.2 h) fun x hx => Y.ok hx
def LbOk (alone : Bool) (outs ins : List Int) (v : Int) (x : Str) : Prop :=
  (v ∈ outs ∧ x = ("" : Str)) ∨ (v ∉ outs ∧ v ∈ ins ∧ (x = ("XY" : Str) ∨ (alone = false ∧ (x = ("X" : Str) ∨ x = ("Y" : Str))))) ∨
  (v ∉ outs ∧ v ∉ ins ∧ (x = ("XY" : Str) ∨ x = ("XZ" : Str) ∨ x = ("YZ" : Str) ∨ (alone = false ∧ (x = ("X" : Str) ∨ x = ("Y" : Str) ∨ x = ("Z" : Str)))))
structure Ld (alone : Bool) (g : Gr) : Prop where
  good : Good g
  n1 : 1 ≤ g.1
  ln : g.2.2.2.2.length = g.1.toNat
  so : g.2.1.Pairwise LeP
  lb : ∀ v, 0 ≤ v → v < g.1 → ∃ x, g.2.2.2.2[v.toNat]? = some x ∧ LbOk alone g.2.2.2.1 g.2.2.1 v x
theorem law_graph_ld {most : Int} {alone : Bool} (s : Rs) (h : 1 ≤ most) (h2 : most ≤ 30) : Y (m_law_graph most alone s) (fun p => Ld alone p.1 ∧ p.1.1 ≤ most) := by
  unfold m_law_graph
  refine Y.bind (Y.draw (by omega) (by omega)) fun z0 h0 => ?_
  refine Y.lt ?_
  generalize hn : (1 : Int) + z0.1 = n
  have hn1 : 1 ≤ n ∧ n ≤ most := by omega
  refine Y.bind (pick_mem (P := fun d => 2 ≤ d ∧ d ≤ 5) (by decide) (by decide) (by simp)) fun dense hd => ?_
  refine Y.lt (Y.lt (Y.guard (show n.natAbs ≤ 16777216 by omega) ?_))
  refine Y.bind (Y.fold (fun p w => w.1.Sublist (p.flatMap fun i => (rangeL (i + 1) (n - (i + 1)).toNat).map fun j => (i, j))) (by simp) fun p x w hp hw => ?_) fun w1 hw1 => ?_
  · have hx := mem_range0.mp (pre_mem hp)
    refine Y.guard (by refine ⟨?_, ?_, ?_⟩ <;> show _ ≤ _ <;> simp only [Line] <;> omega) ?_
    refine Y.bind (Y.pickF (g := fun j => (x, j)) fun y s hy => ?_) fun z3 h3 => ?_
    · exact Y.bind (Y.draw (by omega) (by omega)) fun z _ => Y.ite (fun _ => Y.ok (.inr rfl)) fun _ => Y.ok (.inl rfl)
    · have sub : (w.1 ++ z3.1).Sublist ((p ++ [x]).flatMap fun i => (rangeL (i + 1) (n - (i + 1)).toNat).map fun j => (i, j)) := by
        rw [List.flatMap_append, List.flatMap_singleton]
        exact hw.append h3
      refine Y.guard ?_ (Y.lt (Y.ok sub))
      have l2 := sub.length_le
      have l3 := (flatMap_pre (f := fun i => (rangeL (i + 1) (n - (i + 1)).toNat).map fun j => (i, j)) hp).length_le
      have l4 := pairs_len n (by omega)
      unfold pairsL at l4
      rw [List.length_append] at l2
      show _ ≤ 16777216
      omega
  · refine Y.guard (show n.natAbs ≤ 16777216 by omega) ?_
    refine Y.bind (Y.pick fun x s hx => ?_) fun z5 h5 => ?_
    · exact Y.bind (Y.draw (by omega) (by omega)) fun z9 _ => Y.ite (fun _ => Y.ok (.inr rfl)) fun _ => Y.ok (.inl rfl)
    · refine Y.lt (Y.guard (show n.natAbs ≤ 16777216 by omega) ?_)
      refine Y.bind (Y.pick fun x s hx => ?_) fun z7 h7 => ?_
      · exact Y.bind (Y.draw (by omega) (by omega)) fun z9 _ => Y.ite (fun _ => Y.ok (.inr rfl)) fun _ => Y.ok (.inl rfl)
      · refine Y.lt (Y.lt (Y.guard (show n.natAbs ≤ 16777216 by omega) ?_))
        refine Y.bind (Y.fold (fun p w => w.1.length = p.length ∧ ∀ (i : Nat) v, p[i]? = some v → ∃ x, w.1[i]? = some x ∧ LbOk alone z5.1 z7.1 v x) ⟨rfl, fun i v hi => by simp at hi⟩ fun p x w hp hw => ?_) fun w3 h3 => Y.ok ?_
        · refine Y.lt ?_
          refine Y.bind (P := fun (q : List Str × Rs) => 0 < q.1.length ∧ q.1.length ≤ 9 ∧ ∀ a ∈ q.1, x ∉ z5.1 → LbOk alone z5.1 z7.1 x a) (Y.ite (fun c => ?_) fun c => Y.ok ?_) fun w4 h4 => ?_
          · have c' : x ∈ z7.1 := by simpa using c
            refine Y.lt (Y.ok ?_)
            cases alone with
            | true =>
              refine ⟨by simp, by simp, fun a ha ho => .inr (.inl ⟨ho, c', ?_⟩)⟩
              simp at ha; exact .inl ha
            | false =>
              refine ⟨by simp, by simp, fun a ha ho => .inr (.inl ⟨ho, c', ?_⟩)⟩
              simp at ha
              rcases ha with h | h | h
              · exact .inl h
              · exact .inr ⟨rfl, .inl h⟩
              · exact .inr ⟨rfl, .inr h⟩
          · have c' : x ∉ z7.1 := by simpa using c
            cases alone with
            | true =>
              refine ⟨by simp, by simp, fun a ha ho => .inr (.inr ⟨ho, c', ?_⟩)⟩
              simp at ha
              rcases ha with h | h | h
              · exact .inl h
              · exact .inr (.inl h)
              · exact .inr (.inr (.inl h))
            | false =>
              refine ⟨by simp, by simp, fun a ha ho => .inr (.inr ⟨ho, c', ?_⟩)⟩
              simp at ha
              rcases ha with h | h | h | h | h | h | h | h | h
              · exact .inl h
              · exact .inr (.inl h)
              · exact .inr (.inr (.inl h))
              all_goals first | exact .inr (.inr (.inr ⟨rfl, .inl h⟩)) | exact .inr (.inr (.inr ⟨rfl, .inr (.inl h)⟩)) | exact .inr (.inr (.inr ⟨rfl, .inr (.inr h)⟩))
          · refine Y.bind (P := fun (z : Str × Rs) => LbOk alone z5.1 z7.1 x z.1) (Y.ite (fun c => Y.ok (.inl ⟨by simpa using c, rfl⟩)) fun c => ?_) fun z9 h9 => ?_
            · have c' : x ∉ z5.1 := by simpa using c
              exact Y.bind (pick_mem (P := fun a => LbOk alone z5.1 z7.1 x a) h4.1 (by have := h4.2.1; omega) fun a ha => h4.2.2 a ha c') fun z8 h8 => Y.ok h8
            · refine Y.guard ?_ (Y.lt (Y.ok ⟨?_, fun i v hi => ?_⟩))
              · obtain ⟨t, ht⟩ := hp
                have := congrArg List.length ht
                rw [rangeL_len] at this
                simp at this
                have := hw.1
                show _ < 16777216
                omega
              · show (w.1 ++ [_]).length = _
                rw [List.length_append, List.length_append, hw.1]; rfl
              · show ∃ x, (w.1 ++ [_])[i]? = some x ∧ _
                by_cases hi' : i < p.length
                · rw [List.getElem?_append_left hi'] at hi
                  rw [List.getElem?_append_left (by rw [hw.1]; exact hi')]
                  exact hw.2 i v hi
                · have e : i = p.length := by
                    have := (List.getElem?_eq_some_iff.mp hi).1
                    simp at this; omega
                  subst e
                  rw [List.getElem?_append_right (Nat.le_refl _), Nat.sub_self] at hi
                  have hv : x = v := by simpa using hi
                  subst hv
                  rw [List.getElem?_append_right (by rw [hw.1]; exact Nat.le_refl _), hw.1, Nat.sub_self]
                  exact ⟨_, rfl, h9⟩
        · have hE : w1.1.Sublist (pairsL n) := hw1
          refine ⟨⟨⟨by show 0 ≤ n; omega, by show n ≤ 64; omega, (pairs_nodup n).sublist hE, fun e he => mem_pairs.mp (hE.mem he), Nat.le_trans hE.length_le (pairs_len n (by omega)), h7, h5⟩, hn1.1, ?_, (pairs_sorted n).sublist hE, fun v a b => h3.2 v.toNat v (rangeL_at a b)⟩, hn1.2⟩
          show w3.1.length = n.toNat
          rw [h3.1, rangeL_len]
/-! ### walks that are left by a raise -/
theorem forE_all1 {α : Type} {f : Unit → α → Option (Fl Unit Er)} : ∀ {xs : List α}, (∀ x ∈ xs, f () x = some (.next ())) → forE f xs () = some (.next ())
  | [], _ => rfl
  | x :: xs, h => by
    show (f () x).bind _ = _
    rw [h x List.mem_cons_self]
    exact forE_all1 fun y hy => h y (List.mem_cons_of_mem _ hy)
theorem forE_first {α : Type} {f : Unit → α → Option (Fl Unit Er)} {e : Er} : ∀ {xs ys : List α} {x : α}, (∀ y ∈ xs, f () y = some (.next ())) → f () x = some (.ret e) → forE f (xs ++ x :: ys) () = some (.ret e)
  | [], ys, x, _, h => by
    show (f () x).bind _ = _
    rw [h]; rfl
  | y :: xs, ys, x, h1, h => by
    show (f () y).bind _ = _
    rw [h1 y List.mem_cons_self]
    exact forE_first (fun z hz => h1 z (List.mem_cons_of_mem _ hz)) h
theorem enumF_append {α : Type} : ∀ (i : Nat) (xs ys : List α), enumF i (xs ++ ys) = enumF i xs ++ enumF (i + xs.length) ys
  | i, [], ys => rfl
  | i, x :: xs, ys => by
    show (_, _) :: enumF (i + 1) (xs ++ ys) = (_, _) :: (enumF (i + 1) xs ++ enumF (i + (xs.length + 1)) ys)
    rw [enumF_append (i + 1) xs ys, show i + 1 + xs.length = i + (xs.length + 1) by omega]
theorem mem_enumL {α : Type} {xs : List α} {p : Int × α} (h : p ∈ enumL xs) : ∃ j : Nat, p.1 = (j : Int) ∧ xs[j]? = some p.2 := by
  obtain ⟨j, hj⟩ := List.mem_iff_getElem?.mp h
  exact ⟨j, enumL_get hj⟩
theorem require_eq (b : Bool) (r : Str) (i : Int) : (m_require b r i).map toEx = some (if b = true then .ok () else .error (r, i)) := by
  cases b <;> rfl
/-- where the k-th item stands in the way -/
theorem enum_first {α : Type} {f : Unit → Int × α → Option (Fl Unit Er)} {xs : List α} {k : Nat} {x : α} {e : Er} (hx : xs[k]? = some x) (h1 : ∀ (j : Nat) y, j < k → xs[j]? = some y → f () ((j : Int), y) = some (.next ())) (h2 : f () ((k : Int), x) = some (.ret e)) :
    forE f (enumL xs) () = some (.ret e) := by
  have il := (List.getElem?_eq_some_iff.mp hx).1
  have ex := (List.getElem?_eq_some_iff.mp hx).2
  have e1 : xs = xs.take k ++ x :: xs.drop (k + 1) := by
    rw [← ex, ← List.drop_eq_getElem_cons il, List.take_append_drop]
  have lt : (xs.take k).length = k := by rw [List.length_take]; omega
  have e2 : enumL xs = enumL (xs.take k) ++ ((k : Int), x) :: enumF (k + 1) (xs.drop (k + 1)) := by
    have := enumF_append 0 (xs.take k) (x :: xs.drop (k + 1))
    rw [← e1, lt, Nat.zero_add] at this
    exact this
  rw [e2]
  refine forE_first (fun p hp => ?_) h2
  obtain ⟨j, ej, hj⟩ := mem_enumL hp
  have jl := (List.getElem?_eq_some_iff.mp hj).1
  rw [lt] at jl
  rw [List.getElem?_take_of_lt jl] at hj
  have := h1 j p.2 jl hj
  rw [← ej] at this
  exact this
theorem enum_all {α : Type} {f : Unit → Int × α → Option (Fl Unit Er)} {xs : List α} (h : ∀ (j : Nat) y, xs[j]? = some y → f () ((j : Int), y) = some (.next ())) : forE f (enumL xs) () = some (.next ()) := by
  refine forE_all1 fun p hp => ?_
  obtain ⟨j, ej, hj⟩ := mem_enumL hp
  have := h j p.2 hj
  rw [← ej] at this
  exact this
/-! ### a row whose items stand well and rise -/
def chkB {α : Type} (ok : α → Bool) (lt : α → α → Bool) (r : Str) (xs : List α) (it : Int × α) : Option (Fl Unit Er) :=
  ((m_require (ok it.2) r it.1).map toEx).bind (exK (fun _ => (if (decide (it.1 = (0 : Int))) = true then some (true, ()) else (atI xs (it.1 - (1 : Int))).bind fun z0 => some ((lt z0 it.2), ())).bind fun z1 => ((m_require z1.1 r it.1).map toEx).bind (exK (fun _ => some (Fl.next ())) (fun e => Fl.ret e))) (fun e => Fl.ret e))
def chk {α : Type} (ok : α → Bool) (lt : α → α → Bool) (r : Str) (xs : List α) : Option (Jn Unit Er) :=
  (forE (W := Unit) (R := Er) (fun (_ : Unit) it => chkB ok lt r xs it) (enumL xs) ()).bind (flK (W := Unit) (Rr := Er) (fun _ => some (Jn.go ())) (fun r => Jn.ex r))
theorem set_chk (n : Int) (xs : List Int) (r : Str) : m_check_set n xs r = chk (fun y => decide ((0 : Int) ≤ y) && decide (y < n)) (fun a b => decide (a < b)) r xs := rfl
theorem edges_chk (n : Int) (xs : List (Int × Int)) : m_check_edges n xs = chk (fun y => decide ((0 : Int) ≤ y.1) && (decide (y.1 < y.2) && decide (y.2 < n))) (fun a b => ltP a (b.1, b.2)) ("edge" : Str) xs := rfl
/-- the j-th item stands well -/
def okAt {α : Type} (ok : α → Bool) (lt : α → α → Bool) (xs : List α) (j : Nat) (y : α) : Prop := ok y = true ∧ ∀ i p, j = i + 1 → xs[i]? = some p → lt p y = true
section
variable {α : Type} {ok : α → Bool} {lt : α → α → Bool} {r : Str} {xs : List α} {j : Nat} {y : α}
theorem chkB_ok (hy : xs[j]? = some y) (h : okAt ok lt xs j y) : chkB ok lt r xs ((j : Int), y) = some (.next ()) := by
  have hl := (List.getElem?_eq_some_iff.mp hy).1
  unfold chkB
  rw [require_eq, if_pos h.1]
  show ((if _ then _ else _ : Option (Bool × Unit)).bind _) = _
  cases j with
  | zero => rfl
  | succ i =>
    have hp : xs[i]? = some (xs[i]'(by omega)) := List.getElem?_eq_getElem (by omega)
    have e : ((i + 1 : Nat) : Int) - 1 = (i : Int) := by omega
    rw [if_neg (by rw [decide_eq_true_eq]; omega)]
    show (((atI xs (((i + 1 : Nat) : Int) - 1)).bind _).bind _) = _
    rw [e, atI_of (by omega) (x := xs[i]'(by omega)) (by rw [Int.toNat_natCast]; exact hp)]
    show ((m_require (lt _ y) r _).map toEx).bind _ = _
    rw [require_eq, if_pos (h.2 i _ rfl hp)]
    rfl
theorem chkB_bad (hy : xs[j]? = some y) (h : ¬ okAt ok lt xs j y) : chkB ok lt r xs ((j : Int), y) = some (.ret (r, (j : Int))) := by
  have hl := (List.getElem?_eq_some_iff.mp hy).1
  unfold chkB
  rw [require_eq]
  cases eo : ok y with
  | false => rfl
  | true =>
    rw [if_pos rfl]
    show ((if _ then _ else _ : Option (Bool × Unit)).bind _) = _
    cases j with
    | zero => exact absurd ⟨eo, fun i p e _ => absurd e (by omega)⟩ h
    | succ i =>
      have hp : xs[i]? = some (xs[i]'(by omega)) := List.getElem?_eq_getElem (by omega)
      have e : ((i + 1 : Nat) : Int) - 1 = (i : Int) := by omega
      rw [if_neg (by rw [decide_eq_true_eq]; omega)]
      show (((atI xs (((i + 1 : Nat) : Int) - 1)).bind _).bind _) = _
      rw [e, atI_of (by omega) (x := xs[i]'(by omega)) (by rw [Int.toNat_natCast]; exact hp)]
      show ((m_require (lt _ y) r _).map toEx).bind _ = _
      rw [require_eq]
      have hn : ¬ lt (xs[i]'(by omega)) y = true := fun g => h ⟨eo, fun i' p e' hp' => by
        obtain rfl : i = i' := by omega
        rw [hp] at hp'; cases hp'; exact g⟩
      rw [if_neg hn]
      rfl
theorem chk_ok (h : ∀ j y, xs[j]? = some y → okAt ok lt xs j y) : (chk ok lt r xs).map toEx = some (.ok ()) := by
  unfold chk
  rw [enum_all fun j y hy => chkB_ok hy (h j y hy)]
  rfl
theorem chk_bad (hy : xs[j]? = some y) (h1 : ∀ i z, i < j → xs[i]? = some z → okAt ok lt xs i z) (h : ¬ okAt ok lt xs j y) : (chk ok lt r xs).map toEx = some (.error (r, (j : Int))) := by
  unfold chk
  rw [enum_first hy (fun i z hi hz => chkB_ok hz (h1 i z hi hz)) (chkB_bad hy h)]
  rfl
end
/-! ### what the check of a graph tells -/
section
variable {n : Int} {ed : List (Int × Int)} {ins outs : List Int} {pls : List Str} {x : Er}
abbrev CgE (n : Int) (ed : List (Int × Int)) (ins outs : List Int) (pls : List Str) : Option (Except Er Unit) := (m_check_lettered (n, ed, ins, outs, pls)).map toEx
theorem cg_many (h : ¬ (1 ≤ n ∧ n ≤ 24)) : CgE n ed ins outs pls = some (.error (("many" : Str), n)) := by
  show Option.map toEx (((m_require (decide ((1 : Int) ≤ n) && decide (n ≤ (24 : Int))) ("many" : Str) n).map toEx).bind _) = _
  rw [require_eq, if_neg (by rw [Bool.and_eq_true, decide_eq_true_eq, decide_eq_true_eq]; exact h)]
  rfl
def cgK (n : Int) (ed : List (Int × Int)) (ins outs : List Int) (pls : List Str) : Unit → Option (Jn Unit Er) := fun _ => ((m_check_set n ins ("inputs" : Str)).map toEx).bind (exK (fun _ => ((m_check_set n outs ("outputs" : Str)).map toEx).bind (exK (fun _ => ((m_require (decide ((pls.length : Int) = n)) ("planes" : Str) (pls.length : Int)).map toEx).bind (exK (fun _ => guardM (n.natAbs ≤ Line) ((forE (W := Unit) (R := Er) (fun (w0 : Unit) (vertex0 : Int) => (m_word_right (n, ed, ins, outs, pls) vertex0).bind fun z0 => ((m_require z0 ("plane" : Str) vertex0).map toEx).bind (exK (fun _ => some (Fl.next ())) (fun e => Fl.ret e))) (rangeL 0 n.toNat) ()).bind (flK (W := Unit) (Rr := Er) (fun w1 => some (Jn.go ())) (fun r => Jn.ex r)))) (fun e => Jn.ex e))) (fun e => Jn.ex e))) (fun e => Jn.ex e))
theorem cg_s1 (h : 1 ≤ n ∧ n ≤ 24) : CgE n ed ins outs pls = Option.map toEx (((m_check_edges n ed).map toEx).bind (exK (cgK n ed ins outs pls) (fun e => Jn.ex e))) := by
  show Option.map toEx (((m_require (decide ((1 : Int) ≤ n) && decide (n ≤ (24 : Int))) ("many" : Str) n).map toEx).bind _) = _
  rw [require_eq, if_pos (by rw [Bool.and_eq_true, decide_eq_true_eq, decide_eq_true_eq]; exact h)]
  rfl
theorem cg_edge (h : 1 ≤ n ∧ n ≤ 24) (e : (m_check_edges n ed).map toEx = some (.error x)) : CgE n ed ins outs pls = some (.error x) := by
  rw [cg_s1 h, e]; rfl
theorem cg_ins (h : 1 ≤ n ∧ n ≤ 24) (e : (m_check_edges n ed).map toEx = some (.ok ())) (e1 : (m_check_set n ins ("inputs" : Str)).map toEx = some (.error x)) : CgE n ed ins outs pls = some (.error x) := by
  rw [cg_s1 h, e]
  show Option.map toEx (((m_check_set n ins ("inputs" : Str)).map toEx).bind _) = _
  rw [e1]; rfl
theorem cg_outs (h : 1 ≤ n ∧ n ≤ 24) (e : (m_check_edges n ed).map toEx = some (.ok ())) (e1 : (m_check_set n ins ("inputs" : Str)).map toEx = some (.ok ())) (e2 : (m_check_set n outs ("outputs" : Str)).map toEx = some (.error x)) : CgE n ed ins outs pls = some (.error x) := by
  rw [cg_s1 h, e]
  show Option.map toEx (((m_check_set n ins ("inputs" : Str)).map toEx).bind _) = _
  rw [e1]
  show Option.map toEx (((m_check_set n outs ("outputs" : Str)).map toEx).bind _) = _
  rw [e2]; rfl
theorem cg_planes (h : 1 ≤ n ∧ n ≤ 24) (e : (m_check_edges n ed).map toEx = some (.ok ())) (e1 : (m_check_set n ins ("inputs" : Str)).map toEx = some (.ok ())) (e2 : (m_check_set n outs ("outputs" : Str)).map toEx = some (.ok ())) (hl : ¬ (pls.length : Int) = n) : CgE n ed ins outs pls = some (.error (("planes" : Str), (pls.length : Int))) := by
  rw [cg_s1 h, e]
  show Option.map toEx (((m_check_set n ins ("inputs" : Str)).map toEx).bind _) = _
  rw [e1]
  show Option.map toEx (((m_check_set n outs ("outputs" : Str)).map toEx).bind _) = _
  rw [e2]
  show Option.map toEx (((m_require (decide ((pls.length : Int) = n)) ("planes" : Str) (pls.length : Int)).map toEx).bind _) = _
  rw [require_eq, if_neg (by rw [decide_eq_true_eq]; exact hl)]; rfl
theorem cg_s2 (h : 1 ≤ n ∧ n ≤ 24) (e : (m_check_edges n ed).map toEx = some (.ok ())) (e1 : (m_check_set n ins ("inputs" : Str)).map toEx = some (.ok ())) (e2 : (m_check_set n outs ("outputs" : Str)).map toEx = some (.ok ())) (hl : (pls.length : Int) = n) :
    CgE n ed ins outs pls = Option.map toEx ((forE (W := Unit) (R := Er) (fun (w0 : Unit) (vertex0 : Int) => (m_word_right (n, ed, ins, outs, pls) vertex0).bind fun z0 => ((m_require z0 ("plane" : Str) vertex0).map toEx).bind (exK (fun _ => some (Fl.next ())) (fun e => Fl.ret e))) (rangeL 0 n.toNat) ()).bind (flK (W := Unit) (Rr := Er) (fun w1 => some (Jn.go ())) (fun r => Jn.ex r))) := by
  rw [cg_s1 h, e]
  show Option.map toEx (((m_check_set n ins ("inputs" : Str)).map toEx).bind _) = _
  rw [e1]
  show Option.map toEx (((m_check_set n outs ("outputs" : Str)).map toEx).bind _) = _
  rw [e2]
  show Option.map toEx (((m_require (decide ((pls.length : Int) = n)) ("planes" : Str) (pls.length : Int)).map toEx).bind _) = _
  rw [require_eq, if_pos (by rw [decide_eq_true_eq]; exact hl)]
  show Option.map toEx (guardM (n.natAbs ≤ Line) _) = _
  rw [guardM_pos (by have : (24 : Nat) ≤ Line := by decide
                     omega)]
end
/-! ### the planes -/
theorem forE_get {α : Type} {f : Unit → α → Option (Fl Unit Er)} {xs : List α} {k : Nat} {x : α} {e : Er} (hx : xs[k]? = some x) (h1 : ∀ (j : Nat) y, j < k → xs[j]? = some y → f () y = some (.next ())) (h2 : f () x = some (.ret e)) :
    forE f xs () = some (.ret e) := by
  have il := (List.getElem?_eq_some_iff.mp hx).1
  have ex := (List.getElem?_eq_some_iff.mp hx).2
  have e1 : xs = xs.take k ++ x :: xs.drop (k + 1) := by
    rw [← ex, ← List.drop_eq_getElem_cons il, List.take_append_drop]
  rw [e1]
  refine forE_first (fun y hy => ?_) h2
  obtain ⟨j, hj⟩ := List.mem_iff_getElem?.mp hy
  have jl := (List.getElem?_eq_some_iff.mp hj).1
  rw [List.length_take] at jl
  rw [List.getElem?_take_of_lt (by omega)] at hj
  exact h1 j y (by omega) hj
def wdB (ins outs : List Int) (v : Int) (z : Str) : Bool :=
  if v ∈ outs then decide (z = ("" : Str)) else memB z (if v ∈ ins then [("XY" : Str), ("X" : Str), ("Y" : Str)] else [("XY" : Str), ("XZ" : Str), ("YZ" : Str), ("X" : Str), ("Y" : Str), ("Z" : Str)])
section
variable {n : Int} {ed : List (Int × Int)} {ins outs : List Int} {pls : List Str} {x : Er}
theorem plane_eq {v : Int} {z : Str} (v0 : 0 ≤ v) (h : pls[v.toNat]? = some z) : m_word_right (n, ed, ins, outs, pls) v = some (wdB ins outs v z) := by
  show (if decide (v ∈ outs) = true then _ else _) = _
  unfold wdB
  by_cases h1 : v ∈ outs
  · rw [if_pos (by rw [decide_eq_true_eq]; exact h1), if_pos h1]
    show (atI pls v).bind _ = _
    rw [atI_of v0 h]; rfl
  · rw [if_neg (by rw [decide_eq_true_eq]; exact h1), if_neg h1]
    show (atI pls v).bind _ = _
    rw [atI_of v0 h]
    show some (memB z (if decide (v ∈ ins) = true then _ else _)) = _
    by_cases h2 : v ∈ ins
    · rw [if_pos (by rw [decide_eq_true_eq]; exact h2), if_pos h2]
    · rw [if_neg (by rw [decide_eq_true_eq]; exact h2), if_neg h2]
theorem plane_step {v : Int} {z : Str} (v0 : 0 ≤ v) (h : pls[v.toNat]? = some z) : ((m_word_right (n, ed, ins, outs, pls) v).bind fun z0 => ((m_require z0 ("plane" : Str) v).map toEx).bind (exK (fun _ => some (Fl.next ())) (fun e => Fl.ret e)) : Option (Fl Unit Er)) = some (if wdB ins outs v z = true then .next () else .ret (("plane" : Str), v)) := by
  rw [plane_eq v0 h]
  show ((m_require _ _ _).map toEx).bind _ = _
  rw [require_eq]
  cases wdB ins outs v z <;> rfl
theorem cg_ok (h : 1 ≤ n ∧ n ≤ 24) (e : (m_check_edges n ed).map toEx = some (.ok ())) (e1 : (m_check_set n ins ("inputs" : Str)).map toEx = some (.ok ())) (e2 : (m_check_set n outs ("outputs" : Str)).map toEx = some (.ok ())) (hl : (pls.length : Int) = n)
    (hp : ∀ v z, 0 ≤ v → pls[v.toNat]? = some z → wdB ins outs v z = true) : CgE n ed ins outs pls = some (.ok ()) := by
  rw [cg_s2 h e e1 e2 hl, forE_all1 ?_]
  · rfl
  · intro v hv
    obtain ⟨v0, v1⟩ := mem_range0.mp hv
    have hz : pls[v.toNat]? = some (pls[v.toNat]'(by omega)) := List.getElem?_eq_getElem (by omega)
    rw [plane_step v0 hz, if_pos (hp v _ v0 hz)]
theorem cg_plane (h : 1 ≤ n ∧ n ≤ 24) (e : (m_check_edges n ed).map toEx = some (.ok ())) (e1 : (m_check_set n ins ("inputs" : Str)).map toEx = some (.ok ())) (e2 : (m_check_set n outs ("outputs" : Str)).map toEx = some (.ok ())) (hl : (pls.length : Int) = n)
    {k : Int} {w : Str} (k0 : 0 ≤ k) (k1 : k < n) (hw : pls[k.toNat]? = some w) (hb : wdB ins outs k w = false) (hp : ∀ v z, 0 ≤ v → v < k → pls[v.toNat]? = some z → wdB ins outs v z = true) : CgE n ed ins outs pls = some (.error (("plane" : Str), k)) := by
  rw [cg_s2 h e e1 e2 hl, forE_get (rangeL_at k0 k1) ?_ (e := (("plane" : Str), k)) ?_]
  · rfl
  · intro j v hj hv
    have ev := rangeL_get hv
    have : v = (j : Int) := by omega
    subst this
    have hz : pls[(j : Int).toNat]? = some (pls[(j : Int).toNat]'(by omega)) := List.getElem?_eq_getElem (by omega)
    rw [plane_step (by omega) hz, if_pos (hp _ _ (by omega) (by omega) hz)]
  · rw [plane_step k0 hw, if_neg (by rw [hb]; decide)]
end
/-! ### a right graph -/
def LtP (p q : Int × Int) : Prop := p.1 < q.1 ∨ (p.1 = q.1 ∧ p.2 < q.2)
theorem ltP_iff {p q : Int × Int} : Ab.ltP p q = true ↔ LtP p q := by
  unfold Ab.ltP LtP
  rw [HT.lexLt_cons, HT.lexLt_cons, HT.lexLt_nil_nil]
  by_cases h1 : p.1 = q.1
  · rw [if_pos h1]
    by_cases h2 : p.2 = q.2
    · rw [if_pos h2]
      constructor
      · intro h; cases h
      · intro h; omega
    · rw [if_neg h2, decide_eq_true_eq]
      omega
  · rw [if_neg h1, decide_eq_true_eq]
    omega
theorem strict_edges {l : List (Int × Int)} (h : l.Pairwise LeP) (nd : l.Nodup) : l.Pairwise LtP := by
  refine (h.and nd).imp fun {a b} g => ?_
  obtain ⟨g1, g2⟩ := g
  have : ¬ (a.1 = b.1 ∧ a.2 = b.2) := fun e => g2 (Prod.ext e.1 e.2)
  unfold LeP at g1
  unfold LtP
  omega
theorem set_okAt {n : Int} {xs : List Int} (h : xs.Sublist (rangeL 0 n.toNat)) {j : Nat} {y : Int} (hy : xs[j]? = some y) : okAt (fun y => decide ((0 : Int) ≤ y) && decide (y < n)) (fun a b => decide (a < b)) xs j y := by
  have m := mem_range0.mp (h.mem (List.mem_of_getElem? hy))
  refine ⟨by simpa using m, fun i p e hp => ?_⟩
  have := ((rangeL_SL 0 n.toNat).sub h).lt_get hp hy (by omega)
  exact decide_eq_true this
theorem set_ok {n : Int} {xs : List Int} (h : xs.Sublist (rangeL 0 n.toNat)) (r : Str) : (m_check_set n xs r).map toEx = some (.ok ()) := by
  rw [set_chk]
  exact chk_ok fun j y hy => set_okAt h hy
theorem edge_okAt {n : Int} {xs : List (Int × Int)} (s : xs.Pairwise LtP) (b : ∀ e ∈ xs, 0 ≤ e.1 ∧ e.1 < e.2 ∧ e.2 < n) {j : Nat} {y : Int × Int} (hy : xs[j]? = some y) : okAt (fun y => decide ((0 : Int) ≤ y.1) && (decide (y.1 < y.2) && decide (y.2 < n))) (fun a b => Ab.ltP a (b.1, b.2)) xs j y := by
  have m := b y (List.mem_of_getElem? hy)
  refine ⟨by simpa using m, fun i p e hp => ?_⟩
  obtain ⟨h1, rfl⟩ := List.getElem?_eq_some_iff.mp hp
  obtain ⟨h2, rfl⟩ := List.getElem?_eq_some_iff.mp hy
  exact ltP_iff.mpr (List.pairwise_iff_getElem.mp s i j h1 h2 (by omega))
theorem edges_ok {n : Int} {xs : List (Int × Int)} (s : xs.Pairwise LtP) (b : ∀ e ∈ xs, 0 ≤ e.1 ∧ e.1 < e.2 ∧ e.2 < n) : (m_check_edges n xs).map toEx = some (.ok ()) := by
  rw [edges_chk]
  exact chk_ok fun j y hy => edge_okAt s b hy
theorem wd_ok {alone : Bool} {g : Gr} (G : Ld alone g) {v : Int} {z : Str} (v0 : 0 ≤ v) (h : g.2.2.2.2[v.toNat]? = some z) : wdB g.2.2.1 g.2.2.2.1 v z = true := by
  have v1 : v < g.1 := by
    have := (List.getElem?_eq_some_iff.mp h).1
    rw [G.ln] at this
    have := G.good.n0
    omega
  obtain ⟨x, hx, k⟩ := G.lb v v0 v1
  rw [h] at hx
  cases hx
  unfold wdB
  rcases k with ⟨ho, rfl⟩ | ⟨ho, hi, k⟩ | ⟨ho, hi, k⟩
  · rw [if_pos ho]; rfl
  · rw [if_neg ho, if_pos hi]
    rcases k with rfl | ⟨_, rfl | rfl⟩ <;> rfl
  · rw [if_neg ho, if_neg hi]
    rcases k with rfl | rfl | rfl | ⟨_, rfl | rfl | rfl⟩ <;> rfl
section
variable {alone : Bool} {g : Gr} (G : Ld alone g) (h2 : g.1 ≤ 24)
include G h2
theorem es_ok : g.2.1.Pairwise LtP := strict_edges G.so G.good.nd
theorem rn_ok : 1 ≤ g.1 ∧ g.1 ≤ 24 := ⟨G.n1, h2⟩
theorem right_ok : CgE g.1 g.2.1 g.2.2.1 g.2.2.2.1 g.2.2.2.2 = some (.ok ()) :=
  cg_ok (rn_ok G h2) (edges_ok (es_ok G h2) G.good.eb) (set_ok G.good.ins _) (set_ok G.good.out _) (by have := G.ln; have := G.n1; omega) fun _ _ a b => wd_ok G a b
theorem ins_len : g.2.2.1.length ≤ 24 := by
  have := G.good.ins.length_le
  rw [rangeL_len] at this
  omega
theorem out_len : g.2.2.2.1.length ≤ 24 := by
  have := G.good.out.length_le
  rw [rangeL_len] at this
  omega
end
/-! ### one put in -/
abbrev putIn {α : Type} (xs : List α) (k : Nat) (y : α) : List α := xs.take k ++ [y] ++ xs.drop k
theorem putIn_lt {α : Type} {xs : List α} {k i : Nat} {y : α} (hk : k ≤ xs.length) (h : i < k) : (putIn xs k y)[i]? = xs[i]? := by
  show (xs.take k ++ [y] ++ xs.drop k)[i]? = _
  rw [List.append_assoc, List.getElem?_append_left (by rw [List.length_take]; omega), List.getElem?_take_of_lt h]
theorem putIn_at {α : Type} {xs : List α} {k : Nat} {y : α} (hk : k ≤ xs.length) : (putIn xs k y)[k]? = some y := by
  show (xs.take k ++ [y] ++ xs.drop k)[k]? = _
  have l : (xs.take k).length = k := by rw [List.length_take]; omega
  rw [List.append_assoc, List.getElem?_append_right (by omega), l, Nat.sub_self]; rfl
theorem chk_put {α : Type} {ok : α → Bool} {lt : α → α → Bool} {r : Str} {xs : List α} {k : Nat} {y : α} (hk : k ≤ xs.length) (h1 : ∀ j z, xs[j]? = some z → okAt ok lt xs j z) (h : ¬ okAt ok lt (putIn xs k y) k y) : (chk ok lt r (putIn xs k y)).map toEx = some (.error (r, (k : Int))) := by
  refine chk_bad (putIn_at hk) (fun i z hi hz => ?_) h
  rw [putIn_lt hk hi] at hz
  obtain ⟨a, b⟩ := h1 i z hz
  refine ⟨a, fun i' p e hp => b i' p e ?_⟩
  rw [putIn_lt hk (by omega)] at hp
  exact hp
theorem set_put {n : Int} {xs : List Int} (hx : xs.Sublist (rangeL 0 n.toNat)) {k : Nat} (hk : k ≤ xs.length) {y : Int} (h : ¬ (0 ≤ y ∧ y < n)) (r : Str) : (m_check_set n (putIn xs k y) r).map toEx = some (.error (r, (k : Int))) := by
  rw [set_chk]
  exact chk_put hk (fun j z hz => set_okAt hx hz) fun q => h (by have := q.1; simpa using this)
theorem edge_put {n : Int} {xs : List (Int × Int)} (s : xs.Pairwise LtP) (b : ∀ e ∈ xs, 0 ≤ e.1 ∧ e.1 < e.2 ∧ e.2 < n) {k : Nat} (hk : k ≤ xs.length) {y : Int × Int} (h : ¬ (0 ≤ y.1 ∧ y.1 < y.2 ∧ y.2 < n) ∨ ∃ i, k = i + 1 ∧ xs[i]? = some y) :
    (m_check_edges n (putIn xs k y)).map toEx = some (.error (("edge" : Str), (k : Int))) := by
  rw [edges_chk]
  refine chk_put hk (fun j z hz => edge_okAt s b hz) fun q => ?_
  rcases h with h | ⟨i, e, hi⟩
  · exact h (by have := q.1; simpa using this)
  · have := ltP_iff.mp (q.2 i y e (by rw [putIn_lt hk (by omega)]; exact hi))
    unfold LtP at this
    simp only at this
    omega
/-! ### what is told of a graph with a fault -/
theorem raised_ok {g : Gr} (h : CgE g.1 g.2.1 g.2.2.1 g.2.2.2.1 g.2.2.2.2 = some (.ok ())) : m_law_raised g = some (("" : Str), (0 : Int)) := by
  show (CgE g.1 g.2.1 g.2.2.1 g.2.2.2.1 g.2.2.2.2).bind _ = _
  rw [h]; rfl
theorem raised_no {g : Gr} {e : Er} (h : CgE g.1 g.2.1 g.2.2.1 g.2.2.2.1 g.2.2.2.2 = some (.error e)) : m_law_raised g = some (e.1, e.2) := by
  show (CgE g.1 g.2.1 g.2.2.1 g.2.2.2.1 g.2.2.2.2).bind _ = _
  rw [h]; rfl
structure Wr (g b : Gr) (e : Er) : Prop where
  told : CgE b.1 b.2.1 b.2.2.1 b.2.2.2.1 b.2.2.2.2 = some (.error e)
  two : memB e.1 [("planes" : Str), ("plane" : Str)] = true → b.2.2.2.1.length ≤ 100 ∧ CgE b.1 b.2.1 b.2.2.1 (b.2.2.2.1 ++ [g.1]) b.2.2.2.2 = some (.error (("outputs" : Str), (g.2.2.2.1.length : Int)))
section
variable {alone : Bool} {g : Gr} (G : Ld alone g) (h2 : g.1 ≤ 24)
include G h2
theorem two_ok (ls : List Str) : g.2.2.2.1.length ≤ 100 ∧ CgE g.1 g.2.1 g.2.2.1 (g.2.2.2.1 ++ [g.1]) ls = some (.error (("outputs" : Str), (g.2.2.2.1.length : Int))) := by
  refine ⟨by have := out_len G h2; omega, cg_outs (rn_ok G h2) (edges_ok (es_ok G h2) G.good.eb) (set_ok G.good.ins _) ?_⟩
  have := set_put G.good.out (k := g.2.2.2.1.length) (Nat.le_refl _) (y := g.1) (by omega) ("outputs" : Str)
  unfold putIn at this
  rw [List.take_length, List.drop_length, List.append_nil] at this
  exact this
theorem wr_many {m : Int} (h : ¬ (1 ≤ m ∧ m ≤ 24)) : Wr g (m, g.2.1, g.2.2.1, g.2.2.2.1, g.2.2.2.2) (("many" : Str), m) where
  told := cg_many h
  two := fun h => by cases h
theorem wr_edge {k : Nat} (hk : k ≤ g.2.1.length) {y : Int × Int} (h : ¬ (0 ≤ y.1 ∧ y.1 < y.2 ∧ y.2 < g.1) ∨ ∃ i, k = i + 1 ∧ g.2.1[i]? = some y) : Wr g (g.1, putIn g.2.1 k y, g.2.2.1, g.2.2.2.1, g.2.2.2.2) (("edge" : Str), (k : Int)) where
  told := cg_edge (n := g.1) ⟨G.n1, h2⟩ (edge_put (es_ok G h2) G.good.eb hk h)
  two := fun h => by cases h
theorem wr_ins {k : Nat} (hk : k ≤ g.2.2.1.length) {y : Int} (h : ¬ (0 ≤ y ∧ y < g.1)) : Wr g (g.1, g.2.1, putIn g.2.2.1 k y, g.2.2.2.1, g.2.2.2.2) (("inputs" : Str), (k : Int)) where
  told := cg_ins (n := g.1) ⟨G.n1, h2⟩ (edges_ok (strict_edges G.so G.good.nd) G.good.eb) (set_put G.good.ins hk h _)
  two := fun h => by cases h
theorem wr_out {k : Nat} (hk : k ≤ g.2.2.2.1.length) {y : Int} (h : ¬ (0 ≤ y ∧ y < g.1)) : Wr g (g.1, g.2.1, g.2.2.1, putIn g.2.2.2.1 k y, g.2.2.2.2) (("outputs" : Str), (k : Int)) where
  told := cg_outs (n := g.1) ⟨G.n1, h2⟩ (edges_ok (strict_edges G.so G.good.nd) G.good.eb) (set_ok G.good.ins _) (set_put G.good.out hk h _)
  two := fun h => by cases h
theorem wr_planes {ps : List Str} (h : ¬ (ps.length : Int) = g.1) : Wr g (g.1, g.2.1, g.2.2.1, g.2.2.2.1, ps) (("planes" : Str), (ps.length : Int)) where
  told := cg_planes (n := g.1) ⟨G.n1, h2⟩ (edges_ok (strict_edges G.so G.good.nd) G.good.eb) (set_ok G.good.ins _) (set_ok G.good.out _) h
  two := fun _ => two_ok G h2 ps
theorem wr_plane {k : Nat} {w : Str} (hk : k < g.2.2.2.2.length) (h : wdB g.2.2.1 g.2.2.2.1 (k : Int) w = false) : Wr g (g.1, g.2.1, g.2.2.1, g.2.2.2.1, g.2.2.2.2.set k w) (("plane" : Str), (k : Int)) where
  told := by
    have := G.ln
    have := G.n1
    refine cg_plane (rn_ok G h2) (edges_ok (es_ok G h2) G.good.eb) (set_ok G.good.ins _) (set_ok G.good.out _) (by rw [List.length_set]; omega) (by omega) (by omega) (by rw [Int.toNat_natCast]; exact List.getElem?_set_self hk) h fun v z v0 vk hz => ?_
    rw [List.getElem?_set_ne (by omega)] at hz
    exact wd_ok G v0 hz
  two := fun _ => two_ok G h2 _
end
theorem slice_lo {α : Type} (l : List α) (k : Nat) (h : k ≤ l.length) : sliceL l none (some (k : Int)) = l.take k := by
  unfold sliceL
  rw [sIx_none, HT.sIx_nat, Nat.min_eq_left h, List.drop_zero, Nat.sub_zero]
theorem slice_hi {α : Type} (l : List α) (k : Nat) (h : k ≤ l.length) : sliceL l (some (k : Int)) none = l.drop k := by
  unfold sliceL
  rw [sIx_none, HT.sIx_nat, Nat.min_eq_left h, List.take_of_length_le (by rw [List.length_drop]; omega)]
theorem sl_len {α : Type} (l : List α) (a b : Option Int) : (sliceL l a b).length ≤ l.length := by
  unfold sliceL
  rw [List.length_take, List.length_drop]; omega
theorem broken_ok {alone : Bool} {g : Gr} (G : Ld alone g) (h2 : g.1 ≤ 24) (r : Rs) : Y (m_law_broken g r) (fun p => Wr g p.1.1 p.1.2) := by
  have li := ins_len G h2
  have lo := out_len G h2
  have ln := G.ln
  have n1 := G.n1
  have el := G.good.el
  have L : (16777216 : Nat) = Line := rfl
  unfold m_law_broken
  refine Y.lt (Y.bind (Y.draw (by omega) (by omega)) fun z0 h0 => Y.lt ?_)
  refine Y.ite (fun _ => ?_) fun c0 => Y.ite (fun _ => ?_) fun c1 => Y.ite (fun _ => ?_) fun c2 => Y.ite (fun _ => ?_) fun c3 => Y.ite (fun _ => ?_) fun c4 => ?_
  · refine Y.bind (pick_mem (P := fun m => ¬ (1 ≤ m ∧ m ≤ 24)) (by decide) (by decide) (by simp)) fun z1 h1 => Y.lt ?_
    refine Y.bindE rfl (Y.guard (by show 1 + 4 ≤ Line; decide) ?_)
    exact Y.bindE (a := (z1.1, g.2.1, g.2.2.1, g.2.2.2.1, g.2.2.2.2)) ((decP5_to decI_to (decT_to (decP2_to decI_to decI_to)) (decT_to decI_to) (decT_to decI_to) (decT_to decS_to)) (z1.1, g.2.1, g.2.2.1, g.2.2.2.1, g.2.2.2.2)) (Y.ok (wr_many G h2 h1))
  · refine Y.bind (Y.draw (by omega) (by omega)) fun z5 h5 => Y.lt ?_
    obtain ⟨k, hk⟩ := Int.eq_ofNat_of_zero_le h5.1
    have kl : k ≤ g.2.1.length := by omega
    refine Y.bind (P := fun (w : List (Int × Int) × Rs) => w.1.length ≤ 1 ∧ ∀ y ∈ w.1, ∃ i, k = i + 1 ∧ g.2.1[i]? = some y) (Y.ite (fun c => ?_) fun _ => Y.ok ⟨by simp, by simp⟩) fun z9 h9 => ?_
    · rw [decide_eq_true_eq] at c
      obtain ⟨i, rfl⟩ : ∃ i, k = i + 1 := ⟨k - 1, by omega⟩
      have gp : g.2.1[i]? = some (g.2.1[i]'(by omega)) := List.getElem?_eq_getElem (by omega)
      refine Y.bindE (atI_of (x := g.2.1[i]'(by omega)) (by omega) (by rw [show (z5.1 - 1).toNat = i by omega]; exact gp)) (Y.ok ⟨by simp, fun y hy => ⟨i, rfl, ?_⟩⟩)
      have : y = g.2.1[i]'(by omega) := by simpa using hy
      rw [this]; exact gp
    · refine Y.guard (by show 4 + z9.1.length ≤ Line; have := h9.1; omega) ?_
      refine Y.bind (pick_mem (P := fun (y : Int × Int) => ¬ (0 ≤ y.1 ∧ y.1 < y.2 ∧ y.2 < g.1) ∨ ∃ i, k = i + 1 ∧ g.2.1[i]? = some y) (by simp) (by have := h9.1; simp; omega) fun y hy => ?_) fun z10 h10 => Y.lt ?_
      · rcases List.mem_append.mp hy with hy | hy
        · refine .inl ?_
          simp only [List.mem_cons, List.not_mem_nil, or_false] at hy
          rcases hy with rfl | rfl | rfl | rfl <;> simp only <;> omega
        · exact .inr (h9.2 y hy)
      · rw [hk, slice_lo _ _ kl, slice_hi _ _ kl]
        have t1 : (g.2.1.take k).length ≤ 4096 := by rw [List.length_take]; omega
        have t2 : (g.2.1.drop k).length ≤ 4096 := by rw [List.length_drop]; omega
        refine Y.guard (by show (g.2.1.take k).length + 1 ≤ Line; omega) (Y.guard (by rw [List.length_append]; show (g.2.1.take k).length + 1 + (g.2.1.drop k).length ≤ Line; omega) (Y.ok ?_))
        exact wr_edge G h2 kl h10
  · refine Y.bind (Y.draw (by omega) (by omega)) fun z5 h5 => Y.lt ?_
    obtain ⟨k, hk⟩ := Int.eq_ofNat_of_zero_le h5.1
    have kl : k ≤ g.2.2.1.length := by omega
    refine Y.bind (pick_mem (P := fun y => ¬ (0 ≤ y ∧ y < g.1)) (by simp) (by simp) fun y hy => ?_) fun z10 h10 => ?_
    · simp only [List.mem_cons, List.not_mem_nil, or_false] at hy
      rcases hy with rfl | rfl <;> omega
    · rw [hk, slice_lo _ _ kl, slice_hi _ _ kl]
      have t1 : (g.2.2.1.take k).length ≤ 4096 := by rw [List.length_take]; omega
      have t2 : (g.2.2.1.drop k).length ≤ 4096 := by rw [List.length_drop]; omega
      refine Y.guard (by show (g.2.2.1.take k).length + 1 ≤ Line; omega) (Y.guard (by rw [List.length_append]; show (g.2.2.1.take k).length + 1 + (g.2.2.1.drop k).length ≤ Line; omega) (Y.ok ?_))
      exact wr_ins G h2 kl h10
  · refine Y.bind (Y.draw (by omega) (by omega)) fun z5 h5 => Y.lt ?_
    obtain ⟨k, hk⟩ := Int.eq_ofNat_of_zero_le h5.1
    have kl : k ≤ g.2.2.2.1.length := by omega
    refine Y.bind (pick_mem (P := fun y => ¬ (0 ≤ y ∧ y < g.1)) (by simp) (by simp) fun y hy => ?_) fun z10 h10 => ?_
    · simp only [List.mem_cons, List.not_mem_nil, or_false] at hy
      rcases hy with rfl | rfl <;> omega
    · rw [hk, slice_lo _ _ kl, slice_hi _ _ kl]
      have t1 : (g.2.2.2.1.take k).length ≤ 4096 := by rw [List.length_take]; omega
      have t2 : (g.2.2.2.1.drop k).length ≤ 4096 := by rw [List.length_drop]; omega
      refine Y.guard (by show (g.2.2.2.1.take k).length + 1 ≤ Line; omega) (Y.guard (by rw [List.length_append]; show (g.2.2.2.1.take k).length + 1 + (g.2.2.2.1.drop k).length ≤ Line; omega) (Y.ok ?_))
      exact wr_out G h2 kl h10
  · refine Y.guard (by show g.2.2.2.2.length + 1 ≤ Line; omega) ?_
    refine Y.bind (pick_mem (P := fun ps => ¬ (ps.length : Int) = g.1) (by simp) (by simp) fun y hy => ?_) fun z10 h10 => Y.lt (Y.ok (wr_planes G h2 h10))
    simp only [List.mem_cons, List.not_mem_nil, or_false] at hy
    rcases hy with rfl | rfl
    · have e : sliceL g.2.2.2.2 (some (1 : Int)) none = g.2.2.2.2.drop 1 := slice_hi g.2.2.2.2 1 (by omega)
      rw [e, List.length_drop]; omega
    · rw [List.length_append]
      show ¬ ((g.2.2.2.2.length + 1 : Nat) : Int) = g.1
      omega
  · refine Y.bind (Y.draw (by omega) (by omega)) fun z5 h5 => Y.lt ?_
    obtain ⟨k, hk⟩ := Int.eq_ofNat_of_zero_le h5.1
    have kl : k < g.2.2.2.2.length := by omega
    refine Y.bind (pick_mem (P := fun y => y ∈ [("" : Str), ("YX" : Str), ("x" : Str), ("I" : Str), ("XYZ" : Str)]) (by decide) (by decide) fun y hy => hy) fun z17 h17 => Y.lt ?_
    refine Y.bind (P := fun (w : Str × Rs) => wdB g.2.2.1 g.2.2.2.1 (k : Int) w.1 = false) (Y.ite (fun c => ?_) fun c => ?_) fun w0 hw0 => ?_
    · have c' : (k : Int) ∈ g.2.2.2.1 := by rw [hk] at c; simpa using c
      refine Y.bind (pick_mem (P := fun y => wdB g.2.2.1 g.2.2.2.1 (k : Int) y = false) (by decide) (by decide) fun y hy => ?_) fun z18 h18 => Y.lt (Y.ok h18)
      unfold wdB
      rw [if_pos c']
      simp only [List.mem_cons, List.not_mem_nil, or_false] at hy
      rcases hy with rfl | rfl | rfl <;> decide
    · have c' : (k : Int) ∉ g.2.2.2.1 := by rw [hk] at c; simpa using c
      refine Y.bind (P := fun (w : Str × Rs) => wdB g.2.2.1 g.2.2.2.1 (k : Int) w.1 = false) (Y.ite (fun d => ?_) fun d => Y.ok ?_) fun w1 hw1 => Y.ok hw1
      · have d' : (k : Int) ∈ g.2.2.1 := by rw [hk] at d; simpa using d
        refine Y.bind (pick_mem (P := fun y => wdB g.2.2.1 g.2.2.2.1 (k : Int) y = false) (by decide) (by decide) fun y hy => ?_) fun z18 h18 => Y.lt (Y.ok h18)
        unfold wdB
        rw [if_neg c', if_pos d']
        simp only [List.mem_cons, List.not_mem_nil, or_false] at hy
        rcases hy with rfl | rfl | rfl | rfl <;> decide
      · have d' : (k : Int) ∉ g.2.2.1 := by rw [hk] at d; simpa using d
        unfold wdB
        rw [if_neg c', if_neg d']
        have hy := h17
        simp only [List.mem_cons, List.not_mem_nil, or_false] at hy
        rcases hy with h | h | h | h | h <;> rw [h] <;> decide
    · rw [hk]
      have e := slice_set g.2.2.2.2 k kl w0.1
      rw [e]
      have l1 := sl_len g.2.2.2.2 none (some (k : Int))
      have l2 := sl_len g.2.2.2.2 (some ((k : Int) + 1)) none
      refine Y.guard (by show (sliceL g.2.2.2.2 none (some (k : Int))).length + 1 ≤ Line; omega) (Y.guard (by rw [List.length_append]; show (sliceL g.2.2.2.2 none (some (k : Int))).length + 1 + _ ≤ Line; omega) (Y.ok ?_))
      exact wr_plane G h2 kl hw0
theorem law_true (ns : List Int) (h : ns.length ≤ 63) : ∃ s', m_law (stateR ns) = some (true, s') := by
  suffices hs : ∀ s, Y (m_law s) (fun p => p.1 = true) by
    obtain ⟨⟨b, s'⟩, h1, rfl⟩ := hs (stateR ns)
    exact ⟨s', h1⟩
  intro s
  unfold m_law
  refine Y.guard (by decide) (Y.forI (fun _ => True) trivial (fun turn w hp _ => ?_) fun w _ => Y.ok rfl)
  refine Y.bind (pick_mem (P := fun m => 1 ≤ m ∧ m ≤ 24) (by decide) (by decide) (by simp)) fun z2 h2 => ?_
  refine Y.bind (Y.draw (by omega) (by omega)) fun z3 h3 => ?_
  refine Y.bind (law_graph_ld (alone := decide (z3.1 = 0)) z3.2 h2.1 (by omega)) fun z4 h4 => Y.lt ?_
  obtain ⟨G, n2⟩ := h4
  have n2 : z4.1.1 ≤ 24 := by omega
  refine Y.bind (broken_ok G n2 z4.2) fun z5 h5 => Y.lt ?_
  refine Y.bindE (raised_ok (right_ok G n2)) ?_
  refine Y.bind (P := fun z => z.1 = false) (Y.iteF rfl ?_) fun z8 h8 => Y.iteF h8 ?_
  · refine Y.bindE (raised_no h5.told) (Y.ok ?_)
    simp
  · refine Y.bind (P := fun j => ∃ w, j = .go w) (Y.ite (fun c => ?_) fun _ => Y.ok ⟨_, rfl⟩) fun j hj => ?_
    · obtain ⟨l, t⟩ := h5.two c
      refine Y.guard (by show _ + 1 ≤ Line; have : (16777216 : Nat) = Line := rfl; omega) (Y.lt ?_)
      refine Y.bindE (raised_no t) (Y.iteF ?_ (Y.ok ⟨_, rfl⟩))
      simp
    · obtain ⟨w', rfl⟩ := hj
      exact Y.next trivial
end K54
namespace K54
open PySem PySem.Spec PyProof.Rows L2 Ab
def xk_mk {l : PySem.W.OpenLaw} {K : PySem.W.Frag} {h : Heap} {mg : Str → Option Value} {xC xf xcc xcd xN : Addr} {xnm xqq : Str} {xbs xbm : List Value} {xsn : List Str} {xsb : List Value} {xab : Bool} {xcol : Option Bool} {xdd : Option Addr} {xk0 xk1 xk2 xk3 xk5 : Option Value} {xoc xkV xdoc xpm xct xcl xzl : Value} {xod xan xcdd xzd : Option Addr} {xsl xccs xzs : Array (Option Value)} {xvs : Array Value} {xfile : Str} {xtf : Tok} {xcdD : _} (X : K.In h) (G : h.Ns mainGlobals mg)
    (xxa : PySem.W.nsIn K mainGlobals "GraphError" = some (some (.ref xC)))
    (xxL : K.lookup xC = some (excClassObj xnm xqq xC xN xbs xbm true xsn xsb xab xcol xdd xk0 xk1 xk2 xk3 xk5 "ValueError.__new__"))
    (xxv : PySem.HandSPX.refsVE xbm = true)
    (xxs : PySem.W.findIn K (.ref xC) "__setattr__" = some (some (.builtin "object.__setattr__")))
    (xxe : PySem.W.subIn K (.ref xC) (.type "BaseException") = some true)
    (xxt : PySem.W.typeIn K (.ref xC) = some (.type "type"))
    (xxk : PySem.W.keepIn K (.ref xC) = true)
    (xxi : PySem.W.findIn K (.ref xC) "__init__" = some (some (.ref xf)))
    (xxj : PySem.W.typeIn K (.ref xf) = some (.type "function"))
    (xxl : K.lookup xf = some ⟨xoc, xod, .func (PySem.W.fnX "__init__" ("GraphError" ++ ".__init__") (defArgs s_GraphError) (defBody s_GraphError) (defScope s_GraphError) [("__class__", xcc)] .none xkV xdoc xpm xan (.ref xcd) xct), xsl⟩)
    (xxo : PySem.W.codeIn K (.ref xcd) ("GraphError" ++ ".__init__") = true)
    (xxp : K.lookup xcd = some ⟨xcl, xcdd, .fields xvs, xccs⟩)
    (xxq : xvs[2]? = some (.str xfile xtf))
    (xxr : ((l.prog.main.file : Str) == xfile) = true)
    (xxc : K.lookup xcc = some ⟨xzl, xzd, .cell (some (.ref xC)), xzs⟩)
    (xxd : PySem.W.clsIn K xC = some xcdD)
    (xxn : PySem.W.nsIn K cStatics "thirdparty.any" = some none)
    (xxu : (l.prog.main.scope.names.lookup ("super" : Str)).isSome = false)
    (xxm : PySem.W.mroIn K xC (.ref xC) = some true)
    (xxw : PySem.W.ks_superIn K xC xC "__init__" = some (some (.builtin "ValueError.__init__")))
    (xxB : PySem.W.subIn K (.ref xC) (.type "ValueError") = some true)
    (xx1 : PySem.W.findIn K (.ref xC) "rule" = some none)
    (xx2 : PySem.W.findIn K (.ref xC) "index" = some none)
    (xxh : PySem.W.nsIn K mainGlobals "super" = some none)
    (xxx : xfB K xC = true)
    (xxA : PySem.W.findIn K (.ref xC) "__class__" = some (some (.builtin "object.__class__")))
    (xxN : PySem.W.specialIn K (.builtin "object.__class__") "__get__" = some (some (.builtin "getset_descriptor.__get__")))
    (xxT : PySem.W.takesIn K (.builtin "object.__class__") = some true)
    (xxM : PySem.W.mroIn K xC (.type "object") = some true)
    (xxE : PySem.W.exmOne K (.ref xC) (.ref xC) = some true) : Xk l.prog K mg where
  C := xC
  fI := xf
  cc := xcc
  fd := PySem.W.fnX "__init__" ("GraphError" ++ ".__init__") (defArgs s_GraphError) (defBody s_GraphError) (defScope s_GraphError) [("__class__", xcc)] .none xkV xdoc xpm xan (.ref xcd) xct
  g := PySem.W.mg_of X G xxa
  T := ⟨⟨_, _, _, _, _, _, _, _, _, _, _, _, _, _, _, xxL, xxv⟩, xxs, xxe, xxt, xxk⟩
  iC := xxi
  tI := xxj
  F := ⟨⟨_, _, _, _, _, _, _, _, _, _, _, _, _, _, _, _, rfl, xxl, xxo, xxp, xxq, xxr⟩, ⟨_, _, _, xxc⟩, ⟨_, xxd⟩, xxn, xxu⟩
  sub := xxm
  m := xxw
  B := xxB
  n1 := xx1
  n2 := xx2
  hs := PySem.W.mg_none_of X G xxh
  b := .all fun us hl => match us, hl with | [_, _, _], _ => rfl
  xf := xfB_ok xxx
  xc := ⟨(xfB_ok xxx).ga, (xfB_ok xxx).gg, (xfB_ok xxx).exC, (xfB_ok xxx).hdC, xxA, xxN, xxT, xxM⟩
  ex := xxE
def txt_mk {K : PySem.W.Frag} {h : Heap} {mg : Str → Option Value} {f0 : Addr} {od0 an0 : Option Addr} {sl0 : Array (Option Value)} {oc0 kV0 dc0 pm0 cd0 ct0 : Value} {f1 : Addr} {od1 an1 : Option Addr} {sl1 : Array (Option Value)} {oc1 kV1 dc1 pm1 cd1 ct1 : Value} {f2 : Addr} {od2 an2 : Option Addr} {sl2 : Array (Option Value)} {oc2 kV2 dc2 pm2 cd2 ct2 : Value} {f3 : Addr} {od3 an3 : Option Addr} {sl3 : Array (Option Value)} {oc3 kV3 dc3 pm3 cd3 ct3 : Value} {f4 : Addr} {od4 an4 : Option Addr} {sl4 : Array (Option Value)} {oc4 kV4 dc4 pm4 cd4 ct4 : Value} {f5 : Addr} {od5 an5 : Option Addr} {sl5 : Array (Option Value)} {oc5 kV5 dc5 pm5 cd5 ct5 : Value} {f6 : Addr} {od6 an6 : Option Addr} {sl6 : Array (Option Value)} {oc6 kV6 dc6 pm6 cd6 ct6 : Value} {f7 : Addr} {od7 an7 : Option Addr} {sl7 : Array (Option Value)} {oc7 kV7 dc7 pm7 cd7 ct7 : Value} {f8 : Addr} {od8 an8 : Option Addr} {sl8 : Array (Option Value)} {oc8 kV8 dc8 pm8 cd8 ct8 : Value} {f9 : Addr} {od9 an9 : Option Addr} {sl9 : Array (Option Value)} {oc9 kV9 dc9 pm9 cd9 ct9 : Value} {f10 : Addr} {od10 an10 : Option Addr} {sl10 : Array (Option Value)} {oc10 kV10 dc10 pm10 cd10 ct10 : Value} {f11 : Addr} {od11 an11 : Option Addr} {sl11 : Array (Option Value)} {oc11 kV11 dc11 pm11 cd11 ct11 : Value} {v0o : Addr} {v0d : Option Addr} {v0n : Nat} {v0s : Array (Option Value)} {v0t0 : Tok} {v0t1 : Tok} {v0t2 : Tok} {v1t : Tok} {v2o : Addr} {v2d : Option Addr} {v2n : Nat} {v2s : Array (Option Value)} {v2t0 : Tok} {v2t1 : Tok} {v2t2 : Tok} {v2t3 : Tok} {v2t4 : Tok} {v2t5 : Tok} (X : K.In h) (G : h.Ns mainGlobals mg)
    (a0 : PySem.W.nsIn K mainGlobals "require" = some (some (.ref f0))) (l0 : K.lookup f0 = some ⟨oc0, od0, .func (PySem.W.fnOf "require" "require" (defArgs s_require) (defBody s_require) (defScope s_require) .none kV0 dc0 pm0 an0 cd0 ct0), sl0⟩) (c0 : PySem.W.codeIn K cd0 "require" = true) (k0 : PySem.W.keepIn K (.ref f0) = true)
    (a1 : PySem.W.nsIn K mainGlobals "check_edges" = some (some (.ref f1))) (l1 : K.lookup f1 = some ⟨oc1, od1, .func (PySem.W.fnOf "check_edges" "check_edges" (defArgs s_check_edges) (defBody s_check_edges) (defScope s_check_edges) .none kV1 dc1 pm1 an1 cd1 ct1), sl1⟩) (c1 : PySem.W.codeIn K cd1 "check_edges" = true) (k1 : PySem.W.keepIn K (.ref f1) = true)
    (a2 : PySem.W.nsIn K mainGlobals "check_set" = some (some (.ref f2))) (l2 : K.lookup f2 = some ⟨oc2, od2, .func (PySem.W.fnOf "check_set" "check_set" (defArgs s_check_set) (defBody s_check_set) (defScope s_check_set) .none kV2 dc2 pm2 an2 cd2 ct2), sl2⟩) (c2 : PySem.W.codeIn K cd2 "check_set" = true) (k2 : PySem.W.keepIn K (.ref f2) = true)
    (a3 : PySem.W.nsIn K mainGlobals "word_right" = some (some (.ref f3))) (l3 : K.lookup f3 = some ⟨oc3, od3, .func (PySem.W.fnOf "word_right" "word_right" (defArgs s_word_right) (defBody s_word_right) (defScope s_word_right) .none kV3 dc3 pm3 an3 cd3 ct3), sl3⟩) (c3 : PySem.W.codeIn K cd3 "word_right" = true) (k3 : PySem.W.keepIn K (.ref f3) = true)
    (a4 : PySem.W.nsIn K mainGlobals "check_lettered" = some (some (.ref f4))) (l4 : K.lookup f4 = some ⟨oc4, od4, .func (PySem.W.fnOf "check_lettered" "check_lettered" (defArgs s_check_lettered) (defBody s_check_lettered) (defScope s_check_lettered) .none kV4 dc4 pm4 an4 cd4 ct4), sl4⟩) (c4 : PySem.W.codeIn K cd4 "check_lettered" = true) (k4 : PySem.W.keepIn K (.ref f4) = true)
    (a5 : PySem.W.nsIn K mainGlobals "_law_state" = some (some (.ref f5))) (l5 : K.lookup f5 = some ⟨oc5, od5, .func (PySem.W.fnOf "_law_state" "_law_state" (defArgs s__law_state) (defBody s__law_state) (defScope s__law_state) .none kV5 dc5 pm5 an5 cd5 ct5), sl5⟩) (c5 : PySem.W.codeIn K cd5 "_law_state" = true) (k5 : PySem.W.keepIn K (.ref f5) = true)
    (a6 : PySem.W.nsIn K mainGlobals "_law_draw" = some (some (.ref f6))) (l6 : K.lookup f6 = some ⟨oc6, od6, .func (PySem.W.fnOf "_law_draw" "_law_draw" (defArgs s__law_draw) (defBody s__law_draw) (defScope s__law_draw) .none kV6 dc6 pm6 an6 cd6 ct6), sl6⟩) (c6 : PySem.W.codeIn K cd6 "_law_draw" = true) (k6 : PySem.W.keepIn K (.ref f6) = true)
    (a7 : PySem.W.nsIn K mainGlobals "_law_pick" = some (some (.ref f7))) (l7 : K.lookup f7 = some ⟨oc7, od7, .func (PySem.W.fnOf "_law_pick" "_law_pick" (defArgs s__law_pick) (defBody s__law_pick) (defScope s__law_pick) .none kV7 dc7 pm7 an7 cd7 ct7), sl7⟩) (c7 : PySem.W.codeIn K cd7 "_law_pick" = true) (k7 : PySem.W.keepIn K (.ref f7) = true)
    (a8 : PySem.W.nsIn K mainGlobals "_law_graph" = some (some (.ref f8))) (l8 : K.lookup f8 = some ⟨oc8, od8, .func (PySem.W.fnOf "_law_graph" "_law_graph" (defArgs s__law_graph) (defBody s__law_graph) (defScope s__law_graph) .none kV8 dc8 pm8 an8 cd8 ct8), sl8⟩) (c8 : PySem.W.codeIn K cd8 "_law_graph" = true) (k8 : PySem.W.keepIn K (.ref f8) = true)
    (a9 : PySem.W.nsIn K mainGlobals "_law_raised" = some (some (.ref f9))) (l9 : K.lookup f9 = some ⟨oc9, od9, .func (PySem.W.fnOf "_law_raised" "_law_raised" (defArgs s__law_raised) (defBody s__law_raised) (defScope s__law_raised) .none kV9 dc9 pm9 an9 cd9 ct9), sl9⟩) (c9 : PySem.W.codeIn K cd9 "_law_raised" = true) (k9 : PySem.W.keepIn K (.ref f9) = true)
    (a10 : PySem.W.nsIn K mainGlobals "_law_broken" = some (some (.ref f10))) (l10 : K.lookup f10 = some ⟨oc10, od10, .func (PySem.W.fnOf "_law_broken" "_law_broken" (defArgs s__law_broken) (defBody s__law_broken) (defScope s__law_broken) .none kV10 dc10 pm10 an10 cd10 ct10), sl10⟩) (c10 : PySem.W.codeIn K cd10 "_law_broken" = true) (k10 : PySem.W.keepIn K (.ref f10) = true)
    (a11 : PySem.W.nsIn K mainGlobals "law" = some (some (.ref f11))) (l11 : K.lookup f11 = some ⟨oc11, od11, .func (PySem.W.fnOf "law" "law" (defArgs s_law) (defBody s_law) (defScope s_law) .none kV11 dc11 pm11 an11 cd11 ct11), sl11⟩) (c11 : PySem.W.codeIn K cd11 "law" = true) (k11 : PySem.W.keepIn K (.ref f11) = true)
    (z0 : PySem.W.nsIn K mainGlobals "abs" = some none)
    (z1 : PySem.W.nsIn K mainGlobals "enumerate" = some none)
    (z2 : PySem.W.nsIn K mainGlobals "int" = some none)
    (z3 : PySem.W.nsIn K mainGlobals "len" = some none)
    (z4 : PySem.W.nsIn K mainGlobals "range" = some none)
    (z5 : PySem.W.nsIn K mainGlobals "tuple" = some none)
    (v0a : PySem.W.nsIn K mainGlobals "INPUT_WORDS" = some (some (.ref v0o))) (v0l : K.lookup v0o = some ⟨.type "tuple", v0d, .seq #[.str "XY" v0t0, .str "X" v0t1, .str "Y" v0t2] v0n, v0s⟩)
    (v1 : PySem.W.nsIn K mainGlobals "MOST_VERTICES" = some (some (.int 24 v1t)))
    (v2a : PySem.W.nsIn K mainGlobals "WORDS" = some (some (.ref v2o))) (v2l : K.lookup v2o = some ⟨.type "tuple", v2d, .seq #[.str "XY" v2t0, .str "XZ" v2t1, .str "YZ" v2t2, .str "X" v2t3, .str "Y" v2t4, .str "Z" v2t5] v2n, v2s⟩) : Txt K mg where
  a_require := f0
  d_require := PySem.W.fnOf "require" "require" (defArgs s_require) (defBody s_require) (defScope s_require) .none kV0 dc0 pm0 an0 cd0 ct0
  F_require := fun_mk (st := s_require) l0 c0 k0
  g_require := PySem.W.mg_of X G a0
  k_require := k0
  b_require := (fun_mk (x := "require") (qual := "require") (st := s_require) l0 c0 k0).binds (ps := ["holds", "rule", "index"]) fun _ _ _ _ _ _ us hl => match us, hl with | [_, _, _], _ => rfl
  a_check_edges := f1
  d_check_edges := PySem.W.fnOf "check_edges" "check_edges" (defArgs s_check_edges) (defBody s_check_edges) (defScope s_check_edges) .none kV1 dc1 pm1 an1 cd1 ct1
  F_check_edges := fun_mk (st := s_check_edges) l1 c1 k1
  g_check_edges := PySem.W.mg_of X G a1
  k_check_edges := k1
  b_check_edges := (fun_mk (x := "check_edges") (qual := "check_edges") (st := s_check_edges) l1 c1 k1).binds (ps := ["many", "edges"]) fun _ _ _ _ _ _ us hl => match us, hl with | [_, _], _ => rfl
  a_check_set := f2
  d_check_set := PySem.W.fnOf "check_set" "check_set" (defArgs s_check_set) (defBody s_check_set) (defScope s_check_set) .none kV2 dc2 pm2 an2 cd2 ct2
  F_check_set := fun_mk (st := s_check_set) l2 c2 k2
  g_check_set := PySem.W.mg_of X G a2
  k_check_set := k2
  b_check_set := (fun_mk (x := "check_set") (qual := "check_set") (st := s_check_set) l2 c2 k2).binds (ps := ["many", "some", "rule"]) fun _ _ _ _ _ _ us hl => match us, hl with | [_, _, _], _ => rfl
  a_word_right := f3
  d_word_right := PySem.W.fnOf "word_right" "word_right" (defArgs s_word_right) (defBody s_word_right) (defScope s_word_right) .none kV3 dc3 pm3 an3 cd3 ct3
  F_word_right := fun_mk (st := s_word_right) l3 c3 k3
  g_word_right := PySem.W.mg_of X G a3
  k_word_right := k3
  b_word_right := (fun_mk (x := "word_right") (qual := "word_right") (st := s_word_right) l3 c3 k3).binds (ps := ["graph", "vertex"]) fun _ _ _ _ _ _ us hl => match us, hl with | [_, _], _ => rfl
  a_check_lettered := f4
  d_check_lettered := PySem.W.fnOf "check_lettered" "check_lettered" (defArgs s_check_lettered) (defBody s_check_lettered) (defScope s_check_lettered) .none kV4 dc4 pm4 an4 cd4 ct4
  F_check_lettered := fun_mk (st := s_check_lettered) l4 c4 k4
  g_check_lettered := PySem.W.mg_of X G a4
  k_check_lettered := k4
  b_check_lettered := (fun_mk (x := "check_lettered") (qual := "check_lettered") (st := s_check_lettered) l4 c4 k4).binds (ps := ["graph"]) fun _ _ _ _ _ _ us hl => match us, hl with | [_], _ => rfl
  a__law_state := f5
  d__law_state := PySem.W.fnOf "_law_state" "_law_state" (defArgs s__law_state) (defBody s__law_state) (defScope s__law_state) .none kV5 dc5 pm5 an5 cd5 ct5
  F__law_state := fun_mk (st := s__law_state) l5 c5 k5
  g__law_state := PySem.W.mg_of X G a5
  k__law_state := k5
  b__law_state := (fun_mk (x := "_law_state") (qual := "_law_state") (st := s__law_state) l5 c5 k5).binds (ps := ["script"]) fun _ _ _ _ _ _ us hl => match us, hl with | [_], _ => rfl
  a__law_draw := f6
  d__law_draw := PySem.W.fnOf "_law_draw" "_law_draw" (defArgs s__law_draw) (defBody s__law_draw) (defScope s__law_draw) .none kV6 dc6 pm6 an6 cd6 ct6
  F__law_draw := fun_mk (st := s__law_draw) l6 c6 k6
  g__law_draw := PySem.W.mg_of X G a6
  k__law_draw := k6
  b__law_draw := (fun_mk (x := "_law_draw") (qual := "_law_draw") (st := s__law_draw) l6 c6 k6).binds (ps := ["state", "many"]) fun _ _ _ _ _ _ us hl => match us, hl with | [_, _], _ => rfl
  a__law_pick := f7
  d__law_pick := PySem.W.fnOf "_law_pick" "_law_pick" (defArgs s__law_pick) (defBody s__law_pick) (defScope s__law_pick) .none kV7 dc7 pm7 an7 cd7 ct7
  F__law_pick := fun_mk (st := s__law_pick) l7 c7 k7
  g__law_pick := PySem.W.mg_of X G a7
  k__law_pick := k7
  b__law_pick := (fun_mk (x := "_law_pick") (qual := "_law_pick") (st := s__law_pick) l7 c7 k7).binds (ps := ["state", "row"]) fun _ _ _ _ _ _ us hl => match us, hl with | [_, _], _ => rfl
  a__law_graph := f8
  d__law_graph := PySem.W.fnOf "_law_graph" "_law_graph" (defArgs s__law_graph) (defBody s__law_graph) (defScope s__law_graph) .none kV8 dc8 pm8 an8 cd8 ct8
  F__law_graph := fun_mk (st := s__law_graph) l8 c8 k8
  g__law_graph := PySem.W.mg_of X G a8
  k__law_graph := k8
  b__law_graph := (fun_mk (x := "_law_graph") (qual := "_law_graph") (st := s__law_graph) l8 c8 k8).binds (ps := ["state", "most", "planes_alone"]) fun _ _ _ _ _ _ us hl => match us, hl with | [_, _, _], _ => rfl
  a__law_raised := f9
  d__law_raised := PySem.W.fnOf "_law_raised" "_law_raised" (defArgs s__law_raised) (defBody s__law_raised) (defScope s__law_raised) .none kV9 dc9 pm9 an9 cd9 ct9
  F__law_raised := fun_mk (st := s__law_raised) l9 c9 k9
  g__law_raised := PySem.W.mg_of X G a9
  k__law_raised := k9
  b__law_raised := (fun_mk (x := "_law_raised") (qual := "_law_raised") (st := s__law_raised) l9 c9 k9).binds (ps := ["graph"]) fun _ _ _ _ _ _ us hl => match us, hl with | [_], _ => rfl
  a__law_broken := f10
  d__law_broken := PySem.W.fnOf "_law_broken" "_law_broken" (defArgs s__law_broken) (defBody s__law_broken) (defScope s__law_broken) .none kV10 dc10 pm10 an10 cd10 ct10
  F__law_broken := fun_mk (st := s__law_broken) l10 c10 k10
  g__law_broken := PySem.W.mg_of X G a10
  k__law_broken := k10
  b__law_broken := (fun_mk (x := "_law_broken") (qual := "_law_broken") (st := s__law_broken) l10 c10 k10).binds (ps := ["state", "graph"]) fun _ _ _ _ _ _ us hl => match us, hl with | [_, _], _ => rfl
  a_law := f11
  d_law := PySem.W.fnOf "law" "law" (defArgs s_law) (defBody s_law) (defScope s_law) .none kV11 dc11 pm11 an11 cd11 ct11
  F_law := fun_mk (st := s_law) l11 c11 k11
  g_law := PySem.W.mg_of X G a11
  k_law := k11
  b_law := (fun_mk (x := "law") (qual := "law") (st := s_law) l11 c11 k11).binds (ps := ["script"]) fun _ _ _ _ _ _ us hl => match us, hl with | [_], _ => rfl
  n_abs := PySem.W.mg_none_of X G z0
  n_enumerate := PySem.W.mg_none_of X G z1
  n_int := PySem.W.mg_none_of X G z2
  n_len := PySem.W.mg_none_of X G z3
  n_range := PySem.W.mg_none_of X G z4
  n_tuple := PySem.W.mg_none_of X G z5
  mo_INPUT_WORDS := v0o
  m_INPUT_WORDS := PySem.W.mg_of X G v0a
  t_INPUT_WORDS := ⟨⟨_, _, _, v0l, rfl, rfl, by rw [sizeLine_eq]; exact Nat.le_of_ble_eq_true rfl, (.cons ⟨_, rfl⟩ (.cons ⟨_, rfl⟩ (.cons ⟨_, rfl⟩ .nil)))⟩, by decide +kernel, by decide⟩
  m_MOST_VERTICES := ⟨_, PySem.W.mg_of X G v1, _, rfl⟩
  mo_WORDS := v2o
  m_WORDS := PySem.W.mg_of X G v2a
  t_WORDS := ⟨⟨_, _, _, v2l, rfl, rfl, by rw [sizeLine_eq]; exact Nat.le_of_ble_eq_true rfl, (.cons ⟨_, rfl⟩ (.cons ⟨_, rfl⟩ (.cons ⟨_, rfl⟩ (.cons ⟨_, rfl⟩ (.cons ⟨_, rfl⟩ (.cons ⟨_, rfl⟩ .nil))))))⟩, by decide +kernel, by decide⟩
theorem all_mk {l : PySem.W.OpenLaw} {w : World} {K : PySem.W.Frag} {h : Heap} {mg : Str → Option Value} {fa : Addr} {f0 : Addr} {od0 an0 : Option Addr} {sl0 : Array (Option Value)} {oc0 kV0 dc0 pm0 cd0 ct0 : Value} {f1 : Addr} {od1 an1 : Option Addr} {sl1 : Array (Option Value)} {oc1 kV1 dc1 pm1 cd1 ct1 : Value} {f2 : Addr} {od2 an2 : Option Addr} {sl2 : Array (Option Value)} {oc2 kV2 dc2 pm2 cd2 ct2 : Value} {f3 : Addr} {od3 an3 : Option Addr} {sl3 : Array (Option Value)} {oc3 kV3 dc3 pm3 cd3 ct3 : Value} {f4 : Addr} {od4 an4 : Option Addr} {sl4 : Array (Option Value)} {oc4 kV4 dc4 pm4 cd4 ct4 : Value} {f5 : Addr} {od5 an5 : Option Addr} {sl5 : Array (Option Value)} {oc5 kV5 dc5 pm5 cd5 ct5 : Value} {f6 : Addr} {od6 an6 : Option Addr} {sl6 : Array (Option Value)} {oc6 kV6 dc6 pm6 cd6 ct6 : Value} {f7 : Addr} {od7 an7 : Option Addr} {sl7 : Array (Option Value)} {oc7 kV7 dc7 pm7 cd7 ct7 : Value} {f8 : Addr} {od8 an8 : Option Addr} {sl8 : Array (Option Value)} {oc8 kV8 dc8 pm8 cd8 ct8 : Value} {f9 : Addr} {od9 an9 : Option Addr} {sl9 : Array (Option Value)} {oc9 kV9 dc9 pm9 cd9 ct9 : Value} {f10 : Addr} {od10 an10 : Option Addr} {sl10 : Array (Option Value)} {oc10 kV10 dc10 pm10 cd10 ct10 : Value} {f11 : Addr} {od11 an11 : Option Addr} {sl11 : Array (Option Value)} {oc11 kV11 dc11 pm11 cd11 ct11 : Value} {v0o : Addr} {v0d : Option Addr} {v0n : Nat} {v0s : Array (Option Value)} {v0t0 : Tok} {v0t1 : Tok} {v0t2 : Tok} {v1t : Tok} {v2o : Addr} {v2d : Option Addr} {v2n : Nat} {v2s : Array (Option Value)} {v2t0 : Tok} {v2t1 : Tok} {v2t2 : Tok} {v2t3 : Tok} {v2t4 : Tok} {v2t5 : Tok} {xC xf xcc xcd xN : Addr} {xnm xqq : Str} {xbs xbm : List Value} {xsn : List Str} {xsb : List Value} {xab : Bool} {xcol : Option Bool} {xdd : Option Addr} {xk0 xk1 xk2 xk3 xk5 : Option Value} {xoc xkV xdoc xpm xct xcl xzl : Value} {xod xan xcdd xzd : Option Addr} {xsl xccs xzs : Array (Option Value)} {xvs : Array Value} {xfile : Str} {xtf : Tok} {xcdD : _} (X : K.In h) (G : h.Ns mainGlobals mg) (hfa : mg "law" = some (.ref fa))
    (a0 : PySem.W.nsIn K mainGlobals "require" = some (some (.ref f0))) (l0 : K.lookup f0 = some ⟨oc0, od0, .func (PySem.W.fnOf "require" "require" (defArgs s_require) (defBody s_require) (defScope s_require) .none kV0 dc0 pm0 an0 cd0 ct0), sl0⟩) (c0 : PySem.W.codeIn K cd0 "require" = true) (k0 : PySem.W.keepIn K (.ref f0) = true)
    (a1 : PySem.W.nsIn K mainGlobals "check_edges" = some (some (.ref f1))) (l1 : K.lookup f1 = some ⟨oc1, od1, .func (PySem.W.fnOf "check_edges" "check_edges" (defArgs s_check_edges) (defBody s_check_edges) (defScope s_check_edges) .none kV1 dc1 pm1 an1 cd1 ct1), sl1⟩) (c1 : PySem.W.codeIn K cd1 "check_edges" = true) (k1 : PySem.W.keepIn K (.ref f1) = true)
    (a2 : PySem.W.nsIn K mainGlobals "check_set" = some (some (.ref f2))) (l2 : K.lookup f2 = some ⟨oc2, od2, .func (PySem.W.fnOf "check_set" "check_set" (defArgs s_check_set) (defBody s_check_set) (defScope s_check_set) .none kV2 dc2 pm2 an2 cd2 ct2), sl2⟩) (c2 : PySem.W.codeIn K cd2 "check_set" = true) (k2 : PySem.W.keepIn K (.ref f2) = true)
    (a3 : PySem.W.nsIn K mainGlobals "word_right" = some (some (.ref f3))) (l3 : K.lookup f3 = some ⟨oc3, od3, .func (PySem.W.fnOf "word_right" "word_right" (defArgs s_word_right) (defBody s_word_right) (defScope s_word_right) .none kV3 dc3 pm3 an3 cd3 ct3), sl3⟩) (c3 : PySem.W.codeIn K cd3 "word_right" = true) (k3 : PySem.W.keepIn K (.ref f3) = true)
    (a4 : PySem.W.nsIn K mainGlobals "check_lettered" = some (some (.ref f4))) (l4 : K.lookup f4 = some ⟨oc4, od4, .func (PySem.W.fnOf "check_lettered" "check_lettered" (defArgs s_check_lettered) (defBody s_check_lettered) (defScope s_check_lettered) .none kV4 dc4 pm4 an4 cd4 ct4), sl4⟩) (c4 : PySem.W.codeIn K cd4 "check_lettered" = true) (k4 : PySem.W.keepIn K (.ref f4) = true)
    (a5 : PySem.W.nsIn K mainGlobals "_law_state" = some (some (.ref f5))) (l5 : K.lookup f5 = some ⟨oc5, od5, .func (PySem.W.fnOf "_law_state" "_law_state" (defArgs s__law_state) (defBody s__law_state) (defScope s__law_state) .none kV5 dc5 pm5 an5 cd5 ct5), sl5⟩) (c5 : PySem.W.codeIn K cd5 "_law_state" = true) (k5 : PySem.W.keepIn K (.ref f5) = true)
    (a6 : PySem.W.nsIn K mainGlobals "_law_draw" = some (some (.ref f6))) (l6 : K.lookup f6 = some ⟨oc6, od6, .func (PySem.W.fnOf "_law_draw" "_law_draw" (defArgs s__law_draw) (defBody s__law_draw) (defScope s__law_draw) .none kV6 dc6 pm6 an6 cd6 ct6), sl6⟩) (c6 : PySem.W.codeIn K cd6 "_law_draw" = true) (k6 : PySem.W.keepIn K (.ref f6) = true)
    (a7 : PySem.W.nsIn K mainGlobals "_law_pick" = some (some (.ref f7))) (l7 : K.lookup f7 = some ⟨oc7, od7, .func (PySem.W.fnOf "_law_pick" "_law_pick" (defArgs s__law_pick) (defBody s__law_pick) (defScope s__law_pick) .none kV7 dc7 pm7 an7 cd7 ct7), sl7⟩) (c7 : PySem.W.codeIn K cd7 "_law_pick" = true) (k7 : PySem.W.keepIn K (.ref f7) = true)
    (a8 : PySem.W.nsIn K mainGlobals "_law_graph" = some (some (.ref f8))) (l8 : K.lookup f8 = some ⟨oc8, od8, .func (PySem.W.fnOf "_law_graph" "_law_graph" (defArgs s__law_graph) (defBody s__law_graph) (defScope s__law_graph) .none kV8 dc8 pm8 an8 cd8 ct8), sl8⟩) (c8 : PySem.W.codeIn K cd8 "_law_graph" = true) (k8 : PySem.W.keepIn K (.ref f8) = true)
    (a9 : PySem.W.nsIn K mainGlobals "_law_raised" = some (some (.ref f9))) (l9 : K.lookup f9 = some ⟨oc9, od9, .func (PySem.W.fnOf "_law_raised" "_law_raised" (defArgs s__law_raised) (defBody s__law_raised) (defScope s__law_raised) .none kV9 dc9 pm9 an9 cd9 ct9), sl9⟩) (c9 : PySem.W.codeIn K cd9 "_law_raised" = true) (k9 : PySem.W.keepIn K (.ref f9) = true)
    (a10 : PySem.W.nsIn K mainGlobals "_law_broken" = some (some (.ref f10))) (l10 : K.lookup f10 = some ⟨oc10, od10, .func (PySem.W.fnOf "_law_broken" "_law_broken" (defArgs s__law_broken) (defBody s__law_broken) (defScope s__law_broken) .none kV10 dc10 pm10 an10 cd10 ct10), sl10⟩) (c10 : PySem.W.codeIn K cd10 "_law_broken" = true) (k10 : PySem.W.keepIn K (.ref f10) = true)
    (a11 : PySem.W.nsIn K mainGlobals "law" = some (some (.ref f11))) (l11 : K.lookup f11 = some ⟨oc11, od11, .func (PySem.W.fnOf "law" "law" (defArgs s_law) (defBody s_law) (defScope s_law) .none kV11 dc11 pm11 an11 cd11 ct11), sl11⟩) (c11 : PySem.W.codeIn K cd11 "law" = true) (k11 : PySem.W.keepIn K (.ref f11) = true)
    (z0 : PySem.W.nsIn K mainGlobals "abs" = some none)
    (z1 : PySem.W.nsIn K mainGlobals "enumerate" = some none)
    (z2 : PySem.W.nsIn K mainGlobals "int" = some none)
    (z3 : PySem.W.nsIn K mainGlobals "len" = some none)
    (z4 : PySem.W.nsIn K mainGlobals "range" = some none)
    (z5 : PySem.W.nsIn K mainGlobals "tuple" = some none)
    (v0a : PySem.W.nsIn K mainGlobals "INPUT_WORDS" = some (some (.ref v0o))) (v0l : K.lookup v0o = some ⟨.type "tuple", v0d, .seq #[.str "XY" v0t0, .str "X" v0t1, .str "Y" v0t2] v0n, v0s⟩)
    (v1 : PySem.W.nsIn K mainGlobals "MOST_VERTICES" = some (some (.int 24 v1t)))
    (v2a : PySem.W.nsIn K mainGlobals "WORDS" = some (some (.ref v2o))) (v2l : K.lookup v2o = some ⟨.type "tuple", v2d, .seq #[.str "XY" v2t0, .str "XZ" v2t1, .str "YZ" v2t2, .str "X" v2t3, .str "Y" v2t4, .str "Z" v2t5] v2n, v2s⟩)
    (xxa : PySem.W.nsIn K mainGlobals "GraphError" = some (some (.ref xC)))
    (xxL : K.lookup xC = some (excClassObj xnm xqq xC xN xbs xbm true xsn xsb xab xcol xdd xk0 xk1 xk2 xk3 xk5 "ValueError.__new__"))
    (xxv : PySem.HandSPX.refsVE xbm = true)
    (xxs : PySem.W.findIn K (.ref xC) "__setattr__" = some (some (.builtin "object.__setattr__")))
    (xxe : PySem.W.subIn K (.ref xC) (.type "BaseException") = some true)
    (xxt : PySem.W.typeIn K (.ref xC) = some (.type "type"))
    (xxk : PySem.W.keepIn K (.ref xC) = true)
    (xxi : PySem.W.findIn K (.ref xC) "__init__" = some (some (.ref xf)))
    (xxj : PySem.W.typeIn K (.ref xf) = some (.type "function"))
    (xxl : K.lookup xf = some ⟨xoc, xod, .func (PySem.W.fnX "__init__" ("GraphError" ++ ".__init__") (defArgs s_GraphError) (defBody s_GraphError) (defScope s_GraphError) [("__class__", xcc)] .none xkV xdoc xpm xan (.ref xcd) xct), xsl⟩)
    (xxo : PySem.W.codeIn K (.ref xcd) ("GraphError" ++ ".__init__") = true)
    (xxp : K.lookup xcd = some ⟨xcl, xcdd, .fields xvs, xccs⟩)
    (xxq : xvs[2]? = some (.str xfile xtf))
    (xxr : ((l.prog.main.file : Str) == xfile) = true)
    (xxc : K.lookup xcc = some ⟨xzl, xzd, .cell (some (.ref xC)), xzs⟩)
    (xxd : PySem.W.clsIn K xC = some xcdD)
    (xxn : PySem.W.nsIn K cStatics "thirdparty.any" = some none)
    (xxu : (l.prog.main.scope.names.lookup ("super" : Str)).isSome = false)
    (xxm : PySem.W.mroIn K xC (.ref xC) = some true)
    (xxw : PySem.W.ks_superIn K xC xC "__init__" = some (some (.builtin "ValueError.__init__")))
    (xxB : PySem.W.subIn K (.ref xC) (.type "ValueError") = some true)
    (xx1 : PySem.W.findIn K (.ref xC) "rule" = some none)
    (xx2 : PySem.W.findIn K (.ref xC) "index" = some none)
    (xxh : PySem.W.nsIn K mainGlobals "super" = some none)
    (xxx : xfB K xC = true)
    (xxA : PySem.W.findIn K (.ref xC) "__class__" = some (some (.builtin "object.__class__")))
    (xxN : PySem.W.specialIn K (.builtin "object.__class__") "__get__" = some (some (.builtin "getset_descriptor.__get__")))
    (xxT : PySem.W.takesIn K (.builtin "object.__class__") = some true)
    (xxM : PySem.W.mroIn K xC (.type "object") = some true)
    (xxE : PySem.W.exmOne K (.ref xC) (.ref xC) = some true) :
    ∃ fd : FuncData, (∀ (s : Shared) (v : Value), BindsTo s fd ⟨[v], []⟩ [("script", v)]) ∧ ∀ base : Heap, K.In base → base.Ns mainGlobals mg → FnOk l.prog w K mg base CX0 7 fa fd ["script"] (spLaw K m_law) := by
  have e := hfa.symm.trans (PySem.W.mg_of X G a11)
  cases e
  exact ⟨_, fun s v => .of_eq rfl, fun base _ _ => ok_law (txt_mk X G a0 l0 c0 k0 a1 l1 c1 k1 a2 l2 c2 k2 a3 l3 c3 k3 a4 l4 c4 k4 a5 l5 c5 k5 a6 l6 c6 k6 a7 l7 c7 k7 a8 l8 c8 k8 a9 l9 c9 k9 a10 l10 c10 k10 a11 l11 c11 k11 z0 z1 z2 z3 z4 z5 v0a v0l v1 v2a v2l) (xk_mk X G xxa xxL xxv xxs xxe xxt xxk xxi xxj xxl xxo xxp xxq xxr xxc xxd xxn xxu xxm xxw xxB xx1 xx2 xxh xxx xxA xxN xxT xxM xxE)⟩
end K54
open PySem PySem.W PyProof.Rows
set_option maxHeartbeats 0 in
theorem PySem.Challenge.cw_allbranches_k54_lettered_graphs_holds : PySem.Challenge.rw_allbranches_k54_lettered_graphs.Holds := by
  w_on; o_law; k_head; (case hw => w_witness2)
  k_fill
  refine L2.walk_of (l := PySem.Challenge.rw_allbranches_k54_lettered_graphs) (n := 63) (k := 7) (x := "script") (CX := fun _ => L2.CX0) (sp := fun w => Ab.spLaw _ K54.m_law) rfl (by decide) rfl ⟨rfl, by decide, by decide⟩ (fun w h Y => PySem.W.kIn_of Y) ?F (fun _ _ a ns hl _ hS => ⟨a, ns, rfl, hS, hl, K54.law_true ns hl, fun _ => rfl⟩) (fun _ _ _ _ _ h => h)
  case F =>
    intro w mg fa h KX G hmg
    refine' K54.all_mk KX G hmg ?a0 ?l0 ?c0 ?k0 ?a1 ?l1 ?c1 ?k1 ?a2 ?l2 ?c2 ?k2 ?a3 ?l3 ?c3 ?k3 ?a4 ?l4 ?c4 ?k4 ?a5 ?l5 ?c5 ?k5 ?a6 ?l6 ?c6 ?k6 ?a7 ?l7 ?c7 ?k7 ?a8 ?l8 ?c8 ?k8 ?a9 ?l9 ?c9 ?k9 ?a10 ?l10 ?c10 ?k10 ?a11 ?l11 ?c11 ?k11 ?z0 ?z1 ?z2 ?z3 ?z4 ?z5 ?v0a ?v0l ?v1 ?v2a ?v2l ?xxa ?xxL ?xxv ?xxs ?xxe ?xxt ?xxk ?xxi ?xxj ?xxl ?xxo ?xxp ?xxq ?xxr ?xxc ?xxd ?xxn ?xxu ?xxm ?xxw ?xxB ?xx1 ?xx2 ?xxh ?xxx ?xxA ?xxN ?xxT ?xxM ?xxE
    (case a0 => k_is)
    (case l0 => k_is)
    (case c0 => k_is)
    (case k0 => k_is)
    (case a1 => k_is)
    (case l1 => k_is)
    (case c1 => k_is)
    (case k1 => k_is)
    (case a2 => k_is)
    (case l2 => k_is)
    (case c2 => k_is)
    (case k2 => k_is)
    (case a3 => k_is)
    (case l3 => k_is)
    (case c3 => k_is)
    (case k3 => k_is)
    (case a4 => k_is)
    (case l4 => k_is)
    (case c4 => k_is)
    (case k4 => k_is)
    (case a5 => k_is)
    (case l5 => k_is)
    (case c5 => k_is)
    (case k5 => k_is)
    (case a6 => k_is)
    (case l6 => k_is)
    (case c6 => k_is)
    (case k6 => k_is)
    (case a7 => k_is)
    (case l7 => k_is)
    (case c7 => k_is)
    (case k7 => k_is)
    (case a8 => k_is)
    (case l8 => k_is)
    (case c8 => k_is)
    (case k8 => k_is)
    (case a9 => k_is)
    (case l9 => k_is)
    (case c9 => k_is)
    (case k9 => k_is)
    (case a10 => k_is)
    (case l10 => k_is)
    (case c10 => k_is)
    (case k10 => k_is)
    (case a11 => k_is)
    (case l11 => k_is)
    (case c11 => k_is)
    (case k11 => k_is)
    (case z0 => k_is)
    (case z1 => k_is)
    (case z2 => k_is)
    (case z3 => k_is)
    (case z4 => k_is)
    (case z5 => k_is)
    (case v0a => first | k_is | kernel_rfl)
    (case v0l => first | k_is | kernel_rfl)
    (case v1 => first | k_is | kernel_rfl)
    (case v2a => first | k_is | kernel_rfl)
    (case v2l => first | k_is | kernel_rfl)
    (case xxa => first | k_is | kernel_rfl)
    (case xxL => first | k_is | kernel_rfl)
    (case xxv => first | k_is | kernel_rfl)
    (case xxs => first | k_is | kernel_rfl)
    (case xxe => first | k_is | kernel_rfl)
    (case xxt => first | k_is | kernel_rfl)
    (case xxk => first | k_is | kernel_rfl)
    (case xxi => first | k_is | kernel_rfl)
    (case xxj => first | k_is | kernel_rfl)
    (case xxl => first | k_is | kernel_rfl)
    (case xxo => first | k_is | kernel_rfl)
    (case xxp => first | k_is | kernel_rfl)
    (case xxq => rfl)
    (case xxr => first | k_is | kernel_rfl)
    (case xxc => first | k_is | kernel_rfl)
    (case xxd => first | k_is | kernel_rfl)
    (case xxn => first | k_is | kernel_rfl)
    (case xxu => first | k_is | kernel_rfl)
    (case xxm => first | k_is | kernel_rfl)
    (case xxw => first | k_is | kernel_rfl)
    (case xxB => first | k_is | kernel_rfl)
    (case xx1 => first | k_is | kernel_rfl)
    (case xx2 => first | k_is | kernel_rfl)
    (case xxh => first | k_is | kernel_rfl)
    (case xxx => first | k_is | kernel_rfl)
    (case xxA => first | k_is | kernel_rfl)
    (case xxN => first | k_is | kernel_rfl)
    (case xxT => first | k_is | kernel_rfl)
    (case xxM => first | k_is | kernel_rfl)
    (case xxE => first | k_is | kernel_rfl)
