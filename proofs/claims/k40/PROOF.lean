import PyProof.Rows.All
import Wide.All
import OpenK.AllK
import Wide.FinOn
import HandS.ForMost
import HandS.Walk
import HandS.TupAny
import HandS.IsInst
import HandS.SortInts
import HandS.Flow
import PyProof.WalksMore
import PyProof.WalkInts
import PyProof.Rows.SumAny
import PyProof.Rows.TupIter
import HandS.Zip
import HandS.Rev
import HandS.Conv
import HandS.More
import HandS.SetFor
import HandS.Style
import KE.GoesEnum
import HandS.Wide
import PySem.Challenge.RW_roomsemptied_k40_whole_second_signs
set_option Elab.async false
set_option linter.all false
set_option maxRecDepth 100000
set_option maxHeartbeats 1000000
set_option autoImplicit false
/-! FnCore: plain values, environments of slots, what the heap bears of them; judgements by plain functions. -/
namespace Fl
open PySem PySem.Spec PyProof.Rows L2
abbrev D := PyData
abbrev Frg := PySem.W.Frag
/-- an own thing that others may change by reference: a leaf, a list, a tuple -/
inductive OT where
  | leaf (d : D)
  | node (ts : List OT)
  | ntup (ts : List OT)
/-- what a slot holds -/
inductive Sl where
  | no
  | va (d : D)
  | li (xs : List D)
  | di (kvs : List (Key × D))
  | dt (kvs : List (List Key × D))
  | ow (t : OT)
abbrev Ev := List Sl
/-! ### plain values on a heap -/
mutual
inductive Dv (K : Frg) (G : Hp) : V → D → Prop
  | non : Dv K G .non .none
  | bl (b : Bool) : Dv K G (.bl b) (.bool b)
  | int (i : Int) : Dv K G (.int i) (.int i)
  | str (x : Str) : Dv K G (.str x) (.str x)
  | lst {a : Addr} {xs : List V} {ds : List D} : G a = some (.lst xs) → DvAll K G xs ds → Dv K G (.ref a) (.list ds)
  | tup {a : Addr} {xs : List V} {ds : List D} : SqT K G a xs → DvAll K G xs ds → Dv K G (.ref a) (.tuple ds)
inductive DvAll (K : Frg) (G : Hp) : List V → List D → Prop
  | nil : DvAll K G [] []
  | cons {v : V} {vs : List V} {d : D} {ds : List D} : Dv K G v d → DvAll K G vs ds → DvAll K G (v :: vs) (d :: ds)
end
mutual
theorem Dv.dp {K : Frg} {G : Hp} : ∀ (d : D) (v : V), Dv K G v d → Dp K G v d
  | .none, _, h => by cases h; exact .non
  | .bool b, _, h => by cases h; exact .bl b
  | .int i, _, h => by cases h; exact .int i
  | .str x, _, h => by cases h; exact .str x
  | .list ds, _, h => by
    cases h with
    | lst hs ha => exact .lst (SqL.of hs) (DvAll.dp ds _ ha)
  | .tuple ds, _, h => by
    cases h with
    | tup hs ha => exact .tup hs (DvAll.dp ds _ ha)
  | .dict _, _, h => by cases h
theorem DvAll.dp {K : Frg} {G : Hp} : ∀ (ds : List D) (vs : List V), DvAll K G vs ds → DpAll K G vs ds
  | [], _, h => by cases h; exact .nil
  | d :: ds, _, h => by
    cases h with
    | cons h1 h2 => exact .cons (Dv.dp d _ h1) (DvAll.dp ds _ h2)
end
theorem dv_tup {K : Frg} {G : Hp} {a : Addr} {vs : List V} {ds : List D} (h : G a = some (.tup vs)) (k : DvAll K G vs ds) : Dv K G (.ref a) (.tuple ds) := .tup (SqT.of h) k
theorem seqT {K : Frg} {H H' : Hp} {a : Addr} {xs : List V} (e : Same H H') (h : SqT K H a xs) : SqT K H' a xs := by
  rcases h with h | h
  · rcases h with h | ⟨o, h⟩
    · exact .inl (.inl (e _ _ h))
    · exact .inl (.inr ⟨o, e _ _ h⟩)
  · exact .inr h
mutual
theorem dvMono {K : Frg} {H H' : Hp} (e : Same H H') : ∀ (d : D) (v : V), Dv K H v d → Dv K H' v d
  | .none, _, h => by cases h; exact .non
  | .bool b, _, h => by cases h; exact .bl b
  | .int i, _, h => by cases h; exact .int i
  | .str x, _, h => by cases h; exact .str x
  | .list ds, _, h => by
    cases h with
    | lst hs ha => exact .lst (e _ _ hs) (dvMonoAll e ds _ ha)
  | .tuple ds, _, h => by
    cases h with
    | tup hs ha => exact .tup (seqT e hs) (dvMonoAll e ds _ ha)
  | .dict _, _, h => by cases h
theorem dvMonoAll {K : Frg} {H H' : Hp} (e : Same H H') : ∀ (ds : List D) (vs : List V), DvAll K H vs ds → DvAll K H' vs ds
  | [], _, h => by cases h; exact .nil
  | d :: ds, _, h => by
    cases h with
    | cons h1 h2 => exact .cons (dvMono e d _ h1) (dvMonoAll e ds _ h2)
end
theorem dvAll_len {K : Frg} {H : Hp} : ∀ {vs : List V} {ds : List D}, DvAll K H vs ds → vs.length = ds.length
  | _, [], h => by cases h; rfl
  | _, d :: ds, h => by
    cases h with
    | cons h1 h2 => rw [List.length_cons, List.length_cons, dvAll_len h2]
theorem dvAll_get {K : Frg} {H : Hp} : ∀ {vs : List V} {ds : List D} {i : Nat} {d : D}, DvAll K H vs ds → ds[i]? = some d → ∃ v, vs[i]? = some v ∧ Dv K H v d
  | _, [], i, d, h, e => by simp at e
  | _, d' :: ds, 0, d, h, e => by
    cases h with
    | cons h1 h2 => simp at e; subst e; exact ⟨_, rfl, h1⟩
  | _, d' :: ds, i + 1, d, h, e => by
    cases h with
    | cons h1 h2 =>
      obtain ⟨v, e1, e2⟩ := dvAll_get (i := i) h2 (by simpa using e)
      exact ⟨v, by simpa using e1, e2⟩
theorem dvAll_getV {K : Frg} {H : Hp} : ∀ {vs : List V} {ds : List D} {i : Nat} {v : V}, DvAll K H vs ds → vs[i]? = some v → ∃ d, ds[i]? = some d ∧ Dv K H v d
  | _, [], i, v, h, e => by cases h; simp at e
  | _, d' :: ds, 0, v, h, e => by
    cases h with
    | cons h1 h2 => simp at e; subst e; exact ⟨_, rfl, h1⟩
  | _, d' :: ds, i + 1, v, h, e => by
    cases h with
    | cons h1 h2 =>
      obtain ⟨d, e1, e2⟩ := dvAll_getV (i := i) h2 (by simpa using e)
      exact ⟨d, by simpa using e1, e2⟩
theorem dvAll_app {K : Frg} {H : Hp} : ∀ {vs ws : List V} {ds es : List D}, DvAll K H vs ds → DvAll K H ws es → DvAll K H (vs ++ ws) (ds ++ es)
  | _, _, [], _, h, k => by cases h; exact k
  | _, _, d :: ds, _, h, k => by
    cases h with
    | cons h1 h2 => exact .cons h1 (dvAll_app h2 k)
theorem dvAll_one {K : Frg} {H : Hp} {v : V} {d : D} (h : Dv K H v d) : DvAll K H [v] [d] := .cons h .nil
theorem dvAll_set {K : Frg} {H : Hp} {v : V} {d : D} (k : Dv K H v d) : ∀ {vs : List V} {ds : List D} (i : Nat), DvAll K H vs ds → DvAll K H (vs.set i v) (ds.set i d)
  | _, [], _, h => by cases h; exact .nil
  | _, d' :: ds, 0, h => by
    cases h with
    | cons h1 h2 => exact .cons k h2
  | _, d' :: ds, i + 1, h => by
    cases h with
    | cons h1 h2 => exact .cons h1 (dvAll_set k i h2)
theorem dvAll_take {K : Frg} {H : Hp} : ∀ {vs : List V} {ds : List D} (i : Nat), DvAll K H vs ds → DvAll K H (vs.take i) (ds.take i)
  | _, _, 0, h => by simp; exact .nil
  | _, [], _ + 1, h => by cases h; exact .nil
  | _, d' :: ds, i + 1, h => by
    cases h with
    | cons h1 h2 => exact .cons h1 (dvAll_take i h2)
theorem dvAll_drop {K : Frg} {H : Hp} : ∀ {vs : List V} {ds : List D} (i : Nat), DvAll K H vs ds → DvAll K H (vs.drop i) (ds.drop i)
  | _, _, 0, h => h
  | _, [], _ + 1, h => by cases h; exact .nil
  | _, d' :: ds, i + 1, h => by
    cases h with
    | cons h1 h2 => exact dvAll_drop i h2
theorem dvAll_erase {K : Frg} {H : Hp} : ∀ {vs : List V} {ds : List D} (i : Nat), DvAll K H vs ds → DvAll K H (vs.eraseIdx i) (ds.eraseIdx i)
  | _, [], _, h => by cases h; exact .nil
  | _, d' :: ds, 0, h => by
    cases h with
    | cons h1 h2 => exact h2
  | _, d' :: ds, i + 1, h => by
    cases h with
    | cons h1 h2 => exact .cons h1 (dvAll_erase i h2)
theorem dvAll_rev {K : Frg} {H : Hp} : ∀ {vs : List V} {ds : List D}, DvAll K H vs ds → DvAll K H vs.reverse ds.reverse
  | _, [], h => by cases h; exact .nil
  | _, d' :: ds, h => by
    cases h with
    | cons h1 h2 =>
      rw [List.reverse_cons, List.reverse_cons]
      exact dvAll_app (dvAll_rev h2) (dvAll_one h1)
theorem dvAll_of {K : Frg} {H : Hp} : ∀ {vs : List V} {ds : List D}, vs.length = ds.length → (∀ (i : Nat) v d, vs[i]? = some v → ds[i]? = some d → Dv K H v d) → DvAll K H vs ds
  | [], [], _, _ => .nil
  | [], d :: ds, h, _ => by simp at h
  | v :: vs, [], h, _ => by simp at h
  | v :: vs, d :: ds, h, k => .cons (k 0 v d rfl rfl) (dvAll_of (by simpa using h) fun i v' d' e1 e2 => k (i + 1) v' d' (by simpa using e1) (by simpa using e2))
/-- dicts by their pairs -/
inductive KvOk {κ : Type} (K : Frg) (H : Hp) : List (κ × V) → List (κ × D) → Prop
  | nil : KvOk K H [] []
  | cons {k : κ} {v : V} {d : D} {r : List (κ × V)} {s : List (κ × D)} : Dv K H v d → KvOk K H r s → KvOk K H ((k, v) :: r) ((k, d) :: s)
theorem kvMono {κ : Type} {K : Frg} {H H' : Hp} (e : Same H H') : ∀ {r : List (κ × V)} {s : List (κ × D)}, KvOk K H r s → KvOk K H' r s
  | _, _, .nil => .nil
  | _, _, .cons h t => .cons (dvMono e _ _ h) (kvMono e t)
theorem kvLen {κ : Type} {K : Frg} {H : Hp} : ∀ {r : List (κ × V)} {s : List (κ × D)}, KvOk K H r s → r.length = s.length
  | _, _, .nil => rfl
  | _, _, .cons _ t => by rw [List.length_cons, List.length_cons, kvLen t]
theorem memNe {p a : Addr} {F : List Addr} (hf : p ∉ F) (ha : a ∈ F) : a ≠ p := fun q => hf (by rw [← q]; exact ha)
/-! ### own trees -/
mutual
inductive OtOk (K : Frg) (G H : Hp) : V → OT → List Addr → Prop
  | leaf {v : V} {d : D} : Dv K G v d → OtOk K G H v (.leaf d) []
  | node {a : Addr} {vs : List V} {ts : List OT} {F : List Addr} : G a = none → H a = some (.lst vs) → OtsOk K G H vs ts F → a ∉ F → OtOk K G H (.ref a) (.node ts) (a :: F)
  | ntup {a : Addr} {vs : List V} {ts : List OT} {F : List Addr} : G a = none → H a = some (.tup vs) → OtsOk K G H vs ts F → a ∉ F → OtOk K G H (.ref a) (.ntup ts) (a :: F)
inductive OtsOk (K : Frg) (G H : Hp) : List V → List OT → List Addr → Prop
  | nil : OtsOk K G H [] [] []
  | cons {v : V} {vs : List V} {t : OT} {ts : List OT} {F1 F2 : List Addr} : OtOk K G H v t F1 → OtsOk K G H vs ts F2 → (∀ a ∈ F1, a ∉ F2) → OtsOk K G H (v :: vs) (t :: ts) (F1 ++ F2)
end
mutual
theorem otFrame {K : Frg} {G H G' H' : Hp} (e : Same G G') : ∀ (t : OT) (v : V) (F : List Addr), OtOk K G H v t F → (∀ a ∈ F, H' a = H a) → (∀ a ∈ F, G' a = none) → OtOk K G' H' v t F
  | .leaf d, _, _, h, _, _ => by
    cases h with
    | leaf h => exact .leaf (dvMono e _ _ h)
  | .node ts, _, _, h, k, g => by
    cases h with
    | node h1 h2 h3 h4 =>
      exact .node (g _ List.mem_cons_self) ((k _ List.mem_cons_self).trans h2) (otsFrame e ts _ _ h3 (fun a ha => k a (List.mem_cons_of_mem _ ha)) fun a ha => g a (List.mem_cons_of_mem _ ha)) h4
  | .ntup ts, _, _, h, k, g => by
    cases h with
    | ntup h1 h2 h3 h4 =>
      exact .ntup (g _ List.mem_cons_self) ((k _ List.mem_cons_self).trans h2) (otsFrame e ts _ _ h3 (fun a ha => k a (List.mem_cons_of_mem _ ha)) fun a ha => g a (List.mem_cons_of_mem _ ha)) h4
theorem otsFrame {K : Frg} {G H G' H' : Hp} (e : Same G G') : ∀ (ts : List OT) (vs : List V) (F : List Addr), OtsOk K G H vs ts F → (∀ a ∈ F, H' a = H a) → (∀ a ∈ F, G' a = none) → OtsOk K G' H' vs ts F
  | [], _, _, h, _, _ => by cases h; exact .nil
  | t :: ts, _, _, h, k, g => by
    cases h with
    | cons h1 h2 h3 =>
      exact .cons (otFrame e t _ _ h1 (fun a ha => k a (List.mem_append_left _ ha)) fun a ha => g a (List.mem_append_left _ ha))
        (otsFrame e ts _ _ h2 (fun a ha => k a (List.mem_append_right _ ha)) fun a ha => g a (List.mem_append_right _ ha)) h3
end
mutual
theorem otLive {K : Frg} {G H : Hp} : ∀ (t : OT) (v : V) (F : List Addr), OtOk K G H v t F → ∀ a ∈ F, G a = none ∧ H a ≠ none
  | .leaf d, _, _, h, a, ha => by cases h; cases ha
  | .node ts, _, _, h, a, ha => by
    cases h with
    | node h1 h2 h3 h4 =>
      rcases List.mem_cons.mp ha with rfl | ha
      · exact ⟨h1, by rw [h2]; exact nofun⟩
      · exact otsLive ts _ _ h3 a ha
  | .ntup ts, _, _, h, a, ha => by
    cases h with
    | ntup h1 h2 h3 h4 =>
      rcases List.mem_cons.mp ha with rfl | ha
      · exact ⟨h1, by rw [h2]; exact nofun⟩
      · exact otsLive ts _ _ h3 a ha
theorem otsLive {K : Frg} {G H : Hp} : ∀ (ts : List OT) (vs : List V) (F : List Addr), OtsOk K G H vs ts F → ∀ a ∈ F, G a = none ∧ H a ≠ none
  | [], _, _, h, a, ha => by cases h; cases ha
  | t :: ts, _, _, h, a, ha => by
    cases h with
    | cons h1 h2 h3 =>
      rcases List.mem_append.mp ha with ha | ha
      · exact otLive t _ _ h1 a ha
      · exact otsLive ts _ _ h2 a ha
end
/-! ### slots -/
def SlOk (K : Frg) (G H : Hp) (v : Option V) (F : List Addr) : Sl → Prop
  | .no => F = []
  | .va d => F = [] ∧ ∃ x, v = some x ∧ Dv K G x d
  | .li xs => ∃ a vs, v = some (.ref a) ∧ F = [a] ∧ G a = none ∧ H a = some (.lst vs) ∧ DvAll K G vs xs
  | .di kvs => ∃ a r, v = some (.ref a) ∧ F = [a] ∧ G a = none ∧ H a = some (.dK r) ∧ KvOk K G r kvs
  | .dt kvs => ∃ a r, v = some (.ref a) ∧ F = [a] ∧ G a = none ∧ H a = some (.dT r) ∧ KvOk K G r kvs
  | .ow t => ∃ x, v = some x ∧ OtOk K G H x t F
theorem slFrame {K : Frg} {G H G' H' : Hp} {v : Option V} {F : List Addr} {s : Sl} (h : SlOk K G H v F s) (e : Same G G') (k : ∀ a ∈ F, H' a = H a) (g : ∀ a ∈ F, G' a = none) : SlOk K G' H' v F s := by
  cases s with
  | no => exact h
  | va d => obtain ⟨h1, x, h2, h3⟩ := h; exact ⟨h1, x, h2, dvMono e _ _ h3⟩
  | li xs => obtain ⟨a, vs, h1, rfl, h3, h4, h5⟩ := h; exact ⟨a, vs, h1, rfl, g a (by simp), (k a (by simp)).trans h4, dvMonoAll e _ _ h5⟩
  | di xs => obtain ⟨a, vs, h1, rfl, h3, h4, h5⟩ := h; exact ⟨a, vs, h1, rfl, g a (by simp), (k a (by simp)).trans h4, kvMono e h5⟩
  | dt xs => obtain ⟨a, vs, h1, rfl, h3, h4, h5⟩ := h; exact ⟨a, vs, h1, rfl, g a (by simp), (k a (by simp)).trans h4, kvMono e h5⟩
  | ow t => obtain ⟨x, h1, h2⟩ := h; exact ⟨x, h1, otFrame e _ _ _ h2 k g⟩
theorem slLive {K : Frg} {G H : Hp} {v : Option V} {F : List Addr} {s : Sl} (h : SlOk K G H v F s) : ∀ a ∈ F, G a = none ∧ H a ≠ none := by
  intro a ha
  cases s with
  | no => rw [show F = [] from h] at ha; cases ha
  | va d => rw [h.1] at ha; cases ha
  | li xs => obtain ⟨b, vs, h1, rfl, h3, h4, h5⟩ := h; rw [List.mem_singleton.mp ha]; exact ⟨h3, by rw [h4]; exact nofun⟩
  | di xs => obtain ⟨b, vs, h1, rfl, h3, h4, h5⟩ := h; rw [List.mem_singleton.mp ha]; exact ⟨h3, by rw [h4]; exact nofun⟩
  | dt xs => obtain ⟨b, vs, h1, rfl, h3, h4, h5⟩ := h; rw [List.mem_singleton.mp ha]; exact ⟨h3, by rw [h4]; exact nofun⟩
  | ow t => obtain ⟨x, h1, h2⟩ := h; exact otLive _ _ _ h2 a ha
/-- a state: what stands still (G), the heap, slots, what they hold, whose addresses are whose -/
structure Z where
  G : Hp
  H : Hp
  s : L2.St
  e : Ev
  F : Nat → List Addr
structure Rp (K : Frg) (z : Z) : Prop where
  same : Same z.G z.H
  len : z.s.length = z.e.length
  ok : ∀ (i : Nat) s, z.e[i]? = some s → SlOk K z.G z.H (z.s[i]?).join (z.F i) s
  out : ∀ i, z.e.length ≤ i → z.F i = []
  sep : ∀ i j a, i ≠ j → a ∈ z.F i → a ∉ z.F j
def isOw : Option Sl → Bool
  | some (.ow _) => true
  | _ => false
/-- from a state to a later one: all that is not owned here stands as before -/
structure Mv (z y : Z) : Prop where
  out : ∀ a o, z.H a = some o → (∀ i, a ∉ z.F i) → y.H a = some o
  dom : ∀ a, z.H a ≠ none → y.H a ≠ none
  g : Same z.G y.G
  gn : ∀ a, z.H a ≠ none → (∀ i, a ∉ z.F i) → y.G a = z.G a
  fn : ∀ i a, a ∈ y.F i → a ∈ z.F i ∨ z.H a = none
  kp : ∀ (i : Nat), isOw z.e[i]? = true → isOw y.e[i]? = true ∧ y.s[i]? = z.s[i]?
  ln : y.e.length = z.e.length
theorem Mv.refl (z : Z) : Mv z z := ⟨fun _ _ h _ => h, fun _ h => h, Same.refl _, fun _ _ _ => rfl, fun _ _ h => .inl h, fun _ h => ⟨h, rfl⟩, rfl⟩
theorem Mv.trans {z y x : Z} (a : Mv z y) (b : Mv y x) : Mv z x where
  out p o h k := b.out p o (a.out p o h k) fun i hi => by
    rcases a.fn i p hi with hj | hn
    · exact k i hj
    · rw [h] at hn; cases hn
  dom p h := b.dom p (a.dom p h)
  g := a.g.trans b.g
  gn p h k := (b.gn p (a.dom p h) fun i hi => by
    rcases a.fn i p hi with hj | hn
    · exact k i hj
    · exact h hn).trans (a.gn p h k)
  fn i p h := by
    rcases b.fn i p h with hj | hn
    · exact a.fn i p hj
    · by_cases q : z.H p = none
      · exact .inr q
      · exact absurd hn (a.dom p q)
  kp i h := ⟨(b.kp i (a.kp i h).1).1, (b.kp i (a.kp i h).1).2.trans (a.kp i h).2⟩
  ln := b.ln.trans a.ln
theorem Rp.live {K : Frg} {z : Z} (r : Rp K z) {i : Nat} {a : Addr} (h : a ∈ z.F i) : z.G a = none ∧ z.H a ≠ none := by
  by_cases q : i < z.e.length
  · exact slLive (r.ok i z.e[i] (List.getElem?_eq_getElem q)) a h
  · rw [r.out i (by omega)] at h; cases h
theorem Rp.fresh {K : Frg} {z : Z} (r : Rp K z) {p : Addr} (h : z.H p = none) : z.G p = none ∧ ∀ i, p ∉ z.F i :=
  ⟨r.same.free h, fun i hi => (r.live hi).2 h⟩
/-- a new object that stands still from now on -/
def Z.add (z : Z) (p : Addr) (o : HO) : Z := { z with G := upd z.G p o, H := upd z.H p o }
/-- a new object on the heap alone -/
def Z.new (z : Z) (p : Addr) (o : HO) : Z := { z with H := upd z.H p o }
theorem upd_none {H : Hp} {p a : Addr} {o : HO} (h : H a ≠ none) : upd H p o a ≠ none := by
  by_cases e : a = p
  · subst e; rw [upd_same]; exact nofun
  · rw [upd_ne e]; exact h
theorem sameUpd {H : Hp} {p : Addr} {o : HO} (h : H p = none) : Same H (upd H p o) := fun b x e => by
  rw [upd_ne (ne_of_none e h)]; exact e
theorem Rp.add {K : Frg} {z : Z} (r : Rp K z) {p : Addr} {o : HO} (h : z.H p = none) : Rp K (z.add p o) ∧ Mv z (z.add p o) := by
  obtain ⟨hg, hf⟩ := r.fresh h
  refine ⟨⟨?_, r.len, ?_, r.out, r.sep⟩, ⟨?_, ?_, ?_, ?_, fun i a ha => .inl ha, fun i hi => ⟨hi, rfl⟩, rfl⟩⟩
  · intro b x e
    show upd z.H p o b = some x
    have e' : upd z.G p o b = some x := e
    by_cases q : b = p
    · subst q; rw [upd_same] at e' ⊢; exact e'
    · rw [upd_ne q] at e' ⊢; exact r.same _ _ e'
  · intro i s e
    refine slFrame (r.ok i s e) (sameUpd hg) (fun a ha => upd_ne (memNe (hf i) ha)) fun a ha => ?_
    show upd z.G p o a = none
    rw [upd_ne (memNe (hf i) ha)]
    exact (r.live ha).1
  · intro a u e _
    show upd z.H p o a = some u
    rw [upd_ne (ne_of_none e h)]; exact e
  · exact fun a ha => upd_none ha
  · exact sameUpd hg
  · intro a ha _
    show upd z.G p o a = z.G a
    exact upd_ne fun q => ha (by rw [q]; exact h)
theorem Rp.new {K : Frg} {z : Z} (r : Rp K z) {p : Addr} {o : HO} (h : z.H p = none) : Rp K (z.new p o) ∧ Mv z (z.new p o) := by
  obtain ⟨hg, hf⟩ := r.fresh h
  refine ⟨⟨?_, r.len, ?_, r.out, r.sep⟩, ⟨?_, ?_, Same.refl _, fun _ _ _ => rfl, fun i a ha => .inl ha, fun i hi => ⟨hi, rfl⟩, rfl⟩⟩
  · exact r.same.trans (sameUpd h)
  · intro i s e
    exact slFrame (r.ok i s e) (Same.refl _) (fun a ha => upd_ne (memNe (hf i) ha)) fun a ha => (r.live ha).1
  · intro a u e _
    show upd z.H p o a = some u
    rw [upd_ne (ne_of_none e h)]; exact e
  · exact fun a ha => upd_none ha

/-! ### judgements -/
theorem PE.imp {X : Cx} {e : Expr} {t t' : TE} (h : PE X e t) (k : ∀ σ H Q, t' σ H Q → t σ H Q) : PE X e t' := ⟨fun pins s σ H Q I q => h.run pins s σ H Q I (k _ _ _ q)⟩
theorem PT.imp {X : Cx} {e : Expr} {t t' : TT} (h : PT X e t) (k : ∀ σ H Q, t' σ H Q → t σ H Q) : PT X e t' := ⟨fun pins s σ H Q I q => h.run pins s σ H Q I (k _ _ _ q)⟩
theorem PA.imp {X : Cx} {e : List Expr} {t t' : TA} (h : PA X e t) (k : ∀ σ H Q, t' σ H Q → t σ H Q) : PA X e t' := ⟨fun pos pins s σ H Q I q => h.run pos pins s σ H Q I (k _ _ _ q)⟩
theorem PS.imp {X : Cx} {e : Stmt} {t t' : TS} (h : PS X e t) (k : ∀ D σ H, t' D σ H → t D σ H) : PS X e t' := ⟨fun pins s σ H D I q => h.run pins s σ H D I (k _ _ _ q)⟩
theorem PSs.imp {X : Cx} {e : List Stmt} {t t' : TS} (h : PSs X e t) (k : ∀ D σ H, t' D σ H → t D σ H) : PSs X e t' := ⟨fun pins s σ H D I q => h.run pins s σ H D I (k _ _ _ q)⟩
abbrev EF := Ev → Option (D × Ev)
abbrev BF := Ev → Option (Bool × Ev)
abbrev LF := Ev → Option (List D × Ev)
/-- an expression's value is f of the slots -/
def tE (K : Frg) (f : EF) : TE := fun σ H Q => ∃ z d e', Rp K z ∧ z.s = σ ∧ z.H = H ∧ f z.e = some (d, e') ∧ ∀ v y, Mv z y → Rp K y → y.s = σ → y.e = e' → Dv K y.G v d → Q v y.H
def tT (K : Frg) (f : BF) : TT := fun σ H Q => ∃ z d e', Rp K z ∧ z.s = σ ∧ z.H = H ∧ f z.e = some (d, e') ∧ ∀ y, Mv z y → Rp K y → y.s = σ → y.e = e' → Q d y.H
def tA (K : Frg) (f : LF) : TA := fun σ H Q => ∃ z d e', Rp K z ∧ z.s = σ ∧ z.H = H ∧ f z.e = some (d, e') ∧ ∀ v y, Mv z y → Rp K y → y.s = σ → y.e = e' → DvAll K y.G v d → Q v y.H
structure FE (X : Cx) (e : Expr) (f : EF) : Prop where
  pe : PE X e (tE X.K f)
structure FT (X : Cx) (e : Expr) (f : BF) : Prop where
  pt : PT X e (tT X.K f)
structure FA (X : Cx) (e : List Expr) (f : LF) : Prop where
  pa : PA X e (tA X.K f)
/-- a def's body: what leaves nothing but an end -/
inductive O where
  | nx (e : Ev)
  | bk (e : Ev)
  | ct (e : Ev)
  | rt (r : Sl) (e : Ev)
abbrev SF := Ev → Option O
def tS (K : Frg) (f : SF) : TS := fun D σ H => ∃ z o, Rp K z ∧ z.s = σ ∧ z.H = H ∧ f z.e = some o ∧ match o with
  | .nx e' => ∀ y, Mv z y → Rp K y → y.e = e' → D.nx y.s y.H
  | .bk e' => ∀ y, Mv z y → Rp K y → y.e = e' → D.bk y.s y.H
  | .ct e' => ∀ y, Mv z y → Rp K y → y.e = e' → D.ct y.s y.H
  | .rt r e' => ∀ v y Fr, Mv z y → Rp K y → y.e = e' → SlOk K y.G y.H (some v) Fr r → (∀ a ∈ Fr, ∀ i, a ∉ y.F i) → (∀ a ∈ Fr, (∃ j : Nat, isOw z.e[j]? = false ∧ a ∈ z.F j) ∨ z.H a = none) → D.rt v y.H
structure FS (X : Cx) (s : Stmt) (f : SF) : Prop where
  ps : PS X s (tS X.K f)
structure FSs (X : Cx) (s : List Stmt) (f : SF) : Prop where
  ps : PSs X s (tS X.K f)
/-- an expression that makes a thing of its own, or gives a value -/
abbrev OF := Ev → Option (Sl × Ev)
def tO (K : Frg) (f : OF) : TE := fun σ H Q => ∃ z r e', Rp K z ∧ z.s = σ ∧ z.H = H ∧ f z.e = some (r, e') ∧ ∀ v y Fr, Mv z y → Rp K y → y.s = σ → y.e = e' → SlOk K y.G y.H (some v) Fr r → (∀ a ∈ Fr, z.H a = none ∧ ∀ i, a ∉ y.F i) → Q v y.H
structure FO (X : Cx) (e : Expr) (f : OF) : Prop where
  po : PE X e (tO X.K f)
/-- a made thing stands still from now on -/
def fz : Sl → Option D
  | .va d => some d
  | .li xs => some (.list xs)
  | _ => none
def eFz (f : OF) : EF := fun e => (f e).bind fun p => (fz p.1).map fun d => (d, p.2)
def oE (f : EF) : OF := fun e => (f e).map fun p => (.va p.1, p.2)
theorem Rp.freeze {K : Frg} {z : Z} (r : Rp K z) {a : Addr} {o : HO} (h : z.H a = some o) (hg : z.G a = none) (hf : ∀ i, a ∉ z.F i) : Rp K { z with G := upd z.G a o } := by
  refine ⟨?_, r.len, ?_, r.out, r.sep⟩
  · intro b x e
    have e' : upd z.G a o b = some x := e
    show z.H b = some x
    by_cases q : b = a
    · subst q; rw [upd_same] at e'; rw [h]; exact e'
    · rw [upd_ne q] at e'; exact r.same _ _ e'
  · intro i s e
    refine slFrame (r.ok i s e) (sameUpd hg) (fun _ _ => rfl) fun b hb => ?_
    show upd z.G a o b = none
    rw [upd_ne (memNe (hf i) hb)]
    exact (r.live hb).1
section
variable {X : Cx} {e : Expr}
theorem fo_fe {f : EF} (h : FE X e f) : FO X e (oE f) := ⟨PE.imp h.pe fun σ H Q ⟨z, r, e', rp, hs, hH, hf, q⟩ => by
  obtain ⟨⟨d, e1⟩, h1, h2⟩ := Option.map_eq_some_iff.mp hf
  cases h2
  exact ⟨z, d, e1, rp, hs, hH, h1, fun v y m r2 s2 ee p => q v y [] m r2 s2 ee ⟨rfl, v, rfl, p⟩ fun _ ha => nomatch ha⟩⟩
theorem fe_fo {f : OF} (h : FO X e f) : FE X e (eFz f) := ⟨PE.imp h.po fun σ H Q ⟨z, d, e', rp, hs, hH, hf, q⟩ => by
  obtain ⟨⟨r, e1⟩, h1, hf⟩ := Option.bind_eq_some_iff.mp hf
  obtain ⟨d', h3, hf⟩ := Option.map_eq_some_iff.mp hf
  cases hf
  refine ⟨z, r, _, rp, hs, hH, h1, fun v y Fr m r2 s2 ee so fr => ?_⟩
  cases r with
  | va d0 =>
    cases h3
    obtain ⟨_, x, hx, p⟩ := so
    cases hx
    exact q _ y m r2 s2 ee p
  | li xs =>
    cases h3
    obtain ⟨a, vs, hv, rfl, hg, hH', hd⟩ := so
    cases hv
    obtain ⟨f1, f2⟩ := fr a (by simp)
    refine q _ { y with G := upd y.G a (.lst vs) } ⟨m.out, m.dom, m.g.trans (sameUpd hg), fun b hb hk => ?_, m.fn, m.kp, m.ln⟩ (r2.freeze hH' hg f2) s2 ee (.lst upd_same (dvMonoAll (sameUpd hg) _ _ hd))
    show upd y.G a (.lst vs) b = z.G b
    rw [upd_ne (fun z' => hb (by rw [z']; exact f1))]
    exact m.gn b hb hk
  | no => cases h3
  | di _ => cases h3
  | dt _ => cases h3
  | ow _ => cases h3⟩
end
end Fl

set_option Elab.async false
set_option linter.all false
set_option maxRecDepth 100000
set_option maxHeartbeats 1000000
set_option autoImplicit false
/-! FnExp: expressions by plain functions. -/
namespace Fl
open PySem PySem.Spec PyProof.Rows L2
/-- what a rule may lean on -/
structure Cc (X : Cx) (k : Nat) : Prop where
  calm : X.calm = true
  nd : X.N.Nodup
  room : Room k X.A
/-! ### names, constants -/
def eVar (i : Nat) : EF := fun e => match e[i]? with
  | some (.va d) => some (d, e)
  | _ => none
def eC (d : D) : EF := fun e => some (d, e)
/-- a value, or an own list as it stands -/
def vw : Sl → Option D
  | .va d => some d
  | .li xs => some (.list xs)
  | _ => none
def eOwn (i : Nat) : EF := fun e => (e[i]?.bind vw).map fun d => (d, e)
/-- a value read on the heap as it stands: it stands still, or it is an own list -/
def Vw (K : Frg) (G H : Hp) (v : V) (d : D) : Prop := Dv K G v d ∨ ∃ a vs xs, v = .ref a ∧ d = .list xs ∧ H a = some (.lst vs) ∧ DvAll K G vs xs
/-- an expression read at once -/
def tB (K : Frg) (f : EF) : TE := fun σ H Q => ∃ z d e', Rp K z ∧ z.s = σ ∧ z.H = H ∧ f z.e = some (d, e') ∧ ∀ v y, Mv z y → Rp K y → y.s = σ → y.e = e' → Vw K y.G y.H v d → Q v y.H
structure FB (X : Cx) (e : Expr) (f : EF) : Prop where
  pb : PE X e (tB X.K f)
section
variable {X : Cx} {pos : Pos}
theorem joinSome {α : Type} {o : Option (Option α)} {x : α} (h : o.join = some x) : o = some (some x) := by
  cases o with
  | none => cases h
  | some u => cases u with
    | none => cases h
    | some w => exact congrArg (fun z => some z) h
theorem Rp.var {K : Frg} {z : Z} (r : Rp K z) {i : Nat} {d : D} (h : z.e[i]? = some (.va d)) : ∃ v, z.s[i]? = some (some v) ∧ Dv K z.G v d := by
  obtain ⟨_, x, h1, h2⟩ := r.ok i _ h
  exact ⟨x, joinSome h1, h2⟩
theorem Rp.own {K : Frg} {z : Z} (r : Rp K z) {i : Nat} {xs : List D} (h : z.e[i]? = some (.li xs)) : ∃ a vs, z.s[i]? = some (some (.ref a)) ∧ z.F i = [a] ∧ z.G a = none ∧ z.H a = some (.lst vs) ∧ DvAll K z.G vs xs := by
  obtain ⟨a, vs, h1, h2, h3, h4, h5⟩ := r.ok i _ h
  exact ⟨a, vs, joinSome h1, h2, h3, h4, h5⟩
theorem fe_var {i : Nat} {x : Str} (hN : X.N[i]? = some x) (hv : Vis X.env.scope x) (hd : (x == ("__debug__" : Str)) = false := by decide) (hcd : (x == ("__classdict__" : Str)) = false := by decide) : FE X (.Name x pos) (eVar i) :=
  ⟨PE.imp (pe_var hN hv hd hcd) fun σ H Q ⟨z, d, e', r, hs, hH, hf, q⟩ => by
    subst hs hH
    unfold eVar at hf
    split at hf
    · rename_i d' h
      cases hf
      obtain ⟨v, h1, h2⟩ := r.var h
      exact ⟨v, h1, q v z (Mv.refl z) r rfl rfl h2⟩
    · cases hf⟩
theorem fb_own {i : Nat} {x : Str} (hN : X.N[i]? = some x) (hv : Vis X.env.scope x) (hd : (x == ("__debug__" : Str)) = false := by decide) (hcd : (x == ("__classdict__" : Str)) = false := by decide) : FB X (.Name x pos) (eOwn i) :=
  ⟨PE.imp (pe_var hN hv hd hcd) fun σ H Q ⟨z, d, e', r, hs, hH, hf, q⟩ => by
    subst hs hH
    obtain ⟨d', h1, h2⟩ := Option.map_eq_some_iff.mp hf
    cases h2
    obtain ⟨s, h2, h3⟩ := Option.bind_eq_some_iff.mp h1
    cases s with
    | va d => cases h3; obtain ⟨v, k1, k2⟩ := r.var h2; exact ⟨v, k1, q v z (Mv.refl z) r rfl rfl (.inl k2)⟩
    | li xs =>
      cases h3
      obtain ⟨a, vs, k1, k2, k3, k4, k5⟩ := r.own h2
      exact ⟨.ref a, k1, q _ z (Mv.refl z) r rfl rfl (.inr ⟨a, vs, xs, rfl, rfl, k4, k5⟩)⟩
    | no => cases h3
    | di _ => cases h3
    | dt _ => cases h3
    | ow _ => cases h3⟩
theorem fb_fe {e : Expr} {f : EF} (h : FE X e f) : FB X e f := ⟨PE.imp h.pe fun σ H Q ⟨z, d, e', r, hs, hH, hf, q⟩ => ⟨z, d, e', r, hs, hH, hf, fun v y m r2 s2 e2 p => q v y m r2 s2 e2 (.inl p)⟩⟩
theorem fe_c {e : Expr} {v : V} {d : D} (h : PE X e (tC v)) (k : ∀ G : Hp, Dv X.K G v d) : FE X e (eC d) :=
  ⟨PE.imp h fun σ H Q ⟨z, d, e', r, hs, hH, hf, q⟩ => by
    subst hs hH
    cases hf
    exact q v z (Mv.refl z) r rfl rfl (k _)⟩
theorem fe_int {i j} : FE X (.Constant (.int i) j pos) (eC (.int i)) := fe_c pe_int fun _ => .int i
theorem fe_bl {b j} : FE X (.Constant (.bool b) j pos) (eC (.bool b)) := fe_c pe_bl fun _ => .bl b
theorem fe_non {j} : FE X (.Constant .none j pos) (eC .none) := fe_c pe_non fun _ => .non
theorem fe_str {x j} : FE X (.Constant (.str x) j pos) (eC (.str x)) := fe_c pe_str fun _ => .str x
/-- a module's constant -/
theorem fe_glob {x : Str} {v : V} {u : Value} {d : D} (hg : Gl X x) (hm : X.mg x = some u) (r : RelV v u) (k : ∀ G : Hp, Dv X.K G v d) (hd : (x == ("__debug__" : Str)) = false := by decide) : FE X (.Name x pos) (eC d) := fe_c (pe_glob hg hm r hd) k
end
/-! ### operators -/
/-- two values in a row, and a third of them -/
def eOp (g : D → D → Option D) (fa fb : EF) : EF := fun e => (fa e).bind fun p => (fb p.2).bind fun q => (g p.1 q.1).map fun d => (d, q.2)
def eUn (g : D → Option D) (fa : EF) : EF := fun e => (fa e).bind fun p => (g p.1).map fun d => (d, p.2)
/-- a value rule: g by values, the heap as it is, or with a new object -/
def Op2 (K : Frg) (r : R2) (g : D → D → Option D) : Prop := ∀ x y d G H vx vy (Q : VK), g x y = some d → Same G H → Dv K G vx x → Vw K G H vy y → (∀ v, Dv K G v d → Q v H) → (∀ v p o, H p = none → Dv K (upd G p o) v d → Q v (upd H p o)) → r vx vy H Q
def Un1 (K : Frg) (r : V → Hp → VK → Prop) (g : D → Option D) : Prop := ∀ x d G H vx (Q : VK), g x = some d → Same G H → Vw K G H vx x → (∀ v, Dv K G v d → Q v H) → (∀ v p o, H p = none → Dv K (upd G p o) v d → Q v (upd H p o)) → r vx H Q
section
variable {X : Cx} {pos : Pos}
theorem op_run {K : Frg} {r : R2} {g : D → D → Option D} (h : Op2 K r g) {fa fb : EF} {σ : L2.St} {H : Hp} {Q : VK} (q : tE K (eOp g fa fb) σ H Q) : tOp r (tE K fa) (tB K fb) σ H Q := by
  obtain ⟨z, d, e', rp, hs, hH, hf, q⟩ := q
  subst hs hH
  obtain ⟨⟨x, e1⟩, h1, hf⟩ := Option.bind_eq_some_iff.mp hf
  obtain ⟨⟨y, e2⟩, h2, hf⟩ := Option.bind_eq_some_iff.mp hf
  obtain ⟨d', h3, hf⟩ := Option.map_eq_some_iff.mp hf
  cases hf
  refine ⟨z, x, e1, rp, rfl, rfl, h1, fun vx z1 m1 r1 s1 ee1 p1 => ⟨z1, y, e2, r1, s1, rfl, ?_, fun vy z2 m2 r2 s2 ee2 p2 => ?_⟩⟩
  · rw [ee1]; exact h2
  · refine h x y d z2.G z2.H vx vy Q h3 r2.same (dvMono m2.g _ _ p1) p2 (fun v p => q v z2 (m1.trans m2) r2 s2 ee2 p) fun v p o hn hp => ?_
    obtain ⟨r3, m3⟩ := r2.add (o := o) hn
    exact q v (z2.add p o) ((m1.trans m2).trans m3) r3 s2 ee2 hp
theorem un_run {K : Frg} {r : V → Hp → VK → Prop} {g : D → Option D} (h : Un1 K r g) {fa : EF} {σ : L2.St} {H : Hp} {Q : VK} (q : tE K (eUn g fa) σ H Q) : tUn r (tB K fa) σ H Q := by
  obtain ⟨z, d, e', rp, hs, hH, hf, q⟩ := q
  subst hs hH
  obtain ⟨⟨x, e1⟩, h1, hf⟩ := Option.bind_eq_some_iff.mp hf
  obtain ⟨d', h3, hf⟩ := Option.map_eq_some_iff.mp hf
  cases hf
  refine ⟨z, x, e1, rp, rfl, rfl, h1, fun vx z1 m1 r1 s1 ee1 p1 => ?_⟩
  refine h x d z1.G z1.H vx Q h3 r1.same p1 (fun v p => q v z1 m1 r1 s1 ee1 p) fun v p o hn hp => ?_
  obtain ⟨r3, m3⟩ := r1.add (o := o) hn
  exact q v (z1.add p o) (m1.trans m3) r3 s1 ee1 hp
theorem fe_op {a b : Expr} {op : Operator} {r : R2} {g : D → D → Option D} {fa fb : EF} (ho : OpR X (binaryOp op) r) (hg : Op2 X.K r g) (ha : FE X a fa) (hb : FB X b fb) : FE X (.BinOp a op b pos) (eOp g fa fb) :=
  ⟨PE.imp (pe_op ho ha.pe hb.pb) fun _ _ _ q => op_run hg q⟩
theorem fe_cmp {a b : Expr} {op : CmpOp} {r : R2} {g : D → D → Option D} {fa fb : EF} (ho : OpR X (compareOp op) r) (hg : Op2 X.K r g) (ha : FE X a fa) (hb : FB X b fb) (hm : behindInMarks op b = false) : FE X (.Compare a [op] [b] pos) (eOp g fa fb) :=
  ⟨PE.imp (pe_cmpR ho ha.pe hb.pb hm) fun _ _ _ q => op_run hg q⟩
theorem fe_un {a : Expr} {op : UnaryOp} {r : V → Hp → VK → Prop} {g : D → Option D} {fa : EF} (ho : UnR X (unaryOp op) r) (hg : Un1 X.K r g) (ha : FB X a fa) : FE X (.UnaryOp op a pos) (eUn g fa) :=
  ⟨PE.imp (pe_un ho ha.pb) fun _ _ _ q => un_run hg q⟩
/-- ints -/
def dI (g : Int → Int → D) : D → D → Option D
  | .int i, .int j => some (g i j)
  | _, _ => none
/-- ints under a condition -/
def dIC (C : Int → Int → Prop) [∀ i j, Decidable (C i j)] (g : Int → Int → D) : D → D → Option D
  | .int i, .int j => if C i j then some (g i j) else none
  | _, _ => none
theorem vwInt {K : Frg} {G H : Hp} {v : V} {i : Int} (h : Vw K G H v (.int i)) : v = .int i := by
  rcases h with h | ⟨_, _, _, _, h, _⟩
  · cases h; rfl
  · cases h
theorem vwBl {K : Frg} {G H : Hp} {v : V} {i : Bool} (h : Vw K G H v (.bool i)) : v = .bl i := by
  rcases h with h | ⟨_, _, _, _, h, _⟩
  · cases h; rfl
  · cases h
theorem vwNon {K : Frg} {G H : Hp} {v : V} (h : Vw K G H v .none) : v = .non := by
  rcases h with h | ⟨_, _, _, _, h, _⟩
  · cases h; rfl
  · cases h
theorem vwStr {K : Frg} {G H : Hp} {v : V} {i : Str} (h : Vw K G H v (.str i)) : v = .str i := by
  rcases h with h | ⟨_, _, _, _, h, _⟩
  · cases h; rfl
  · cases h
theorem vwTup {K : Frg} {G H : Hp} {v : V} {ds : List D} (h : Vw K G H v (.tuple ds)) : ∃ a vs, v = .ref a ∧ SqT K G a vs ∧ DvAll K G vs ds := by
  rcases h with h | ⟨_, _, _, _, h, _⟩
  · cases h with
    | tup h1 h2 => exact ⟨_, _, rfl, h1, h2⟩
  · cases h
theorem vwLst {K : Frg} {G H : Hp} (s : Same G H) {v : V} {ds : List D} (h : Vw K G H v (.list ds)) : ∃ a vs, v = .ref a ∧ H a = some (.lst vs) ∧ DvAll K G vs ds := by
  rcases h with h | ⟨a, vs, xs, h1, h2, h3, h4⟩
  · cases h with
    | lst h1 h2 => exact ⟨_, _, rfl, s _ _ h1, h2⟩
  · cases h2; exact ⟨a, vs, h1, h3, h4⟩
theorem vwDict {K : Frg} {G H : Hp} {v : V} {r} (h : Vw K G H v (.dict r)) : False := by
  rcases h with h | ⟨_, _, _, _, h, _⟩
  · cases h
  · cases h
theorem vwAny {K : Frg} {G H : Hp} (s : Same G H) {v : V} {d : D} (h : Vw K G H v d) : Dp K H v d := by
  rcases h with h | ⟨a, vs, xs, h1, h2, h3, h4⟩
  · exact Dv.dp _ _ (dvMono s _ _ h)
  · subst h1 h2
    exact .lst (SqL.of h3) (DvAll.dp _ _ (dvMonoAll s _ _ h4))
theorem op_dI {K : Frg} {g : Int → Int → D} {gv : Int → Int → V} (k : ∀ i j G, Dv K G (gv i j) (g i j)) : Op2 K (rI0 gv) (dI g) := fun x y d G H vx vy Q e s a b q _ => by
  unfold dI at e
  split at e
  · cases e; cases a; rw [vwInt b]
    exact ⟨_, _, rfl, rfl, q _ (k _ _ _)⟩
  · cases e
theorem op_dIC {K : Frg} {C : Int → Int → Prop} [∀ i j, Decidable (C i j)] {g : Int → Int → D} {gv : Int → Int → V} (k : ∀ i j G, Dv K G (gv i j) (g i j)) : Op2 K (rI C gv) (dIC C g) := fun x y d G H vx vy Q e s a b q _ => by
  unfold dIC at e
  split at e
  · split at e
    · rename_i hc
      cases e; cases a; rw [vwInt b]
      exact ⟨_, _, rfl, rfl, hc, q _ (k _ _ _)⟩
    · cases e
  · cases e
/-- + -/
def dAdd : D → D → Option D
  | .int i, .int j => some (.int (i + j))
  | .str i, .str j => if i.length + j.length ≤ sizeLine then some (.str (i ++ j)) else none
  | .tuple xs, .tuple ys => if xs.length + ys.length ≤ sizeLine then some (.tuple (xs ++ ys)) else none
  | .list xs, .list ys => if xs.length + ys.length ≤ sizeLine then some (.list (xs ++ ys)) else none
  | _, _ => none
def rAddA (K : Frg) : R2 := fun x y H Q => rI0 (fun i j => .int (i + j)) x y H Q ∨ (∃ i j, x = .str i ∧ y = .str j ∧ i.length + j.length ≤ sizeLine ∧ Q (.str (i ++ j)) H) ∨ rCatA K x y H Q ∨ rCat x y H Q
theorem or_addA : OpR X (binaryOp .Add) (rAddA X.K) := op_add.or (op_add_str.or (op_catA.or op_cat))
theorem nilOf {K : Frg} {G : Hp} {vs : List V} {ds : List D} (h : DvAll K G vs ds) : vs = [] ↔ ds = [] := by
  cases h with
  | nil => simp
  | cons _ _ => simp
theorem op2_add {K : Frg} : Op2 K (rAddA K) dAdd := fun x y d G H vx vy Q e s a b q qn => by
  unfold dAdd at e
  split at e
  · cases e; cases a; rw [vwInt b]
    exact .inl ⟨_, _, rfl, rfl, q _ (.int _)⟩
  · split at e
    · rename_i hc
      cases e; cases a; rw [vwStr b]
      exact .inr (.inl ⟨_, _, rfl, rfl, hc, q _ (.str _)⟩)
    · cases e
  · split at e
    · rename_i xs ys hc
      cases e
      cases a with
      | tup a1 a2 =>
      obtain ⟨b', ws, rfl, b1, b2⟩ := vwTup b
      have l1 := dvAll_len a2
      have l2 := dvAll_len b2
      refine .inr (.inr (.inl ⟨_, _, _, _, rfl, rfl, seqT s a1, seqT s b1, by omega, fun z => ?_, fun _ z => ?_, fun _ _ p hp => ?_⟩))
      · have e1 := (nilOf a2).mp z
        subst e1
        exact q _ (.tup b1 b2)
      · have e1 := (nilOf b2).mp z
        subst e1
        refine q _ ?_
        rw [List.append_nil]
        exact .tup a1 a2
      ·exact qn _ p _ hp (.tup (SqT.of upd_same) (dvAll_app (dvMonoAll (sameUpd (s.free hp)) _ _ a2) (dvMonoAll (sameUpd (s.free hp)) _ _ b2)))
    · cases e
  · split at e
    · rename_i xs ys hc
      cases e
      cases a with
      | lst a1 a2 =>
      obtain ⟨b', ws, rfl, b1, b2⟩ := vwLst s b
      have l1 := dvAll_len a2
      have l2 := dvAll_len b2
      refine .inr (.inr (.inr ⟨_, _, _, _, rfl, rfl, s _ _ a1, b1, by omega, fun p hp => ?_⟩))
      exact qn _ p _ hp (.lst upd_same (dvAll_app (dvMonoAll (sameUpd (s.free hp)) _ _ a2) (dvMonoAll (sameUpd (s.free hp)) _ _ b2)))
    · cases e
  · cases e
theorem fe_add {a b : Expr} {fa fb : EF} (ha : FE X a fa) (hb : FB X b fb) : FE X (.BinOp a .Add b pos) (eOp dAdd fa fb) := fe_op or_addA op2_add ha hb
def dSub := dI fun i j => .int (i - j)
theorem fe_sub {a b : Expr} {fa fb : EF} (ha : FE X a fa) (hb : FB X b fb) : FE X (.BinOp a .Sub b pos) (eOp dSub fa fb) := fe_op op_sub (op_dI fun _ _ _ => .int _) ha hb
instance : ∀ i j, Decidable (CMul i j) := fun i j => by unfold CMul; infer_instance
instance : ∀ i j, Decidable (CDiv i j) := fun i j => by unfold CDiv; infer_instance
instance : ∀ i j, Decidable (CPow i j) := fun i j => by unfold CPow; infer_instance
def dMul := dIC CMul fun i j => .int (i * j)
theorem fe_mul {a b : Expr} {fa fb : EF} (ha : FE X a fa) (hb : FB X b fb) : FE X (.BinOp a .Mult b pos) (eOp dMul fa fb) := fe_op op_mul (op_dIC fun _ _ _ => .int _) ha hb
def dDiv := dIC CDiv fun i j => .int (i / j)
theorem fe_div {a b : Expr} {fa fb : EF} (ha : FE X a fa) (hb : FB X b fb) : FE X (.BinOp a .FloorDiv b pos) (eOp dDiv fa fb) := fe_op op_fdiv (op_dIC fun _ _ _ => .int _) ha hb
def dMod := dIC (fun _ j => 0 < j) fun i j => .int (i % j)
theorem fe_mod {a b : Expr} {fa fb : EF} (ha : FE X a fa) (hb : FB X b fb) : FE X (.BinOp a .Mod b pos) (eOp dMod fa fb) := fe_op op_mod (op_dIC fun _ _ _ => .int _) ha hb
def dPow := dIC CPow fun i j => .int (i ^ j.toNat)
theorem fe_pow {a b : Expr} {fa fb : EF} (ha : FE X a fa) (hb : FB X b fb) : FE X (.BinOp a .Pow b pos) (eOp dPow fa fb) := fe_op op_pow (op_dIC fun _ _ _ => .int _) ha hb
def dXor := dI fun i j => .int (Builtin.bitXor i j)
theorem fe_xor {a b : Expr} {fa fb : EF} (ha : FE X a fa) (hb : FB X b fb) : FE X (.BinOp a .BitXor b pos) (eOp dXor fa fb) := fe_op op_xor (op_dI fun _ _ _ => .int _) ha hb
def dNeg : D → Option D
  | .int i => some (.int (-i))
  | _ => none
theorem fe_neg {a : Expr} {fa : EF} (ha : FB X a fa) : FE X (.UnaryOp .USub a pos) (eUn dNeg fa) := fe_un un_neg (fun x d G H vx Q e s a q _ => by
  unfold dNeg at e
  split at e
  · cases e; rw [vwInt a]; exact ⟨_, rfl, q _ (.int _)⟩
  · cases e) ha
/-! ### comparisons -/
def dEq : D → D → Option D := fun x y => if SeqAt.shaped x = true ∧ SeqAt.shaped y = true then some (.bool (PyData.eqv x y)) else none
def dNe : D → D → Option D := fun x y => if SeqAt.shaped x = true ∧ SeqAt.shaped y = true then some (.bool (!PyData.eqv x y)) else none
theorem fe_eq {k : Nat} {a b : Expr} {fa fb : EF} (c : Cc X k) (ha : FE X a fa) (hb : FB X b fb) : FE X (.Compare a [.Eq] [b] pos) (eOp dEq fa fb) := fe_cmp (op_eqD c.room.units) (fun x y d G H vx vy Q e s a b q _ => by
  unfold dEq at e
  split at e
  · rename_i hc
    cases e
    exact ⟨x, y, Dv.dp _ _ (dvMono s _ _ a), vwAny s b, hc.1, hc.2, q _ (.bl _)⟩
  · cases e) ha hb (nomark _)
theorem fe_ne {k : Nat} {a b : Expr} {fa fb : EF} (c : Cc X k) (ha : FE X a fa) (hb : FB X b fb) : FE X (.Compare a [.NotEq] [b] pos) (eOp dNe fa fb) := fe_cmp (op_neD c.room.units) (fun x y d G H vx vy Q e s a b q _ => by
  unfold dNe at e
  split at e
  · rename_i hc
    cases e
    exact ⟨x, y, Dv.dp _ _ (dvMono s _ _ a), vwAny s b, hc.1, hc.2, q _ (.bl _)⟩
  · cases e) ha hb (nomark _)
/-- == where the left one is an own list's name -/
def eOpL (g : D → D → Option D) (i : Nat) (fb : EF) : EF := fun e => (fb e).bind fun q => (q.2[i]?.bind vw).bind fun x => (g x q.1).map fun d => (d, q.2)
def dLt := dI fun i j => .bool (decide (i < j))
def dLe := dI fun i j => .bool (decide (i ≤ j))
def dGt := dI fun i j => .bool (decide (j < i))
def dGe := dI fun i j => .bool (decide (j ≤ i))
theorem fe_lt {a b : Expr} {fa fb : EF} (ha : FE X a fa) (hb : FB X b fb) : FE X (.Compare a [.Lt] [b] pos) (eOp dLt fa fb) := fe_cmp op_lt (op_dI fun _ _ _ => .bl _) ha hb (nomark _)
theorem fe_le {a b : Expr} {fa fb : EF} (ha : FE X a fa) (hb : FB X b fb) : FE X (.Compare a [.LtE] [b] pos) (eOp dLe fa fb) := fe_cmp op_le (op_dI fun _ _ _ => .bl _) ha hb (nomark _)
theorem fe_gt {a b : Expr} {fa fb : EF} (ha : FE X a fa) (hb : FB X b fb) : FE X (.Compare a [.Gt] [b] pos) (eOp dGt fa fb) := fe_cmp op_gt (op_dI fun _ _ _ => .bl _) ha hb (nomark _)
theorem fe_ge {a b : Expr} {fa fb : EF} (ha : FE X a fa) (hb : FB X b fb) : FE X (.Compare a [.GtE] [b] pos) (eOp dGe fa fb) := fe_cmp op_ge (op_dI fun _ _ _ => .bl _) ha hb (nomark _)
def isNon : D → Bool
  | .none => true
  | _ => false
theorem isNon_iff {K : Frg} {G : Hp} {v : V} {d : D} (h : Dv K G v d) : decide (v = .non) = isNon d := by cases h <;> rfl
def dIs : D → D → Option D := fun x y => if isNon y then some (.bool (isNon x)) else none
def dIsN : D → D → Option D := fun x y => if isNon y then some (.bool (!isNon x)) else none
theorem vwIsNon {K : Frg} {G H : Hp} {v : V} {d : D} (h : Vw K G H v d) (n : isNon d = true) : v = .non := by
  cases d with
  | none => exact vwNon h
  | bool _ => cases n
  | int _ => cases n
  | str _ => cases n
  | list _ => cases n
  | tuple _ => cases n
  | dict _ => cases n
theorem fe_is {a b : Expr} {fa fb : EF} (ha : FE X a fa) (hb : FB X b fb) : FE X (.Compare a [.Is] [b] pos) (eOp dIs fa fb) := fe_cmp op_isN (fun x y d G H vx vy Q e s a b q _ => by
  unfold dIs at e
  split at e
  · rename_i hc
    cases e
    exact ⟨vwIsNon b hc, by rw [isNon_iff a]; exact q _ (.bl _)⟩
  · cases e) ha hb (nomark _)
theorem fe_isn {a b : Expr} {fa fb : EF} (ha : FE X a fa) (hb : FB X b fb) : FE X (.Compare a [.IsNot] [b] pos) (eOp dIsN fa fb) := fe_cmp op_notN (fun x y d G H vx vy Q e s a b q _ => by
  unfold dIsN at e
  split at e
  · rename_i hc
    cases e
    exact ⟨vwIsNon b hc, by rw [isNon_iff a]; exact q _ (.bl _)⟩
  · cases e) ha hb (nomark _)
/-! ### truth, tests -/
def dTru : D → Option Bool
  | .none => some false
  | .bool b => some b
  | .int i => some (i != 0)
  | .str x => if x.length ≤ sizeLine then some ((x.length : Int) != 0) else none
  | .list xs => some (!xs.isEmpty)
  | .tuple xs => some (!xs.isEmpty)
  | .dict _ => none
theorem emptyOf {K : Frg} {G : Hp} {vs : List V} {ds : List D} (h : DvAll K G vs ds) : vs.isEmpty = ds.isEmpty := by cases h <;> rfl
theorem tru_of {K : Frg} {G H : Hp} (s : Same G H) {v : V} {d : D} {b : Bool} (h : Vw K G H v d) (e : dTru d = some b) : TruV K v H b := by
  unfold dTru at e
  split at e
  · cases e; rw [vwNon h]; rfl
  · cases e; rw [vwBl h]; rfl
  · cases e; rw [vwInt h]; rfl
  · split at e
    · rename_i hc; cases e; rw [vwStr h]; exact ⟨hc, rfl⟩
    · cases e
  · cases e
    obtain ⟨a, vs, rfl, h1, h2⟩ := vwLst s h
    exact .inl ⟨vs, SqL.of h1, by rw [emptyOf h2]⟩
  · cases e
    obtain ⟨a, vs, rfl, h1, h2⟩ := vwTup h
    exact .inr (.inl ⟨vs, seqT s h1, by rw [emptyOf h2]⟩)
  · cases e
def bE (f : EF) : BF := fun e => (f e).bind fun p => (dTru p.1).map fun b => (b, p.2)
theorem bE_run {K : Frg} {f : EF} {σ : L2.St} {H : Hp} {Q : Bool → Hp → Prop} (h : tT K (bE f) σ H Q) : tB K f σ H fun v H1 => ∃ k, TruV K v H1 k ∧ Q k H1 := by
  obtain ⟨z, d, e', rp, hs, hH, hf, q⟩ := h
  subst hs hH
  obtain ⟨⟨x, e1⟩, h1, hf⟩ := Option.bind_eq_some_iff.mp hf
  obtain ⟨b, h2, hf⟩ := Option.map_eq_some_iff.mp hf
  cases hf
  exact ⟨z, x, e1, rp, rfl, rfl, h1, fun v y m r s2 ee p => ⟨_, tru_of r.same p h2, q y m r s2 ee⟩⟩
/-- any expression's truth -/
theorem ft_e {a : Expr} {f : EF} (h : FB X a f) (he : ∀ whole, isTrue a X.env whole = (do let v ← whole; standAt a.pos; holding [v] (truthy v))) : FT X a (bE f) :=
  ⟨PT.imp (pt_truth h.pb he) fun _ _ _ q => bE_run q⟩
/-- a comparison as a test: its value is a bool -/
def bB (f : EF) : BF := fun e => (f e).bind fun p => match p.1 with
  | .bool b => some (b, p.2)
  | _ => none
theorem bB_run {K : Frg} {f : EF} {σ : L2.St} {H : Hp} {Q : Bool → Hp → Prop} (h : tT K (bB f) σ H Q) : tE K f σ H fun v H1 => ∃ k, v = .bl k ∧ Q k H1 := by
  obtain ⟨z, d, e', rp, hs, hH, hf, q⟩ := h
  subst hs hH
  obtain ⟨⟨x, e1⟩, h1, hf⟩ := Option.bind_eq_some_iff.mp hf
  split at hf
  · rename_i b hx
    cases hf
    obtain rfl : x = _ := hx
    refine ⟨z, _, e1, rp, rfl, rfl, h1, fun v y m r s2 ee p => ?_⟩
    cases p
    exact ⟨_, rfl, q y m r s2 ee⟩
  · cases hf
theorem ft_cmp {a b : Expr} {op : CmpOp} {r : R2} {g : D → D → Option D} {fa fb : EF} (ho : OpR X (compareOp op) r) (hg : Op2 X.K r g) (ha : FE X a fa) (hb : FB X b fb) (hm : behindInMarks op b = false) : FT X (.Compare a [op] [b] pos) (bB (eOp g fa fb)) :=
  ⟨PT.imp (pt_cmpR ho ha.pe hb.pb hm) fun σ H Q q => by
    obtain ⟨z, d, e', rp, hs, hH, hf, q⟩ := bB_run q
    exact op_run hg ⟨z, d, e', rp, hs, hH, hf, q⟩⟩
def bNot (f : BF) : BF := fun e => (f e).map fun p => (!p.1, p.2)
theorem ft_not {a : Expr} {f : BF} (h : FT X a f) : FT X (.UnaryOp .Not a pos) (bNot f) := ⟨PT.imp (pt_not h.pt) fun σ H Q ⟨z, d, e', rp, hs, hH, hf, q⟩ => by
  obtain ⟨⟨b, e1⟩, h1, h2⟩ := Option.map_eq_some_iff.mp hf
  cases h2
  exact ⟨z, b, _, rp, hs, hH, h1, fun y m r s2 ee => q y m r s2 ee⟩⟩
def bAnd (f g : BF) : BF := fun e => (f e).bind fun p => if p.1 = true then g p.2 else some (false, p.2)
def bOr (f g : BF) : BF := fun e => (f e).bind fun p => if p.1 = true then some (true, p.2) else g p.2
/-- a chain of and, or -/
structure FW (X : Cx) (e : Expr) (f : BF) : Prop where
  pw : PW X e (tT X.K f)
theorem PW.imp {e : Expr} {t t' : TT} (h : PW X e t) (k : ∀ σ H Q, t' σ H Q → t σ H Q) : PW X e t' := ⟨fun wh pins s σ H Q I q => h.run wh pins s σ H Q I (k _ _ _ q)⟩
theorem FW.ft {e : Expr} {f : BF} (h : FW X e f) : FT X e f := ⟨h.pw.pt⟩
theorem fw_and1 {a : Expr} {f : BF} (h : FT X a f) : FW X (.BoolOp .And [a] pos) f := ⟨pw_and1 h.pt⟩
theorem fw_or1 {a : Expr} {f : BF} (h : FT X a f) : FW X (.BoolOp .Or [a] pos) f := ⟨pw_or1 h.pt⟩
theorem fw_and {a b : Expr} {rest : List Expr} {f g : BF} (h : FT X a f) (k : FW X (.BoolOp .And (b :: rest) pos) g) : FW X (.BoolOp .And (a :: b :: rest) pos) (bAnd f g) :=
  ⟨PW.imp (pw_and h.pt k.pw) fun σ H Q ⟨z, d, e', rp, hs, hH, hf, q⟩ => by
    subst hs hH
    obtain ⟨⟨b, e1⟩, h1, h2⟩ := Option.bind_eq_some_iff.mp hf
    refine ⟨z, b, e1, rp, rfl, rfl, h1, fun y m r s2 ee => ?_⟩
    cases b with
    | true => exact iteT ⟨y, d, e', r, s2, rfl, by rw [ee]; exact h2, fun y2 m2 r2 s3 ee2 => q y2 (m.trans m2) r2 s3 ee2⟩
    | false =>
      cases h2
      exact iteF (q y m r s2 ee)⟩
theorem fw_or {a b : Expr} {rest : List Expr} {f g : BF} (h : FT X a f) (k : FW X (.BoolOp .Or (b :: rest) pos) g) : FW X (.BoolOp .Or (a :: b :: rest) pos) (bOr f g) :=
  ⟨PW.imp (pw_or h.pt k.pw) fun σ H Q ⟨z, d, e', rp, hs, hH, hf, q⟩ => by
    subst hs hH
    obtain ⟨⟨b, e1⟩, h1, h2⟩ := Option.bind_eq_some_iff.mp hf
    refine ⟨z, b, e1, rp, rfl, rfl, h1, fun y m r s2 ee => ?_⟩
    cases b with
    | false => exact iteF ⟨y, d, e', r, s2, rfl, by rw [ee]; exact h2, fun y2 m2 r2 s3 ee2 => q y2 (m.trans m2) r2 s3 ee2⟩
    | true =>
      cases h2
      exact iteT (q y m r s2 ee)⟩
/-- and, or, not as values, all but the last bools -/
def eAnd (f g : EF) : EF := fun e => (f e).bind fun p => match p.1 with
  | .bool true => g p.2
  | .bool false => some (.bool false, p.2)
  | _ => none
def eOr (f g : EF) : EF := fun e => (f e).bind fun p => match p.1 with
  | .bool true => some (.bool true, p.2)
  | .bool false => g p.2
  | _ => none
def eNot (f : EF) : EF := fun e => (f e).bind fun p => match p.1 with
  | .bool b => some (.bool (!b), p.2)
  | _ => none
theorem fe_one {op} {a : Expr} {f : EF} (h : FE X a f) : FE X (.BoolOp op [a] pos) f := ⟨pe_one h.pe⟩
theorem fe_and {a b : Expr} {rest : List Expr} {f g : EF} (h : FE X a f) (k : FE X (.BoolOp .And (b :: rest) pos) g) : FE X (.BoolOp .And (a :: b :: rest) pos) (eAnd f g) :=
  ⟨PE.imp (pe_and h.pe k.pe) fun σ H Q ⟨z, d, e', rp, hs, hH, hf, q⟩ => by
    subst hs hH
    obtain ⟨⟨b, e1⟩, h1, h2⟩ := Option.bind_eq_some_iff.mp hf
    refine ⟨z, b, e1, rp, rfl, rfl, h1, fun v y m r s2 ee p => ?_⟩
    split at h2
    · rename_i hb
      have hb' : b = .bool true := hb
      subst hb'
      cases p
      exact ⟨true, rfl, iteT ⟨y, d, e', r, s2, rfl, by rw [ee]; exact h2, fun v y2 m2 r2 s3 ee2 p2 => q v y2 (m.trans m2) r2 s3 ee2 p2⟩⟩
    · rename_i hb
      have hb' : b = .bool false := hb
      subst hb'
      cases p
      cases h2
      exact ⟨false, rfl, iteF (q _ y m r s2 ee (.bl _))⟩
    · cases h2⟩
theorem fe_or {a b : Expr} {rest : List Expr} {f g : EF} (h : FE X a f) (k : FE X (.BoolOp .Or (b :: rest) pos) g) : FE X (.BoolOp .Or (a :: b :: rest) pos) (eOr f g) :=
  ⟨PE.imp (pe_or h.pe k.pe) fun σ H Q ⟨z, d, e', rp, hs, hH, hf, q⟩ => by
    subst hs hH
    obtain ⟨⟨b, e1⟩, h1, h2⟩ := Option.bind_eq_some_iff.mp hf
    refine ⟨z, b, e1, rp, rfl, rfl, h1, fun v y m r s2 ee p => ?_⟩
    split at h2
    · rename_i hb
      have hb' : b = .bool true := hb
      subst hb'
      cases p
      cases h2
      exact ⟨true, rfl, iteT (q _ y m r s2 ee (.bl _))⟩
    · rename_i hb
      have hb' : b = .bool false := hb
      subst hb'
      cases p
      exact ⟨false, rfl, iteF ⟨y, d, e', r, s2, rfl, by rw [ee]; exact h2, fun v y2 m2 r2 s3 ee2 p2 => q v y2 (m.trans m2) r2 s3 ee2 p2⟩⟩
    · cases h2⟩
theorem fe_not {a : Expr} {f : EF} (h : FE X a f) : FE X (.UnaryOp .Not a pos) (eNot f) := ⟨PE.imp (pe_not h.pe) fun σ H Q ⟨z, d, e', rp, hs, hH, hf, q⟩ => by
  subst hs hH
  obtain ⟨⟨b, e1⟩, h1, h2⟩ := Option.bind_eq_some_iff.mp hf
  refine ⟨z, b, e1, rp, rfl, rfl, h1, fun v y m r s2 ee p => ?_⟩
  split at h2
  · rename_i b' hb
    have hb' : b = .bool b' := hb
    subst hb'
    cases p
    cases h2
    exact ⟨_, rfl, q _ y m r s2 ee (.bl _)⟩
  · cases h2⟩
def eIf (c : BF) (f g : EF) : EF := fun e => (c e).bind fun p => if p.1 = true then f p.2 else g p.2
theorem fe_if {c a b : Expr} {h : BF} {f g : EF} (hc : FT X c h) (ha : FE X a f) (hb : FE X b g) : FE X (.IfExp c a b pos) (eIf h f g) :=
  ⟨PE.imp (pe_ifExp hc.pt ha.pe hb.pe) fun σ H Q ⟨z, d, e', rp, hs, hH, hf, q⟩ => by
    subst hs hH
    obtain ⟨⟨b, e1⟩, h1, h2⟩ := Option.bind_eq_some_iff.mp hf
    refine ⟨z, b, e1, rp, rfl, rfl, h1, fun y m r s2 ee => ?_⟩
    cases b with
    | true => exact iteT ⟨y, d, e', r, s2, rfl, by rw [ee]; exact h2, fun v y2 m2 r2 s3 ee2 p2 => q v y2 (m.trans m2) r2 s3 ee2 p2⟩
    | false => exact iteF ⟨y, d, e', r, s2, rfl, by rw [ee]; exact h2, fun v y2 m2 r2 s3 ee2 p2 => q v y2 (m.trans m2) r2 s3 ee2 p2⟩⟩
end
end Fl

set_option Elab.async false
set_option linter.all false
set_option maxRecDepth 100000
set_option maxHeartbeats 1000000
set_option autoImplicit false
/-! FnLib: sum, max, min of tuples of ints. -/
namespace Fl
open PySem PySem.Spec PyProof.Rows L2
section
variable {prog : Program} {w : World} {A : Around} {E : Value → Shared → Prop} {s : Shared} {l : Addr}
theorem iterTup {items : Array Value} {Q : Value → Shared → Prop} (hl : s.heap.IsTuple l items)
    (h : ∀ s₂ : Shared, s₂ = { s with heap := s.heap.push { cls := .type "tuple_iterator", data := .fields #[.ref l, .int 0 0] } } →
      (s₂.heap.IsTupleIter s.heap.objs.size l 0 ∧ s₂.heap.IsTuple l items) → (∀ b ∈ [s.heap.objs.size, l], b < s₂.heap.objs.size) → l ≠ s.heap.objs.size → Q (.ref s.heap.objs.size) s₂) : wpAny (model prog w) A (pyIter (.ref l)) Q E s := by
  have hlt : l < s.heap.objs.size := by obtain ⟨_, e, _⟩ := hl; exact Heap.lt_size e
  refine PyProof.Rows.iter_tuple (show IsTup s.heap l items from hl) (h _ rfl ⟨⟨_, Heap.get?_push_size _ rfl, rfl, rfl⟩, ?_⟩ (fun b hb => ?_) (Nat.ne_of_lt hlt))
  · exact hl.at fun o e => Heap.get?_push_of_some _ e
  · show b < (s.heap.push _).objs.size
    rw [show (s.heap.push { cls := .type "tuple_iterator", data := .fields #[.ref l, .int 0 0] }).objs.size = s.heap.objs.size + 1 by simp [Heap.push]]
    rcases List.mem_cons.mp hb with rfl | hb
    · omega
    · rw [List.mem_singleton.mp hb]; exact Nat.lt_succ_of_lt hlt
theorem oldKept {s : Shared} {l : Addr} {h' : Heap} (hk : ∀ b o, b ∉ [s.heap.objs.size] → (s.heap.push { cls := .type "tuple_iterator", data := .fields #[.ref l, .int 0 0] }).get? b = some o → h'.get? b = some o) : ∀ b o, s.heap.get? b = some o → h'.get? b = some o := fun b o e =>
  hk b o (fun z => by rw [List.mem_singleton.mp z] at e; exact absurd (Heap.lt_size e) (Nat.lt_irrefl _)) (Heap.get?_push_of_some _ e)
theorem sum_tup {its : List Value} {ns : List Int} {Q : Value → Shared → Prop} (hh : A.handled = none) (hl : s.heap.IsTuple l its.toArray) (hi : IntsAre its ns)
    (h : ∀ h' tk t', (∀ b o, s.heap.get? b = some o → h'.get? b = some o) → Q (.int ns.sum t') { s with heap := h', toks := tk }) : wpAny (model prog w) A (call (.builtin "sum") [.ref l]) Q E s := by
  obtain ⟨xs, e⟩ := hi.allInts.items
  have hn : numsOf (intItems xs).toList = ns := by rw [← e]; exact hi.numsOf
  rw [nums_intItems] at hn
  rw [e] at hl
  refine call_sum_walkG (iterTup hl fun s₂ e2 st hfp hlI => ?_)
  subst e2
  refine ⟨_, _, _, _, _, _, numAt xs, rfl, Walks.tuple (A := A.in1) hh _ l hlI (intItems xs), st, hfp, (fun _ _ => intItems_at), fun h' tk t' hk => ?_⟩
  have q := h h' tk t' (oldKept hk)
  rw [show (intItems xs).size = xs.size by simp [intItems], preSum_eq, List.take_of_length_le (by simp), hn]
  exact q
theorem max_tup {its : List Value} {ns : List Int} {Q : Value → Shared → Prop} (hh : A.handled = none) (hl : s.heap.IsTuple l its.toArray) (hi : IntsAre its ns) (hne : 0 < ns.length)
    (h : ∀ h' tk M t', (∀ b o, s.heap.get? b = some o → h'.get? b = some o) → M ∈ ns → (∀ a, a ∈ ns → a ≤ M) → Q (.int M t') { s with heap := h', toks := tk }) : wpAny (model prog w) A (call (.builtin "max") [.ref l]) Q E s := by
  obtain ⟨xs, e⟩ := hi.allInts.items
  have hn : numsOf (intItems xs).toList = ns := by rw [← e]; exact hi.numsOf
  rw [nums_intItems] at hn
  subst hn
  rw [e] at hl
  have hsz : 0 < xs.size := by simpa using hne
  refine call_max_walk (iterTup hl fun s₂ e2 st hfp hlI => ?_)
  subst e2
  refine ⟨_, _, _, _, _, _, _, rfl, Walks.tuple (A := A.in1) hh _ l hlI (intItems xs), st, hfp, by simpa [intItems] using hsz, CmpOf.ints_gt (numAt xs) (fun _ _ => intItems_at), fun v h' tk hP hk => ?_⟩
  have hP' : (intItems xs)[argBest (fun i j => decide (numAt xs i > numAt xs j)) (xs.size - 1)]? = some v := by simpa [intItems] using hP
  obtain ⟨t, rfl⟩ := intItems_at hP'
  obtain ⟨h1, h2⟩ := argBest_gt (numAt xs) (xs.size - 1)
  refine h h' tk _ t (oldKept hk) ?_ fun a ha => ?_
  · rw [numAt_eq]; exact PySem.getD_mem (by rw [List.length_map, Array.length_toList]; omega)
  · obtain ⟨j, hj, rfl⟩ := mem_getD ha
    rw [List.length_map, Array.length_toList] at hj
    rw [← numAt_eq]; exact h2 j (by omega)
theorem min_tup {its : List Value} {ns : List Int} {Q : Value → Shared → Prop} (hh : A.handled = none) (hl : s.heap.IsTuple l its.toArray) (hi : IntsAre its ns) (hne : 0 < ns.length)
    (h : ∀ h' tk M t', (∀ b o, s.heap.get? b = some o → h'.get? b = some o) → M ∈ ns → (∀ a, a ∈ ns → M ≤ a) → Q (.int M t') { s with heap := h', toks := tk }) : wpAny (model prog w) A (call (.builtin "min") [.ref l]) Q E s := by
  obtain ⟨xs, e⟩ := hi.allInts.items
  have hn : numsOf (intItems xs).toList = ns := by rw [← e]; exact hi.numsOf
  rw [nums_intItems] at hn
  subst hn
  rw [e] at hl
  have hsz : 0 < xs.size := by simpa using hne
  refine call_min_walk (iterTup hl fun s₂ e2 st hfp hlI => ?_)
  subst e2
  refine ⟨_, _, _, _, _, _, _, rfl, Walks.tuple (A := A.in1) hh _ l hlI (intItems xs), st, hfp, by simpa [intItems] using hsz, CmpOf.ints_lt (numAt xs) (fun _ _ => intItems_at), fun v h' tk hP hk => ?_⟩
  have hP' : (intItems xs)[argBest (fun i j => decide (numAt xs i < numAt xs j)) (xs.size - 1)]? = some v := by simpa [intItems] using hP
  obtain ⟨t, rfl⟩ := intItems_at hP'
  obtain ⟨h1, h2⟩ := argBest_lt (numAt xs) (xs.size - 1)
  refine h h' tk _ t (oldKept hk) ?_ fun a ha => ?_
  · rw [numAt_eq]; exact PySem.getD_mem (by rw [List.length_map, Array.length_toList]; omega)
  · obtain ⟨j, hj, rfl⟩ := mem_getD ha
    rw [List.length_map, Array.length_toList] at hj
    rw [← numAt_eq]; exact h2 j (by omega)
end
/-- sum, max, min: a list or a tuple of ints -/
def rSumA (K : Frg) : List V → Hp → VK → Prop := fun vs H Q => ∃ (a : Addr) (ns : List Int), vs = [V.ref a] ∧ (SqL K H a (ns.map V.int) ∨ SqT K H a (ns.map V.int)) ∧ Q (.int ns.sum) H
def rMaxA (K : Frg) : List V → Hp → VK → Prop := fun vs H Q => ∃ (a : Addr) (ns : List Int), vs = [V.ref a] ∧ (SqL K H a (ns.map V.int) ∨ SqT K H a (ns.map V.int)) ∧ 0 < ns.length ∧ ∀ m, m ∈ ns → (∀ y, y ∈ ns → y ≤ m) → Q (.int m) H
def rMinA (K : Frg) : List V → Hp → VK → Prop := fun vs H Q => ∃ (a : Addr) (ns : List Int), vs = [V.ref a] ∧ (SqL K H a (ns.map V.int) ∨ SqT K H a (ns.map V.int)) ∧ 0 < ns.length ∧ ∀ m, m ∈ ns → (∀ y, y ∈ ns → m ≤ y) → Q (.int m) H
section
variable {X : Cx}
theorem cr_sumA (hc : X.calm = true) : CallR X (.builtin "sum") (rSumA X.K) := by
  intro pins s σ H vs us Q I r h
  obtain ⟨a, ns, rfl, hs | hs, q⟩ := h
  · exact cr_sum hc pins s σ H _ us Q I r ⟨a, ns, rfl, hs, q⟩
  · obtain ⟨its, rv, hl, _⟩ := I.tuple hs
    rw [Vals.ref1 r]
    exact sum_tup (I.ok.hd hc) hl rv.ints fun h' tk t' hk => ⟨.int _, H, I.kept hk, ⟨_, rfl⟩, q⟩
theorem cr_maxA (hc : X.calm = true) : CallR X (.builtin "max") (rMaxA X.K) := by
  intro pins s σ H vs us Q I r h
  obtain ⟨a, ns, rfl, hs | hs, hne, q⟩ := h
  · exact cr_max hc pins s σ H _ us Q I r ⟨a, ns, rfl, hs, hne, q⟩
  · obtain ⟨its, rv, hl, _⟩ := I.tuple hs
    rw [Vals.ref1 r]
    exact max_tup (I.ok.hd hc) hl rv.ints hne fun h' tk m t' hk h1 h2 => ⟨.int _, H, I.kept hk, ⟨_, rfl⟩, q m h1 h2⟩
theorem cr_minA (hc : X.calm = true) : CallR X (.builtin "min") (rMinA X.K) := by
  intro pins s σ H vs us Q I r h
  obtain ⟨a, ns, rfl, hs | hs, hne, q⟩ := h
  · exact cr_min hc pins s σ H _ us Q I r ⟨a, ns, rfl, hs, hne, q⟩
  · obtain ⟨its, rv, hl, _⟩ := I.tuple hs
    rw [Vals.ref1 r]
    exact min_tup (I.ok.hd hc) hl rv.ints hne fun h' tk m t' hk h1 h2 => ⟨.int _, H, I.kept hk, ⟨_, rfl⟩, q m h1 h2⟩
end
end Fl

set_option Elab.async false
set_option linter.all false
set_option maxRecDepth 100000
set_option maxHeartbeats 1000000
set_option autoImplicit false
/-! FnSeq: arguments, displays, built-in calls, subscripts, slices, what is walked, comprehensions. -/
namespace Fl
open PySem PySem.Spec PyProof.Rows L2
section
variable {X : Cx} {pos : Pos}
/-! ### arguments, displays -/
def aNil : LF := fun e => some ([], e)
def aCons (f : EF) (g : LF) : LF := fun e => (f e).bind fun p => (g p.2).map fun q => (p.1 :: q.1, q.2)
theorem fa_nil : FA X [] aNil := ⟨PA.imp pa_nil fun σ H Q ⟨z, d, e', rp, hs, hH, hf, q⟩ => by
  subst hs hH
  cases hf
  exact q [] z (Mv.refl z) rp rfl rfl .nil⟩
theorem fa_cons {a : Expr} {es : List Expr} {f : EF} {g : LF} (ha : FE X a f) (hr : FA X es g) (hs : starEach (a :: es) X.env = (false, eval a X.env) :: starEach es X.env := by rfl) : FA X (a :: es) (aCons f g) :=
  ⟨PA.imp (pa_cons ha.pe hr.pa hs) fun σ H Q ⟨z, d, e', rp, hs, hH, hf, q⟩ => by
    subst hs hH
    obtain ⟨⟨x, e1⟩, h1, hf⟩ := Option.bind_eq_some_iff.mp hf
    obtain ⟨⟨xs, e2⟩, h2, h3⟩ := Option.map_eq_some_iff.mp hf
    cases h3
    refine ⟨z, x, e1, rp, rfl, rfl, h1, fun v1 y1 m1 r1 s1 ee1 p1 => ⟨y1, xs, e2, r1, s1, rfl, by rw [ee1]; exact h2, fun v2 y2 m2 r2 s2 ee2 p2 => ?_⟩⟩
    exact q (v1 :: v2) y2 (m1.trans m2) r2 s2 ee2 (.cons (dvMono m2.g _ _ p1) p2)⟩
def eTup (g : LF) : EF := fun e => (g e).bind fun p => if p.1.length ≤ sizeLine then some (.tuple p.1, p.2) else none
theorem fe_tup {es : List Expr} {k : Nat} {g : LF} (h : FA X es g) : FE X (.Tuple es k pos) (eTup g) := ⟨PE.imp (pe_tup h.pa) fun σ H Q ⟨z, d, e', rp, hs, hH, hf, q⟩ => by
  subst hs hH
  obtain ⟨⟨xs, e1⟩, h1, hf⟩ := Option.bind_eq_some_iff.mp hf
  split at hf
  · rename_i hl
    cases hf
    refine ⟨z, xs, _, rp, rfl, rfl, h1, fun vs y m r s2 ee p => ⟨by rw [dvAll_len p]; exact hl, fun pa hn => ?_⟩⟩
    obtain ⟨r3, m3⟩ := r.add (o := .tup vs) hn
    exact q _ (y.add pa (.tup vs)) (m.trans m3) r3 s2 ee (.tup (SqT.of upd_same) (dvMonoAll (sameUpd (r.same.free hn)) _ _ p))
  · cases hf⟩
def oLst (g : LF) : OF := fun e => (g e).bind fun p => if p.1.length ≤ sizeLine then some (.li p.1, p.2) else none
/-- a new list on the heap, one's own -/
theorem Rp.newLi {K : Frg} {z : Z} (r : Rp K z) {p : Addr} {vs : List V} {ds : List D} (hn : z.H p = none) (hd : DvAll K z.G vs ds) :
    Rp K (z.new p (.lst vs)) ∧ Mv z (z.new p (.lst vs)) ∧ SlOk K (z.new p (.lst vs)).G (z.new p (.lst vs)).H (some (.ref p)) [p] (.li ds) ∧ ∀ i, p ∉ (z.new p (.lst vs)).F i := by
  obtain ⟨r3, m3⟩ := r.new (o := .lst vs) hn
  exact ⟨r3, m3, ⟨p, vs, rfl, rfl, (r.fresh hn).1, upd_same, hd⟩, (r.fresh hn).2⟩
theorem fo_lst {es : List Expr} {g : LF} (h : FA X es g) : FO X (.List es pos) (oLst g) := ⟨PE.imp (pe_lst h.pa) fun σ H Q ⟨z, d, e', rp, hs, hH, hf, q⟩ => by
  subst hs hH
  obtain ⟨⟨xs, e1⟩, h1, hf⟩ := Option.bind_eq_some_iff.mp hf
  split at hf
  · rename_i hl
    cases hf
    refine ⟨z, xs, _, rp, rfl, rfl, h1, fun vs y m r s2 ee p => ⟨by rw [dvAll_len p]; exact hl, fun pa hn => ?_⟩⟩
    obtain ⟨r3, m3, k, nf⟩ := r.newLi hn p
    refine q _ _ [pa] (m.trans m3) r3 s2 ee k fun a ha => ?_
    rw [List.mem_singleton.mp ha]
    refine ⟨?_, nf⟩
    by_cases hz : z.H pa = none
    · exact hz
    · exact absurd hn (m.dom pa hz)
  · cases hf⟩
/-! ### calls of built-ins -/
section
variable {x : Str} {id : String} {p : Pos} {r : List V → Hp → VK → Prop} {a b : Expr}
theorem fe_call1 {g : D → Option D} {f : EF} (hc : CallR X (.builtin id) r) (hu : Un1 X.K (fun v => r [v]) g) (hg : Gl X x) (hm : X.mg x = none) (hv : bootBuiltins x = some (.builtin id)) (ha : FB X a f) (hn : x ≠ "__name__" := by decide) (hdb : (x == ("__debug__" : Str)) = false := by decide)
    (he : starEach [a] X.env = (false, eval a X.env) :: starEach [] X.env := by rfl) : FE X (.Call (.Name x p) [a] [] pos) (eUn g f) :=
  ⟨PE.imp (pe_callB hc hg hm hv (pa_cons ha.pb pa_nil he) hn hdb he rfl) fun σ H Q h => un_run (r := fun v => r [v]) hu h⟩
theorem fe_callT1 {g : D → Option D} {f : EF} (hc : CallR X (.type id) r) (hu : Un1 X.K (fun v => r [v]) g) (hg : Gl X x) (hm : X.mg x = none) (hv : bootBuiltins x = some (.type id)) (ha : FB X a f) (hn : x ≠ "__name__" := by decide) (hdb : (x == ("__debug__" : Str)) = false := by decide)
    (he : starEach [a] X.env = (false, eval a X.env) :: starEach [] X.env := by rfl) : FE X (.Call (.Name x p) [a] [] pos) (eUn g f) :=
  ⟨PE.imp (pe_callTy hc hg hm hv (pa_cons ha.pb pa_nil he) hn hdb he rfl) fun σ H Q h => un_run (r := fun v => r [v]) hu h⟩
theorem fe_call2 {g : D → D → Option D} {f f2 : EF} (hc : CallR X (.builtin id) r) (hu : Op2 X.K (fun v w => r [v, w]) g) (hg : Gl X x) (hm : X.mg x = none) (hv : bootBuiltins x = some (.builtin id)) (ha : FE X a f) (hb : FB X b f2) (hn : x ≠ "__name__" := by decide) (hdb : (x == ("__debug__" : Str)) = false := by decide)
    (he : starEach [a, b] X.env = (false, eval a X.env) :: starEach [b] X.env := by rfl) (he2 : starEach [b] X.env = (false, eval b X.env) :: starEach [] X.env := by rfl) (hpl : (backTo pos (starEach [b] X.env)).any (·.1) = false := by rfl) : FE X (.Call (.Name x p) [a, b] [] pos) (eOp g f f2) :=
  ⟨PE.imp (pe_callB hc hg hm hv (pa_cons ha.pe (pa_cons hb.pb pa_nil he2) he) hn hdb he hpl) fun σ H Q h => op_run (r := fun v w => r [v, w]) hu h⟩
/-- an own list of a one-place call: g tells its items -/
def oUn (g : D → Option (List D)) (f : EF) : OF := fun e => (f e).bind fun p => (g p.1).map fun d => (.li d, p.2)
def Un1L (K : Frg) (r : V → Hp → VK → Prop) (g : D → Option (List D)) : Prop := ∀ x ds G H vx (Q : VK), g x = some ds → Same G H → Vw K G H vx x → (∀ p vs, H p = none → DvAll K G vs ds → Q (.ref p) (upd H p (.lst vs))) → r vx H Q
theorem unL_run {K : Frg} {r : V → Hp → VK → Prop} {g : D → Option (List D)} (h : Un1L K r g) {fa : EF} {σ : L2.St} {H : Hp} {Q : VK} (q : tO K (oUn g fa) σ H Q) : tUn r (tB K fa) σ H Q := by
  obtain ⟨z, d, e', rp, hs, hH, hf, q⟩ := q
  subst hs hH
  obtain ⟨⟨x, e1⟩, h1, hf⟩ := Option.bind_eq_some_iff.mp hf
  obtain ⟨d', h3, hf⟩ := Option.map_eq_some_iff.mp hf
  cases hf
  refine ⟨z, x, _, rp, rfl, rfl, h1, fun vx z1 m1 r1 s1 ee1 p1 => ?_⟩
  refine h x d' z1.G z1.H vx Q h3 r1.same p1 fun p vs hn hp => ?_
  obtain ⟨r3, m3, k, nf⟩ := r1.newLi hn hp
  refine q _ _ [p] (m1.trans m3) r3 s1 ee1 k fun a ha => ?_
  rw [List.mem_singleton.mp ha]
  refine ⟨?_, nf⟩
  by_cases hz : z.H p = none
  · exact hz
  · exact absurd hn (m1.dom p hz)
theorem fo_call1 {g : D → Option (List D)} {f : EF} (hc : CallR X (.builtin id) r) (hu : Un1L X.K (fun v => r [v]) g) (hg : Gl X x) (hm : X.mg x = none) (hv : bootBuiltins x = some (.builtin id)) (ha : FB X a f) (hn : x ≠ "__name__" := by decide) (hdb : (x == ("__debug__" : Str)) = false := by decide)
    (he : starEach [a] X.env = (false, eval a X.env) :: starEach [] X.env := by rfl) : FO X (.Call (.Name x p) [a] [] pos) (oUn g f) :=
  ⟨PE.imp (pe_callB hc hg hm hv (pa_cons ha.pb pa_nil he) hn hdb he rfl) fun σ H Q h => unL_run (r := fun v => r [v]) hu h⟩
theorem fo_callT1 {g : D → Option (List D)} {f : EF} (hc : CallR X (.type id) r) (hu : Un1L X.K (fun v => r [v]) g) (hg : Gl X x) (hm : X.mg x = none) (hv : bootBuiltins x = some (.type id)) (ha : FB X a f) (hn : x ≠ "__name__" := by decide) (hdb : (x == ("__debug__" : Str)) = false := by decide)
    (he : starEach [a] X.env = (false, eval a X.env) :: starEach [] X.env := by rfl) : FO X (.Call (.Name x p) [a] [] pos) (oUn g f) :=
  ⟨PE.imp (pe_callTy hc hg hm hv (pa_cons ha.pb pa_nil he) hn hdb he rfl) fun σ H Q h => unL_run (r := fun v => r [v]) hu h⟩
def dLen : D → Option D
  | .list xs => some (.int xs.length)
  | .tuple xs => some (.int xs.length)
  | .str z => if z.length ≤ sizeLine then some (.int z.length) else none
  | _ => none
theorem fe_len {f : EF} (ha : FB X a f) (hm : X.mg "len" = none) (hg : Gl X "len" := by rfl) (he : starEach [a] X.env = (false, eval a X.env) :: starEach [] X.env := by rfl) : FE X (.Call (.Name "len" p) [a] [] pos) (eUn dLen f) :=
  fe_call1 call_len (fun x d G H vx Q e s h q _ => by
    unfold dLen at e
    split at e
    · cases e
      obtain ⟨b, vs, rfl, h1, h2⟩ := vwLst s h
      exact ⟨_, _, rfl, .inl ⟨vs, SqL.of h1, rfl⟩, by rw [dvAll_len h2]; exact q _ (.int _)⟩
    · cases e
      obtain ⟨b, vs, rfl, h1, h2⟩ := vwTup h
      exact ⟨_, _, rfl, .inr ⟨vs, seqT s h1, rfl⟩, by rw [dvAll_len h2]; exact q _ (.int _)⟩
    · split at e
      · rename_i hl; cases e; rw [vwStr h]; exact ⟨_, _, rfl, ⟨hl, rfl⟩, q _ (.int _)⟩
      · cases e
    · cases e) hg hm boot_len ha (by decide) (by decide) he
def asInts : List D → Option (List Int)
  | [] => some []
  | .int i :: r => (asInts r).map (i :: ·)
  | _ :: _ => none
theorem asInts_ok {K : Frg} {G : Hp} : ∀ {ds : List D} {vs : List V} {ns : List Int}, asInts ds = some ns → DvAll K G vs ds → vs = ns.map V.int ∧ ds = ns.map PyData.int
  | [], _, _, e, h => by cases e; cases h; exact ⟨rfl, rfl⟩
  | .int i :: r, _, _, e, h => by
    obtain ⟨ms, h1, h2⟩ := Option.map_eq_some_iff.mp e
    subst h2
    cases h with
    | cons k1 k2 =>
      cases k1
      obtain ⟨e1, e2⟩ := asInts_ok h1 k2
      rw [e1, e2]
      exact ⟨rfl, rfl⟩
  | .none :: _, _, _, e, _ => nomatch e
  | .bool _ :: _, _, _, e, _ => nomatch e
  | .str _ :: _, _, _, e, _ => nomatch e
  | .list _ :: _, _, _, e, _ => nomatch e
  | .tuple _ :: _, _, _, e, _ => nomatch e
  | .dict _ :: _, _, _, e, _ => nomatch e
theorem asInts_map : ∀ ns : List Int, asInts (ns.map PyData.int) = some ns
  | [] => rfl
  | n :: r => by rw [List.map_cons]; unfold asInts; rw [asInts_map r]; rfl
/-- the ints of a list or tuple -/
def intsOf : D → Option (List Int)
  | .list xs => asInts xs
  | .tuple xs => asInts xs
  | _ => none
theorem intsOf_ok {K : Frg} {G H : Hp} (s : Same G H) {v : V} {d : D} {ns : List Int} (e : intsOf d = some ns) (h : Vw K G H v d) : ∃ a, v = .ref a ∧ (SqL K H a (ns.map V.int) ∨ SqT K H a (ns.map V.int)) := by
  unfold intsOf at e
  split at e
  · obtain ⟨b, vs, rfl, h1, h2⟩ := vwLst s h
    rw [(asInts_ok e h2).1] at h1
    exact ⟨b, rfl, .inl (SqL.of h1)⟩
  · obtain ⟨b, vs, rfl, h1, h2⟩ := vwTup h
    rw [(asInts_ok e h2).1] at h1
    exact ⟨b, rfl, .inr (seqT s h1)⟩
  · cases e
def dSum : D → Option D := fun x => (intsOf x).map fun ns => .int ns.sum
theorem fe_sum {k : Nat} {f : EF} (c : Cc X k) (ha : FB X a f) (hm : X.mg "sum" = none) (hg : Gl X "sum" := by rfl) (he : starEach [a] X.env = (false, eval a X.env) :: starEach [] X.env := by rfl) : FE X (.Call (.Name "sum" p) [a] [] pos) (eUn dSum f) :=
  fe_call1 (cr_sumA c.calm) (fun x d G H vx Q e s h q _ => by
    obtain ⟨ns, h1, h2⟩ := Option.map_eq_some_iff.mp e
    subst h2
    obtain ⟨b, rfl, h3⟩ := intsOf_ok s h1 h
    exact ⟨b, ns, rfl, h3, q _ (.int _)⟩) hg hm (by decide +kernel) ha (by decide) (by decide) he
/-- the greatest, the least -/
def maxI : Int → List Int → Int
  | m, [] => m
  | m, x :: r => maxI (if x > m then x else m) r
def minI : Int → List Int → Int
  | m, [] => m
  | m, x :: r => minI (if x < m then x else m) r
theorem maxI_spec : ∀ (r : List Int) (m : Int), (maxI m r = m ∨ maxI m r ∈ r) ∧ m ≤ maxI m r ∧ ∀ y ∈ r, y ≤ maxI m r
  | [], m => ⟨.inl rfl, Int.le_refl _, fun _ h => nomatch h⟩
  | x :: r, m => by
    obtain ⟨h1, h2, h3⟩ := maxI_spec r (if x > m then x else m)
    show (maxI (if x > m then x else m) r = m ∨ maxI (if x > m then x else m) r ∈ x :: r) ∧ m ≤ maxI (if x > m then x else m) r ∧ ∀ y ∈ x :: r, y ≤ maxI (if x > m then x else m) r
    generalize maxI (if x > m then x else m) r = M at h1 h2 h3 ⊢
    refine ⟨?_, ?_, fun y hy => ?_⟩
    · rcases h1 with h1 | h1
      · split at h1
        · exact .inr (by rw [h1]; exact List.mem_cons_self)
        · exact .inl h1
      · exact .inr (List.mem_cons_of_mem _ h1)
    · split at h2 <;> omega
    · rcases List.mem_cons.mp hy with rfl | hy
      · split at h2 <;> omega
      · exact h3 y hy
theorem minI_spec : ∀ (r : List Int) (m : Int), (minI m r = m ∨ minI m r ∈ r) ∧ minI m r ≤ m ∧ ∀ y ∈ r, minI m r ≤ y
  | [], m => ⟨.inl rfl, Int.le_refl _, fun _ h => nomatch h⟩
  | x :: r, m => by
    obtain ⟨h1, h2, h3⟩ := minI_spec r (if x < m then x else m)
    show (minI (if x < m then x else m) r = m ∨ minI (if x < m then x else m) r ∈ x :: r) ∧ minI (if x < m then x else m) r ≤ m ∧ ∀ y ∈ x :: r, minI (if x < m then x else m) r ≤ y
    generalize minI (if x < m then x else m) r = M at h1 h2 h3 ⊢
    refine ⟨?_, ?_, fun y hy => ?_⟩
    · rcases h1 with h1 | h1
      · split at h1
        · exact .inr (by rw [h1]; exact List.mem_cons_self)
        · exact .inl h1
      · exact .inr (List.mem_cons_of_mem _ h1)
    · split at h2 <;> omega
    · rcases List.mem_cons.mp hy with rfl | hy
      · split at h2 <;> omega
      · exact h3 y hy
def dMax : D → Option D := fun x => (intsOf x).bind fun
  | [] => none
  | n :: r => some (.int (maxI n r))
def dMin : D → Option D := fun x => (intsOf x).bind fun
  | [] => none
  | n :: r => some (.int (minI n r))
theorem fe_max1 {k : Nat} {f : EF} (c : Cc X k) (ha : FB X a f) (hm : X.mg "max" = none) (hg : Gl X "max" := by rfl) (he : starEach [a] X.env = (false, eval a X.env) :: starEach [] X.env := by rfl) : FE X (.Call (.Name "max" p) [a] [] pos) (eUn dMax f) :=
  fe_call1 (cr_maxA c.calm) (fun x d G H vx Q e s h q _ => by
    obtain ⟨ns, h1, h2⟩ := Option.bind_eq_some_iff.mp e
    obtain ⟨b, rfl, h3⟩ := intsOf_ok s h1 h
    split at h2
    · cases h2
    · rename_i n r
      cases h2
      refine ⟨b, n :: r, rfl, h3, Nat.succ_pos _, fun m hm1 hm2 => ?_⟩
      obtain ⟨k1, k2, k3⟩ := maxI_spec r n
      have e1 : m = maxI n r := by
        have a1 : maxI n r ≤ m := by
          rcases k1 with k1 | k1
          · rw [k1]; exact hm2 n List.mem_cons_self
          · exact hm2 _ (List.mem_cons_of_mem _ k1)
        have a2 : m ≤ maxI n r := by
          rcases List.mem_cons.mp hm1 with e | e
          · rw [e]; exact k2
          · exact k3 m e
        omega
      rw [e1]
      exact q _ (.int _)) hg hm (by decide +kernel) ha (by decide) (by decide) he
theorem fe_min1 {k : Nat} {f : EF} (c : Cc X k) (ha : FB X a f) (hm : X.mg "min" = none) (hg : Gl X "min" := by rfl) (he : starEach [a] X.env = (false, eval a X.env) :: starEach [] X.env := by rfl) : FE X (.Call (.Name "min" p) [a] [] pos) (eUn dMin f) :=
  fe_call1 (cr_minA c.calm) (fun x d G H vx Q e s h q _ => by
    obtain ⟨ns, h1, h2⟩ := Option.bind_eq_some_iff.mp e
    obtain ⟨b, rfl, h3⟩ := intsOf_ok s h1 h
    split at h2
    · cases h2
    · rename_i n r
      cases h2
      refine ⟨b, n :: r, rfl, h3, Nat.succ_pos _, fun m hm1 hm2 => ?_⟩
      obtain ⟨k1, k2, k3⟩ := minI_spec r n
      have e1 : m = minI n r := by
        have a1 : m ≤ minI n r := by
          rcases k1 with k1 | k1
          · rw [k1]; exact hm2 n List.mem_cons_self
          · exact hm2 _ (List.mem_cons_of_mem _ k1)
        have a2 : minI n r ≤ m := by
          rcases List.mem_cons.mp hm1 with e | e
          · rw [e]; exact k2
          · exact k3 m e
        omega
      rw [e1]
      exact q _ (.int _)) hg hm (by decide +kernel) ha (by decide) (by decide) he
def dMax2 := dI fun i j => .int (if j > i then j else i)
def dMin2 := dI fun i j => .int (if j < i then j else i)
theorem fe_max2 {k : Nat} {f f2 : EF} (c : Cc X k) (ha : FE X a f) (hb : FB X b f2) (hm : X.mg "max" = none) (hg : Gl X "max" := by rfl) (he : starEach [a, b] X.env = (false, eval a X.env) :: starEach [b] X.env := by rfl) (he2 : starEach [b] X.env = (false, eval b X.env) :: starEach [] X.env := by rfl) (hpl : (backTo pos (starEach [b] X.env)).any (·.1) = false := by rfl) : FE X (.Call (.Name "max" p) [a, b] [] pos) (eOp dMax2 f f2) :=
  fe_call2 (call_max2 c.calm) (fun x y d G H vx vy Q e s h1 h2 q _ => by
    unfold dMax2 dI at e
    split at e
    · cases e; cases h1; rw [vwInt h2]; exact ⟨_, _, rfl, q _ (.int _)⟩
    · cases e) hg hm (by decide +kernel) ha hb (by decide) (by decide) he he2 hpl
theorem fe_min2 {k : Nat} {f f2 : EF} (c : Cc X k) (ha : FE X a f) (hb : FB X b f2) (hm : X.mg "min" = none) (hg : Gl X "min" := by rfl) (he : starEach [a, b] X.env = (false, eval a X.env) :: starEach [b] X.env := by rfl) (he2 : starEach [b] X.env = (false, eval b X.env) :: starEach [] X.env := by rfl) (hpl : (backTo pos (starEach [b] X.env)).any (·.1) = false := by rfl) : FE X (.Call (.Name "min" p) [a, b] [] pos) (eOp dMin2 f f2) :=
  fe_call2 (call_min2 c.calm) (fun x y d G H vx vy Q e s h1 h2 q _ => by
    unfold dMin2 dI at e
    split at e
    · cases e; cases h1; rw [vwInt h2]; exact ⟨_, _, rfl, q _ (.int _)⟩
    · cases e) hg hm (by decide +kernel) ha hb (by decide) (by decide) he he2 hpl
def asBools : List D → Option (List Bool)
  | [] => some []
  | .bool i :: r => (asBools r).map (i :: ·)
  | _ :: _ => none
theorem asBools_ok {K : Frg} {G : Hp} : ∀ {ds : List D} {vs : List V} {ns : List Bool}, asBools ds = some ns → DvAll K G vs ds → vs = ns.map V.bl
  | [], _, _, e, h => by cases e; cases h; rfl
  | .bool i :: r, _, _, e, h => by
    obtain ⟨ms, h1, h2⟩ := Option.map_eq_some_iff.mp e
    subst h2
    cases h with
    | cons k1 k2 =>
      cases k1
      rw [asBools_ok h1 k2]
      rfl
  | .none :: _, _, _, e, _ => nomatch e
  | .int _ :: _, _, _, e, _ => nomatch e
  | .str _ :: _, _, _, e, _ => nomatch e
  | .list _ :: _, _, _, e, _ => nomatch e
  | .tuple _ :: _, _, _, e, _ => nomatch e
  | .dict _ :: _, _, _, e, _ => nomatch e
theorem asBools_map : ∀ ns : List Bool, asBools (ns.map PyData.bool) = some ns
  | [] => rfl
  | n :: r => by rw [List.map_cons]; unfold asBools; rw [asBools_map r]; rfl
def boolsOf : D → Option (List Bool)
  | .list xs => asBools xs
  | _ => none
theorem boolsOf_ok {K : Frg} {G H : Hp} (s : Same G H) {v : V} {d : D} {ns : List Bool} (e : boolsOf d = some ns) (h : Vw K G H v d) : ∃ a, v = .ref a ∧ SqL K H a (ns.map V.bl) := by
  unfold boolsOf at e
  split at e
  · obtain ⟨b, vs, rfl, h1, h2⟩ := vwLst s h
    rw [asBools_ok e h2] at h1
    exact ⟨b, rfl, SqL.of h1⟩
  · cases e
def dAll : D → Option D := fun x => (boolsOf x).map fun ns => .bool (ns.all fun b => b)
def dAny : D → Option D := fun x => (boolsOf x).map fun ns => .bool (ns.any fun b => b)
theorem fe_all {k : Nat} {f : EF} (c : Cc X k) (ha : FB X a f) (hm : X.mg "all" = none) (hg : Gl X "all" := by rfl) (he : starEach [a] X.env = (false, eval a X.env) :: starEach [] X.env := by rfl) : FE X (.Call (.Name "all" p) [a] [] pos) (eUn dAll f) :=
  fe_call1 (cr_all c.calm) (fun x d G H vx Q e s h q _ => by
    obtain ⟨ns, h1, h2⟩ := Option.map_eq_some_iff.mp e
    subst h2
    obtain ⟨b, rfl, h3⟩ := boolsOf_ok s h1 h
    exact ⟨b, ns, rfl, h3, q _ (.bl _)⟩) hg hm (by decide +kernel) ha (by decide) (by decide) he
theorem fe_any {k : Nat} {f : EF} (c : Cc X k) (ha : FB X a f) (hm : X.mg "any" = none) (hg : Gl X "any" := by rfl) (he : starEach [a] X.env = (false, eval a X.env) :: starEach [] X.env := by rfl) : FE X (.Call (.Name "any" p) [a] [] pos) (eUn dAny f) :=
  fe_call1 (cr_any c.calm) (fun x d G H vx Q e s h q _ => by
    obtain ⟨ns, h1, h2⟩ := Option.map_eq_some_iff.mp e
    subst h2
    obtain ⟨b, rfl, h3⟩ := boolsOf_ok s h1 h
    exact ⟨b, ns, rfl, h3, q _ (.bl _)⟩) hg hm (by decide +kernel) ha (by decide) (by decide) he
def dTuple : D → Option D
  | .list xs => some (.tuple xs)
  | .tuple xs => some (.tuple xs)
  | _ => none
theorem fe_tuple {f : EF} (ha : FB X a f) (hm : X.mg "tuple" = none) (hg : Gl X "tuple" := by rfl) (he : starEach [a] X.env = (false, eval a X.env) :: starEach [] X.env := by rfl) : FE X (.Call (.Name "tuple" p) [a] [] pos) (eUn dTuple f) :=
  fe_callT1 call_tuple_of (fun x d G H vx Q e s h q qn => by
    unfold dTuple at e
    split at e
    · cases e
      obtain ⟨b, vs, rfl, h1, h2⟩ := vwLst s h
      exact ⟨b, vs, rfl, .inl ⟨SqL.of h1, fun l hn => qn _ l _ hn (.tup (SqT.of upd_same) (dvMonoAll (sameUpd (s.free hn)) _ _ h2))⟩⟩
    · cases e
      obtain ⟨b, vs, rfl, h1, h2⟩ := vwTup h
      exact ⟨b, vs, rfl, .inr ⟨seqT s h1, q _ (.tup h1 h2)⟩⟩
    · cases e) hg hm (by decide +kernel) ha (by decide) (by decide) he
def dList : D → Option (List D)
  | .list xs => some xs
  | .tuple xs => some xs
  | _ => none
theorem fo_list {f : EF} (ha : FB X a f) (hm : X.mg "list" = none) (hg : Gl X "list" := by rfl) (he : starEach [a] X.env = (false, eval a X.env) :: starEach [] X.env := by rfl) : FO X (.Call (.Name "list" p) [a] [] pos) (oUn dList f) :=
  fo_callT1 call_list_of (fun x ds G H vx Q e s h qn => by
    unfold dList at e
    split at e
    · cases e
      obtain ⟨b, vs, rfl, h1, h2⟩ := vwLst s h
      exact ⟨b, vs, rfl, .inl (SqL.of h1), fun l hn => qn l vs hn h2⟩
    · cases e
      obtain ⟨b, vs, rfl, h1, h2⟩ := vwTup h
      exact ⟨b, vs, rfl, .inr (seqT s h1), fun l hn => qn l vs hn h2⟩
    · cases e) hg hm (by decide +kernel) ha (by decide) (by decide) he
def dInt : D → Option D
  | .int i => some (.int i)
  | .bool b => some (.int (if b then 1 else 0))
  | _ => none
theorem fe_intc {f : EF} (ha : FB X a f) (hm : X.mg "int" = none) (hg : Gl X "int" := by rfl) (he : starEach [a] X.env = (false, eval a X.env) :: starEach [] X.env := by rfl) : FE X (.Call (.Name "int" p) [a] [] pos) (eUn dInt f) :=
  fe_callT1 call_int1 (fun x d G H vx Q e s h q qn => by
    unfold dInt at e
    split at e
    · cases e; rw [vwInt h]; exact .inl ⟨_, rfl, q _ (.int _)⟩
    · cases e; rw [vwBl h]; exact .inr ⟨_, rfl, q _ (.int _)⟩
    · cases e) hg hm (by decide +kernel) ha (by decide) (by decide) he
def dAbs : D → Option D
  | .int i => some (.int (if i < 0 then -i else i))
  | _ => none
theorem fe_abs {f : EF} (ha : FB X a f) (hm : X.mg "abs" = none) (hg : Gl X "abs" := by rfl) (he : starEach [a] X.env = (false, eval a X.env) :: starEach [] X.env := by rfl) : FE X (.Call (.Name "abs" p) [a] [] pos) (eUn dAbs f) :=
  fe_call1 call_abs (fun x d G H vx Q e s h q qn => by
    unfold dAbs at e
    split at e
    · cases e; rw [vwInt h]; exact ⟨_, rfl, q _ (.int _)⟩
    · cases e) hg hm (by decide +kernel) ha (by decide) (by decide) he
/-! ### isinstance of a value and a written built-in type -/
def tyOf : D → Option String
  | .none => some "NoneType"
  | .bool _ => some "bool"
  | .int _ => some "int"
  | .str _ => some "str"
  | .list _ => some "list"
  | .tuple _ => some "tuple"
  | .dict _ => none
theorem tyOf_ok {K : Frg} {G H : Hp} (s : Same G H) {v : V} {d : D} {n : String} (e : tyOf d = some n) (h : Vw K G H v d) : TyX K H v (.type n) := by
  unfold tyOf at e
  split at e
  · cases e; rw [vwNon h]; exact .base .non
  · cases e; rw [vwBl h]; exact .base (.bl _)
  · cases e; rw [vwInt h]; exact .base (.int _)
  · cases e; rw [vwStr h]; exact .base (.str _)
  · cases e
    obtain ⟨b, vs, rfl, h1, h2⟩ := vwLst s h
    exact .base (.lst h1)
  · cases e
    obtain ⟨b, vs, rfl, h1, h2⟩ := vwTup h
    rcases seqT s h1 with (h1 | ⟨o, h1⟩) | ⟨o, its, n, h1, h3, _⟩
    · exact .base (.tup h1)
    · exact .fTuple h1
    · exact .kTuple h1 h3
  · cases e
/-- the type's name, and its answer for each kind -/
def dIsi (g : D → Bool) : D → Option D := fun d => match d with
  | .dict _ => none
  | d => some (.bool (g d))
def isTup : D → Bool
  | .tuple _ => true
  | _ => false
def isLst : D → Bool
  | .list _ => true
  | _ => false
def isIntB : D → Bool
  | .int _ => true
  | .bool _ => true
  | _ => false
def isBool : D → Bool
  | .bool _ => true
  | _ => false
def isStr : D → Bool
  | .str _ => true
  | _ => false
theorem fe_isi {g : D → Bool} {n : Str} {N : String} {f : EF} {p2 : Pos} (hk : ∀ d t, tyOf d = some t → kitB t N = some (g d)) (ha : FE X a f) (hm : X.mg "isinstance" = none) (hm2 : X.mg n = none) (hv2 : bootBuiltins n = some (.type N)) (hg : Gl X "isinstance" := by rfl) (hg2 : Gl X n := by rfl)
    (hn : n ≠ "__name__" := by decide) (hdb : (n == ("__debug__" : Str)) = false := by decide)
    (he : starEach [a, .Name n p2] X.env = (false, eval a X.env) :: starEach [.Name n p2] X.env := by rfl) (he2 : starEach [.Name n p2] X.env = (false, eval (.Name n p2) X.env) :: starEach [] X.env := by rfl) (hpl : (backTo pos (starEach [.Name n p2] X.env)).any (·.1) = false := by rfl) : FE X (.Call (.Name "isinstance" p) [a, .Name n p2] [] pos) (eUn (dIsi g) f) :=
  ⟨PE.imp (pe_callB call_isi hg hm (by decide +kernel) (pa_cons ha.pe (pa_cons (pe_bltn (v := .ty N) hg2 hm2 hv2 rfl hn hdb) pa_nil he2) he) (by decide) (by decide) he hpl) fun σ H Q ⟨z, d, e', rp, hs, hH, hf, q⟩ => by
    subst hs hH
    obtain ⟨⟨x, e1⟩, h1, hf⟩ := Option.bind_eq_some_iff.mp hf
    obtain ⟨d', h3, hf⟩ := Option.map_eq_some_iff.mp hf
    cases hf
    refine ⟨z, x, _, rp, rfl, rfl, h1, fun vx z1 m1 r1 s1 ee1 p1 => ?_⟩
    show rIsi X.K [vx, .ty N] z1.H Q
    have key : ∀ t, tyOf x = some t → d = .bool (g x) → rIsi X.K [vx, .ty N] z1.H Q := fun t ht hd => by
      subst hd
      exact ⟨vx, .ty N, .type t, .type N, g x, rfl, .ty N, tyOf_ok r1.same ht (.inl p1), kit_ty (hk x t ht), q _ z1 m1 r1 s1 ee1 (.bl _)⟩
    cases x with
    | dict _ => cases h3
    | none => exact key _ rfl (Option.some.inj h3).symm
    | bool _ => exact key _ rfl (Option.some.inj h3).symm
    | int _ => exact key _ rfl (Option.some.inj h3).symm
    | str _ => exact key _ rfl (Option.some.inj h3).symm
    | list _ => exact key _ rfl (Option.some.inj h3).symm
    | tuple _ => exact key _ rfl (Option.some.inj h3).symm⟩
theorem kit_tup : ∀ d t, tyOf d = some t → kitB t "tuple" = some (isTup d) := fun d t h => by
  cases d <;> first | (cases h; show kitB _ _ = some true; decide +kernel) | (cases h; show kitB _ _ = some false; decide +kernel) | cases h
theorem kit_lst : ∀ d t, tyOf d = some t → kitB t "list" = some (isLst d) := fun d t h => by
  cases d <;> first | (cases h; show kitB _ _ = some true; decide +kernel) | (cases h; show kitB _ _ = some false; decide +kernel) | cases h
theorem kit_int : ∀ d t, tyOf d = some t → kitB t "int" = some (isIntB d) := fun d t h => by
  cases d <;> first | (cases h; show kitB _ _ = some true; decide +kernel) | (cases h; show kitB _ _ = some false; decide +kernel) | cases h
theorem kit_bool : ∀ d t, tyOf d = some t → kitB t "bool" = some (isBool d) := fun d t h => by
  cases d <;> first | (cases h; show kitB _ _ = some true; decide +kernel) | (cases h; show kitB _ _ = some false; decide +kernel) | cases h
theorem kit_str : ∀ d t, tyOf d = some t → kitB t "str" = some (isStr d) := fun d t h => by
  cases d <;> first | (cases h; show kitB _ _ = some true; decide +kernel) | (cases h; show kitB _ _ = some false; decide +kernel) | cases h
end
end
end Fl

set_option Elab.async false
set_option linter.all false
set_option maxRecDepth 100000
set_option maxHeartbeats 1000000
set_option autoImplicit false
/-! FnIter: subscripts, slices, what is walked, targets, comprehensions. -/
namespace Fl
open PySem PySem.Spec PyProof.Rows L2
section
variable {X : Cx} {pos : Pos}
/-! ### subscripts -/
def dIx : D → D → Option D
  | .list xs, .int i => atI xs i
  | .tuple xs, .int i => atI xs i
  | .str z, .int i => if z.length ≤ sizeLine then (atI z.cps.toList i).map fun c => .str ⟨#[c]⟩ else none
  | _, _ => none
theorem atI_all {K : Frg} {G : Hp} {vs : List V} {ds : List D} {i : Int} {d : D} (h : DvAll K G vs ds) (e : atI ds i = some d) : ∃ v, atI vs i = some v ∧ Dv K G v d := by
  unfold atI at e ⊢
  obtain ⟨j, h1, h2⟩ := Option.bind_eq_some_iff.mp e
  rw [dvAll_len h, h1]
  exact dvAll_get h h2
theorem ix_run {K : Frg} {x y d : D} {G H : Hp} {vx vy : V} {Q : VK} (e : dIx x y = some d) (s : Same G H) (h1 : Vw K G H vx x) (h2 : Vw K G H vy y) (q : ∀ v, Dv K G v d → Q v H) : rIx K vx vy H Q := by
  unfold dIx at e
  split at e
  · obtain ⟨a, vs, rfl, k1, k2⟩ := vwLst s h1
    obtain ⟨v, e1, e2⟩ := atI_all k2 e
    exact .inl ⟨_, _, _, v, rfl, vwInt h2, SqL.of k1, e1, q v e2⟩
  · obtain ⟨a, vs, rfl, k1, k2⟩ := vwTup h1
    obtain ⟨v, e1, e2⟩ := atI_all k2 e
    exact .inr (.inl ⟨_, _, _, v, rfl, vwInt h2, seqT s k1, e1, q v e2⟩)
  · split at e
    · rename_i hz
      obtain ⟨c, e1, e2⟩ := Option.map_eq_some_iff.mp e
      subst e2
      exact .inr (.inr ⟨_, _, c, vwStr h1, vwInt h2, hz, e1, q _ (.str _)⟩)
    · cases e
  · cases e
theorem fe_ix {a b : Expr} {fa fb : EF} (ha : FE X a fa) (hb : FE X b fb) (hs : PlainIx b := by intro _ _; rfl) : FE X (.Subscript a b pos) (eOp dIx fa fb) :=
  ⟨PE.imp (pe_ix ix_seq ha.pe (fb_fe hb).pb hs) fun σ H Q h => op_run (r := rIx X.K) (fun x y d G H vx vy Q e s h1 h2 q _ => ix_run e s (.inl h1) h2 q) h⟩
theorem vwSl {K : Frg} {G H : Hp} {v : V} {F : List Addr} {sl : Sl} {d : D} (h : SlOk K G H (some v) F sl) (e : vw sl = some d) : Vw K G H v d := by
  cases sl with
  | va dd => cases e; obtain ⟨_, w, e2, pw⟩ := h; cases e2; exact .inl pw
  | li xs => cases e; obtain ⟨a, vs, e2, k2, k3, k4, k5⟩ := h; cases e2; exact .inr ⟨a, vs, xs, rfl, rfl, k4, k5⟩
  | no => cases e
  | di _ => cases e
  | dt _ => cases e
  | ow _ => cases e
theorem slHas {K : Frg} {G H : Hp} {v : Option V} {F : List Addr} {sl : Sl} {d : D} (h : SlOk K G H v F sl) (e : vw sl = some d) : ∃ w, v = some w := by
  cases sl with
  | va dd => obtain ⟨_, w, e2, _⟩ := h; exact ⟨w, e2⟩
  | li xs => obtain ⟨a, vs, e2, _⟩ := h; exact ⟨_, e2⟩
  | no => cases e
  | di _ => cases e
  | dt _ => cases e
  | ow _ => cases e
/-- a name's value now, and what is to be read at it later in the same expression -/
theorem Rp.has {K : Frg} {z : Z} (r : Rp K z) {i : Nat} {x : D} (h : z.e[i]?.bind vw = some x) : ∃ v, z.s[i]? = some (some v) ∧ Vw K z.G z.H v x := by
  obtain ⟨sl, h4, h5⟩ := Option.bind_eq_some_iff.mp h
  have so := r.ok i sl h4
  obtain ⟨w, hw⟩ := slHas so h5
  rw [hw] at so
  exact ⟨w, joinSome hw, vwSl so h5⟩
/-- an own list's (or any name's) item: the index first, then what stands there -/
def eIxO (i : Nat) (fb : EF) : EF := fun e => (e[i]?.bind vw).bind fun _ => (fb e).bind fun q => (q.2[i]?.bind vw).bind fun x => (dIx x q.1).map fun d => (d, q.2)
theorem fe_ixo {i : Nat} {x : Str} {p : Pos} {b : Expr} {fb : EF} (hN : X.N[i]? = some x) (hv : Vis X.env.scope x) (hb : FE X b fb) (hs : PlainIx b := by intro _ _; rfl) (hd : (x == ("__debug__" : Str)) = false := by decide) (hcd : (x == ("__classdict__" : Str)) = false := by decide) : FE X (.Subscript (.Name x p) b pos) (eIxO i fb) :=
  ⟨PE.imp (pe_ix ix_seq (pe_var hN hv hd hcd) hb.pe hs) fun σ H Q ⟨z, d, e', r, hs, hH, hf, q⟩ => by
    subst hs hH
    obtain ⟨_, h0, hf⟩ := Option.bind_eq_some_iff.mp hf
    obtain ⟨⟨k, e1⟩, h1, hf⟩ := Option.bind_eq_some_iff.mp hf
    obtain ⟨xd, h2, hf⟩ := Option.bind_eq_some_iff.mp hf
    obtain ⟨d', h3, hf⟩ := Option.map_eq_some_iff.mp hf
    cases hf
    obtain ⟨v, hv, _⟩ := r.has h0
    refine ⟨v, hv, z, k, _, r, rfl, rfl, h1, fun vk y m r2 s2 ee p => ?_⟩
    obtain ⟨v', hv', pv⟩ := r2.has (i := i) (x := xd) (by rw [ee]; exact h2)
    rw [s2, hv] at hv'
    cases hv'
    exact ix_run h3 r2.same pv (.inl p) fun w pw => q w y m r2 s2 ee pw⟩
/-! ### slices -/
abbrev PF := Ev → Option (Option Int × Ev)
def tP (K : Frg) (f : PF) : TO := fun σ H Q => ∃ z d e', Rp K z ∧ z.s = σ ∧ z.H = H ∧ f z.e = some (d, e') ∧ ∀ y, Mv z y → Rp K y → y.s = σ → y.e = e' → Q d y.H
structure FP (X : Cx) (e : Option Expr) (f : PF) : Prop where
  po : PO X e (tP X.K f)
theorem PO.imp {e : Option Expr} {t t' : TO} (h : PO X e t) (k : ∀ σ H Q, t' σ H Q → t σ H Q) : PO X e t' := ⟨fun pins s σ H Q I q => h.run pins s σ H Q I (k _ _ _ q)⟩
def pNo : PF := fun e => some (none, e)
def pSo (f : EF) : PF := fun e => (f e).bind fun p => match p.1 with
  | .int i => some (some i, p.2)
  | _ => none
theorem fp_no : FP X none pNo := ⟨PO.imp po_none fun σ H Q ⟨z, d, e', rp, hs, hH, hf, q⟩ => by
  subst hs hH
  cases hf
  exact q z (Mv.refl z) rp rfl rfl⟩
theorem fp_so {a : Expr} {f : EF} (h : FE X a f) : FP X (some a) (pSo f) := ⟨PO.imp (po_some h.pe) fun σ H Q ⟨z, d, e', rp, hs, hH, hf, q⟩ => by
  subst hs hH
  obtain ⟨⟨x, e1⟩, h1, hf⟩ := Option.bind_eq_some_iff.mp hf
  split at hf
  · rename_i i hx
    obtain rfl : x = _ := hx
    cases hf
    refine ⟨z, _, _, rp, rfl, rfl, h1, fun v y m r s2 ee p => ?_⟩
    cases p
    exact ⟨_, rfl, q y m r s2 ee⟩
  · cases hf⟩
/-- the items of xs[lo:hi] -/
def cutD {α : Type} (xs : List α) (lo hi : Option Int) : List α := (xs.drop (HT.sIx xs.length 0 lo)).take (HT.sIx xs.length xs.length hi - HT.sIx xs.length 0 lo)
theorem dvAll_cut {K : Frg} {G : Hp} {vs : List V} {ds : List D} (h : DvAll K G vs ds) (lo hi : Option Int) : DvAll K G (cutV vs lo hi) (cutD ds lo hi) := by
  unfold cutV cutD
  rw [dvAll_len h]
  exact dvAll_take _ (dvAll_drop _ h)
def dSl (lo hi : Option Int) : D → Option D
  | .list xs => some (.list (cutD xs lo hi))
  | .tuple xs => some (.tuple (cutD xs lo hi))
  | .str z => if z.length ≤ sizeLine then some (.str (cutS z lo hi)) else none
  | _ => none
def eSl (f : EF) (g h : PF) : EF := fun e => (f e).bind fun p => (g p.2).bind fun q => (h q.2).bind fun r => (dSl q.1 r.1 p.1).map fun d => (d, r.2)
theorem cut_all {α : Type} {xs : List α} {lo hi : Option Int} (h : HT.sIx xs.length 0 lo = 0 ∧ HT.sIx xs.length xs.length hi = xs.length) : cutD xs lo hi = xs := by
  unfold cutD
  rw [h.1, h.2]
  simp
theorem fe_sl {a : Expr} {lo hi : Option Expr} {p2 : Pos} {f : EF} {g h : PF} (ha : FE X a f) (hl : FP X lo g) (hh : FP X hi h) : FE X (.Subscript a (.Slice lo hi none p2) pos) (eSl f g h) :=
  ⟨PE.imp (pe_slice ((sl_list.or sl_tupA).or sl_str) ha.pe hl.po hh.po) fun σ H Q ⟨z, d, e', rp, hs, hH, hf, q⟩ => by
    subst hs hH
    obtain ⟨⟨x, e1⟩, h1, hf⟩ := Option.bind_eq_some_iff.mp hf
    obtain ⟨⟨l, e2⟩, h2, hf⟩ := Option.bind_eq_some_iff.mp hf
    obtain ⟨⟨u, e3⟩, h3, hf⟩ := Option.bind_eq_some_iff.mp hf
    obtain ⟨d', h4, hf⟩ := Option.map_eq_some_iff.mp hf
    cases hf
    refine ⟨z, x, e1, rp, rfl, rfl, h1, fun v y m r s2 ee p => ⟨y, l, e2, r, s2, rfl, by rw [ee]; exact h2, fun y2 m2 r2 s3 ee2 => ⟨y2, u, _, r2, s3, rfl, by rw [ee2]; exact h3, fun y3 m3 r3 s4 ee3 => ?_⟩⟩⟩
    have p3 := dvMono (m2.trans m3).g _ _ p
    have mm := (m.trans m2).trans m3
    have fin : ∀ v, Dv X.K y3.G v d → Q v y3.H := fun v pv => q v y3 mm r3 s4 ee3 pv
    have finN : ∀ v p o, y3.H p = none → Dv X.K (upd y3.G p o) v d → Q v (upd y3.H p o) := fun v p o hn pv => by
      obtain ⟨r5, m5⟩ := r3.add (o := o) hn
      exact q v (y3.add p o) (mm.trans m5) r5 s4 ee3 pv
    cases x with
    | list xs =>
      cases h4
      obtain ⟨a, vs, rfl, k1, k2⟩ := vwLst (H := y3.H) r3.same (.inl p3)
      exact .inl (.inl ⟨_, _, rfl, SqL.of k1, fun p hn => finN _ p _ hn (.lst upd_same (dvMonoAll (sameUpd (r3.same.free hn)) _ _ (dvAll_cut k2 _ _)))⟩)
    | tuple xs =>
      cases h4
      obtain ⟨a, vs, rfl, k1, k2⟩ := vwTup (H := y3.H) (.inl p3)
      refine .inl (.inr ⟨a, vs, rfl, seqT r3.same k1, fun hw => ?_, fun hw p hn => finN _ p _ hn (.tup (SqT.of upd_same) (dvMonoAll (sameUpd (r3.same.free hn)) _ _ (dvAll_cut k2 _ _)))⟩)
      refine fin _ ?_
      rw [dvAll_len k2] at hw
      rw [cut_all hw]
      exact .tup k1 k2
    | str z =>
      have h4' : (if z.length ≤ sizeLine then some (PyData.str (cutS z l u)) else none) = some d := h4
      split at h4'
      · rename_i hz
        cases h4'
        exact .inr ⟨_, vwStr (H := y3.H) (.inl p3), hz, fin _ (.str _)⟩
      · cases h4'
    | none => cases h4
    | bool _ => cases h4
    | int _ => cases h4
    | dict _ => cases h4⟩
end
end Fl

set_option Elab.async false
set_option linter.all false
set_option maxRecDepth 100000
set_option maxHeartbeats 1000000
set_option autoImplicit false
/-! FnComp: targets, what is walked, comprehensions. -/
namespace Fl
open PySem PySem.Spec PyProof.Rows L2
/-! ### targets -/
abbrev GF := D → Ev → Option Ev
/-- a target stores a value; ws: the slots it writes -/
def tG (K : Frg) (t : GF) (ws : List Nat) : TG := fun v σ H Q => ∃ z d e', Rp K z ∧ z.s = σ ∧ z.H = H ∧ Dv K z.G v d ∧ t d z.e = some e' ∧ ∀ y, Mv z y → Rp K y → y.e = e' → y.H = z.H → y.G = z.G → (∀ j : Nat, j ∉ ws → y.s[j]? = z.s[j]?) → Q y.s y.H
def tGs (K : Frg) (t : List D → Ev → Option Ev) (ws : List Nat) : TGs := fun vs σ H Q => ∃ z ds e', Rp K z ∧ z.s = σ ∧ z.H = H ∧ DvAll K z.G vs ds ∧ t ds z.e = some e' ∧ ∀ y, Mv z y → Rp K y → y.e = e' → y.H = z.H → y.G = z.G → (∀ j : Nat, j ∉ ws → y.s[j]? = z.s[j]?) → Q y.s y.H
structure FG (X : Cx) (e : Expr) (t : GF) (ws : List Nat) : Prop where
  pg : PG X e (tG X.K t ws)
structure FGs (X : Cx) (es : List Expr) (t : List D → Ev → Option Ev) (ws : List Nat) : Prop where
  pgs : PGs X es (tGs X.K t ws)
theorem PG.imp {X : Cx} {e : Expr} {t t' : TG} (h : PG X e t) (k : ∀ v σ H Q, t' v σ H Q → t v σ H Q) : PG X e t' := ⟨fun pins s σ H v u Q I r q => h.run pins s σ H v u Q I r (k _ _ _ _ q)⟩
theorem PGs.imp {X : Cx} {e : List Expr} {t t' : TGs} (h : PGs X e t) (k : ∀ v σ H Q, t' v σ H Q → t v σ H Q) : PGs X e t' := ⟨fun pins s σ H v u Q I r q => h.run pins s σ H v u Q I r (k _ _ _ _ q)⟩
/-- a slot gets a new content: σ gets v, e gets sl, whose footprint is Fr -/
def Z.put (z : Z) (i : Nat) (v : V) (sl : Sl) (Fr : List Addr) : Z := { z with s := z.s.set i (some v), e := z.e.set i sl, F := fun j => if j = i then (if i < z.e.length then Fr else []) else z.F j }
theorem Rp.put {K : Frg} {z : Z} (r : Rp K z) {i : Nat} {v : V} {sl : Sl} {Fr : List Addr} (ok : SlOk K z.G z.H (some v) Fr sl) (fr : ∀ a ∈ Fr, ∀ j, j ≠ i → a ∉ z.F j) : Rp K (z.put i v sl Fr) := by
  refine ⟨r.same, ?_, fun j s h => ?_, fun j h => ?_, fun j k a hjk hj hk => ?_⟩
  · show (z.s.set i (some v)).length = (z.e.set i sl).length
    rw [List.length_set, List.length_set]; exact r.len
  · have h' : (z.e.set i sl)[j]? = some s := h
    show SlOk K z.G z.H (((z.s.set i (some v))[j]?).join) (if j = i then (if i < z.e.length then Fr else []) else z.F j) s
    by_cases hji : j = i
    · subst hji
      have hl : j < z.e.length := by
        have := (List.getElem?_eq_some_iff.mp h').1
        rw [List.length_set] at this; exact this
      rw [List.getElem?_set_self hl] at h'
      cases h'
      rw [if_pos rfl, if_pos hl, List.getElem?_set_self (by rw [r.len]; exact hl)]
      exact ok
    · rw [if_neg hji, List.getElem?_set_ne (Ne.symm hji)]
      rw [List.getElem?_set_ne (Ne.symm hji)] at h'
      exact r.ok j s h'
  · have h' : z.e.length ≤ j := by
      have : (z.e.set i sl).length ≤ j := h
      rw [List.length_set] at this; exact this
    show (if j = i then (if i < z.e.length then Fr else []) else z.F j) = []
    by_cases hji : j = i
    · subst hji; rw [if_pos rfl, if_neg (by omega)]
    · rw [if_neg hji]; exact r.out j h'
  · have hj' : a ∈ (if j = i then (if i < z.e.length then Fr else []) else z.F j) := hj
    have hk' : a ∈ (if k = i then (if i < z.e.length then Fr else []) else z.F k) := hk
    by_cases h1 : j = i
    · rw [if_pos h1] at hj'
      rw [if_neg (fun h2 => hjk (h1.trans h2.symm))] at hk'
      split at hj'
      · exact fr a hj' k (fun h2 => hjk (h1.trans h2.symm)) hk'
      · cases hj'
    · rw [if_neg h1] at hj'
      by_cases h2 : k = i
      · rw [if_pos h2] at hk'
        split at hk'
        · exact fr a hk' j h1 hj'
        · cases hk'
      · rw [if_neg h2] at hk'
        exact r.sep j k a hjk hj' hk'
/-- .. seen from an earlier state, where the new footprint is fresh -/
theorem Mv.put {z0 z : Z} (m : Mv z0 z) {i : Nat} {v : V} {sl : Sl} {Fr : List Addr} (no : isOw z.e[i]? = false) (fr : ∀ a ∈ Fr, a ∈ z0.F i ∨ z0.H a = none) : Mv z0 (z.put i v sl Fr) := by
  refine ⟨m.out, m.dom, m.g, m.gn, fun j a h => ?_, fun j h => ?_, (List.length_set ..).trans m.ln⟩
  · have h' : a ∈ (if j = i then (if i < z.e.length then Fr else []) else z.F j) := h
    by_cases hji : j = i
    · rw [if_pos hji] at h'
      split at h'
      · rw [hji]; exact fr a h'
      · cases h'
    · rw [if_neg hji] at h'
      exact m.fn j a h'
  · obtain ⟨h1, h2⟩ := m.kp j h
    have hji : j ≠ i := fun e => by rw [e, no] at h1; cases h1
    show isOw (z.e.set i sl)[j]? = true ∧ (z.s.set i (some v))[j]? = z0.s[j]?
    rw [List.getElem?_set_ne (Ne.symm hji), List.getElem?_set_ne (Ne.symm hji)]
    exact ⟨h1, h2⟩
def gNm (i : Nat) : GF := fun d e => if isOw e[i]? then none else some (e.set i (.va d))
theorem fg_name {X : Cx} {pos : Pos} {i : Nat} {x : Str} (hN : X.N.Nodup) (hi : X.N[i]? = some x) (hx : Loc X.env.scope x) (hf : X.fn x = true ∨ X.env.scope.names.lookup x = some .local := by first | exact .inl rfl | exact .inr rfl | assumption) : FG X (.Name x pos) (gNm i) [i] :=
  ⟨PG.imp (pg_name hN hi hx hf) fun v σ H Q ⟨z, d, e', rp, hs, hH, hd, ht, q⟩ => by
    subst hs hH
    unfold gNm at ht
    split at ht
    · cases ht
    · rename_i no
      cases ht
      refine q (z.put i v (.va d) []) ((Mv.refl z).put (by simpa using no) fun _ h => nomatch h) (rp.put ⟨rfl, v, rfl, hd⟩ fun _ h => nomatch h) rfl rfl rfl fun j hj => ?_
      show (z.s.set i (some v))[j]? = z.s[j]?
      exact List.getElem?_set_ne (fun e => hj (by simp [e]))⟩
def gsNil : List D → Ev → Option Ev := fun ds e => match ds with
  | [] => some e
  | _ :: _ => none
def gsCons (t : GF) (u : List D → Ev → Option Ev) : List D → Ev → Option Ev := fun ds e => match ds with
  | [] => none
  | d :: r => (t d e).bind fun e1 => u r e1
section
variable {X : Cx} {pos : Pos}
theorem fgs_nil : FGs X [] gsNil [] := ⟨PGs.imp pgs_nil fun vs σ H Q ⟨z, ds, e', rp, hs, hH, hd, ht, q⟩ => by
  subst hs hH
  cases hd with
  | nil => cases ht; exact ⟨rfl, q z (Mv.refl z) rp rfl rfl rfl fun _ _ => rfl⟩
  | cons _ _ => cases ht⟩
theorem fgs_cons {a : Expr} {es : List Expr} {t : GF} {u : List D → Ev → Option Ev} {w1 w2 : List Nat} (h1 : FG X a t w1) (h2 : FGs X es u w2)
    (hs : (assignEach (a :: es) X.env).map (·.2) = assign a X.env :: (assignEach es X.env).map (·.2) := by rfl) : FGs X (a :: es) (gsCons t u) (w1 ++ w2) :=
  ⟨PGs.imp (pgs_cons h1.pg h2.pgs hs) fun vs σ H Q ⟨z, ds, e', rp, hs, hH, hd, ht, q⟩ => by
    subst hs hH
    cases hd with
    | nil => cases ht
    | cons k1 k2 =>
      obtain ⟨e1, t1, t2⟩ := Option.bind_eq_some_iff.mp ht
      refine ⟨_, _, rfl, z, _, e1, rp, rfl, rfl, k1, t1, fun y m r ee eH eG es => ?_⟩
      refine ⟨y, _, e', r, rfl, rfl, by rw [eG]; exact k2, by rw [ee]; exact t2, fun y2 m2 r2 ee2 eH2 eG2 es2 => ?_⟩
      refine q y2 (m.trans m2) r2 ee2 (eH2.trans eH) (eG2.trans eG) fun j hj => ?_
      rw [es2 j fun h => hj (List.mem_append_right _ h), es j fun h => hj (List.mem_append_left _ h)]⟩
def gTupF (t : List D → Ev → Option Ev) (n : Nat) : GF := fun d e => match d with
  | .tuple ds => if ds.length = n then t ds e else none
  | _ => none
theorem fg_tup {es : List Expr} {k n : Nat} {t : List D → Ev → Option Ev} {ws : List Nat} (hc : X.calm = true) (h : FGs X es t ws) (hn : (assignEach es X.env).length = n := by rfl) (hst : (assignEach es X.env).findIdx? (·.1) = none := by rfl) : FG X (.Tuple es k pos) (gTupF t n) ws :=
  ⟨PG.imp (pg_tup hc h.pgs hn hst) fun v σ H Q ⟨z, d, e', rp, hs, hH, hd, ht, q⟩ => by
    subst hs hH
    unfold gTupF at ht
    cases d with
    | tuple ds =>
      have ht' : (if ds.length = n then t ds z.e else none) = some e' := ht
      split at ht'
      · rename_i hl
        cases hd with
        | tup k1 k2 =>
          exact ⟨_, _, rfl, seqT rp.same k1, (dvAll_len k2).trans hl, z, ds, e', rp, rfl, rfl, k2, ht', q⟩
      · cases ht'
    | none => cases ht
    | bool _ => cases ht
    | int _ => cases ht
    | str _ => cases ht
    | list _ => cases ht
    | dict _ => cases ht⟩
end
/-! ### what is walked -/
/-- it gives the items ds one by one as long as G stands -/
def Itr (K : Frg) (J : It) (G : Hp) (ds : List D) : Prop := ∃ Gd Y, Walk J ds.length Gd Y ∧ (∀ H, Same G H → Gd H) ∧ ∀ i H x H', i < ds.length → Same G H → Y i H x H' →
  (H' = H ∧ ∃ d, ds[i]? = some d ∧ Dv K G x d) ∨ (∃ T vs es, x = .ref T ∧ H T = none ∧ H' = upd H T (.tup vs) ∧ ds[i]? = some (.tuple es) ∧ DvAll K G vs es)
def tI (K : Frg) (g : LF) : TI := fun σ H R => ∃ z ds e', Rp K z ∧ z.s = σ ∧ z.H = H ∧ g z.e = some (ds, e') ∧ ∀ J y, Mv z y → Rp K y → y.s = σ → y.e = e' → Itr K J y.G ds → R J y.H
structure FI (X : Cx) (tg it : Expr) (g : LF) : Prop where
  pi : PI X tg it (tI X.K g)
theorem PI.imp {X : Cx} {tg it : Expr} {t t' : TI} (h : PI X tg it t) (k : ∀ σ H R, t' σ H R → t σ H R) : PI X tg it t' := ⟨fun pins s σ H R I q => h.run pins s σ H R I (k _ _ _ q)⟩
theorem Itr.mono {K : Frg} {J : It} {G G' : Hp} {ds : List D} (h : Itr K J G ds) (s : Same G G') : Itr K J G' ds := by
  obtain ⟨Gd, Y, w, h1, h2⟩ := h
  refine ⟨Gd, Y, w, fun H k => h1 H (s.trans k), fun i H x H' hi k y => ?_⟩
  rcases h2 i H x H' hi (s.trans k) y with ⟨e, d, h3, h4⟩ | ⟨T, vs, es, h3, h4, h5, h6, h7⟩
  · exact .inl ⟨e, d, h3, dvMono s _ _ h4⟩
  · exact .inr ⟨T, vs, es, h3, h4, h5, h6, dvMonoAll s _ _ h7⟩
theorem itr_list {K : Frg} {G : Hp} {a : Addr} {vs : List V} {ds : List D} (h : G a = some (.lst vs)) (hd : DvAll K G vs ds) : Itr K (Itl K a) G ds := by
  refine ⟨_, _, by rw [← dvAll_len hd]; exact walk_list (K := K) (a := a) (xs := vs), fun H k => SqL.of (k _ _ h), fun i H x H' hi k y => ?_⟩
  obtain ⟨e, q⟩ := y
  obtain ⟨d, h1, h2⟩ := dvAll_getV hd q
  exact .inl ⟨e, d, h1, h2⟩
theorem itr_tup {K : Frg} {G : Hp} {a : Addr} {vs : List V} {ds : List D} (h : SqT K G a vs) (hd : DvAll K G vs ds) : Itr K (Itt K a) G ds := by
  refine ⟨_, _, by rw [← dvAll_len hd]; exact walk_tup (K := K) (a := a) (xs := vs), fun H k => seqT k h, fun i H x H' hi k y => ?_⟩
  obtain ⟨e, q⟩ := y
  obtain ⟨d, h1, h2⟩ := dvAll_getV hd q
  exact .inl ⟨e, d, h1, h2⟩
/-- lo, lo + 1, .. (n of them) -/
def rngD (lo : Int) (n : Nat) : List D := (List.range n).map fun i => .int (lo + (i : Nat))
theorem rngD_get {lo : Int} {n i : Nat} (h : i < n) : (rngD lo n)[i]? = some (.int (lo + (i : Nat))) := by
  unfold rngD; rw [List.getElem?_map, List.getElem?_range h]; rfl
theorem rngD_len (lo : Int) (n : Nat) : (rngD lo n).length = n := by unfold rngD; rw [List.length_map, List.length_range]
theorem itr_rng {K : Frg} {G : Hp} {lo : Int} {n : Nat} : Itr K (L2.Itr lo n) G (rngD lo n) := by
  refine ⟨_, _, by rw [rngD_len]; exact walk_range, fun _ _ => trivial, fun i H x H' hi k y => ?_⟩
  obtain ⟨e, q⟩ := y
  rw [rngD_len] at hi
  refine .inl ⟨e, _, rngD_get hi, ?_⟩
  rw [q]
  exact .int _
section
variable {X : Cx} {pos : Pos} {tg : Expr}
/-- a list's items (an expression that gives a list), a tuple's -/
def lOfL (f : EF) : LF := fun e => (f e).bind fun p => match p.1 with
  | .list xs => some (xs, p.2)
  | _ => none
def lOfT (f : EF) : LF := fun e => (f e).bind fun p => match p.1 with
  | .tuple xs => some (xs, p.2)
  | _ => none
theorem fi_list {a : Expr} {f : EF} (h : FE X a f) : FI X tg a (lOfL f) := ⟨PI.imp (pi_list h.pe) fun σ H R ⟨z, ds, e', rp, hs, hH, hf, q⟩ => by
  subst hs hH
  obtain ⟨⟨x, e1⟩, h1, hf⟩ := Option.bind_eq_some_iff.mp hf
  split at hf
  · rename_i xs hx
    obtain rfl : x = _ := hx
    cases hf
    refine ⟨z, _, _, rp, rfl, rfl, h1, fun v y m r s2 ee p => ?_⟩
    cases p with
    | lst k1 k2 => exact ⟨_, rfl, ⟨_, SqL.of (r.same _ _ k1)⟩, q _ y m r s2 ee (itr_list k1 k2)⟩
  · cases hf⟩
theorem fi_tup {a : Expr} {f : EF} (h : FE X a f) : FI X tg a (lOfT f) := ⟨PI.imp (pi_tup h.pe) fun σ H R ⟨z, ds, e', rp, hs, hH, hf, q⟩ => by
  subst hs hH
  obtain ⟨⟨x, e1⟩, h1, hf⟩ := Option.bind_eq_some_iff.mp hf
  split at hf
  · rename_i xs hx
    obtain rfl : x = _ := hx
    cases hf
    refine ⟨z, _, _, rp, rfl, rfl, h1, fun v y m r s2 ee p => ?_⟩
    cases p with
    | tup k1 k2 => exact ⟨_, rfl, ⟨_, seqT r.same k1⟩, q _ y m r s2 ee (itr_tup k1 k2)⟩
  · cases hf⟩
theorem iter_or {a : Expr} {t1 t2 : TI} (h1 : PI X tg a t1) (h2 : PI X tg a t2) : PI X tg a (fun σ H R => t1 σ H R ∨ t2 σ H R) := ⟨fun pins s σ H R I q => q.elim (h1.run pins s σ H R I) (h2.run pins s σ H R I)⟩
/-- .. of either; which one must be known ahead: by the function's value -/
def lOf (f : EF) : LF := fun e => (f e).bind fun p => match p.1 with
  | .tuple xs => some (xs, p.2)
  | .list xs => some (xs, p.2)
  | _ => none
theorem fi_seq {a : Expr} {f : EF} (h : FE X a f) : FI X tg a (lOf f) := ⟨PI.imp (iter_or (fi_list (tg := tg) h).pi (fi_tup (tg := tg) h).pi) fun σ H R ⟨z, ds, e', rp, hs, hH, hf, q⟩ => by
  subst hs hH
  obtain ⟨⟨x, e1⟩, h1, hf⟩ := Option.bind_eq_some_iff.mp hf
  cases x with
  | tuple xs =>
    have e2 : some (xs, e1) = some (ds, e') := hf
    cases e2
    exact .inr ⟨z, _, _, rp, rfl, rfl, by unfold lOfT; rw [h1]; rfl, q⟩
  | list xs =>
    have e2 : some (xs, e1) = some (ds, e') := hf
    cases e2
    exact .inl ⟨z, _, _, rp, rfl, rfl, by unfold lOfL; rw [h1]; rfl, q⟩
  | none => cases hf
  | bool _ => cases hf
  | int _ => cases hf
  | str _ => cases hf
  | dict _ => cases hf⟩
def lRng1 (f : EF) : LF := fun e => (f e).bind fun p => match p.1 with
  | .int j => if -(2 ^ 62) ≤ j ∧ j < 2 ^ 62 then some (rngD 0 j.toNat, p.2) else none
  | _ => none
theorem fi_rng1 {a : Expr} {f : EF} {p : Pos} (h : FE X a f) (hm : X.mg "range" = none) (hg : Gl X "range" := by rfl) (hs : starEach [a] X.env = [(false, eval a X.env)] := by rfl) (hs2 : starEach [a] X.env = (false, eval a X.env) :: starEach [] X.env := by rfl) : FI X tg (.Call (.Name "range" p) [a] [] pos) (lRng1 f) :=
  ⟨PI.imp (pi_range1 hg hm (pa_cons h.pe pa_nil hs2) hs) fun σ H R ⟨z, ds, e', rp, hz, hH, hf, q⟩ => by
    subst hz hH
    obtain ⟨⟨x, e1⟩, h1, hf⟩ := Option.bind_eq_some_iff.mp hf
    cases x with
    | int j =>
      have hf' : (if -(2 ^ 62) ≤ j ∧ j < 2 ^ 62 then some (rngD 0 j.toNat, e1) else none) = some (ds, e') := hf
      split at hf'
      · rename_i hc
        cases hf'
        refine ⟨z, _, _, rp, rfl, rfl, h1, fun v y m r s2 ee p => ?_⟩
        cases p
        exact ⟨j, rfl, hc.1, hc.2, q _ y m r s2 ee itr_rng⟩
      · cases hf'
    | tuple _ => cases hf
    | list _ => cases hf
    | none => cases hf
    | bool _ => cases hf
    | str _ => cases hf
    | dict _ => cases hf⟩
def lRng2 (f g : EF) : LF := fun e => (f e).bind fun p => (g p.2).bind fun q => match p.1, q.1 with
  | .int i, .int j => if (-(2 ^ 62) ≤ i ∧ i < 2 ^ 62) ∧ -(2 ^ 62) ≤ j ∧ j < 2 ^ 62 then some (rngD i (j - i).toNat, q.2) else none
  | _, _ => none
theorem fi_rng2 {a b : Expr} {f g : EF} {p : Pos} (h : FE X a f) (k : FE X b g) (hm : X.mg "range" = none) (hg : Gl X "range" := by rfl) (hs : starEach [a, b] X.env = [(false, eval a X.env), (false, eval b X.env)] := by rfl) (hs2 : starEach [b] X.env = [(false, eval b X.env)] := by rfl) (hs3 : starEach [a, b] X.env = (false, eval a X.env) :: starEach [b] X.env := by rfl) (hs4 : starEach [b] X.env = (false, eval b X.env) :: starEach [] X.env := by rfl) : FI X tg (.Call (.Name "range" p) [a, b] [] pos) (lRng2 f g) :=
  ⟨PI.imp (pi_range2 hg hm (pa_cons h.pe (pa_cons k.pe pa_nil hs4) hs3) hs hs2) fun σ H R ⟨z, ds, e', rp, hz, hH, hf, q⟩ => by
    subst hz hH
    obtain ⟨⟨x, e1⟩, h1, hf⟩ := Option.bind_eq_some_iff.mp hf
    obtain ⟨⟨x2, e2⟩, h2, hf⟩ := Option.bind_eq_some_iff.mp hf
    split at hf
    · rename_i i j hx hx2
      obtain rfl : x = _ := hx
      obtain rfl : x2 = _ := hx2
      split at hf
      · rename_i hc
        cases hf
        refine ⟨z, _, _, rp, rfl, rfl, h1, fun v y m r s2 ee p => ⟨y, _, _, r, s2, rfl, by rw [ee]; exact h2, fun v2 y2 m2 r2 s3 ee2 p2 => ?_⟩⟩
        cases p; cases p2
        exact ⟨i, j, rfl, ⟨hc.1.1, hc.1.2, hc.2.1, hc.2.2⟩, q _ y2 (m.trans m2) r2 s3 ee2 itr_rng⟩
      · cases hf
    · cases hf⟩
end
end Fl

set_option Elab.async false
set_option linter.all false
set_option maxRecDepth 100000
set_option maxHeartbeats 1000000
set_option autoImplicit false
/-! FnLc: list comprehensions. -/
namespace Fl
open PySem PySem.Spec PyProof.Rows L2
/-- slots forgotten -/
def wipeE (e : Ev) : List Nat → Ev
  | [] => e
  | v :: vs => (wipeE e vs).set v .no
theorem wipeE_len (e : Ev) : ∀ vs : List Nat, (wipeE e vs).length = e.length
  | [] => rfl
  | v :: vs => by unfold wipeE; rw [List.length_set, wipeE_len e vs]
theorem wipeE_get (e : Ev) : ∀ (vs : List Nat) (i : Nat), (wipeE e vs)[i]? = if i ∈ vs ∧ i < e.length then some .no else e[i]?
  | [], i => by rw [if_neg (fun h => nomatch h.1)]; rfl
  | v :: vs, i => by
    unfold wipeE
    by_cases hv : v = i
    · subst hv
      by_cases hl : v < e.length
      · rw [List.getElem?_set_self (by rw [wipeE_len]; exact hl), if_pos ⟨List.mem_cons_self, hl⟩]
      · rw [if_neg (fun h => hl h.2), List.getElem?_eq_none (by rw [List.length_set, wipeE_len]; omega), List.getElem?_eq_none (by omega)]
    · rw [List.getElem?_set_ne hv, wipeE_get e vs i]
      by_cases h : i ∈ vs ∧ i < e.length
      · rw [if_pos h, if_pos ⟨List.mem_cons_of_mem _ h.1, h.2⟩]
      · rw [if_neg h, if_neg (fun q => h ⟨(List.mem_cons.mp q.1).elim (fun z => absurd z.symm hv) (fun z => z), q.2⟩)]
theorem wipe_get (σ : L2.St) : ∀ (vs : List Nat) (i : Nat), (wipe σ vs)[i]? = if i ∈ vs ∧ i < σ.length then some none else σ[i]?
  | [], i => by rw [if_neg (fun h => nomatch h.1)]; rfl
  | v :: vs, i => by
    unfold wipe
    by_cases hv : v = i
    · subst hv
      by_cases hl : v < σ.length
      · rw [List.getElem?_set_self (by rw [wipe_length]; exact hl), if_pos ⟨List.mem_cons_self, hl⟩]
      · rw [if_neg (fun h => hl h.2), List.getElem?_eq_none (by rw [List.length_set, wipe_length]; omega), List.getElem?_eq_none (by omega)]
    · rw [List.getElem?_set_ne hv, wipe_get σ vs i]
      by_cases h : i ∈ vs ∧ i < σ.length
      · rw [if_pos h, if_pos ⟨List.mem_cons_of_mem _ h.1, h.2⟩]
      · rw [if_neg h, if_neg (fun q => h ⟨(List.mem_cons.mp q.1).elim (fun z => absurd z.symm hv) (fun z => z), q.2⟩)]
def Z.wipe (z : Z) (vs : List Nat) : Z := { z with s := L2.wipe z.s vs, e := wipeE z.e vs, F := fun i => if i ∈ vs then [] else z.F i }
theorem Rp.wipe {K : Frg} {z : Z} (r : Rp K z) (vs : List Nat) : Rp K (z.wipe vs) := by
  refine ⟨r.same, ?_, fun i s h => ?_, fun i h => ?_, fun i j a hij hi hj => ?_⟩
  · show (L2.wipe z.s vs).length = (wipeE z.e vs).length
    rw [wipe_length, wipeE_len]; exact r.len
  · have h' : (wipeE z.e vs)[i]? = some s := h
    show SlOk K z.G z.H (((L2.wipe z.s vs)[i]?).join) (if i ∈ vs then [] else z.F i) s
    rw [wipeE_get] at h'
    rw [wipe_get]
    by_cases hv : i ∈ vs
    · rw [if_pos hv]
      by_cases hl : i < z.e.length
      · rw [if_pos ⟨hv, hl⟩] at h'
        cases h'
        rfl
      · rw [if_neg (fun q => hl q.2), List.getElem?_eq_none (by omega)] at h'
        cases h'
    · rw [if_neg hv]
      rw [if_neg (fun q => hv q.1)] at h' ⊢
      exact r.ok i s h'
  · have h' : (wipeE z.e vs).length ≤ i := h
    rw [wipeE_len] at h'
    show (if i ∈ vs then [] else z.F i) = []
    split
    · rfl
    · exact r.out i h'
  · have hi' : a ∈ (if i ∈ vs then [] else z.F i) := hi
    have hj' : a ∈ (if j ∈ vs then [] else z.F j) := hj
    split at hi'
    · cases hi'
    · split at hj'
      · cases hj'
      · exact r.sep i j a hij hi' hj'
/-- forgetting, seen from an earlier state that has no pinned thing in these slots -/
theorem Mv.wipe {z0 z : Z} (m : Mv z0 z) {vs : List Nat} (no : ∀ i ∈ vs, isOw z0.e[i]? = false) : Mv z0 (z.wipe vs) := by
  refine ⟨m.out, m.dom, m.g, m.gn, fun i a h => ?_, fun i h => ?_, (wipeE_len _ _).trans m.ln⟩
  · have h' : a ∈ (if i ∈ vs then [] else z.F i) := h
    split at h'
    · cases h'
    · exact m.fn i a h'
  · have hv : i ∉ vs := fun q => by rw [no i q] at h; cases h
    obtain ⟨h1, h2⟩ := m.kp i h
    show isOw (wipeE z.e vs)[i]? = true ∧ (L2.wipe z.s vs)[i]? = z0.s[i]?
    rw [wipeE_get, wipe_get, if_neg (fun q => hv q.1), if_neg (fun q => hv q.1)]
    exact ⟨h1, h2⟩
/-- slots as they were before -/
def backE (b e : Ev) : List Nat → Ev
  | [] => e
  | v :: vs => (backE b e vs).set v ((b[v]?).getD .no)
theorem backE_len (b e : Ev) : ∀ vs : List Nat, (backE b e vs).length = e.length
  | [] => rfl
  | v :: vs => by unfold backE; rw [List.length_set, backE_len b e vs]
theorem backE_get (b e : Ev) : ∀ (vs : List Nat) (i : Nat), (backE b e vs)[i]? = if i ∈ vs ∧ i < e.length then some ((b[i]?).getD .no) else e[i]?
  | [], i => by rw [if_neg (fun h => nomatch h.1)]; rfl
  | v :: vs, i => by
    unfold backE
    by_cases hv : v = i
    · subst hv
      by_cases hl : v < e.length
      · rw [List.getElem?_set_self (by rw [backE_len]; exact hl), if_pos ⟨List.mem_cons_self, hl⟩]
      · rw [if_neg (fun h => hl h.2), List.getElem?_eq_none (by rw [List.length_set, backE_len]; omega), List.getElem?_eq_none (by omega)]
    · rw [List.getElem?_set_ne hv, backE_get b e vs i]
      by_cases h : i ∈ vs ∧ i < e.length
      · rw [if_pos h, if_pos ⟨List.mem_cons_of_mem _ h.1, h.2⟩]
      · rw [if_neg h, if_neg (fun q => h ⟨(List.mem_cons.mp q.1).elim (fun z => absurd z.symm hv) (fun z => z), q.2⟩)]
/-- one clause: the items one by one -/
def compL (t : GF) (c : BF) (f : EF) (vs : List Nat) : List D → Ev → Option (List D × Ev)
  | [], e => some ([], e)
  | d :: ds, e => (t d e).bind fun e1 => (c e1).bind fun p => if p.1 = true then (f p.2).bind fun q => (compL t c f vs ds (wipeE q.2 vs)).map fun r => (q.1 :: r.1, r.2) else compL t c f vs ds (wipeE p.2 vs)
def oComp (g : LF) (t : GF) (c : BF) (f : EF) (vs : List Nat) : OF := fun e => (g e).bind fun p => if p.1.length ≤ sizeLine ∧ (vs.all fun i => !isOw p.2[i]?) = true then (compL t c f vs p.1 (wipeE p.2 vs)).map fun r => (.li r.1, backE p.2 r.2 vs) else none
def bYes : BF := fun e => some (true, e)
/-- a clause's tests -/
structure FTs (X : Cx) (ifs : List Expr) (c : BF) : Prop where
  pts : PTs X ifs (tT X.K c)
theorem PTs.imp {X : Cx} {e : List Expr} {t t' : TT} (h : PTs X e t) (k : ∀ σ H Q, t' σ H Q → t σ H Q) : PTs X e t' := ⟨fun pins s σ H Q I q => h.run pins s σ H Q I (k _ _ _ q)⟩
theorem fts_nil {X : Cx} : FTs X [] bYes := ⟨PTs.imp pts_nil fun σ H Q ⟨z, d, e', rp, hs, hH, hf, q⟩ => by
  subst hs hH
  cases hf
  exact q z (Mv.refl z) rp rfl rfl⟩
theorem fts_one {X : Cx} {a : Expr} {c : BF} (h : FT X a c) : FTs X [a] c := ⟨pts_one h.pt⟩
theorem wipe_eq {σ σ' : L2.St} {vs ws : List Nat} (hl : σ'.length = σ.length) (h : ∀ j : Nat, j ∉ ws → σ'[j]? = σ[j]?) (hw : ∀ j ∈ ws, j ∈ vs) : L2.wipe σ' vs = L2.wipe σ vs := by
  apply List.ext_getElem?
  intro i
  rw [wipe_get, wipe_get, hl]
  by_cases hv : i ∈ vs
  · by_cases hi : i < σ.length
    · rw [if_pos ⟨hv, hi⟩, if_pos ⟨hv, hi⟩]
    · rw [if_neg (fun q => hi q.2), if_neg (fun q => hi q.2), List.getElem?_eq_none (by omega), List.getElem?_eq_none (by omega)]
  · rw [if_neg (fun q => hv q.1), if_neg (fun q => hv q.1)]
    exact h i fun q => hv (hw i q)
theorem wipe_wipe (σ : L2.St) (vs : List Nat) : L2.wipe (L2.wipe σ vs) vs = L2.wipe σ vs := wipe_eq (ws := vs) (wipe_length _ _) (fun j hj => by rw [wipe_get, if_neg (fun q => hj q.1)]) fun _ h => h
/-- a list of the heap alone is written -/
theorem Rp.write {K : Frg} {z y : Z} (r : Rp K y) {a : Addr} {o o' : HO} (h1 : y.H a = some o') (h2 : y.G a = none) (h3 : ∀ j, a ∉ y.F j) (m : Mv z y) (hn : z.H a = none) : Rp K { y with H := upd y.H a o } ∧ Mv z { y with H := upd y.H a o } := by
  refine ⟨⟨fun b x e => ?_, r.len, fun i s e => slFrame (r.ok i s e) (Same.refl _) (fun b hb => upd_ne (memNe (h3 i) hb)) fun b hb => (r.live hb).1, r.out, r.sep⟩, ⟨fun b u e hf => ?_, fun b hb => upd_none (m.dom b hb), m.g, m.gn, m.fn, m.kp, m.ln⟩⟩
  · show upd y.H a o b = some x
    rw [upd_ne (ne_of_none e h2)]; exact r.same _ _ e
  · show upd y.H a o b = some u
    rw [upd_ne (ne_of_none e hn)]; exact m.out b u e hf
section
variable {X : Cx} {pos : Pos}
theorem lc_run {K : Frg} {J : It} {y0 : Z} {ds : List D} {t : GF} {ws vs : List Nat} {c : BF} {f : EF} {xs : List D} {eN : Ev} {D0 : Addr} {Qd : Hp → Prop} {σ : L2.St}
    (r0 : Rp K y0) (hσ : L2.wipe σ vs = y0.s) (he : ∀ i ∈ vs, i < y0.e.length → y0.e[i]? = some .no) (hJ : Itr K J y0.G ds) (hws : ∀ j ∈ ws, j ∈ vs) (hlen : ds.length ≤ sizeLine) (hD : y0.H D0 = none)
    (hc : compL t c f vs ds y0.e = some (xs, eN))
    (hd : ∀ y ws', Mv y0 y → Rp K y → y.s = y0.s → y.e = eN → y.H D0 = some (.lst ws') → y.G D0 = none → (∀ j, D0 ∉ y.F j) → DvAll K y.G ws' xs → (∀ i ∈ vs, i < y.e.length → y.e[i]? = some .no) → Qd y.H) :
    ∃ W : Nat → Nat → Hp → Prop, (∃ m, W 0 m (upd y0.H D0 (.lst []))) ∧ ∀ i m H, W i m H →
      (J.stop i H ∧ Qd H) ∨ (J.go i H ∧ ∃ Nx : Hp → Prop, (∀ H', Nx H' → ∃ m', m' < m ∧ W (i + 1) m' H') ∧ ∀ x H', J.yld i H x H' → tG K t ws x (L2.wipe σ vs) H' fun σ2 H2 => L2.wipe σ2 vs = L2.wipe σ vs ∧ tT K c σ2 H2 fun b H3 =>
        if b = true then tE K f σ2 H3 fun y H4 => ∃ acc, H4 D0 = some (.lst acc) ∧ acc.length < sizeLine ∧ Nx (upd H4 D0 (.lst (acc ++ [y]))) else Nx H3) := by
  obtain ⟨Gd, Y, w, hG1, hG2⟩ := hJ
  obtain ⟨rn, mn⟩ := r0.new (o := .lst []) hD
  have hvs : ∀ i ∈ vs, isOw y0.e[i]? = false := fun i hi => by
    by_cases hl : i < y0.e.length
    · rw [he i hi hl]; rfl
    · rw [List.getElem?_eq_none (by omega)]; rfl
  refine lc_it w (fun i H => ∃ y acc don, y.H = H ∧ Rp K y ∧ y.s = y0.s ∧ Mv y0 y ∧ y.H D0 = some (.lst acc) ∧ y.G D0 = none ∧ (∀ j, D0 ∉ y.F j) ∧ DvAll K y.G acc don ∧ acc.length ≤ i ∧
    (∀ i ∈ vs, i < y.e.length → y.e[i]? = some .no) ∧ ∃ xs', compL t c f vs (ds.drop i) y.e = some (xs', eN) ∧ don ++ xs' = xs) ?_ ?_ ?_ ?_
  · exact ⟨y0.new D0 (.lst []), [], [], rfl, rn, rfl, mn, upd_same, (r0.fresh hD).1, (r0.fresh hD).2, .nil, Nat.le_refl _, he, xs, hc, rfl⟩
  · rintro i H hi ⟨y, acc, don, rfl, r, _, m, _⟩
    exact hG1 _ (m.g.trans r.same)
  · rintro i x H H' hi ⟨y, acc, don, rfl, r, hs, m, hD1, hD2, hD3, hA, hl, hno, xs', hcl, hxs⟩ hy
    have hsm : Same y0.G y.H := m.g.trans r.same
    -- the state with the item
    obtain ⟨y1, d, r1, m1, s1, e1, hH1, hdi, hdv, hD1', hD2', hD3', hA'⟩ : ∃ (y1 : Z) (d : D), Rp K y1 ∧ Mv y y1 ∧ y1.s = y.s ∧ y1.e = y.e ∧ y1.H = H' ∧ ds[i]? = some d ∧ Dv K y1.G x d ∧ y1.H D0 = some (.lst acc) ∧ y1.G D0 = none ∧ (∀ j, D0 ∉ y1.F j) ∧ DvAll K y1.G acc don := by
      rcases hG2 i y.H x H' hi hsm hy with ⟨e, d, h3, h4⟩ | ⟨T, tv, es, h3, h4, h5, h6, h7⟩
      · exact ⟨y, d, r, Mv.refl y, rfl, rfl, e.symm, h3, dvMono m.g _ _ h4, hD1, hD2, hD3, hA⟩
      · obtain ⟨ra, ma⟩ := r.add (o := .tup tv) h4
        have hne : D0 ≠ T := ne_of_none hD1 h4
        refine ⟨y.add T (.tup tv), .tuple es, ra, ma, rfl, rfl, h5.symm, h6, ?_, ?_, ?_, hD3, dvMonoAll ma.g _ _ hA⟩
        · rw [h3]
          exact .tup (SqT.of upd_same) (dvMonoAll (m.g.trans ma.g) _ _ h7)
        · show upd y.H T (.tup tv) D0 = _
          rw [upd_ne hne]; exact hD1
        · show upd y.G T (.tup tv) D0 = none
          rw [upd_ne hne]; exact hD2
    have hdrop : ds.drop i = d :: ds.drop (i + 1) := by
      obtain ⟨h1, h2⟩ := List.getElem?_eq_some_iff.mp hdi
      rw [← h2, List.drop_eq_getElem_cons h1]
    rw [hdrop] at hcl
    unfold compL at hcl
    obtain ⟨ea, ht, hcl⟩ := Option.bind_eq_some_iff.mp hcl
    obtain ⟨⟨b, eb⟩, hcc, hcl⟩ := Option.bind_eq_some_iff.mp hcl
    refine ⟨y1, d, ea, r1, by rw [s1, hs, hσ], hH1, hdv, by rw [e1]; exact ht, fun y2 m2 r2 e2 eH2 eG2 es2 => ⟨?_, ?_⟩⟩
    · rw [wipe_eq (σ := y1.s) (ws := ws) (by rw [r2.len, r1.len, m2.ln]) es2 hws, s1, hs, ← hσ, wipe_wipe]
    · have mm := (m.trans m1).trans m2
      refine ⟨y2, b, eb, r2, rfl, rfl, by rw [e2]; exact hcc, fun y3 m3 r3 s3 e3 => ?_⟩
      have keep : ∀ {p q : Z}, Mv p q → p.H D0 = some (.lst acc) → p.G D0 = none → (∀ j, D0 ∉ p.F j) → q.H D0 = some (.lst acc) ∧ q.G D0 = none ∧ (∀ j, D0 ∉ q.F j) := fun {p q} mv h1 h2 h3 =>
        ⟨mv.out _ _ h1 h3, (mv.gn _ (by rw [h1]; exact nofun) h3).trans h2, fun j hj => (mv.fn j _ hj).elim (h3 j) fun z => by rw [h1] at z; cases z⟩
      obtain ⟨k1, k2, k3⟩ := keep m2 hD1' hD2' hD3'
      obtain ⟨k1, k2, k3⟩ := keep m3 k1 k2 k3
      have hs3 : L2.wipe y3.s vs = y0.s := by
        rw [s3, wipe_eq (σ := y1.s) (ws := ws) (by rw [r2.len, r1.len, m2.ln]) es2 hws, s1, hs, ← hσ, wipe_wipe]
      cases b with
      | false =>
        have hcl' : compL t c f vs (ds.drop (i + 1)) (wipeE eb vs) = some (xs', eN) := hcl
        refine iteF ⟨y3.wipe vs, acc, don, rfl, r3.wipe vs, hs3, (mm.trans m3).wipe hvs, k1, k2, fun j hj => ?_, dvMonoAll (m2.g.trans m3.g) _ _ hA', by omega, fun j hj hjl => ?_, xs', ?_, hxs⟩
        · have hj' : D0 ∈ (if j ∈ vs then [] else y3.F j) := hj
          split at hj'
          · cases hj'
          · exact k3 j hj'
        · show (wipeE y3.e vs)[j]? = some .no
          rw [wipeE_get, if_pos ⟨hj, by have : j < (wipeE y3.e vs).length := hjl
                                        rw [wipeE_len] at this; exact this⟩]
        · show compL t c f vs (ds.drop (i + 1)) (wipeE y3.e vs) = some (xs', eN)
          rw [e3]; exact hcl'
      | true =>
        obtain ⟨⟨dv, ef⟩, hff, hcl⟩ := Option.bind_eq_some_iff.mp (show ((f eb).bind fun q => (compL t c f vs (ds.drop (i + 1)) (wipeE q.2 vs)).map fun r => (q.1 :: r.1, r.2)) = some (xs', eN) from hcl)
        obtain ⟨⟨xr, er⟩, hcr, hcl⟩ := Option.map_eq_some_iff.mp hcl
        cases hcl
        refine iteT ⟨y3, dv, ef, r3, s3, rfl, by rw [e3]; exact hff, fun v y4 m4 r4 s4 e4 p4 => ?_⟩
        obtain ⟨k1, k2, k3⟩ := keep m4 k1 k2 k3
        refine ⟨acc, k1, by have := (List.getElem?_eq_some_iff.mp hdi).1; omega, ?_⟩
        -- the list grows
        obtain ⟨r5, m5⟩ := r4.write (o := .lst (acc ++ [v])) k1 k2 k3 ((mm.trans m3).trans m4) hD
        refine ⟨Z.wipe { y4 with H := upd y4.H D0 (.lst (acc ++ [v])) } vs, acc ++ [v], don ++ [dv], rfl, r5.wipe vs, ?_, m5.wipe hvs, upd_same, k2, fun j hj => ?_, dvAll_app (dvMonoAll ((m2.g.trans m3.g).trans m4.g) _ _ hA') (dvAll_one p4), by rw [List.length_append]; simp; omega, fun j hj hjl => ?_, xr, ?_, by rw [List.append_assoc]; exact hxs⟩
        · show L2.wipe y4.s vs = y0.s
          rw [s4, ← s3]; exact hs3
        · have hj' : D0 ∈ (if j ∈ vs then [] else y4.F j) := hj
          split at hj'
          · cases hj'
          · exact k3 j hj'
        · show (wipeE y4.e vs)[j]? = some .no
          rw [wipeE_get, if_pos ⟨hj, by have : j < (wipeE y4.e vs).length := hjl
                                        rw [wipeE_len] at this; exact this⟩]
        · show compL t c f vs (ds.drop (i + 1)) (wipeE y4.e vs) = some (xr, _)
          rw [e4]; exact hcr
  · rintro H ⟨y, acc, don, rfl, r, hs, m, hD1, hD2, hD3, hA, hl, hno, xs', hcl, hxs⟩
    rw [List.drop_length] at hcl
    unfold compL at hcl
    cases hcl
    rw [List.append_nil] at hxs
    subst hxs
    exact hd y acc m r hs rfl hD1 hD2 hD3 hA hno
/-- what tLc asks, by a plain function -/
theorem lc_tO {K : Frg} {wi : TI} {gl : LF} {t : GF} {ws vs : List Nat} {cf : BF} {f : EF} {σ : L2.St} {H : Hp} {Q : VK} (hwi : ∀ σ H R, tI K gl σ H R → wi σ H R) (hws : ∀ j ∈ ws, j ∈ vs) (q : tO K (oComp gl t cf f vs) σ H Q) : tLc wi (tG K t ws) (tT K cf) (tE K f) vs σ H Q := by
  obtain ⟨z, r0, e', rp, hs, hH, hf, q⟩ := q
  subst hs hH
  obtain ⟨⟨ds, e1'⟩, h1, hf⟩ := Option.bind_eq_some_iff.mp hf
  split at hf
  · rename_i hc
    obtain ⟨⟨xs, eN⟩, h2, hf⟩ := Option.map_eq_some_iff.mp hf
    cases hf
    refine hwi _ _ _ ⟨z, ds, e1', rp, rfl, rfl, h1, fun J y m r s2 ee it D0 hn => ?_⟩
    have hno : ∀ i ∈ vs, isOw y.e[i]? = false := fun i hi => by
      have := List.all_eq_true.mp hc.2 i hi
      rw [ee]
      simpa using this
    have h2' : compL t cf f vs ds (y.wipe vs).e = some (xs, eN) := by
      show compL t cf f vs ds (wipeE y.e vs) = some (xs, eN)
      rw [ee]; exact h2
    have := lc_run (y0 := y.wipe vs) (σ := z.s) (Qd := fun H => Q (.ref D0) H) (J := J) (D0 := D0) (r.wipe vs) (by show L2.wipe z.s vs = L2.wipe y.s vs; rw [s2]) (fun i hi hl => by
        have hl' : i < (wipeE y.e vs).length := hl
        rw [wipeE_len] at hl'
        show (wipeE y.e vs)[i]? = some .no
        rw [wipeE_get, if_pos ⟨hi, hl'⟩]) (show Itr K J y.G ds from it) hws hc.1 (show y.H D0 = none from hn) h2' (fun u wl mu ru su eu hu1 hu2 hu3 hu4 hu5 => ?_)
    · exact this
    · -- back at the slots as they were
      have e1 : ∀ i : Nat, i ∉ vs → u.s[i]? = z.s[i]? := fun i hi => by
        rw [su]
        show (L2.wipe y.s vs)[i]? = z.s[i]?
        rw [wipe_get, if_neg (fun q => hi q.1), s2]
      have hlen : u.e.length = y.e.length := by
        rw [mu.ln]
        show (wipeE y.e vs).length = y.e.length
        rw [wipeE_len]
      have uF : ∀ (i : Nat) (a : Addr), a ∈ u.F i → (i ∉ vs ∧ a ∈ y.F i) ∨ y.H a = none := fun i a ha => by
        rcases mu.fn i a ha with h | h
        · have h' : a ∈ (if i ∈ vs then [] else y.F i) := h
          split at h'
          · cases h'
          · rename_i hi; exact .inl ⟨hi, h'⟩
        · exact .inr h
      have yH : ∀ (i : Nat) (a : Addr), i ∈ vs → a ∈ y.F i → u.H a = y.H a ∧ u.G a = none := fun i a hi ha => by
        obtain ⟨l1, l2⟩ := r.live ha
        have nin : ∀ j, a ∉ (y.wipe vs).F j := fun j hj => by
          have hj' : a ∈ (if j ∈ vs then [] else y.F j) := hj
          split at hj'
          · cases hj'
          · rename_i hjv
            exact r.sep i j a (fun e => hjv (e ▸ hi)) ha hj'
        refine ⟨?_, (mu.gn a l2 nin).trans l1⟩
        cases hq : y.H a with
        | none => exact absurd hq l2
        | some o => exact mu.out a o hq nin
      have ru' : Rp K { u with s := z.s, e := backE y.e u.e vs, F := fun i => if i ∈ vs then y.F i else u.F i } := by
        refine ⟨ru.same, ?_, fun i s h => ?_, fun i h => ?_, fun i j a hij hi hj => ?_⟩
        · show z.s.length = (backE y.e u.e vs).length
          rw [backE_len, ← s2, r.len, hlen]
        · have h' : (backE y.e u.e vs)[i]? = some s := h
          show SlOk K u.G u.H ((z.s[i]?).join) (if i ∈ vs then y.F i else u.F i) s
          rw [backE_get] at h'
          by_cases hi : i ∈ vs
          · rw [if_pos hi]
            by_cases hl : i < u.e.length
            · rw [if_pos ⟨hi, hl⟩] at h'
              cases hq : y.e[i]? with
              | none => rw [List.getElem?_eq_none_iff] at hq; omega
              | some sl =>
                rw [hq] at h'
                cases h'
                rw [← s2]
                exact slFrame (r.ok i _ hq) mu.g (fun a ha => (yH i a hi ha).1) fun a ha => (yH i a hi ha).2
            · rw [if_neg (fun q => hl q.2), List.getElem?_eq_none (by omega)] at h'
              cases h'
          · rw [if_neg hi]
            rw [if_neg (fun q => hi q.1)] at h'
            rw [← e1 i hi]
            exact ru.ok i s h'
        · have h' : (backE y.e u.e vs).length ≤ i := h
          rw [backE_len] at h'
          show (if i ∈ vs then y.F i else u.F i) = []
          split
          · exact r.out i (by omega)
          · exact ru.out i h'
        · have hi' : a ∈ (if i ∈ vs then y.F i else u.F i) := hi
          have hj' : a ∈ (if j ∈ vs then y.F j else u.F j) := hj
          split at hi'
          · split at hj'
            · exact r.sep i j a hij hi' hj'
            · rcases uF j a hj' with ⟨_, h⟩ | h
              · exact r.sep i j a hij hi' h
              · exact (r.live hi').2 h
          · split at hj'
            · rcases uF i a hi' with ⟨_, h⟩ | h
              · exact r.sep i j a hij h hj'
              · exact (r.live hj').2 h
            · exact ru.sep i j a hij hi' hj'
      have mz : Mv z { u with s := z.s, e := backE y.e u.e vs, F := fun i => if i ∈ vs then y.F i else u.F i } := by
        refine ⟨fun a o ha hf => ?_, fun a ha => mu.dom a (m.dom a ha), m.g.trans mu.g, fun a ha hk => (mu.gn a (m.dom a ha) fun i hi => by
          have hi' : a ∈ (if i ∈ vs then [] else y.F i) := hi
          split at hi'
          · cases hi'
          · rcases m.fn i a hi' with h | h
            · exact hk i h
            · exact ha h).trans (m.gn a ha hk), fun i a ha => ?_, fun i hi => ?_, ?_⟩
        · refine mu.out a o (m.out a o ha hf) fun i hi => ?_
          have hi' : a ∈ (if i ∈ vs then [] else y.F i) := hi
          split at hi'
          · cases hi'
          · rcases m.fn i a hi' with h | h
            · exact hf i h
            · rw [ha] at h; cases h
        · have ha' : a ∈ (if i ∈ vs then y.F i else u.F i) := ha
          split at ha'
          · exact m.fn i a ha'
          · rcases uF i a ha' with ⟨_, h⟩ | h
            · exact m.fn i a h
            · by_cases hz : z.H a = none
              · exact .inr hz
              · exact absurd h (m.dom a hz)
        · obtain ⟨k1, k2⟩ := m.kp i hi
          have hiv : i ∉ vs := fun q => by rw [hno i q] at k1; cases k1
          have k3 : isOw (y.wipe vs).e[i]? = true := by
            show isOw (wipeE y.e vs)[i]? = true
            rw [wipeE_get, if_neg (fun q => hiv q.1)]; exact k1
          refine ⟨?_, rfl⟩
          show isOw (backE y.e u.e vs)[i]? = true
          rw [backE_get, if_neg (fun q => hiv q.1)]
          exact (mu.kp i k3).1
        · show (backE y.e u.e vs).length = z.e.length
          rw [backE_len, hlen, m.ln]
      refine q (.ref D0) { u with s := z.s, e := backE y.e u.e vs, F := fun i => if i ∈ vs then y.F i else u.F i } [D0] mz ru' rfl (by show backE y.e u.e vs = backE e1' eN vs; rw [eu, ee]) ⟨D0, wl, rfl, rfl, hu2, hu1, hu4⟩ fun a ha => ?_
      rw [List.mem_singleton.mp ha]
      refine ⟨?_, fun i hi => ?_⟩
      · by_cases hz : z.H D0 = none
        · exact hz
        · exact absurd hn (m.dom D0 hz)
      · have hi' : D0 ∈ (if i ∈ vs then y.F i else u.F i) := hi
        split at hi'
        · exact (r.live hi').2 hn
        · exact hu3 i hi'
  · cases hf
theorem fo_lc {k : Nat} {elt tg iter : Expr} {ifs : List Expr} {scope : Scope} {own : List (Str × Nat)} {gl : LF} {t : GF} {ws vs : List Nat} {cf : BF} {f : EF} (c : Cc X k) (hi : FI X tg iter gl) (ok : BlkOk X.N X.env.scope scope own)
    (hg : ∀ (s : Shared) (H : Hp) (C : Addr) (cl : List (Str × Addr)) (fp : List Addr), FG (X.blk s H scope (compEnvC scope cl C X.env) fp) tg t ws)
    (ht : ∀ (s : Shared) (H : Hp) (C : Addr) (cl : List (Str × Addr)) (fp : List Addr), FTs (X.blk s H scope (compEnvC scope cl C X.env) fp) ifs cf)
    (he : ∀ (s : Shared) (H : Hp) (C : Addr) (cl : List (Str × Addr)) (fp : List Addr), FE (X.blk s H scope (compEnvC scope cl C X.env) fp) elt f)
    (hvs : own.map (·.2) = vs := by rfl) (hws : ∀ j ∈ ws, j ∈ vs := by decide) (hs : ∀ x, foldedSetIterable iter X.env x = pure x := by intro _; rfl) :
    FO X (.ListComp elt [⟨tg, iter, ifs, 0⟩] scope pos) (oComp gl t cf f vs) := by
  subst hvs
  exact ⟨PE.imp (pe_lc c.calm c.nd hi.pi ok (fun s H C cl fp => (hg s H C cl fp).pg) (fun s H C cl fp => (ht s H C cl fp).pts) (fun s H C cl fp => (he s H C cl fp).pe) hs) fun σ H Q q => lc_tO (fun _ _ _ h => h) hws q⟩
end
end Fl

set_option Elab.async false
set_option linter.all false
set_option maxRecDepth 100000
set_option maxHeartbeats 1000000
set_option autoImplicit false
/-! FnSt: statements by plain functions. -/
namespace Fl
open PySem PySem.Spec PyProof.Rows L2
/-! ### small statements -/
def sNext : SF := fun e => some (.nx e)
def sBreak : SF := fun e => some (.bk e)
def sCont : SF := fun e => some (.ct e)
/-- code that is not reached -/
def sNever : SF := fun _ => none
def sSeq (f g : SF) : SF := fun e => (f e).bind fun o => match o with
  | .nx e1 => g e1
  | o => some o
/-- what is wanted at an outcome, seen from z -/
def Out (K : Frg) (z : Z) (D : Ends) : O → Prop
  | .nx e' => ∀ y, Mv z y → Rp K y → y.e = e' → D.nx y.s y.H
  | .bk e' => ∀ y, Mv z y → Rp K y → y.e = e' → D.bk y.s y.H
  | .ct e' => ∀ y, Mv z y → Rp K y → y.e = e' → D.ct y.s y.H
  | .rt r e' => ∀ v y Fr, Mv z y → Rp K y → y.e = e' → SlOk K y.G y.H (some v) Fr r → (∀ a ∈ Fr, ∀ i, a ∉ y.F i) → (∀ a ∈ Fr, (∃ j : Nat, isOw z.e[j]? = false ∧ a ∈ z.F j) ∨ z.H a = none) → D.rt v y.H
theorem tS_out {K : Frg} {f : SF} {D : Ends} {σ : L2.St} {H : Hp} : tS K f D σ H ↔ ∃ z o, Rp K z ∧ z.s = σ ∧ z.H = H ∧ f z.e = some o ∧ Out K z D o := by
  unfold tS Out
  constructor
  · rintro ⟨z, o, h1, h2, h3, h4, h5⟩
    refine ⟨z, o, h1, h2, h3, h4, ?_⟩
    cases o <;> exact h5
  · rintro ⟨z, o, h1, h2, h3, h4, h5⟩
    refine ⟨z, o, h1, h2, h3, h4, ?_⟩
    cases o <;> exact h5
theorem Out.mv {K : Frg} {z y : Z} {D : Ends} {o : O} (h : Out K z D o) (m : Mv z y) : Out K y D o := by
  cases o with
  | nx e' => exact fun x mx rx ee => h x (m.trans mx) rx ee
  | bk e' => exact fun x mx rx ee => h x (m.trans mx) rx ee
  | ct e' => exact fun x mx rx ee => h x (m.trans mx) rx ee
  | rt r e' =>
    refine fun v x Fr mx rx ee so hf hg => h v x Fr (m.trans mx) rx ee so hf fun a ha => ?_
    rcases hg a ha with ⟨j, h1, h2⟩ | h1
    · rcases m.fn j a h2 with h3 | h3
      · refine .inl ⟨j, ?_, h3⟩
        cases q : isOw z.e[j]? with
        | false => rfl
        | true => rw [(m.kp j q).1] at h1; cases h1
      · exact .inr h3
    · by_cases q : z.H a = none
      · exact .inr q
      · exact absurd h1 (m.dom a q)
section
variable {X : Cx} {pos : Pos}
theorem fs_of {st : Stmt} {t : TS} {f : SF} (h : PS X st t) (k : ∀ D z o, Rp X.K z → f z.e = some o → Out X.K z D o → t D z.s z.H) : FS X st f := ⟨PS.imp h fun D σ H q => by
  obtain ⟨z, o, h1, h2, h3, h4, h5⟩ := tS_out.mp q
  subst h2 h3
  exact k D z o h1 h4 h5⟩
theorem fss_of {st : List Stmt} {t : TS} {f : SF} (h : PSs X st t) (k : ∀ D z o, Rp X.K z → f z.e = some o → Out X.K z D o → t D z.s z.H) : FSs X st f := ⟨PSs.imp h fun D σ H q => by
  obtain ⟨z, o, h1, h2, h3, h4, h5⟩ := tS_out.mp q
  subst h2 h3
  exact k D z o h1 h4 h5⟩
theorem fss_nil : FSs X [] sNext := fss_of pss_nil fun D z o r h q => by
  cases h
  exact q z (Mv.refl z) r rfl
theorem fss_cons {st : Stmt} {rest : List Stmt} {f g : SF} (h1 : FS X st f) (h2 : FSs X rest g) : FSs X (st :: rest) (sSeq f g) := fss_of (pss_cons h1.ps h2.ps) fun D z o r h q => by
  obtain ⟨o1, k1, k2⟩ := Option.bind_eq_some_iff.mp h
  refine tS_out.mpr ⟨z, o1, r, rfl, rfl, k1, ?_⟩
  cases o1 with
  | nx e1 => exact fun y m ry ee => tS_out.mpr ⟨y, o, ry, rfl, rfl, by rw [ee]; exact k2, q.mv m⟩
  | bk e1 => cases k2; exact q
  | ct e1 => cases k2; exact q
  | rt r1 e1 => cases k2; exact q
theorem fss_one {st : Stmt} {f : SF} (h : FS X st f) : FSs X [st] f := ⟨pss_one h.ps⟩
theorem fs_pass : FS X (.Pass pos) sNext := fs_of ps_pass fun D z o r h q => by
  cases h
  exact q z (Mv.refl z) r rfl
theorem fs_break : FS X (.Break pos) sBreak := fs_of ps_break fun D z o r h q => by
  cases h
  exact q z (Mv.refl z) r rfl
theorem fs_cont : FS X (.Continue pos) sCont := fs_of ps_continue fun D z o r h q => by
  cases h
  exact q z (Mv.refl z) r rfl
theorem fs_never {st : Stmt} : FS X st sNever := ⟨⟨fun pins s σ H D I q => by
  obtain ⟨z, o, h1, h2, h3, h4, h5⟩ := tS_out.mp q
  cases h4⟩⟩
/-- a docstring -/
theorem fs_doc {x j pos'} : FS X (.Expr (.Constant (.str x) j pos) pos') sNext := fs_of ps_doc fun D z o r h q => by
  cases h
  exact q z (Mv.refl z) r rfl
def sDrop (f : EF) : SF := fun e => (f e).map fun p => .nx p.2
theorem fs_expr {a : Expr} {f : EF} (h : FE X a f) (hs : swapsWith a none pos.line X.env = pure false := by rfl) : FS X (.Expr a pos) (sDrop f) := fs_of (ps_expr h.pe hs) fun D z o r h q => by
  obtain ⟨⟨d, e1⟩, h1, h2⟩ := Option.map_eq_some_iff.mp h
  subst h2
  exact ⟨z, d, e1, r, rfl, rfl, h1, fun v y m r2 s2 ee p => by
    show D.nx z.s y.H
    rw [← s2]; exact q y m r2 ee⟩
def sRet (f : EF) : SF := fun e => (f e).map fun p => .rt (.va p.1) p.2
theorem fs_ret {a : Expr} {f : EF} (h : FE X a f) : FS X (.Return (some a) pos) (sRet f) := fs_of (ps_ret h.pe) fun D z o r h q => by
  obtain ⟨⟨d, e1⟩, h1, h2⟩ := Option.map_eq_some_iff.mp h
  subst h2
  exact ⟨z, d, e1, r, rfl, rfl, h1, fun v y m r2 s2 ee p => q v y [] m r2 ee ⟨rfl, v, rfl, p⟩ (fun _ h => nomatch h) fun _ h => nomatch h⟩
/-- a thing of its own is handed back -/
def sRetO (f : OF) : SF := fun e => (f e).map fun p => .rt p.1 p.2
theorem fs_retO {a : Expr} {f : OF} (h : FO X a f) : FS X (.Return (some a) pos) (sRetO f) := fs_of (ps_ret h.po) fun D z o r h q => by
  obtain ⟨⟨d, e1⟩, h1, h2⟩ := Option.map_eq_some_iff.mp h
  subst h2
  exact ⟨z, d, e1, r, rfl, rfl, h1, fun v y Fr m r2 s2 ee p hf => q v y Fr m r2 ee p (fun a ha => (hf a ha).2) fun a ha => .inr (hf a ha).1⟩
theorem fs_retNone : FS X (.Return none pos) (sRet (eC .none)) := fs_of ps_retN fun D z o r h q => by
  cases h
  exact q .non z [] (Mv.refl z) r rfl ⟨rfl, _, rfl, .non⟩ (fun _ h => nomatch h) fun _ h => nomatch h
/-- a name's own thing is handed back: the name has nothing behind it -/
def sRetN (i : Nat) : SF := fun e => e[i]?.bind fun s => match s with
  | .va d => some (.rt (.va d) e)
  | .li xs => some (.rt (.li xs) (e.set i .no))
  | .di xs => some (.rt (.di xs) (e.set i .no))
  | .dt xs => some (.rt (.dt xs) (e.set i .no))
  | _ => none
def Z.dropS (z : Z) (i : Nat) : Z := { z with e := z.e.set i .no, F := fun j => if j = i then [] else z.F j }
theorem Rp.drop {K : Frg} {z : Z} (r : Rp K z) (i : Nat) (no : isOw z.e[i]? = false) : Rp K (z.dropS i) ∧ Mv z (z.dropS i) := by
  refine ⟨⟨r.same, by show z.s.length = (z.e.set i .no).length; rw [List.length_set]; exact r.len, fun j s h => ?_, fun j h => ?_, fun j k a hjk hj hk => ?_⟩, ⟨fun _ _ h _ => h, fun _ h => h, Same.refl _, fun _ _ _ => rfl, fun j a h => ?_, fun j h => ?_, List.length_set ..⟩⟩
  · have h' : (z.e.set i .no)[j]? = some s := h
    show SlOk K z.G z.H (z.s[j]?).join (if j = i then [] else z.F j) s
    by_cases e : j = i
    · subst e
      have hl : j < z.e.length := by have := (List.getElem?_eq_some_iff.mp h').1; rw [List.length_set] at this; exact this
      rw [List.getElem?_set_self hl] at h'
      cases h'
      rw [if_pos rfl]; rfl
    · rw [List.getElem?_set_ne (Ne.symm e)] at h'
      rw [if_neg e]; exact r.ok j s h'
  · have h' : (z.e.set i .no).length ≤ j := h
    rw [List.length_set] at h'
    show (if j = i then [] else z.F j) = []
    split
    · rfl
    · exact r.out j h'
  · have hj' : a ∈ (if j = i then [] else z.F j) := hj
    have hk' : a ∈ (if k = i then [] else z.F k) := hk
    split at hj'
    · cases hj'
    · split at hk'
      · cases hk'
      · exact r.sep j k a hjk hj' hk'
  · have h' : a ∈ (if j = i then [] else z.F j) := h
    split at h'
    · cases h'
    · exact .inl h'
  · have e : i ≠ j := fun e => by rw [← e, no] at h; cases h
    show isOw (z.e.set i .no)[j]? = true ∧ z.s[j]? = z.s[j]?
    rw [List.getElem?_set_ne e]; exact ⟨h, rfl⟩
theorem fs_retN {i : Nat} {x : Str} {p : Pos} (hN : X.N[i]? = some x) (hv : Vis X.env.scope x) (hd : (x == ("__debug__" : Str)) = false := by decide) (hcd : (x == ("__classdict__" : Str)) = false := by decide) : FS X (.Return (some (.Name x p)) pos) (sRetN i) :=
  fs_of (ps_ret (pe_var hN hv hd hcd)) fun D z o r h q => by
    obtain ⟨s, h1, h2⟩ := Option.bind_eq_some_iff.mp h
    have so := r.ok i s h1
    cases s with
    | va d =>
      cases h2
      obtain ⟨v, k1, k2⟩ := r.var h1
      exact ⟨v, k1, q v z [] (Mv.refl z) r rfl ⟨rfl, v, rfl, k2⟩ (fun _ h => nomatch h) fun _ h => nomatch h⟩
    | li xs =>
      cases h2
      have no : isOw z.e[i]? = false := by rw [h1]; rfl
      obtain ⟨a, vs, e1, e2, e3, e4, e5⟩ := so
      obtain ⟨r2, m2⟩ := r.drop i no
      refine ⟨.ref a, joinSome e1, q (.ref a) (z.dropS i) [a] m2 r2 rfl ⟨a, vs, rfl, rfl, e3, e4, e5⟩ (fun b hb j hj => ?_) fun b hb => .inl ⟨i, no, by rw [e2]; exact hb⟩⟩
      have hj' : b ∈ (if j = i then [] else z.F j) := hj
      split at hj'
      · cases hj'
      · rename_i hji
        exact r.sep j i b hji hj' (by rw [e2]; exact hb)
    | di xs =>
      cases h2
      have no : isOw z.e[i]? = false := by rw [h1]; rfl
      obtain ⟨a, vs, e1, e2, e3, e4, e5⟩ := so
      obtain ⟨r2, m2⟩ := r.drop i no
      refine ⟨.ref a, joinSome e1, q (.ref a) (z.dropS i) [a] m2 r2 rfl ⟨a, vs, rfl, rfl, e3, e4, e5⟩ (fun b hb j hj => ?_) fun b hb => .inl ⟨i, no, by rw [e2]; exact hb⟩⟩
      have hj' : b ∈ (if j = i then [] else z.F j) := hj
      split at hj'
      · cases hj'
      · rename_i hji
        exact r.sep j i b hji hj' (by rw [e2]; exact hb)
    | dt xs =>
      cases h2
      have no : isOw z.e[i]? = false := by rw [h1]; rfl
      obtain ⟨a, vs, e1, e2, e3, e4, e5⟩ := so
      obtain ⟨r2, m2⟩ := r.drop i no
      refine ⟨.ref a, joinSome e1, q (.ref a) (z.dropS i) [a] m2 r2 rfl ⟨a, vs, rfl, rfl, e3, e4, e5⟩ (fun b hb j hj => ?_) fun b hb => .inl ⟨i, no, by rw [e2]; exact hb⟩⟩
      have hj' : b ∈ (if j = i then [] else z.F j) := hj
      split at hj'
      · cases hj'
      · rename_i hji
        exact r.sep j i b hji hj' (by rw [e2]; exact hb)
    | no => cases h2
    | ow _ => cases h2
/-! ### stores -/
/-- name = e: a value, or a thing of its own -/
def sSet (i : Nat) (f : OF) : SF := fun e => (f e).bind fun p => if isOw p.2[i]? then none else some (.nx (p.2.set i p.1))
theorem set_go {K : Frg} {z : Z} {D : Ends} {i : Nat} {f : OF} {o : O} (r : Rp K z) (h : sSet i f z.e = some o) (q : Out K z D o) : tAsg (tO K f) (gName i) D z.s z.H := by
  obtain ⟨⟨s, e1⟩, h1, h2⟩ := Option.bind_eq_some_iff.mp h
  split at h2
  · cases h2
  · rename_i no
    cases h2
    refine ⟨z, s, e1, r, rfl, rfl, h1, fun v y Fr m r2 s2 ee so hf => ?_⟩
    have no' : isOw y.e[i]? = false := by rw [ee]; simpa using no
    have := q (y.put i v s Fr) (m.put no' fun a ha => .inr (hf a ha).1) (r2.put so fun a ha j _ => (hf a ha).2 j) (by show y.e.set i s = e1.set i s; rw [ee])
    show D.nx (z.s.set i (some v)) y.H
    rw [← s2]; exact this
theorem fs_set {i : Nat} {x : Str} {a : Expr} {f : OF} {pos' : Pos} (hN : X.N.Nodup) (hi : X.N[i]? = some x) (hx : Loc X.env.scope x) (h : FO X a f) (hs : swapsWith a (some (.Name x pos')) pos.line X.env = pure false := by rfl) (hf : X.fn x = true ∨ X.env.scope.names.lookup x = some .local := by first | exact .inl rfl | exact .inr rfl | assumption) : FS X (.Assign [.Name x pos'] a pos) (sSet i f) :=
  fs_of (ps_set hN hi hx h.po hs hf) fun D z o r h q => set_go r h q
/-- name = [..] on one line, the name a plain local one -/
theorem fs_setLc {k i : Nat} {y : Str} {py : Pos} {elt tg iter : Expr} {ifs : List Expr} {scope : Scope} {own : List (Str × Nat)} {spos : Pos} {gl : LF} {t : GF} {ws vs : List Nat} {cf : BF} {f : EF} (c : Cc X k) (hy : X.N[i]? = some y) (hyl : X.env.scope.names.lookup y = some .local)
    (hsw : swapsWith (.ListComp elt [⟨tg, iter, ifs, 0⟩] scope pos) (some (.Name y py)) spos.line X.env = pure true) (hi : FI X tg iter gl) (ok : BlkOk X.N X.env.scope scope own)
    (hg : ∀ (s : Shared) (H : Hp) (C : Addr) (cl : List (Str × Addr)) (fp : List Addr), FG (X.blk s H scope (compEnvC scope cl C X.env) fp) tg t ws)
    (ht : ∀ (s : Shared) (H : Hp) (C : Addr) (cl : List (Str × Addr)) (fp : List Addr), FTs (X.blk s H scope (compEnvC scope cl C X.env) fp) ifs cf)
    (he : ∀ (s : Shared) (H : Hp) (C : Addr) (cl : List (Str × Addr)) (fp : List Addr), FE (X.blk s H scope (compEnvC scope cl C X.env) fp) elt f)
    (hvs : own.map (·.2) = vs := by rfl) (hws : ∀ j ∈ ws, j ∈ vs := by decide) (hs : ∀ x, foldedSetIterable iter X.env x = pure x := by intro _; rfl) :
    FS X (.Assign [.Name y py] (.ListComp elt [⟨tg, iter, ifs, 0⟩] scope pos) spos) (sSet i (oComp gl t cf f vs)) := by
  subst hvs
  exact fs_of (ps_setLc c.calm c.nd hy hyl hsw hi.pi ok (fun s H C cl fp => (hg s H C cl fp).pg) (fun s H C cl fp => (ht s H C cl fp).pts) (fun s H C cl fp => (he s H C cl fp).pe) hs) fun D z o r h q => lc_tO (fun _ _ _ h => h) hws (set_go (D := D) r h q)
/-- targets = a value -/
def sAsg (f : EF) (t : GF) : SF := fun e => (f e).bind fun p => (t p.1 p.2).map fun e2 => .nx e2
theorem fs_asg {tg a : Expr} {f : EF} {t : GF} {ws : List Nat} (h : FE X a f) (hg : FG X tg t ws) (hs : swapsWithSole [tg] a pos.line X.env = pure false := by rfl) (hw : swappedStores [tg] a X.env = pure none := by rfl) (h1 : (assignEach [tg] X.env).map (·.2) = [assign tg X.env] := by rfl) : FS X (.Assign [tg] a pos) (sAsg f t) :=
  fs_of (ps_asg h.pe hg.pg hs hw h1) fun D z o r h q => by
    obtain ⟨⟨d, e1⟩, h1, h2⟩ := Option.bind_eq_some_iff.mp h
    obtain ⟨e2, h3, h4⟩ := Option.map_eq_some_iff.mp h2
    subst h4
    refine ⟨z, d, e1, r, rfl, rfl, h1, fun v y m r2 s2 ee p => ⟨y, d, e2, r2, s2, rfl, p, by rw [ee]; exact h3, fun y2 m2 r3 ee2 _ _ _ => ?_⟩⟩
    exact q y2 (m.trans m2) r3 ee2
/-! ### if, for, while -/
def sIf (c : BF) (f g : SF) : SF := fun e => (c e).bind fun p => if p.1 = true then f p.2 else g p.2
theorem fs_if {c : Expr} {a b : List Stmt} {h : BF} {f g : SF} (hc : FT X c h) (ha : FSs X a f) (hb : FSs X b g) : FS X (.If c a b pos) (sIf h f g) := fs_of (ps_if hc.pt ha.ps hb.ps) fun D z o r h q => by
  obtain ⟨⟨b, e1⟩, h1, h2⟩ := Option.bind_eq_some_iff.mp h
  refine ⟨z, b, e1, r, rfl, rfl, h1, fun y m r2 s2 ee => ?_⟩
  cases b with
  | true => exact iteT (tS_out.mpr ⟨y, o, r2, s2, rfl, by rw [ee]; exact h2, q.mv m⟩)
  | false => exact iteF (tS_out.mpr ⟨y, o, r2, s2, rfl, by rw [ee]; exact h2, q.mv m⟩)
/-- a loop's turns -/
def forL (t : GF) (b : SF) : List D → Ev → Option O
  | [], e => some (.nx e)
  | d :: ds, e => (t d e).bind fun e1 => (b e1).bind fun o => match o with
    | .nx e2 => forL t b ds e2
    | .ct e2 => forL t b ds e2
    | .bk e2 => some (.nx e2)
    | .rt r e2 => some (.rt r e2)
def sFor (g : LF) (t : GF) (b : SF) : SF := fun e => (g e).bind fun p => forL t b p.1 p.2
theorem fs_for {tg iter : Expr} {body : List Stmt} {gl : LF} {t : GF} {ws : List Nat} {b : SF} (hp : PassesOwn (model X.prog X.w) X.A X.env X.xe) (hc : X.calm = true) (hi : FI X tg iter gl) (hg : FG X tg t ws) (hb : FSs X body b)
    (hs : ∀ x, foldedSetIterable iter X.env x = pure x := by intro _; rfl) : FS X (.For tg iter body [] pos) (sFor gl t b) := fs_of (ps_for hp hc hi.pi hg.pg hb.ps hs) fun D z o r h q => by
  obtain ⟨⟨ds, e1⟩, h1, h2⟩ := Option.bind_eq_some_iff.mp h
  refine ⟨z, ds, e1, r, rfl, rfl, h1, fun J y m r2 s2 ee it => ?_⟩
  obtain ⟨Gd, Y, w, hG1, hG2⟩ := it
  rw [← s2]
  refine for_it w (fun i σ H => ∃ u, u.s = σ ∧ u.H = H ∧ Rp X.K u ∧ Mv y u ∧ forL t b (ds.drop i) u.e = some o) ⟨y, rfl, rfl, r2, Mv.refl y, by rw [ee]; exact h2⟩ ?_ ?_ ?_
  · rintro i σ H hi ⟨u, rfl, rfl, ru, mu, _⟩
    exact hG1 _ (mu.g.trans ru.same)
  · rintro i x σ H H' hi ⟨u, rfl, rfl, ru, mu, hu⟩ hy
    obtain ⟨u1, d, r1, m1, s1, e1, hH1, hdi, hdv⟩ : ∃ (u1 : Z) (d : PyData), Rp X.K u1 ∧ Mv u u1 ∧ u1.s = u.s ∧ u1.e = u.e ∧ u1.H = H' ∧ ds[i]? = some d ∧ Dv X.K u1.G x d := by
      rcases hG2 i u.H x H' hi (mu.g.trans ru.same) hy with ⟨e, d, h3, h4⟩ | ⟨T, tv, es, h3, h4, h5, h6, h7⟩
      · exact ⟨u, d, ru, Mv.refl u, rfl, rfl, e.symm, h3, dvMono mu.g _ _ h4⟩
      · obtain ⟨ra, ma⟩ := ru.add (o := .tup tv) h4
        refine ⟨u.add T (.tup tv), .tuple es, ra, ma, rfl, rfl, h5.symm, h6, ?_⟩
        rw [h3]
        exact .tup (SqT.of upd_same) (dvMonoAll (mu.g.trans ma.g) _ _ h7)
    have hdrop : ds.drop i = d :: ds.drop (i + 1) := by
      obtain ⟨h1, h2⟩ := List.getElem?_eq_some_iff.mp hdi
      rw [← h2, List.drop_eq_getElem_cons h1]
    rw [hdrop] at hu
    unfold forL at hu
    obtain ⟨ea, ht, hu⟩ := Option.bind_eq_some_iff.mp hu
    obtain ⟨ob, hbb, hu⟩ := Option.bind_eq_some_iff.mp hu
    refine ⟨u1, d, ea, r1, s1, hH1, hdv, by rw [e1]; exact ht, fun u2 m2 ru2 e2 eH2 eG2 es2 => ?_⟩
    refine tS_out.mpr ⟨u2, ob, ru2, rfl, rfl, by rw [e2]; exact hbb, ?_⟩
    have mm := (mu.trans m1).trans m2
    cases ob with
    | nx e3 => exact fun u3 m3 r3 e3' => ⟨u3, rfl, rfl, r3, mm.trans m3, by rw [e3']; exact hu⟩
    | ct e3 => exact fun u3 m3 r3 e3' => ⟨u3, rfl, rfl, r3, mm.trans m3, by rw [e3']; exact hu⟩
    | bk e3 =>
      cases hu
      exact fun u3 m3 r3 e3' => q u3 ((m.trans mm).trans m3) r3 e3'
    | rt rr e3 =>
      cases hu
      exact q.mv (m.trans mm)
  · rintro σ H ⟨u, rfl, rfl, ru, mu, hu⟩
    rw [List.drop_length] at hu
    cases hu
    exact q u (m.trans mu) ru rfl
def whileN (c : BF) (b : SF) : Nat → Ev → Option O
  | 0, _ => none
  | n + 1, e => (c e).bind fun p => if p.1 = true then (b p.2).bind fun o => match o with
      | .nx e2 => whileN c b n e2
      | .ct e2 => whileN c b n e2
      | .bk e2 => some (.nx e2)
      | .rt r e2 => some (.rt r e2)
    else some (.nx p.2)
theorem whileN_succ (c : BF) (b : SF) : ∀ (n : Nat) (e : Ev) (o : O), whileN c b n e = some o → whileN c b (n + 1) e = some o
  | 0, _, _, h => nomatch h
  | n + 1, e, o, h => by
    unfold whileN at h ⊢
    obtain ⟨⟨k, e1⟩, h1, h⟩ := Option.bind_eq_some_iff.mp h
    rw [h1]
    cases k with
    | false => exact h
    | true =>
      obtain ⟨ob, h2, h⟩ := Option.bind_eq_some_iff.mp (show ((b e1).bind _) = some o from h)
      show ((b e1).bind _) = some o
      rw [h2]
      cases ob with
      | nx e2 => exact whileN_succ c b n e2 o h
      | ct e2 => exact whileN_succ c b n e2 o h
      | bk e2 => exact h
      | rt r e2 => exact h
theorem whileN_le {c : BF} {b : SF} {n m : Nat} {e : Ev} {o : O} (h : whileN c b n e = some o) (k : n ≤ m) : whileN c b m e = some o := by
  induction k with
  | refl => exact h
  | step _ ih => exact whileN_succ c b _ e o ih
open Classical in
/-- a while's end, if it comes to one -/
noncomputable def sWhile (c : BF) (b : SF) : SF := fun e => if h : ∃ o n, whileN c b n e = some o then some h.choose else none
theorem sWhile_of {c : BF} {b : SF} {n : Nat} {e : Ev} {o : O} (h : whileN c b n e = some o) : sWhile c b e = some o := by
  have hx : ∃ o n, whileN c b n e = some o := ⟨o, n, h⟩
  unfold sWhile
  rw [dif_pos hx]
  obtain ⟨m, hm⟩ := hx.choose_spec
  have h1 := whileN_le hm (Nat.le_max_left m n)
  have h2 := whileN_le h (Nat.le_max_right m n)
  rw [h1] at h2
  exact h2
theorem sWhile_to {c : BF} {b : SF} {e : Ev} {o : O} (h : sWhile c b e = some o) : ∃ n, whileN c b n e = some o := by
  unfold sWhile at h
  split at h
  · rename_i hx
    cases h
    exact hx.choose_spec
  · cases h
theorem sWhile_eq (c : BF) (b : SF) (e : Ev) : sWhile c b e = (c e).bind fun p => if p.1 = true then (b p.2).bind fun o => match o with
      | .nx e2 => sWhile c b e2
      | .ct e2 => sWhile c b e2
      | .bk e2 => some (.nx e2)
      | .rt r e2 => some (.rt r e2)
    else some (.nx p.2) := by
  apply Option.ext
  intro o
  constructor
  · intro h
    obtain ⟨n, hn⟩ := sWhile_to h
    cases n with
    | zero => cases hn
    | succ n =>
      unfold whileN at hn
      obtain ⟨⟨k, e1⟩, h1, hn⟩ := Option.bind_eq_some_iff.mp hn
      rw [h1]
      cases k with
      | false => exact hn
      | true =>
        obtain ⟨ob, h2, hn⟩ := Option.bind_eq_some_iff.mp (show ((b e1).bind _) = some o from hn)
        show ((b e1).bind _) = some o
        rw [h2]
        cases ob with
        | nx e2 => exact sWhile_of hn
        | ct e2 => exact sWhile_of hn
        | bk e2 => exact hn
        | rt r e2 => exact hn
  · intro h
    obtain ⟨⟨k, e1⟩, h1, h⟩ := Option.bind_eq_some_iff.mp h
    cases k with
    | false => exact sWhile_of (n := 1) (by unfold whileN; rw [h1]; exact h)
    | true =>
      obtain ⟨ob, h2, h⟩ := Option.bind_eq_some_iff.mp (show ((b e1).bind _) = some o from h)
      cases ob with
      | nx e2 =>
        obtain ⟨n, hn⟩ := sWhile_to (show sWhile c b e2 = some o from h)
        refine sWhile_of (n := n + 1) ?_
        unfold whileN
        rw [h1]
        show ((b e1).bind _) = some o
        rw [h2]
        exact hn
      | ct e2 =>
        obtain ⟨n, hn⟩ := sWhile_to (show sWhile c b e2 = some o from h)
        refine sWhile_of (n := n + 1) ?_
        unfold whileN
        rw [h1]
        show ((b e1).bind _) = some o
        rw [h2]
        exact hn
      | bk e2 =>
        refine sWhile_of (n := 1) ?_
        unfold whileN
        rw [h1]
        show ((b e1).bind _) = some o
        rw [h2]
        exact h
      | rt r e2 =>
        refine sWhile_of (n := 1) ?_
        unfold whileN
        rw [h1]
        show ((b e1).bind _) = some o
        rw [h2]
        exact h
theorem fs_while {c : Expr} {body : List Stmt} {cf : BF} {b : SF} (hp : PassesOwn (model X.prog X.w) X.A X.env X.xe) (hc : FT X c cf) (hb : FSs X body b) : FS X (.While c body [] pos) (sWhile cf b) := fs_of (ps_while hp hc.pt hb.ps) fun D z o r h q => by
  obtain ⟨n, hn⟩ := sWhile_to h
  refine ⟨fun m σ H => ∃ u, u.s = σ ∧ u.H = H ∧ Rp X.K u ∧ Mv z u ∧ whileN cf b m u.e = some o, ⟨n, z, rfl, rfl, r, Mv.refl z, hn⟩, ?_⟩
  rintro m σ H ⟨u, rfl, rfl, ru, mu, hu⟩
  cases m with
  | zero => cases hu
  | succ m =>
    unfold whileN at hu
    obtain ⟨⟨k, e1⟩, h1, hu⟩ := Option.bind_eq_some_iff.mp hu
    refine ⟨u, k, e1, ru, rfl, rfl, h1, fun y my ry sy ey => ?_⟩
    cases k with
    | false =>
      cases hu
      exact iteF (by rw [← sy]; exact q y (mu.trans my) ry ey)
    | true =>
      obtain ⟨ob, h2, hu⟩ := Option.bind_eq_some_iff.mp (show ((b e1).bind _) = some o from hu)
      refine iteT ⟨fun σ' H' => ∃ u', u'.s = σ' ∧ u'.H = H' ∧ Rp X.K u' ∧ Mv z u' ∧ whileN cf b m u'.e = some o, fun σ' H' hN => ⟨m, Nat.lt_succ_self m, hN⟩, ?_⟩
      refine tS_out.mpr ⟨y, ob, ry, sy, rfl, by rw [ey]; exact h2, ?_⟩
      have mm := mu.trans my
      cases ob with
      | nx e3 => exact fun u3 m3 r3 e3' => ⟨u3, rfl, rfl, r3, mm.trans m3, by rw [e3']; exact hu⟩
      | ct e3 => exact fun u3 m3 r3 e3' => ⟨u3, rfl, rfl, r3, mm.trans m3, by rw [e3']; exact hu⟩
      | bk e3 =>
        cases hu
        exact fun u3 m3 r3 e3' => q u3 (mm.trans m3) r3 e3'
      | rt rr e3 =>
        cases hu
        exact q.mv mm
end
end Fl

set_option Elab.async false
set_option linter.all false
set_option maxRecDepth 100000
set_option maxHeartbeats 1000000
set_option autoImplicit false
/-! FnCall: defs and their calls. -/
namespace Fl
open PySem PySem.Spec PyProof.Rows L2
abbrev Fnc := List Sl → Option (Sl × List Sl)
/-- of the arguments only pinned things are told of behind a call -/
def keepE : List Sl → Ev → List Sl
  | [], _ => []
  | .ow _ :: ss, e => e.headD .no :: keepE ss e.tail
  | _ :: ss, e => .no :: keepE ss e.tail
theorem keepE_len : ∀ (ss : List Sl) (e : Ev), (keepE ss e).length = ss.length
  | [], _ => rfl
  | .ow _ :: ss, e => by show (keepE ss e.tail).length + 1 = _; rw [keepE_len ss]; rfl
  | .no :: ss, e => by show (keepE ss e.tail).length + 1 = _; rw [keepE_len ss]; rfl
  | .va _ :: ss, e => by show (keepE ss e.tail).length + 1 = _; rw [keepE_len ss]; rfl
  | .li _ :: ss, e => by show (keepE ss e.tail).length + 1 = _; rw [keepE_len ss]; rfl
  | .di _ :: ss, e => by show (keepE ss e.tail).length + 1 = _; rw [keepE_len ss]; rfl
  | .dt _ :: ss, e => by show (keepE ss e.tail).length + 1 = _; rw [keepE_len ss]; rfl
theorem keepE_ow : ∀ (ss : List Sl) (e : Ev) (i : Nat), isOw ss[i]? = true → (keepE ss e)[i]? = some ((e[i]?).getD .no)
  | [], _, i, h => by simp [isOw] at h
  | .ow t :: ss, e, 0, h => by cases e <;> rfl
  | .no :: ss, e, 0, h => by cases h
  | .va _ :: ss, e, 0, h => by cases h
  | .li _ :: ss, e, 0, h => by cases h
  | .di _ :: ss, e, 0, h => by cases h
  | .dt _ :: ss, e, 0, h => by cases h
  | s :: ss, e, i + 1, h => by
    have h' : isOw ss[i]? = true := by simpa using h
    have ih := keepE_ow ss e.tail i h'
    have e1 : e.tail[i]? = e[i + 1]? := by cases e <;> simp
    rw [e1] at ih
    cases s <;> exact ih
theorem keepE_no : ∀ (ss : List Sl) (e : Ev) (i : Nat), i < ss.length → isOw ss[i]? = false → (keepE ss e)[i]? = some .no
  | [], _, i, hl, _ => by cases hl
  | .ow t :: ss, e, 0, _, h => by cases h
  | .no :: ss, e, 0, _, h => rfl
  | .va _ :: ss, e, 0, _, h => rfl
  | .li _ :: ss, e, 0, _, h => rfl
  | .di _ :: ss, e, 0, _, h => rfl
  | .dt _ :: ss, e, 0, _, h => rfl
  | s :: ss, e, i + 1, hl, h => by
    have h' : isOw ss[i]? = false := by simpa using h
    have ih := keepE_no ss e.tail i (by simpa using hl) h'
    cases s <;> exact ih
/-- a def with n slots -/
def mkF (n : Nat) (b : SF) : Fnc := fun ss => (b (ss ++ List.replicate (n - ss.length) Sl.no)).bind fun o => match o with
  | .rt r e => some (r, keepE ss e)
  | .nx e => some (.va .none, keepE ss e)
  | _ => none
/-- what a def of np parameters promises: g -/
def spF (K : Frg) (np : Nat) (g : Fnc) : Sp := fun vs H Q _ => vs.length = np ∧ ∃ z r ss', z.s = vs.map some ∧ z.H = H ∧ Rp K z ∧ (∀ i : Nat, isOw z.e[i]? = false → z.F i = []) ∧ g z.e = some (r, ss') ∧
  ∀ v y Fr, Mv z y → Rp K y → y.s = z.s → y.e = ss' → SlOk K y.G y.H (some v) Fr r → (∀ a ∈ Fr, z.H a = none ∧ ∀ i, a ∉ y.F i) → Q v y.H
def Z.ent (z : Z) (N : List Str) (vs : List V) : Z := { z with s := L2.start N vs, e := z.e ++ List.replicate (N.length - z.e.length) Sl.no }
def Z.ret (z y : Z) : Z := { y with s := z.s, e := keepE z.e y.e, F := fun i => if isOw z.e[i]? = true then y.F i else [] }
section
variable {P : Program} {w : World} {K : Frg} {mg : Str → Option Value} {base : Heap}
theorem def_ok {x qual : Str} {st : Stmt} {f : Addr} {fd : FuncData} {N ps : List Str} {k : Nat} {b : SF} (F : Fun K x qual st f fd) (S : FnScope N ps (defScope st)) (hnp : ps.length ≤ N.length)
    (hb : ∀ (cdv : Value) (A : Around) (outer : List Env) (s : Shared) (H : Hp) (E : XK), Room k (A.deeper (envOfC qual (defScope st) s.heap.objs.size f cdv)) →
      FSs (cxOf CX0 P w K mg base N qual (defScope st) f cdv A outer s H E).nox (defBody st) b) : FnOk P w K mg base CX0 (k + 1) f fd ps (spF K ps.length (mkF N.length b)) := by
  refine F.ok S (fun vs H Q E h => h.1) (fun cdv A outer s H vs Q E hr h => ?_)
  obtain ⟨hl, z, r, ss', hs, hH, rp, har, hg, q⟩ := h
  refine ⟨_, (hb cdv A outer s H E hr).ps, ?_⟩
  subst hH
  obtain ⟨o, h1, h2⟩ := Option.bind_eq_some_iff.mp hg
  have hel : z.e.length = vs.length := by rw [← rp.len, hs, List.length_map]
  -- the state at the entry
  have r0 : Rp K (z.ent N vs) := by
    refine ⟨rp.same, ?_, fun i s h => ?_, fun i h => ?_, rp.sep⟩
    · show (L2.start N vs).length = (z.e ++ List.replicate (N.length - z.e.length) Sl.no).length
      unfold L2.start
      simp [hel]
    · have h' : (z.e ++ List.replicate (N.length - z.e.length) Sl.no)[i]? = some s := h
      show SlOk K z.G z.H (((L2.start N vs)[i]?).join) (z.F i) s
      unfold L2.start
      by_cases hi : i < z.e.length
      · rw [List.getElem?_append_left hi] at h'
        rw [List.getElem?_append_left (by rw [List.length_map, ← hel]; exact hi), ← hs]
        exact rp.ok i s h'
      · rw [List.getElem?_append_right (by omega)] at h'
        have := List.getElem?_eq_some_iff.mp h'
        obtain ⟨h3, h4⟩ := this
        rw [List.getElem_replicate] at h4
        subst h4
        exact rp.out i (by omega)
    · have h' : (z.e ++ List.replicate (N.length - z.e.length) Sl.no).length ≤ i := h
      exact rp.out i (by rw [List.length_append] at h'; omega)
  refine tS_out.mpr ⟨(z.ent N vs), o, r0, rfl, rfl, h1, ?_⟩
  have back : ∀ (y : Z), Mv (z.ent N vs) y → Rp K y →
      Rp K (z.ret y) ∧ Mv z (z.ret y) := fun y m ry => by
    have ow : ∀ i : Nat, isOw z.e[i]? = true → i < z.e.length ∧ isOw y.e[i]? = true ∧ y.s[i]? = z.s[i]? := fun i hi => by
      have hl : i < z.e.length := by
        by_cases q : i < z.e.length
        · exact q
        · rw [List.getElem?_eq_none (by omega)] at hi; cases hi
      have := m.kp i (show isOw (z.e ++ List.replicate (N.length - z.e.length) Sl.no)[i]? = true by rw [List.getElem?_append_left hl]; exact hi)
      refine ⟨hl, this.1, this.2.trans ?_⟩
      show (L2.start N vs)[i]? = z.s[i]?
      unfold L2.start
      rw [List.getElem?_append_left (by rw [List.length_map, ← hel]; exact hl), hs]
    refine ⟨⟨ry.same, ?_, fun i s h => ?_, fun i h => ?_, fun i j a hij hi hj => ?_⟩, ⟨m.out, m.dom, m.g, m.gn, fun i a h => ?_, fun i h => ?_, keepE_len _ _⟩⟩
    · show z.s.length = (keepE z.e y.e).length
      rw [keepE_len]; exact rp.len
    · have h' : (keepE z.e y.e)[i]? = some s := h
      show SlOk K y.G y.H ((z.s[i]?).join) (if isOw z.e[i]? = true then y.F i else []) s
      cases hw : isOw z.e[i]? with
      | true =>
        obtain ⟨hl, h3, h4⟩ := ow i hw
        rw [if_pos rfl, ← h4]
        rw [keepE_ow _ _ _ hw] at h'
        cases hy : y.e[i]? with
        | none => rw [hy] at h3; cases h3
        | some u => rw [hy] at h'; cases h'; exact ry.ok i _ hy
      | false =>
        rw [if_neg (by simp)]
        have hl : i < z.e.length := by have := (List.getElem?_eq_some_iff.mp h').1; rw [keepE_len] at this; exact this
        rw [keepE_no _ _ _ hl hw] at h'
        cases h'
        rfl
    · have h' : (keepE z.e y.e).length ≤ i := h
      rw [keepE_len] at h'
      show (if isOw z.e[i]? = true then y.F i else []) = []
      rw [List.getElem?_eq_none (by omega)]; rfl
    · have hi' : a ∈ (if isOw z.e[i]? = true then y.F i else []) := hi
      have hj' : a ∈ (if isOw z.e[j]? = true then y.F j else []) := hj
      split at hi'
      · split at hj'
        · exact ry.sep i j a hij hi' hj'
        · cases hj'
      · cases hi'
    · have h' : a ∈ (if isOw z.e[i]? = true then y.F i else []) := h
      split at h'
      · exact m.fn i a h'
      · cases h'
    · obtain ⟨hl, h3, h4⟩ := ow i h
      refine ⟨?_, rfl⟩
      show isOw (keepE z.e y.e)[i]? = true
      rw [keepE_ow _ _ _ h]
      cases hy : y.e[i]? with
      | none => rw [hy] at h3; cases h3
      | some u => rw [hy] at h3; exact h3
  cases o with
  | nx e1 =>
    cases h2
    intro y m ry ee
    obtain ⟨b1, b2⟩ := back y m ry
    exact q .non (z.ret y) [] b2 b1 rfl (by show keepE z.e y.e = _; rw [ee]) ⟨rfl, _, rfl, .non⟩ fun _ h => nomatch h
  | rt r1 e1 =>
    cases h2
    intro v y Fr m ry ee so hf hg
    obtain ⟨b1, b2⟩ := back y m ry
    refine q v (z.ret y) Fr b2 b1 rfl (by show keepE z.e y.e = _; rw [ee]) so fun a ha => ⟨?_, fun i hi => ?_⟩
    · rcases hg a ha with ⟨j, h3, h4⟩ | h3
      · exfalso
        have h3' : isOw (z.e ++ List.replicate (N.length - z.e.length) Sl.no)[j]? = false := h3
        have h4' : a ∈ z.F j := h4
        by_cases hj : j < z.e.length
        · rw [List.getElem?_append_left hj] at h3'
          rw [har j h3'] at h4'; cases h4'
        · rw [rp.out j (by omega)] at h4'; cases h4'
      · exact h3
    · have hi' : a ∈ (if isOw z.e[i]? = true then y.F i else []) := hi
      split at hi'
      · exact hf a ha i hi'
      · cases hi'
  | bk _ => cases h2
  | ct _ => cases h2
end
/-! ### calls: the arguments are values, or names of pinned things -/
inductive Ar where
  | vl (d : D)
  | rf (i : Nat)
abbrev AF := Ev → Option (List Ar × Ev)
/-- an argument as it stands -/
def ArOk (K : Frg) (y : Z) (v : V) : Ar → Prop
  | .vl d => Dv K y.G v d
  | .rf i => y.s[i]? = some (some v)
inductive ArsOk (K : Frg) (y : Z) : List V → List Ar → Prop
  | nil : ArsOk K y [] []
  | cons {v : V} {vs : List V} {a : Ar} {as : List Ar} : ArOk K y v a → ArsOk K y vs as → ArsOk K y (v :: vs) (a :: as)
def tR (K : Frg) (f : AF) : TA := fun σ H Q => ∃ z as e', Rp K z ∧ z.s = σ ∧ z.H = H ∧ f z.e = some (as, e') ∧ ∀ vs y, Mv z y → Rp K y → y.s = σ → y.e = e' → ArsOk K y vs as → Q vs y.H
structure FR (X : Cx) (es : List Expr) (f : AF) : Prop where
  pa : PA X es (tR X.K f)
  ln : ∀ e p, f e = some p → p.1.length = es.length
def rNil : AF := fun e => some ([], e)
def rVal (f : EF) (g : AF) : AF := fun e => (f e).bind fun p => (g p.2).map fun q => (.vl p.1 :: q.1, q.2)
def rRef (i : Nat) (g : AF) : AF := fun e => if isOw e[i]? then (g e).map fun q => (.rf i :: q.1, q.2) else none
section
variable {X : Cx} {pos : Pos}
theorem fr_nil : FR X [] rNil := ⟨PA.imp pa_nil fun σ H Q ⟨z, d, e', rp, hs, hH, hf, q⟩ => by
  subst hs hH
  cases hf
  exact q [] z (Mv.refl z) rp rfl rfl .nil, fun e p h => by cases h; rfl⟩
theorem fr_val {a : Expr} {es : List Expr} {f : EF} {g : AF} (ha : FE X a f) (hr : FR X es g) (hs : starEach (a :: es) X.env = (false, eval a X.env) :: starEach es X.env := by rfl) : FR X (a :: es) (rVal f g) :=
  ⟨PA.imp (pa_cons ha.pe hr.pa hs) fun σ H Q ⟨z, d, e', rp, hs, hH, hf, q⟩ => by
    subst hs hH
    obtain ⟨⟨x, e1⟩, h1, hf⟩ := Option.bind_eq_some_iff.mp hf
    obtain ⟨⟨xs, e2⟩, h2, h3⟩ := Option.map_eq_some_iff.mp hf
    cases h3
    refine ⟨z, x, e1, rp, rfl, rfl, h1, fun v1 y1 m1 r1 s1 ee1 p1 => ⟨y1, xs, e2, r1, s1, rfl, by rw [ee1]; exact h2, fun v2 y2 m2 r2 s2 ee2 p2 => ?_⟩⟩
    exact q (v1 :: v2) y2 (m1.trans m2) r2 s2 ee2 (.cons (dvMono m2.g _ _ p1) p2), fun e p h => by
    obtain ⟨⟨x, e1⟩, h1, hf⟩ := Option.bind_eq_some_iff.mp h
    obtain ⟨⟨xs, e2⟩, h2, h3⟩ := Option.map_eq_some_iff.mp hf
    cases h3
    exact congrArg (· + 1) (hr.ln _ _ h2)⟩
theorem fr_ref {i : Nat} {x : Str} {p : Pos} {es : List Expr} {g : AF} (hN : X.N[i]? = some x) (hv : Vis X.env.scope x) (hr : FR X es g) (hs : starEach (.Name x p :: es) X.env = (false, eval (.Name x p) X.env) :: starEach es X.env := by rfl) (hd : (x == ("__debug__" : Str)) = false := by decide) (hcd : (x == ("__classdict__" : Str)) = false := by decide) : FR X (.Name x p :: es) (rRef i g) :=
  ⟨PA.imp (pa_cons (pe_var hN hv hd hcd) hr.pa hs) (fun σ H Q ⟨z, d, e', rp, hs, hH, hf, q⟩ => by
    subst hs hH
    unfold rRef at hf
    split at hf
    · rename_i hw
      obtain ⟨⟨xs, e2⟩, h2, h3⟩ := Option.map_eq_some_iff.mp hf
      cases h3
      cases hq : z.e[i]? with
      | none => rw [hq] at hw; cases hw
      | some s =>
        rw [hq] at hw
        have so := rp.ok i s hq
        cases s with
        | ow t =>
          obtain ⟨v, e1, _⟩ := so
          refine ⟨v, joinSome e1, z, xs, _, rp, rfl, rfl, h2, fun v2 y2 m2 r2 s2 ee2 p2 => q (v :: v2) y2 m2 r2 s2 ee2 (.cons ?_ p2)⟩
          show y2.s[i]? = some (some v)
          rw [s2]; exact joinSome e1
        | no => cases hw
        | va _ => cases hw
        | li _ => cases hw
        | di _ => cases hw
        | dt _ => cases hw
    · cases hf), fun e p h => by
    unfold rRef at h
    split at h
    · obtain ⟨⟨xs, e2⟩, h2, h3⟩ := Option.map_eq_some_iff.mp h
      cases h3
      exact congrArg (· + 1) (hr.ln _ _ h2)
    · cases h⟩
/-- what the callee is told -/
def arSl (e : Ev) : Ar → Sl
  | .vl d => .va d
  | .rf i => (e[i]?).getD .no
/-- what is told behind the call: the pinned things' new contents, slot by slot -/
def arBack : List Ar → List Sl → Ev → Ev
  | .rf i :: as, s :: ss, e => arBack as ss (e.set i s)
  | .vl _ :: as, _ :: ss, e => arBack as ss e
  | _, _, e => e
def refs : List Ar → List Nat
  | [] => []
  | .rf i :: as => i :: refs as
  | .vl _ :: as => refs as
def oCall (g : Fnc) (f : AF) : OF := fun e => (f e).bind fun p => if (refs p.1).Nodup ∧ ((refs p.1).all fun i => isOw p.2[i]?) = true then (g (p.1.map (arSl p.2))).map fun q => (q.1, arBack p.1 q.2 p.2) else none
def posOf : List Ar → Nat → Nat
  | [], _ => 0
  | .rf j :: as, i => if j = i then 0 else posOf as i + 1
  | .vl _ :: as, i => posOf as i + 1
theorem posOf_spec : ∀ {as : List Ar} {i : Nat}, i ∈ refs as → as[posOf as i]? = some (.rf i)
  | [], i, h => nomatch h
  | .rf j :: as, i, h => by
    unfold posOf
    by_cases e : j = i
    · rw [if_pos e, e]; rfl
    · rw [if_neg e]
      show as[posOf as i]? = _
      exact posOf_spec ((List.mem_cons.mp h).elim (fun z => absurd z.symm e) fun z => z)
  | .vl _ :: as, i, h => by
    show as[posOf as i]? = _
    exact posOf_spec h
theorem refs_mem : ∀ {as : List Ar} {k i : Nat}, as[k]? = some (.rf i) → i ∈ refs as
  | [], k, i, h => by simp at h
  | .rf j :: as, 0, i, h => by cases h; exact List.mem_cons_self
  | .vl _ :: as, 0, i, h => by cases h
  | .rf j :: as, k + 1, i, h => List.mem_cons_of_mem _ (refs_mem (k := k) (by simpa using h))
  | .vl _ :: as, k + 1, i, h => refs_mem (as := as) (k := k) (by simpa using h)
theorem refs_one : ∀ {as : List Ar} {k l i : Nat}, (refs as).Nodup → as[k]? = some (.rf i) → as[l]? = some (.rf i) → k = l
  | [], k, l, i, _, h, _ => by simp at h
  | .vl _ :: as, 0, l, i, _, h, _ => by cases h
  | .vl _ :: as, k + 1, 0, i, _, _, h => by cases h
  | .vl _ :: as, k + 1, l + 1, i, n, h, h' => congrArg (· + 1) (refs_one (as := as) n (by simpa using h) (by simpa using h'))
  | .rf j :: as, 0, 0, i, _, _, _ => rfl
  | .rf j :: as, 0, l + 1, i, n, h, h' => by
    cases h
    exact absurd (refs_mem (as := as) (k := l) (by simpa using h')) (List.nodup_cons.mp n).1
  | .rf j :: as, k + 1, 0, i, n, h', h => by
    cases h
    exact absurd (refs_mem (as := as) (k := k) (by simpa using h')) (List.nodup_cons.mp n).1
  | .rf j :: as, k + 1, l + 1, i, n, h, h' => congrArg (· + 1) (refs_one (as := as) (List.nodup_cons.mp n).2 (by simpa using h) (by simpa using h'))
theorem arBack_len : ∀ (as : List Ar) (ss : List Sl) (e : Ev), (arBack as ss e).length = e.length
  | [], _, _ => rfl
  | .rf i :: as, [], _ => rfl
  | .vl _ :: as, [], _ => rfl
  | .rf i :: as, s :: ss, e => by show (arBack as ss (e.set i s)).length = _; rw [arBack_len as ss, List.length_set]
  | .vl _ :: as, _ :: ss, e => arBack_len as ss e
theorem arBack_get : ∀ (as : List Ar) (ss : List Sl) (e : Ev) (i : Nat), ss.length = as.length → (refs as).Nodup → (arBack as ss e)[i]? = if i ∈ refs as ∧ i < e.length then ss[posOf as i]? else e[i]?
  | [], ss, e, i, _, _ => by
    rw [if_neg (fun h => nomatch h.1)]
    cases ss <;> rfl
  | .rf j :: as, [], e, i, h, _ => by cases h
  | .vl _ :: as, [], e, i, h, _ => by cases h
  | .vl _ :: as, s :: ss, e, i, h, n => by
    show (arBack as ss e)[i]? = if i ∈ refs as ∧ i < e.length then ss[posOf as i]? else e[i]?
    exact arBack_get as ss e i (by simpa using h) n
  | .rf j :: as, s :: ss, e, i, h, n => by
    obtain ⟨n1, n2⟩ := List.nodup_cons.mp n
    show (arBack as ss (e.set j s))[i]? = if i ∈ j :: refs as ∧ i < e.length then (s :: ss)[if j = i then 0 else posOf as i + 1]? else e[i]?
    rw [arBack_get as ss _ i (by simpa using h) n2, List.length_set]
    by_cases e1 : j = i
    · subst e1
      rw [if_neg (fun q => n1 q.1), if_pos rfl]
      by_cases hl : j < e.length
      · rw [if_pos ⟨List.mem_cons_self, hl⟩, List.getElem?_set_self hl]; rfl
      · rw [if_neg (fun q => hl q.2), List.getElem?_eq_none (by rw [List.length_set]; omega), List.getElem?_eq_none (by omega)]
    · rw [if_neg e1, List.getElem?_set_ne e1]
      by_cases h2 : i ∈ refs as ∧ i < e.length
      · rw [if_pos h2, if_pos ⟨List.mem_cons_of_mem _ h2.1, h2.2⟩]; rfl
      · rw [if_neg h2, if_neg (fun q => h2 ⟨(List.mem_cons.mp q.1).elim (fun z => absurd z.symm e1) fun z => z, q.2⟩)]
theorem arsOk_len {K : Frg} {y : Z} : ∀ {vs : List V} {as : List Ar}, ArsOk K y vs as → vs.length = as.length
  | _, _, .nil => rfl
  | _, _, .cons _ t => by rw [List.length_cons, List.length_cons, arsOk_len t]
theorem arsOk_get {K : Frg} {y : Z} : ∀ {vs : List V} {as : List Ar} {k : Nat} {a : Ar}, ArsOk K y vs as → as[k]? = some a → ∃ v, vs[k]? = some v ∧ ArOk K y v a
  | _, _, k, a, .nil, h => by simp at h
  | _, _, 0, a, .cons (v := v) h t, e => by simp at e; subst e; exact ⟨v, rfl, h⟩
  | _, _, k + 1, a, .cons h t, e => by
    obtain ⟨v, h1, h2⟩ := arsOk_get (k := k) t (by simpa using e)
    exact ⟨v, by simpa using h1, h2⟩
/-- the callee's state -/
def Z.cal (y : Z) (vs : List V) (as : List Ar) : Z := { y with s := vs.map some, e := as.map (arSl y.e), F := fun k => match as[k]? with
  | some (.rf i) => y.F i
  | _ => [] }
/-- the caller's state behind it -/
def Z.aft (y u : Z) (as : List Ar) : Z := { u with s := y.s, e := arBack as u.e y.e, F := fun i => if i ∈ refs as then u.F (posOf as i) else y.F i }
theorem call_in {K : Frg} {y : Z} (r : Rp K y) {vs : List V} {as : List Ar} (ok : ArsOk K y vs as) (nd : (refs as).Nodup) (ow : ((refs as).all fun i => isOw y.e[i]?) = true) : Rp K (y.cal vs as) ∧ ∀ i : Nat, isOw (y.cal vs as).e[i]? = false → (y.cal vs as).F i = [] := by
  have hl := arsOk_len ok
  have how : ∀ k i : Nat, as[k]? = some (.rf i) → isOw y.e[i]? = true := fun k i h => List.all_eq_true.mp ow i (refs_mem h)
  refine ⟨⟨r.same, ?_, fun k s h => ?_, fun k h => ?_, fun k l a hkl hk hl' => ?_⟩, fun k h => ?_⟩
  · show (vs.map some).length = (as.map (arSl y.e)).length
    rw [List.length_map, List.length_map]; exact hl
  · have h' : (as.map (arSl y.e))[k]? = some s := h
    rw [List.getElem?_map] at h'
    obtain ⟨a, h1, h2⟩ := Option.map_eq_some_iff.mp h'
    subst h2
    obtain ⟨v, h3, h4⟩ := arsOk_get ok h1
    show SlOk K y.G y.H (((vs.map some)[k]?).join) (match as[k]? with | some (.rf i) => y.F i | _ => []) (arSl y.e a)
    rw [List.getElem?_map, h3, h1]
    cases a with
    | vl d => exact ⟨rfl, v, rfl, h4⟩
    | rf i =>
      have hi := how k i h1
      cases hq : y.e[i]? with
      | none => rw [hq] at hi; cases hi
      | some u =>
        have so := r.ok i u hq
        have h4' : y.s[i]? = some (some v) := h4
        rw [h4'] at so
        show SlOk K y.G y.H (some v) (y.F i) ((y.e[i]?).getD .no)
        rw [hq]; exact so
  · have h' : (as.map (arSl y.e)).length ≤ k := h
    rw [List.length_map] at h'
    show (match as[k]? with | some (.rf i) => y.F i | _ => []) = []
    rw [List.getElem?_eq_none h']
  · have hk' : a ∈ (match as[k]? with | some (.rf i) => y.F i | _ => []) := hk
    have hl'' : a ∈ (match as[l]? with | some (.rf i) => y.F i | _ => []) := hl'
    split at hk'
    · rename_i i hi
      split at hl''
      · rename_i j hj
        refine r.sep i j a (fun e => hkl ?_) hk' hl''
        subst e
        exact refs_one nd hi hj
      · cases hl''
    · cases hk'
  · show (match as[k]? with | some (.rf i) => y.F i | _ => []) = []
    split
    · rename_i i hi
      have h' : isOw (as.map (arSl y.e))[k]? = false := h
      rw [List.getElem?_map, hi] at h'
      have h2 := how k i hi
      cases hq : y.e[i]? with
      | none => rw [hq] at h2; cases h2
      | some u =>
        have h3 : isOw (some ((y.e[i]?).getD .no)) = false := h'
        rw [hq] at h3 h2
        have h4 : isOw (some u) = false := h3
        rw [h4] at h2; cases h2
    · rfl
theorem call_out {K : Frg} {y u : Z} (r : Rp K y) {vs : List V} {as : List Ar} (ok : ArsOk K y vs as) (nd : (refs as).Nodup) (ow : ((refs as).all fun i => isOw y.e[i]?) = true) (m : Mv (y.cal vs as) u) (ru : Rp K u) (su : u.s = (y.cal vs as).s) : Rp K (y.aft u as) ∧ Mv y (y.aft u as) := by
  have hel : u.e.length = as.length := by rw [m.ln]; show (as.map (arSl y.e)).length = _; rw [List.length_map]
  have how : ∀ i : Nat, i ∈ refs as → isOw y.e[i]? = true := fun i h => List.all_eq_true.mp ow i h
  have hlt : ∀ i : Nat, i ∈ refs as → i < y.e.length := fun i h => by
    by_cases q : i < y.e.length
    · exact q
    · have := how i h
      rw [List.getElem?_eq_none (by omega)] at this; cases this
  have cF : ∀ i : Nat, i ∈ refs as → (y.cal vs as).F (posOf as i) = y.F i := fun i h => by
    show (match as[posOf as i]? with | some (.rf i) => y.F i | _ => []) = y.F i
    rw [posOf_spec h]
  have cF2 : ∀ (k : Nat) (a : Addr), a ∈ (y.cal vs as).F k → ∃ i, i ∈ refs as ∧ as[k]? = some (.rf i) ∧ a ∈ y.F i := fun k a h => by
    have h' : a ∈ (match as[k]? with | some (.rf i) => y.F i | _ => []) := h
    split at h'
    · rename_i i hi; exact ⟨i, refs_mem hi, hi, h'⟩
    · cases h'
  have hget : ∀ i : Nat, (arBack as u.e y.e)[i]? = if i ∈ refs as ∧ i < y.e.length then u.e[posOf as i]? else y.e[i]? := fun i => arBack_get as u.e y.e i hel nd
  have sref : ∀ i : Nat, i ∈ refs as → u.s[posOf as i]? = y.s[i]? := fun i h => by
    obtain ⟨v, h3, h4⟩ := arsOk_get ok (posOf_spec h)
    rw [su]
    show (vs.map some)[posOf as i]? = y.s[i]?
    rw [List.getElem?_map, h3]
    exact (show y.s[i]? = some (some v) from h4).symm
  refine ⟨⟨ru.same, ?_, fun i s h => ?_, fun i h => ?_, fun i j a hij hi hj => ?_⟩, ⟨fun a o h hf => ?_, m.dom, m.g, fun a h hf => m.gn a h fun k hk => by
      obtain ⟨j, _, _, hja⟩ := cF2 k a hk
      exact hf j hja, fun i a h => ?_, fun i h => ?_, arBack_len _ _ _⟩⟩
  · show y.s.length = (arBack as u.e y.e).length
    rw [arBack_len]; exact r.len
  · have h' : (arBack as u.e y.e)[i]? = some s := h
    rw [hget] at h'
    show SlOk K u.G u.H ((y.s[i]?).join) (if i ∈ refs as then u.F (posOf as i) else y.F i) s
    by_cases hi : i ∈ refs as
    · rw [if_pos ⟨hi, hlt i hi⟩] at h'
      rw [if_pos hi, ← sref i hi]
      exact ru.ok _ s h'
    · rw [if_neg (fun q => hi q.1)] at h'
      rw [if_neg hi]
      refine slFrame (r.ok i s h') m.g (fun a ha => ?_) fun a ha => ?_
      · have lv := (r.live ha).2
        cases hq : y.H a with
        | none => exact absurd hq lv
        | some o =>
          refine m.out a o hq fun k hk => ?_
          obtain ⟨j, hj, _, hja⟩ := cF2 k a hk
          exact r.sep j i a (fun e => hi (e ▸ hj)) hja ha
      · refine (m.gn a (r.live ha).2 fun k hk => ?_).trans (r.live ha).1
        obtain ⟨j, hj, _, hja⟩ := cF2 k a hk
        exact r.sep j i a (fun e => hi (e ▸ hj)) hja ha
  · have h' : (arBack as u.e y.e).length ≤ i := h
    rw [arBack_len] at h'
    show (if i ∈ refs as then u.F (posOf as i) else y.F i) = []
    rw [if_neg (fun q => by have := hlt i q; omega)]
    exact r.out i h'
  · have hi' : a ∈ (if i ∈ refs as then u.F (posOf as i) else y.F i) := hi
    have hj' : a ∈ (if j ∈ refs as then u.F (posOf as j) else y.F j) := hj
    have mix : ∀ i j : Nat, i ≠ j → i ∈ refs as → a ∈ u.F (posOf as i) → a ∈ y.F j → False := fun i j hij hi h1 h2 => by
      rcases m.fn _ a h1 with h3 | h3
      · rw [cF i hi] at h3
        exact r.sep i j a hij h3 h2
      · exact (r.live h2).2 h3
    by_cases h1 : i ∈ refs as
    · rw [if_pos h1] at hi'
      by_cases h2 : j ∈ refs as
      · rw [if_pos h2] at hj'
        refine ru.sep _ _ a (fun e => hij ?_) hi' hj'
        have e1 := posOf_spec h1
        have e2 := posOf_spec h2
        rw [e, e2] at e1
        cases e1; rfl
      · rw [if_neg h2] at hj'
        exact mix i j hij h1 hi' hj'
    · rw [if_neg h1] at hi'
      by_cases h2 : j ∈ refs as
      · rw [if_pos h2] at hj'
        exact mix j i (Ne.symm hij) h2 hj' hi'
      · rw [if_neg h2] at hj'
        exact r.sep i j a hij hi' hj'
  · refine m.out a o h fun k hk => ?_
    obtain ⟨j, _, _, hja⟩ := cF2 k a hk
    exact hf j hja
  · have h' : a ∈ (if i ∈ refs as then u.F (posOf as i) else y.F i) := h
    by_cases h1 : i ∈ refs as
    · rw [if_pos h1] at h'
      have := m.fn _ a h'
      rw [cF i h1] at this
      exact this
    · rw [if_neg h1] at h'
      exact .inl h'
  · refine ⟨?_, rfl⟩
    show isOw (arBack as u.e y.e)[i]? = true
    rw [hget]
    by_cases h1 : i ∈ refs as
    · rw [if_pos ⟨h1, hlt i h1⟩]
      refine (m.kp (posOf as i) ?_).1
      show isOw (as.map (arSl y.e))[posOf as i]? = true
      rw [List.getElem?_map, posOf_spec h1]
      show isOw (some ((y.e[i]?).getD .no)) = true
      cases hq : y.e[i]? with
      | none => rw [hq] at h; cases h
      | some s => rw [hq] at h; exact h
    · rw [if_neg (fun q => h1 q.1)]; exact h
theorem fo_call {k np : Nat} {f : Addr} {fd : FuncData} {ps : List Str} {g : Fnc} {x : Str} {p : Pos} {a : Expr} {es : List Expr} {af : AF} (F : FnOk X.prog X.w X.K X.mg X.base CX0 k f fd ps (spF X.K np g)) (hr : Room k X.A) (hm : X.mg x = some (.ref f)) (hk : PySem.W.keepIn X.K (.ref f) = true) (hb : Binds X.K fd ps []) (ha : FR X (a :: es) af) (hn : (a :: es).length = np)
    (hg : Gl X x := by rfl) (hdb : (x == ("__debug__" : Str)) = false := by decide) (he : starEach (a :: es) X.env = (false, eval a X.env) :: starEach es X.env := by rfl) (hpl : (backTo pos (starEach es X.env)).any (·.1) = false := by rfl) :
    FO X (.Call (.Name x p) (a :: es) [] pos) (oCall g af) :=
  ⟨PE.imp (pe_call F hr hg hm hk hb .nil pass0 ha.pa hdb he hpl) fun σ H Q ⟨z, r, e', rp, hs, hH, hf, q⟩ => by
    subst hs hH
    obtain ⟨⟨as, e1⟩, h1, hf⟩ := Option.bind_eq_some_iff.mp hf
    split at hf
    · rename_i hc
      obtain ⟨⟨r1, ss'⟩, h2, hf⟩ := Option.map_eq_some_iff.mp hf
      cases hf
      refine ⟨z, as, e1, rp, rfl, rfl, h1, fun vs y m ry sy ey ok => ?_⟩
      obtain ⟨hc1, hc2⟩ := hc
      have hc2' : ((refs as).all fun i => isOw y.e[i]?) = true := by rw [ey]; exact hc2
      obtain ⟨c1, c2⟩ := call_in ry ok hc1 hc2'
      rw [List.append_nil]
      refine ⟨by rw [arsOk_len ok, ← hn]; exact ha.ln _ _ h1, y.cal vs as, r1, ss', rfl, rfl, c1, c2, by show g (as.map (arSl y.e)) = _; rw [ey]; exact h2, fun v u Fr mu ru su eu so hf => ?_⟩
      obtain ⟨d1, d2⟩ := call_out ry ok hc1 hc2' mu ru su
      refine q v (y.aft u as) Fr (m.trans d2) d1 sy (by show arBack as u.e y.e = _; rw [eu, ey]) so fun b hb => ⟨?_, fun i hi => ?_⟩
      · by_cases hz : z.H b = none
        · exact hz
        · exact absurd (hf b hb).1 (m.dom b hz)
      · have hi' : b ∈ (if i ∈ refs as then u.F (posOf as i) else y.F i) := hi
        split at hi'
        · exact (hf b hb).2 _ hi'
        · exact (ry.live hi').2 (hf b hb).1
    · cases hf⟩
end
end Fl

set_option Elab.async false
set_option linter.all false
set_option maxRecDepth 100000
set_option maxHeartbeats 1000000
set_option autoImplicit false
/-! FnMeth: own lists changed; stores by place; operators in place; several targets. -/
namespace Fl
open PySem PySem.Spec PyProof.Rows L2
/-! ### an own list changed -/
def liOf : Option Sl → Option (List D)
  | some (.li xs) => some xs
  | _ => none
theorem liOf_some {o : Option Sl} {xs : List D} (h : liOf o = some xs) : o = some (.li xs) := by
  unfold liOf at h
  split at h
  · cases h; rfl
  · cases h
def Z.upLi (z : Z) (i : Nat) (a : Addr) (vs : List V) (ys : List D) : Z := { z with H := upd z.H a (.lst vs), e := z.e.set i (.li ys) }
theorem Rp.upLi {K : Frg} {z : Z} (r : Rp K z) {i : Nat} {xs ys : List D} {a : Addr} {ws : List V} (h : z.e[i]? = some (.li xs)) (hs : z.s[i]? = some (some (.ref a))) (hd : DvAll K z.G ws ys) : Rp K (z.upLi i a ws ys) ∧ Mv z (z.upLi i a ws ys) := by
  obtain ⟨a', vs, e1, e2, e3, e4, e5⟩ := r.own h
  rw [hs] at e1
  cases e1
  have hl := (List.getElem?_eq_some_iff.mp h).1
  have nf : ∀ j, j ≠ i → a ∉ z.F j := fun j hj => r.sep i j a (Ne.symm hj) (by rw [e2]; simp)
  refine ⟨⟨fun b x e => ?_, ?_, fun j s hj => ?_, fun j hj => ?_, r.sep⟩, ⟨fun b o hb hf => ?_, fun b hb => upd_none hb, Same.refl _, fun _ _ _ => rfl, fun _ _ h => .inl h, fun j hj => ?_, List.length_set ..⟩⟩
  · show upd z.H a (.lst ws) b = some x
    rw [upd_ne (ne_of_none (H := z.G) e e3)]; exact r.same _ _ e
  · show z.s.length = (z.e.set i (.li ys)).length
    rw [List.length_set]; exact r.len
  · have hj' : (z.e.set i (.li ys))[j]? = some s := hj
    show SlOk K z.G (upd z.H a (.lst ws)) ((z.s[j]?).join) (z.F j) s
    by_cases e : j = i
    · subst e
      rw [List.getElem?_set_self hl] at hj'
      cases hj'
      rw [hs]
      exact ⟨a, ws, rfl, e2, e3, upd_same, hd⟩
    · rw [List.getElem?_set_ne (Ne.symm e)] at hj'
      exact slFrame (r.ok j s hj') (Same.refl _) (fun b hb => upd_ne (memNe (nf j e) hb)) fun b hb => (r.live hb).1
  · have hj' : (z.e.set i (.li ys)).length ≤ j := hj
    rw [List.length_set] at hj'
    exact r.out j hj'
  · show upd z.H a (.lst ws) b = some o
    rw [upd_ne (fun e => hf i (by rw [e, e2]; simp))]; exact hb
  · have e : i ≠ j := fun e => by rw [← e, h] at hj; cases hj
    show isOw (z.e.set i (.li ys))[j]? = true ∧ z.s[j]? = z.s[j]?
    rw [List.getElem?_set_ne e]; exact ⟨hj, rfl⟩
section
variable {X : Cx} {pos : Pos}
/-- name.m(e) of an own list: g tells the value and the new list -/
def eMt1 (g : List D → D → Option (D × List D)) (i : Nat) (f : EF) : EF := fun e => (liOf e[i]?).bind fun _ => (f e).bind fun p => (liOf p.2[i]?).bind fun xs => (g xs p.1).map fun r => (r.1, p.2.set i (.li r.2))
def eMt0 (g : List D → Option (D × List D)) (i : Nat) : EF := fun e => (liOf e[i]?).bind fun xs => (g xs).map fun r => (r.1, e.set i (.li r.2))
def Mt1 (K : Frg) (r : V → List V → Hp → VK → Prop) (g : List D → D → Option (D × List D)) : Prop := ∀ a vs xs d vd rd ys G H (Q : VK), g xs d = some (rd, ys) → Same G H → H a = some (.lst vs) → DvAll K G vs xs → Dv K G vd d →
  (∀ rv ws, Dv K G rv rd → DvAll K G ws ys → Q rv (upd H a (.lst ws))) → r (.ref a) [vd] H Q
def Mt0 (K : Frg) (r : V → List V → Hp → VK → Prop) (g : List D → Option (D × List D)) : Prop := ∀ a vs xs rd ys G H (Q : VK), g xs = some (rd, ys) → Same G H → H a = some (.lst vs) → DvAll K G vs xs →
  (∀ rv ws, Dv K G rv rd → DvAll K G ws ys → Q rv (upd H a (.lst ws))) → r (.ref a) [] H Q
theorem fe_mt1 {i : Nat} {x : Str} {p apos : Pos} {name : Str} {id : String} {r : V → List V → Hp → VK → Prop} {g : List D → D → Option (D × List D)} {a : Expr} {f : EF} (slot : Slot "list" name id) (hty : typeOf (.builtin id) = pure (.type "method_descriptor")) (hm : MtR X id r) (hg : Mt1 X.K r g)
    (hN : X.N[i]? = some x) (hv : Vis X.env.scope x) (ha : FE X a f) (hbase : attributeBase (.Name x p) name X.env (eval (.Name x p) X.env) = eval (.Name x p) X.env := by rfl) (hfew : ((backTo pos (starEach [a] X.env)).all (fun x => !x.1) && (backToKw pos (keywordEach [] X.env)).all (fun x => x.1.isSome)
      && decide (([a]).length + ([] : List Keyword).length + (if ([] : List Keyword).isEmpty then 0 else 1) < 30)) = true := by rfl) (hline : (apos.endLine == pos.line) = true := by rfl)
    (he : starEach [a] X.env = (false, eval a X.env) :: starEach [] X.env := by rfl) (hpl : (backTo pos (starEach [] X.env)).any (·.1) = false := by rfl) (hd : (x == ("__debug__" : Str)) = false := by decide) (hcd : (x == ("__classdict__" : Str)) = false := by decide) : FE X (.Call (.Attribute (.Name x p) name apos) [a] [] pos) (eMt1 g i f) :=
  ⟨PE.imp (pe_bm PySem.F.plainAttrs_list slot hty hm (pe_var hN hv hd hcd) (pa_cons ha.pe pa_nil he) hbase hfew hline he hpl) fun σ H Q ⟨z, d, e', rp, hs, hH, hf, q⟩ => by
    subst hs hH
    obtain ⟨xs0, h0, hf⟩ := Option.bind_eq_some_iff.mp hf
    obtain ⟨⟨xd, e1⟩, h1, hf⟩ := Option.bind_eq_some_iff.mp hf
    obtain ⟨xs, h2, hf⟩ := Option.bind_eq_some_iff.mp hf
    obtain ⟨⟨rd, ys⟩, h3, hf⟩ := Option.map_eq_some_iff.mp hf
    cases hf
    obtain ⟨b, vs0, k1, k2, k3, k4, k5⟩ := rp.own (liOf_some h0)
    refine ⟨.ref b, k1, .inl ⟨rfl, _, SqL.of k4⟩, z, xd, e1, rp, rfl, rfl, h1, fun v y m ry sy ey pv => ?_⟩
    have hli : y.e[i]? = some (.li xs) := by rw [ey]; exact liOf_some h2
    obtain ⟨b', vs, l1, l2, l3, l4, l5⟩ := ry.own hli
    rw [sy, k1] at l1
    cases l1
    refine hg b vs xs xd v rd ys y.G y.H Q h3 ry.same l4 l5 pv fun rv ws p1 p2 => ?_
    obtain ⟨r5, m5⟩ := ry.upLi hli (by rw [sy]; exact k1) p2
    exact q rv (y.upLi i b ws ys) (m.trans m5) r5 sy (by show y.e.set i (.li ys) = _; rw [ey]) p1⟩
theorem fe_mt0 {i : Nat} {x : Str} {p apos : Pos} {name : Str} {id : String} {r : V → List V → Hp → VK → Prop} {g : List D → Option (D × List D)} (slot : Slot "list" name id) (hty : typeOf (.builtin id) = pure (.type "method_descriptor")) (hm : MtR X id r) (hg : Mt0 X.K r g)
    (hN : X.N[i]? = some x) (hv : Vis X.env.scope x) (hbase : attributeBase (.Name x p) name X.env (eval (.Name x p) X.env) = eval (.Name x p) X.env := by rfl) (hline : (apos.endLine == pos.line) = true := by rfl)
    (hd : (x == ("__debug__" : Str)) = false := by decide) (hcd : (x == ("__classdict__" : Str)) = false := by decide) : FE X (.Call (.Attribute (.Name x p) name apos) [] [] pos) (eMt0 g i) :=
  ⟨PE.imp (pe_bm0 PySem.F.plainAttrs_list slot hty hm (pe_var hN hv hd hcd) hbase hline) fun σ H Q ⟨z, d, e', rp, hs, hH, hf, q⟩ => by
    subst hs hH
    obtain ⟨xs, h0, hf⟩ := Option.bind_eq_some_iff.mp hf
    obtain ⟨⟨rd, ys⟩, h3, hf⟩ := Option.map_eq_some_iff.mp hf
    cases hf
    obtain ⟨b, vs, k1, k2, k3, k4, k5⟩ := rp.own (liOf_some h0)
    refine ⟨.ref b, k1, .inl ⟨rfl, _, SqL.of k4⟩, hg b vs xs rd ys z.G z.H Q h3 rp.same k4 k5 fun rv ws p1 p2 => ?_⟩
    obtain ⟨r5, m5⟩ := rp.upLi (liOf_some h0) k1 p2
    exact q rv (z.upLi i b ws ys) m5 r5 rfl rfl p1⟩
def gAppend (xs : List D) (d : D) : Option (D × List D) := if xs.length < sizeLine then some (.none, xs ++ [d]) else none
theorem mt1_append {K : Frg} : Mt1 K rAppend gAppend := fun a vs xs d vd rd ys G H Q e s ha hx hd q => by
  unfold gAppend at e
  split at e
  · rename_i hl
    cases e
    exact ⟨a, vs, vd, rfl, rfl, ha, by rw [dvAll_len hx]; exact hl, q .non _ .non (dvAll_app hx (dvAll_one hd))⟩
  · cases e
def gExtend (xs : List D) : D → Option (D × List D)
  | .list zs => if xs.length + zs.length ≤ sizeLine then some (.none, xs ++ zs) else none
  | _ => none
theorem mt1_extend {K : Frg} : Mt1 K rExtend gExtend := fun a vs xs d vd rd ys G H Q e s ha hx hd q => by
  unfold gExtend at e
  split at e
  · split at e
    · rename_i zs hl
      cases e
      obtain ⟨b, ws, rfl, k1, k2⟩ := vwLst s (.inl hd)
      exact ⟨a, b, vs, ws, rfl, rfl, ha, k1, by rw [dvAll_len hx, dvAll_len k2]; exact hl, q .non _ .non (dvAll_app hx k2)⟩
    · cases e
  · cases e
def gPop (xs : List D) : Option (D × List D) := (xs[xs.length - 1]?).map fun y => (y, xs.dropLast)
theorem dvAll_dropLast {K : Frg} {G : Hp} {vs : List V} {ds : List D} (h : DvAll K G vs ds) : DvAll K G vs.dropLast ds.dropLast := by
  rw [List.dropLast_eq_take, List.dropLast_eq_take, dvAll_len h]
  exact dvAll_take _ h
theorem mt0_pop {K : Frg} : Mt0 K rPop gPop := fun a vs xs rd ys G H Q e s ha hx q => by
  obtain ⟨y, h1, h2⟩ := Option.map_eq_some_iff.mp e
  cases h2
  obtain ⟨v, h3, h4⟩ := dvAll_get hx h1
  exact ⟨a, vs, v, rfl, rfl, ha, by rw [dvAll_len hx]; exact h3, q v _ h4 (dvAll_dropLast hx)⟩
def gPopAt (xs : List D) : D → Option (D × List D)
  | .int k => if -(2 ^ 63) ≤ k ∧ k < 2 ^ 63 then (ixN xs.length k).bind fun j => (xs[j]?).map fun y => (y, xs.eraseIdx j) else none
  | _ => none
theorem mt1_popAt {K : Frg} : Mt1 K rPopAt gPopAt := fun a vs xs d vd rd ys G H Q e s ha hx hd q => by
  unfold gPopAt at e
  split at e
  · split at e
    · rename_i k hk
      obtain ⟨j, h1, e⟩ := Option.bind_eq_some_iff.mp e
      obtain ⟨y, h2, h3⟩ := Option.map_eq_some_iff.mp e
      cases h3
      cases hd
      obtain ⟨v, h4, h5⟩ := dvAll_get hx h2
      obtain ⟨k1, k2, k3, k4⟩ := ixN_seq h1
      exact ⟨a, vs, k, j, v, rfl, rfl, ha, hk.1, hk.2, by rw [dvAll_len hx]; exact k1, h4, q v _ h5 (dvAll_erase j hx)⟩
    · cases e
  · cases e
/-! ### name[i] = e of an own list -/
def sSub (i : Nat) (fi fv : EF) : SF := fun e => (fv e).bind fun p => (liOf p.2[i]?).bind fun _ => (fi p.2).bind fun q => (liOf q.2[i]?).bind fun xs => match q.1 with
  | .int k => (ixN xs.length k).map fun j => .nx (q.2.set i (.li (xs.set j p.1)))
  | _ => none
theorem fs_sub {i : Nat} {x : Str} {p p2 : Pos} {b a : Expr} {fi fv : EF} (hN : X.N[i]? = some x) (hv : Vis X.env.scope x) (hb : FE X b fi) (ha : FE X a fv)
    (hq : ∀ v, assign (.Subscript (.Name x p) b p2) X.env v = (do
      let ov ← holding [v] (eval (.Name x p) X.env)
      let iv ← holding [v, ov] (eval b X.env)
      standAt p2
      holding [v, ov, iv] (setItem ov iv v)
      release [v, ov, iv] []) := by intro _; rfl)
    (hs : swapsWithSole [.Subscript (.Name x p) b p2] a pos.line X.env = pure false := by rfl) (hw : swappedStores [.Subscript (.Name x p) b p2] a X.env = pure none := by rfl) (h1 : (assignEach [.Subscript (.Name x p) b p2] X.env).map (·.2) = [assign (.Subscript (.Name x p) b p2) X.env] := by rfl)
    (hd : (x == ("__debug__" : Str)) = false := by decide) (hcd : (x == ("__classdict__" : Str)) = false := by decide) : FS X (.Assign [.Subscript (.Name x p) b p2] a pos) (sSub i fi fv) :=
  fs_of (ps_asg ha.pe (pg_sub (pe_var hN hv hd hcd) hb.pe set_list hq) hs hw h1) fun D z o r h q => by
    obtain ⟨⟨vd, e1⟩, h1, h⟩ := Option.bind_eq_some_iff.mp h
    obtain ⟨xs0, h2, h⟩ := Option.bind_eq_some_iff.mp h
    obtain ⟨⟨kd, e2⟩, h3, h⟩ := Option.bind_eq_some_iff.mp h
    obtain ⟨xs, h4, h⟩ := Option.bind_eq_some_iff.mp h
    cases kd with
    | int k =>
      obtain ⟨j, h5, h6⟩ := Option.map_eq_some_iff.mp (show ((ixN xs.length k).map _) = some o from h)
      subst h6
      refine ⟨z, vd, e1, r, rfl, rfl, h1, fun v y m ry sy ey pv => ?_⟩
      obtain ⟨b', vs0, k1, k2, k3, k4, k5⟩ := ry.own (i := i) (xs := xs0) (by rw [ey]; exact liOf_some h2)
      refine ⟨.ref b', by rw [← sy]; exact k1, y, _, e2, ry, sy, rfl, by rw [ey]; exact h3, fun w u mu ru su eu pw => ?_⟩
      have hli : u.e[i]? = some (.li xs) := by rw [eu]; exact liOf_some h4
      obtain ⟨b2, vs, l1, l2, l3, l4, l5⟩ := ru.own hli
      rw [su, ← sy, k1] at l1
      cases l1
      cases pw
      refine ⟨b', vs, k, j, rfl, rfl, l4, by rw [dvAll_len l5]; exact h5, ?_⟩
      obtain ⟨r5, m5⟩ := ru.upLi (ws := vs.set j v) (ys := xs.set j vd) hli (by rw [su, ← sy]; exact k1) (dvAll_set (dvMono mu.g _ _ pv) j l5)
      have := q _ ((m.trans mu).trans m5) r5 (by show u.e.set i (.li (xs.set j vd)) = _; rw [eu])
      show D.nx z.s (upd u.H b' (.lst (vs.set j v)))
      rw [← su]; exact this
    | none => cases h
    | bool _ => cases h
    | str _ => cases h
    | list _ => cases h
    | tuple _ => cases h
    | dict _ => cases h
/-! ### name op= e -/
def sAug (g : D → D → Option D) (i : Nat) (f : EF) : SF := fun e => match e[i]? with
  | some (.va x) => (f e).bind fun p => (g x p.1).bind fun d => if isOw p.2[i]? then none else some (.nx (p.2.set i (.va d)))
  | _ => none
theorem fs_aug {i : Nat} {x : Str} {a : Expr} {f : EF} {op : Operator} {ti : TIp} {g : D → D → Option D} {pos' : Pos} (hN : X.N.Nodup) (hi : X.N[i]? = some x) (hx : Loc X.env.scope x) (ha : FE X a f) (ho : PIp X op ti) (hg : Op2 X.K ti g) (hf : X.fn x = true ∨ X.env.scope.names.lookup x = some .local := by first | exact .inl rfl | exact .inr rfl | assumption) : FS X (.AugAssign (.Name x pos') op a pos) (sAug g i f) :=
  fs_of (ps_aug hN hi hx ha.pe ho hf) fun D z o r h q => by
    unfold sAug at h
    split at h
    · rename_i xd hx
      obtain ⟨⟨yd, e1⟩, h1, h⟩ := Option.bind_eq_some_iff.mp h
      obtain ⟨d, h2, h⟩ := Option.bind_eq_some_iff.mp h
      split at h
      · cases h
      · rename_i no
        cases h
        obtain ⟨v, k1, k2⟩ := r.var hx
        refine ⟨v, k1, z, yd, e1, r, rfl, rfl, h1, fun w y m ry sy ey pw => ?_⟩
        have no' : isOw y.e[i]? = false := by rw [ey]; simpa using no
        refine hg xd yd d y.G y.H v w _ h2 ry.same (dvMono m.g _ _ k2) (.inl pw) (fun u pu => ?_) fun u p o hn pu => ?_
        · have := q (y.put i u (.va d) []) (m.put no' fun _ h => nomatch h) (ry.put ⟨rfl, u, rfl, pu⟩ fun _ h => nomatch h) (by show y.e.set i _ = _; rw [ey])
          show D.nx (z.s.set i (some u)) y.H
          rw [← sy]; exact this
        · obtain ⟨r5, m5⟩ := ry.add (o := o) hn
          have := q ((y.add p o).put i u (.va d) []) ((m.trans m5).put no' fun _ h => nomatch h) (r5.put ⟨rfl, u, rfl, pu⟩ fun _ h => nomatch h) (by show y.e.set i _ = _; rw [ey])
          show D.nx (z.s.set i (some u)) (upd y.H p o)
          rw [← sy]; exact this
    · cases h
/-- += of ints and texts, -= of ints -/
def dIadd : D → D → Option D
  | .int i, .int j => some (.int (i + j))
  | .str i, .str j => if i.length + j.length ≤ sizeLine then some (.str (i ++ j)) else none
  | _, _ => none
theorem ip_addA : PIp X .Add (fun x y H Q => rI0 (fun i j => .int (i + j)) x y H Q ∨ ∃ i j, x = .str i ∧ y = .str j ∧ i.length + j.length ≤ sizeLine ∧ Q (.str (i ++ j)) H) := (iop_add (X := X)).or iop_add_str
theorem ip2_add {K : Frg} : Op2 K (fun x y H Q => rI0 (fun i j => .int (i + j)) x y H Q ∨ ∃ i j, x = .str i ∧ y = .str j ∧ i.length + j.length ≤ sizeLine ∧ Q (.str (i ++ j)) H) dIadd := fun x y d G H vx vy Q e s a b q _ => by
  unfold dIadd at e
  split at e
  · cases e; cases a; rw [vwInt b]; exact .inl ⟨_, _, rfl, rfl, q _ (.int _)⟩
  · split at e
    · rename_i hc; cases e; cases a; rw [vwStr b]; exact .inr ⟨_, _, rfl, rfl, hc, q _ (.str _)⟩
    · cases e
  · cases e
theorem fs_augAdd {i : Nat} {x : Str} {a : Expr} {f : EF} {pos' : Pos} (hN : X.N.Nodup) (hi : X.N[i]? = some x) (hx : Loc X.env.scope x) (ha : FE X a f) (hf : X.fn x = true ∨ X.env.scope.names.lookup x = some .local := by first | exact .inl rfl | exact .inr rfl | assumption) : FS X (.AugAssign (.Name x pos') .Add a pos) (sAug dIadd i f) := fs_aug hN hi hx ha ip_addA ip2_add hf
theorem fs_augSub {i : Nat} {x : Str} {a : Expr} {f : EF} {pos' : Pos} (hN : X.N.Nodup) (hi : X.N[i]? = some x) (hx : Loc X.env.scope x) (ha : FE X a f) (hf : X.fn x = true ∨ X.env.scope.names.lookup x = some .local := by first | exact .inl rfl | exact .inr rfl | assumption) : FS X (.AugAssign (.Name x pos') .Sub a pos) (sAug dSub i f) := fs_aug hN hi hx ha (iop_sub (X := X)) (op_dI fun _ _ _ => .int _) hf
/-! ### several things of one's own in a row -/
abbrev OLF := Ev → Option (List Sl × Ev)
/-- made things, apart from all that is owned, and from one another -/
inductive TsOk (K : Frg) (z y : Z) : List V → List (List Addr) → List Sl → Prop
  | nil : TsOk K z y [] [] []
  | cons {v : V} {vs : List V} {Fr : List Addr} {Frs : List (List Addr)} {s : Sl} {ss : List Sl} : SlOk K y.G y.H (some v) Fr s → (∀ a ∈ Fr, z.H a = none ∧ (∀ i, a ∉ y.F i) ∧ ∀ Fq ∈ Frs, a ∉ Fq) → TsOk K z y vs Frs ss → TsOk K z y (v :: vs) (Fr :: Frs) (s :: ss)
def tOl (K : Frg) (f : OLF) : TA := fun σ H Q => ∃ z rs e', Rp K z ∧ z.s = σ ∧ z.H = H ∧ f z.e = some (rs, e') ∧ ∀ vs y Frs, Mv z y → Rp K y → y.s = σ → y.e = e' → TsOk K z y vs Frs rs → Q vs y.H
structure FOl (X : Cx) (es : List Expr) (f : OLF) : Prop where
  pa : PA X es (tOl X.K f)
def olNil : OLF := fun e => some ([], e)
def olCons (f : OF) (g : OLF) : OLF := fun e => (f e).bind fun p => (g p.2).map fun q => (p.1 :: q.1, q.2)
theorem tsLive {K : Frg} {z y : Z} : ∀ {vs : List V} {Frs : List (List Addr)} {ss : List Sl}, TsOk K z y vs Frs ss → ∀ Fq ∈ Frs, ∀ a ∈ Fq, z.H a = none
  | _, _, _, .nil, _, h => nomatch h
  | _, _, _, .cons h1 h2 h3, Fq, h => by
    intro a ha
    rcases List.mem_cons.mp h with e | h
    · subst e; exact (h2 a ha).1
    · exact tsLive h3 Fq h a ha
theorem tsBack {K : Frg} {z0 z y : Z} (m : Mv z0 z) : ∀ {vs : List V} {Frs : List (List Addr)} {ss : List Sl}, TsOk K z y vs Frs ss → TsOk K z0 y vs Frs ss
  | _, _, _, .nil => .nil
  | _, _, _, .cons h1 h2 h3 => .cons h1 (fun a ha => ⟨by
      by_cases q : z0.H a = none
      · exact q
      · exact absurd (h2 a ha).1 (m.dom a q), (h2 a ha).2⟩) (tsBack m h3)
theorem fol_nil : FOl X [] olNil := ⟨PA.imp pa_nil fun σ H Q ⟨z, d, e', rp, hs, hH, hf, q⟩ => by
  subst hs hH
  cases hf
  exact q [] z [] (Mv.refl z) rp rfl rfl .nil⟩
theorem fol_cons {a : Expr} {es : List Expr} {f : OF} {g : OLF} (ha : FO X a f) (hr : FOl X es g) (hs : starEach (a :: es) X.env = (false, eval a X.env) :: starEach es X.env := by rfl) : FOl X (a :: es) (olCons f g) :=
  ⟨PA.imp (pa_cons ha.po hr.pa hs) fun σ H Q ⟨z, d, e', rp, hs, hH, hf, q⟩ => by
    subst hs hH
    obtain ⟨⟨x, e1⟩, h1, hf⟩ := Option.bind_eq_some_iff.mp hf
    obtain ⟨⟨xs, e2⟩, h2, h3⟩ := Option.map_eq_some_iff.mp hf
    cases h3
    refine ⟨z, x, e1, rp, rfl, rfl, h1, fun v1 y1 F1 m1 r1 s1 ee1 so hf => ⟨y1, xs, _, r1, s1, rfl, by rw [ee1]; exact h2, fun v2 y2 F2 m2 r2 s2 ee2 ts => ?_⟩⟩
    have lv := slLive so
    have nd : ∀ a ∈ F1, ∀ i, a ∉ y2.F i := fun a ha i hi => by
      rcases m2.fn i a hi with h | h
      · exact (hf a ha).2 i h
      · exact (lv a ha).2 h
    have hH2 : ∀ a ∈ F1, y2.H a = y1.H a := fun a ha => by
      cases hq : y1.H a with
      | none => exact absurd hq (lv a ha).2
      | some o => exact m2.out a o hq (hf a ha).2
    refine q (v1 :: v2) y2 (F1 :: F2) (m1.trans m2) r2 s2 ee2 (.cons (slFrame so m2.g hH2 fun a ha => (m2.gn a (lv a ha).2 (hf a ha).2).trans (lv a ha).1) (fun a ha => ⟨(hf a ha).1, nd a ha, fun Fq hq hF => ?_⟩) (tsBack m1 ts))
    exact (lv a ha).2 (tsLive ts Fq hq a hF)⟩
/-- slots, one after another -/
def setAll : List Nat → List Sl → Ev → Option Ev
  | [], [], e => some e
  | i :: is, s :: ss, e => if isOw e[i]? then none else setAll is ss (e.set i s)
  | _, _, _ => none
def sPar (is : List Nat) (f : OLF) : SF := fun e => (f e).bind fun p => (setAll is p.1 p.2).map fun e2 => .nx e2
def stAll : List Nat → List V → L2.St → L2.St
  | i :: is, v :: vs, σ => stAll is vs (σ.set i (some v))
  | _, _, σ => σ
/-- the state behind such stores -/
theorem setAll_go {K : Frg} {z : Z} : ∀ {is : List Nat} {vs : List V} {Frs : List (List Addr)} {ss : List Sl} {y : Z} {e' : Ev}, Mv z y → Rp K y → TsOk K z y vs Frs ss → setAll is ss y.e = some e' →
    ∃ u, Mv z u ∧ Rp K u ∧ u.e = e' ∧ u.H = y.H ∧ u.s = stAll is vs y.s
  | [], _, _, _, y, e', m, r, .nil, h => by cases h; exact ⟨y, m, r, rfl, rfl, rfl⟩
  | [], _, _, _, y, e', m, r, .cons _ _ _, h => by cases h
  | i :: is, _, _, _, y, e', m, r, .nil, h => by cases h
  | i :: is, _, _, _, y, e', m, r, .cons (v := v) (vs := vs) (Fr := Fr) (Frs := Frs) (s := s) (ss := ss) h1 h2 h3, h => by
    have h' : (if isOw y.e[i]? = true then none else setAll is ss (y.e.set i s)) = some e' := h
    split at h'
    · cases h'
    · rename_i no
      have no' : isOw y.e[i]? = false := by simpa using no
      have r2 : Rp K (y.put i v s Fr) := r.put h1 fun a ha j _ => (h2 a ha).2.1 j
      have m2 : Mv z (y.put i v s Fr) := m.put no' fun a ha => .inr (h2 a ha).1
      have t2 : TsOk K z (y.put i v s Fr) vs Frs ss := by
        have gen : ∀ {vs : List V} {Frs : List (List Addr)} {ss : List Sl}, (∀ a ∈ Fr, ∀ Fq ∈ Frs, a ∉ Fq) → TsOk K z y vs Frs ss → TsOk K z (y.put i v s Fr) vs Frs ss := by
          intro vs Frs ss hd t
          induction t with
          | nil => exact .nil
          | cons k1 k2 k3 ih =>
            refine .cons k1 (fun a ha => ⟨(k2 a ha).1, fun j hj => ?_, (k2 a ha).2.2⟩) (ih fun a ha Fq hq => hd a ha Fq (List.mem_cons_of_mem _ hq))
            have hj' : a ∈ (if j = i then (if i < y.e.length then Fr else []) else y.F j) := hj
            split at hj'
            · split at hj'
              · exact hd a hj' _ List.mem_cons_self ha
              · cases hj'
            · exact (k2 a ha).2.1 j hj'
        exact gen (fun a ha => (h2 a ha).2.2) h3
      obtain ⟨u, u1, u2, u3, u4, u5⟩ := setAll_go (is := is) m2 r2 t2 h'
      exact ⟨u, u1, u2, u3, u4, u5⟩
/-- a, b = x, y with plain local names -/
theorem fs_par {i j : Nat} {x y : Str} {a b : Expr} {f : OLF} {px py pt : Pos} {kt k2 pt2} (hc : X.calm = true) (hN : X.N.Nodup) (hi : X.N[i]? = some x) (hj : X.N[j]? = some y) (hij : i ≠ j) (hx : X.env.scope.names.lookup x = some .local) (hy : X.env.scope.names.lookup y = some .local) (ha : FOl X [a, b] f)
    (hw : swappedStores [.Tuple [.Name x px, .Name y py] kt pt] (.Tuple [a, b] k2 pt2) X.env = pure (some [x, y])) (hs : swapsWithSole [.Tuple [.Name x px, .Name y py] kt pt] (.Tuple [a, b] k2 pt2) pos.line X.env = pure false := by rfl) : FS X (.Assign [.Tuple [.Name x px, .Name y py] kt pt] (.Tuple [a, b] k2 pt2) pos) (sPar [i, j] f) :=
  fs_of (ps_par hc hN hi hj hij hx hy ha.pa hw hs) fun D z o r h q => by
    obtain ⟨⟨ss, e1⟩, h1, h⟩ := Option.bind_eq_some_iff.mp h
    obtain ⟨e2, h2, h3⟩ := Option.map_eq_some_iff.mp h
    subst h3
    refine ⟨z, ss, e1, r, rfl, rfl, h1, fun vs y Frs m ry sy ey ts => ?_⟩
    obtain ⟨u, u1, u2, u3, u4, u5⟩ := setAll_go m ry ts (show setAll [i, j] ss y.e = some e2 by rw [ey]; exact h2)
    cases ts with
    | nil => cases h2
    | cons k1 k2 k3 =>
      cases k3 with
      | nil =>
        exfalso
        have h2' : (if isOw e1[i]? = true then none else none) = some e2 := h2
        split at h2' <;> cases h2'
      | cons l1 l2 l3 =>
        cases l3 with
        | nil =>
          refine ⟨_, _, rfl, ?_⟩
          have := q u u1 u2 u3
          rw [u4, u5, sy] at this
          exact this
        | cons _ _ _ =>
          exfalso
          have h2' : (if isOw e1[i]? = true then none else if _ then none else none) = some e2 := h2
          split at h2'
          · cases h2'
          · split at h2' <;> cases h2'
/-- names as targets -/
def gNames : List Nat → TGs
  | [] => gNil
  | i :: is => gCons (gName i) (gNames is)
theorem gNames_go : ∀ {is : List Nat} {vs : List V} {σ : L2.St} {H : Hp} {Q : L2.St → Hp → Prop}, vs.length = is.length → Q (stAll is vs σ) H → gNames is vs σ H Q
  | [], [], _, _, _, _, h => ⟨rfl, h⟩
  | i :: is, v :: vs, σ, H, Q, hl, h => ⟨v, vs, rfl, gNames_go (is := is) (by simpa using hl) h⟩
  | [], _ :: _, _, _, _, hl, _ => by cases hl
  | _ :: _, [], _, _, _, hl, _ => by cases hl
theorem tsLen {K : Frg} {z y : Z} : ∀ {vs : List V} {Frs : List (List Addr)} {ss : List Sl}, TsOk K z y vs Frs ss → vs.length = ss.length
  | _, _, _, .nil => rfl
  | _, _, _, .cons _ _ t => congrArg (· + 1) (tsLen t)
theorem setAll_len : ∀ {is : List Nat} {ss : List Sl} {e e' : Ev}, setAll is ss e = some e' → ss.length = is.length
  | [], [], _, _, _ => rfl
  | [], _ :: _, _, _, h => by cases h
  | _ :: _, [], _, _, h => by cases h
  | i :: is, s :: ss, e, e', h => by
    have h' : (if isOw e[i]? = true then none else setAll is ss (e.set i s)) = some e' := h
    split at h'
    · cases h'
    · exact congrArg (· + 1) (setAll_len h')
/-- a, b, .. = x, y, .. by way of a tuple (names that are cells, or four and more): nobody holds the tuple behind it -/
theorem fs_parT {is : List Nat} {tgs es : List Expr} {f : OLF} {kt k2 : Nat} {pt pt2 : Pos} (hc : X.calm = true) (ha : FOl X es f) (hg : PGs X tgs (gNames is)) (hl : is.length ≤ sizeLine)
    (hn : (assignEach tgs X.env).length = is.length := by rfl) (hst : (assignEach tgs X.env).findIdx? (·.1) = none := by rfl)
    (hs : swapsWithSole [.Tuple tgs kt pt] (.Tuple es k2 pt2) pos.line X.env = pure false := by rfl) (hw : swappedStores [.Tuple tgs kt pt] (.Tuple es k2 pt2) X.env = pure none := by rfl) (h1 : (assignEach [.Tuple tgs kt pt] X.env).map (·.2) = [assign (.Tuple tgs kt pt) X.env] := by rfl) :
    FS X (.Assign [.Tuple tgs kt pt] (.Tuple es k2 pt2) pos) (sPar is f) :=
  fs_of (ps_asg (pe_tup ha.pa) (pg_tup hc hg hn hst) hs hw h1) fun D z o r h q => by
    obtain ⟨⟨ss, e1⟩, h1, h⟩ := Option.bind_eq_some_iff.mp h
    obtain ⟨e2, h2, h3⟩ := Option.map_eq_some_iff.mp h
    subst h3
    have hlen := setAll_len h2
    refine ⟨z, ss, e1, r, rfl, rfl, h1, fun vs y Frs m ry sy ey ts => ⟨by rw [tsLen ts, hlen]; exact hl, fun p hp => ?_⟩⟩
    refine ⟨p, vs, rfl, SqT.of upd_same, (tsLen ts).trans hlen, gNames_go ((tsLen ts).trans hlen) ?_⟩
    obtain ⟨r5, m5⟩ := ry.new (o := .tup vs) hp
    have t5 : TsOk X.K z (y.new p (.tup vs)) vs Frs ss := by
      have gen : ∀ {ws : List V} {Frs : List (List Addr)} {ss : List Sl}, TsOk X.K z y ws Frs ss → TsOk X.K z (y.new p (.tup vs)) ws Frs ss := by
        intro ws Frs ss t
        induction t with
        | nil => exact .nil
        | cons k1 k2 k3 ih =>
          refine .cons (slFrame k1 (Same.refl _) (fun a ha => upd_ne fun e => (slLive k1 a ha).2 (by rw [e]; exact hp)) fun a ha => (slLive k1 a ha).1) (fun a ha => k2 a ha) ih
      exact gen ts
    obtain ⟨u, u1, u2, u3, u4, u5⟩ := setAll_go (m.trans m5) r5 t5 (show setAll is ss y.e = some e2 by rw [ey]; exact h2)
    have := q u u1 u2 u3
    rw [u4, u5] at this
    show D.nx (stAll is vs z.s) (upd y.H p (.tup vs))
    rw [← sy]; exact this
end
end Fl

set_option Elab.async false
set_option linter.all false
set_option maxRecDepth 100000
set_option maxHeartbeats 1000000
set_option autoImplicit false
/-! FnFrz: a name as a value (an own list stands still from then on); the tape of a law. -/
namespace Fl
open PySem PySem.Spec PyProof.Rows L2
/-- a name's value; an own list stands still from now on -/
def eNm (i : Nat) : EF := fun e => match e[i]? with
  | some (.va d) => some (d, e)
  | some (.li xs) => some (.list xs, e.set i (.va (.list xs)))
  | _ => none
section
variable {X : Cx} {pos : Pos}
def Z.fz (z : Z) (i : Nat) (a : Addr) (vs : List V) (xs : List D) : Z := { z with G := upd z.G a (.lst vs), e := z.e.set i (.va (.list xs)), F := fun j => if j = i then [] else z.F j }
theorem Rp.fzName {K : Frg} {z : Z} (r : Rp K z) {i : Nat} {xs : List D} {a : Addr} {vs : List V} (h : z.e[i]? = some (.li xs)) (k1 : z.s[i]? = some (some (.ref a))) (k2 : z.F i = [a]) (k3 : z.G a = none) (k4 : z.H a = some (.lst vs)) (k5 : DvAll K z.G vs xs) : Rp K (z.fz i a vs xs) ∧ Mv z (z.fz i a vs xs) := by
  have hl := (List.getElem?_eq_some_iff.mp h).1
  have nf : ∀ j, j ≠ i → a ∉ z.F j := fun j hj => r.sep i j a (Ne.symm hj) (by rw [k2]; simp)
  refine ⟨⟨fun b x e => ?_, ?_, fun j s hj => ?_, fun j hj => ?_, fun j l b hjl hj hl' => ?_⟩, ⟨fun _ _ h _ => h, fun _ h => h, sameUpd k3, fun b hb hk => ?_, fun j b hb => ?_, fun j hj => ?_, List.length_set ..⟩⟩
  · have e' : upd z.G a (.lst vs) b = some x := e
    show z.H b = some x
    by_cases q : b = a
    · subst q; rw [upd_same] at e'; rw [k4]; exact e'
    · rw [upd_ne q] at e'; exact r.same _ _ e'
  · show z.s.length = (z.e.set i (.va (.list xs))).length
    rw [List.length_set]; exact r.len
  · have hj' : (z.e.set i (.va (.list xs)))[j]? = some s := hj
    show SlOk K (upd z.G a (.lst vs)) z.H ((z.s[j]?).join) (if j = i then [] else z.F j) s
    by_cases e : j = i
    · subst e
      rw [List.getElem?_set_self hl] at hj'
      cases hj'
      rw [if_pos rfl, k1]
      exact ⟨rfl, .ref a, rfl, .lst upd_same (dvMonoAll (sameUpd k3) _ _ k5)⟩
    · rw [List.getElem?_set_ne (Ne.symm e)] at hj'
      rw [if_neg e]
      refine slFrame (r.ok j s hj') (sameUpd k3) (fun _ _ => rfl) fun b hb => ?_
      rw [upd_ne (memNe (nf j e) hb)]
      exact (r.live hb).1
  · have hj' : (z.e.set i (.va (.list xs))).length ≤ j := hj
    rw [List.length_set] at hj'
    show (if j = i then [] else z.F j) = []
    split
    · rfl
    · exact r.out j hj'
  · have a1 : b ∈ (if j = i then [] else z.F j) := hj
    have a2 : b ∈ (if l = i then [] else z.F l) := hl'
    split at a1
    · cases a1
    · split at a2
      · cases a2
      · exact r.sep j l b hjl a1 a2
  · show upd z.G a (.lst vs) b = z.G b
    exact upd_ne fun e => hk i (by rw [e, k2]; simp)
  · have hb' : b ∈ (if j = i then [] else z.F j) := hb
    split at hb'
    · cases hb'
    · exact .inl hb'
  · have e : i ≠ j := fun e => by rw [← e, h] at hj; cases hj
    show isOw (z.e.set i (.va (.list xs)))[j]? = true ∧ z.s[j]? = z.s[j]?
    rw [List.getElem?_set_ne e]; exact ⟨hj, rfl⟩
theorem fe_nm {i : Nat} {x : Str} (hN : X.N[i]? = some x) (hv : Vis X.env.scope x) (hd : (x == ("__debug__" : Str)) = false := by decide) (hcd : (x == ("__classdict__" : Str)) = false := by decide) : FE X (.Name x pos) (eNm i) :=
  ⟨PE.imp (pe_var hN hv hd hcd) fun σ H Q ⟨z, d, e', r, hs, hH, hf, q⟩ => by
    subst hs hH
    unfold eNm at hf
    split at hf
    · rename_i d' h
      cases hf
      obtain ⟨v, h1, h2⟩ := r.var h
      exact ⟨v, h1, q v z (Mv.refl z) r rfl rfl h2⟩
    · rename_i xs h
      cases hf
      obtain ⟨a, vs, k1, k2, k3, k4, k5⟩ := r.own h
      obtain ⟨r2, m2⟩ := r.fzName h k1 k2 k3 k4 k5
      exact ⟨.ref a, k1, q _ (z.fz i a vs xs) m2 r2 rfl rfl (.lst upd_same (dvMonoAll (sameUpd k3) _ _ k5))⟩
    · cases hf⟩
end
/-! ### the tape of a law: [numbers, a, b] -/
structure Box where
  cells : List Int
  a : Int
  b : Int
def Box.ot (b : Box) : OT := .node [.node (b.cells.map fun i => .leaf (.int i)), .leaf (.int b.a), .leaf (.int b.b)]
theorem otsInts {K : Frg} {G H : Hp} : ∀ {vs : List V} {ns : List Int} {F : List Addr}, OtsOk K G H vs (ns.map fun i => OT.leaf (.int i)) F → vs = ns.map V.int ∧ F = []
  | _, [], _, h => by cases h; exact ⟨rfl, rfl⟩
  | _, n :: ns, _, h => by
    cases h with
    | cons h1 h2 h3 =>
      cases h1 with
      | leaf h1 =>
        cases h1
        obtain ⟨e1, e2⟩ := otsInts h2
        subst e1 e2
        exact ⟨rfl, rfl⟩
theorem otsIntsMk {K : Frg} {G H : Hp} : ∀ (ns : List Int), OtsOk K G H (ns.map V.int) (ns.map fun i => OT.leaf (.int i)) []
  | [] => .nil
  | n :: ns => .cons (F1 := []) (F2 := []) (.leaf (.int n)) (otsIntsMk ns) fun _ h => nomatch h
/-- a tape on the heap: its list at p, its numbers at c -/
def BoxAt (H : Hp) (p c : Addr) (b : Box) : Prop := p ≠ c ∧ H p = some (.lst [.ref c, .int b.a, .int b.b]) ∧ H c = some (.lst (b.cells.map V.int))
theorem boxOf {K : Frg} {G H : Hp} {v : V} {F : List Addr} {b : Box} (h : OtOk K G H v b.ot F) : ∃ p c, v = .ref p ∧ F = [p, c] ∧ BoxAt H p c b ∧ G p = none ∧ G c = none := by
  cases h with
  | node h1 h2 h3 h4 =>
    cases h3 with
    | cons k1 k2 k3 =>
      cases k1 with
      | node g1 g2 g3 g4 =>
        obtain ⟨e1, e2⟩ := otsInts g3
        subst e1 e2
        cases k2 with
        | cons l1 l2 l3 =>
          cases l1 with
          | leaf l1 =>
            cases l1
            cases l2 with
            | cons m1 m2 m3 =>
              cases m1 with
              | leaf m1 =>
                cases m1
                cases m2
                refine ⟨_, _, rfl, rfl, ⟨fun e => h4 ?_, h2, g2⟩, h1, g1⟩
                rw [e]; simp
theorem boxMk {K : Frg} {G H : Hp} {p c : Addr} {b : Box} (h : BoxAt H p c b) (g1 : G p = none) (g2 : G c = none) : OtOk K G H (.ref p) b.ot [p, c] := by
  obtain ⟨h1, h2, h3⟩ := h
  have k1 : OtOk K G H (.ref c) (.node (b.cells.map fun i => OT.leaf (.int i))) [c] := .node g2 h3 (otsIntsMk _) fun h => nomatch h
  have k2 : OtsOk K G H [.int b.a, .int b.b] [.leaf (.int b.a), .leaf (.int b.b)] [] := .cons (F1 := []) (F2 := []) (.leaf (.int _)) (.cons (F1 := []) (F2 := []) (.leaf (.int _)) .nil fun _ h => nomatch h) fun _ h => nomatch h
  have k3 : OtsOk K G H [.ref c, .int b.a, .int b.b] [.node (b.cells.map fun i => OT.leaf (.int i)), .leaf (.int b.a), .leaf (.int b.b)] [c] := .cons (F1 := [c]) (F2 := []) k1 k2 fun _ _ h => nomatch h
  exact .node g1 h2 k3 (by simpa using h1)
/-- a step of the tape: what a def of it does, by hand: result and the tape behind it -/
def spBox (k : Nat) (go : Box → List V → Option (V × Box)) : Sp := fun vs H Q _ => vs.length = k + 1 ∧ ∃ p c b as r b', vs = .ref p :: as ∧ BoxAt H p c b ∧ go b as = some (r, b') ∧ ∀ H', BoxAt H' p c b' → (∀ a, a ≠ p → a ≠ c → H' a = H a) → Q r H'
/-- an int's drawing: one place -/
def gDraw (go : Box → Int → Int × Box) (ok : Int → Bool) : Fnc := fun ss => match ss with
  | [.ow (.node [.node cs, .leaf (.int a), .leaf (.int b)]), .va (.int m)] => if ok m then (cellsOf cs).map fun ns => (.va (.int (go ⟨ns, a, b⟩ m).1), [.ow (go ⟨ns, a, b⟩ m).2.ot, .no]) else none
  | _ => none
where cellsOf : List OT → Option (List Int)
  | [] => some []
  | .leaf (.int i) :: r => (cellsOf r).map (i :: ·)
  | _ :: _ => none
theorem cellsOf_map : ∀ ns : List Int, gDraw.cellsOf (ns.map fun i => OT.leaf (.int i)) = some ns
  | [] => rfl
  | n :: r => by
    show (gDraw.cellsOf (r.map fun i => OT.leaf (.int i))).map (n :: ·) = _
    rw [cellsOf_map r]; rfl
theorem cellsOf_some : ∀ {cs : List OT} {ns : List Int}, gDraw.cellsOf cs = some ns → cs = ns.map fun i => OT.leaf (.int i)
  | [], _, h => by cases h; rfl
  | .leaf (.int i) :: r, _, h => by
    obtain ⟨ms, h1, h2⟩ := Option.map_eq_some_iff.mp (show ((gDraw.cellsOf r).map (i :: ·)) = _ from h)
    subst h2
    rw [cellsOf_some h1]; rfl
  | .leaf .none :: _, _, h => nomatch h
  | .leaf (.bool _) :: _, _, h => nomatch h
  | .leaf (.str _) :: _, _, h => nomatch h
  | .leaf (.list _) :: _, _, h => nomatch h
  | .leaf (.tuple _) :: _, _, h => nomatch h
  | .leaf (.dict _) :: _, _, h => nomatch h
  | .node _ :: _, _, h => nomatch h
  | .ntup _ :: _, _, h => nomatch h
theorem gDraw_box (go : Box → Int → Int × Box) (ok : Int → Bool) (b : Box) (m : Int) (h : ok m = true) : gDraw go ok [.ow b.ot, .va (.int m)] = some (.va (.int (go b m).1), [.ow (go b m).2.ot, .no]) := by
  show (if ok m = true then (gDraw.cellsOf (b.cells.map fun i => OT.leaf (.int i))).map _ else none) = _
  rw [if_pos h, cellsOf_map]; rfl
section
variable {P : Program} {w : World} {K : Frg} {mg : Str → Option Value} {base : Heap}
/-- a drawing def's promise in the layer's words -/
theorem draw_ok {f : Addr} {fd : FuncData} {k : Nat} {ps : List Str} {go : Box → Int → Int × Box} {ok : Int → Bool} (F : FnOk P w K mg base CX0 k f fd ps (spBox 1 fun b as => match as with
    | [.int m] => if ok m then some (.int (go b m).1, (go b m).2) else none
    | _ => none)) : FnOk P w K mg base CX0 k f fd ps (spF K 2 (gDraw go ok)) := F.imp fun vs H Q E ⟨hl, z, r, ss', hs, hH, rp, har, hg, q⟩ => by
  subst hH
  refine ⟨hl, ?_⟩
  unfold gDraw at hg
  split at hg
  · rename_i cs a b m he
    split at hg
    · rename_i hok
      obtain ⟨ns, h1, h2⟩ := Option.map_eq_some_iff.mp hg
      have ec := cellsOf_some h1
      subst ec
      cases h2
      have o0 := rp.ok 0 _ (by rw [he]; rfl)
      have o1 := rp.ok 1 _ (by rw [he]; rfl)
      rw [hs] at o0 o1
      match vs, hl, hs, q, o0, o1 with
      | [v0, v1], _, hs, q, o0, o1 =>
      obtain ⟨x, e1, o0⟩ := o0
      cases e1
      obtain ⟨p, c, rfl, hF, hB, g1, g2⟩ := boxOf (b := ⟨ns, a, b⟩) o0
      obtain ⟨_, x, e2, o1⟩ := o1
      cases e2
      cases o1
      refine ⟨p, c, ⟨ns, a, b⟩, [.int m], _, _, rfl, hB, by show (if ok m = true then _ else none) = _; rw [if_pos hok], fun H' hB' hsame => ?_⟩
      have hF1 : z.F 1 = [] := by
        have := rp.ok 1 _ (show z.e[1]? = some (.va (.int m)) by rw [he]; rfl)
        exact this.1
      have hFo : ∀ i, z.F i = if i = 0 then [p, c] else [] := fun i => by
        match i with
        | 0 => rw [if_pos rfl]; exact hF
        | 1 => exact hF1
        | i + 2 => rw [if_neg (by omega)]; exact rp.out _ (by rw [he]; simp)
      have hHn : ∀ a, H' a = none → z.H a = none := fun a h => by
        by_cases e1 : a = p
        · rw [e1, hB'.2.1] at h; cases h
        · by_cases e2 : a = c
          · rw [e2, hB'.2.2] at h; cases h
          · rw [hsame a e1 e2] at h; exact h
      have nG : ∀ b x, z.G b = some x → b ≠ p ∧ b ≠ c := fun b x h => ⟨fun e => (by rw [e, g1] at h; cases h), fun e => (by rw [e, g2] at h; cases h)⟩
      have lenE : z.e.length = 2 := by rw [he]; rfl
      refine q _ { z with H := H', e := [.ow (go ⟨ns, a, b⟩ m).2.ot, .no], F := fun i => if i = 0 then [p, c] else [] } [] ⟨fun u o h hf => ?_, fun u h e => h (hHn u e), Same.refl _, fun _ _ _ => rfl, fun i u h => ?_, fun i h => ?_, by rw [he]; rfl⟩ ⟨fun u x h => ?_, ?_, fun i s h => ?_, fun i h => ?_, fun i j u hij h h' => ?_⟩ rfl rfl ⟨rfl, _, rfl, .int _⟩ fun _ h => nomatch h
      · have hp : u ∉ z.F 0 := hf 0
        rw [hF] at hp
        simp at hp
        show H' u = some o
        rw [hsame u hp.1 hp.2]; exact h
      · rw [hFo]; exact .inl h
      · match i with
        | 0 => exact ⟨rfl, rfl⟩
        | 1 => rw [he] at h; cases h
        | i + 2 => rw [he] at h; cases h
      · obtain ⟨n1, n2⟩ := nG u x h
        show H' u = some x
        rw [hsame u n1 n2]; exact rp.same _ _ h
      · show z.s.length = 2
        rw [rp.len, lenE]
      · match i with
        | 0 =>
          cases h
          show SlOk K z.G H' (z.s[0]?).join [p, c] _
          rw [hs]
          exact ⟨.ref p, rfl, boxMk hB' g1 g2⟩
        | 1 => cases h; rfl
        | i + 2 => cases h
      · show (if i = 0 then [p, c] else []) = []
        rw [if_neg (fun e => by rw [e] at h; cases h)]
      · have h1 : u ∈ (if i = 0 then [p, c] else []) := h
        have h2 : u ∈ (if j = 0 then [p, c] else []) := h'
        split at h1
        · split at h2
          · omega
          · cases h2
        · cases h1
    · cases hg
  · cases hg
end
end Fl

set_option Elab.async false
set_option linter.all false
set_option maxRecDepth 100000
set_option maxHeartbeats 1000000
set_option autoImplicit false
/-! FnShort: short words for printed terms; defs told as a whole; the built-in names. -/
namespace Fl
open PySem PySem.Spec PyProof.Rows L2
section
variable {X : Cx} {pos : Pos}
theorem fv (i : Nat) {x : Str} (hN : X.N[i]? = some x := by rfl) (hv : Vis X.env.scope x := by first | exact Or.inl rfl | exact Or.inr (Or.inl rfl) | exact Or.inr (Or.inr rfl)) (hd : (x == ("__debug__" : Str)) = false := by decide) (hcd : (x == ("__classdict__" : Str)) = false := by decide) : FE X (.Name x pos) (eVar i) := fe_var hN hv hd hcd
theorem fm (i : Nat) {x : Str} (hN : X.N[i]? = some x := by rfl) (hv : Vis X.env.scope x := by first | exact Or.inl rfl | exact Or.inr (Or.inl rfl) | exact Or.inr (Or.inr rfl)) (hd : (x == ("__debug__" : Str)) = false := by decide) (hcd : (x == ("__classdict__" : Str)) = false := by decide) : FE X (.Name x pos) (eNm i) := fe_nm hN hv hd hcd
theorem fo (i : Nat) {x : Str} (hN : X.N[i]? = some x := by rfl) (hv : Vis X.env.scope x := by first | exact Or.inl rfl | exact Or.inr (Or.inl rfl) | exact Or.inr (Or.inr rfl)) (hd : (x == ("__debug__" : Str)) = false := by decide) (hcd : (x == ("__classdict__" : Str)) = false := by decide) : FB X (.Name x pos) (eOwn i) := fb_own hN hv hd hcd
theorem fixo (i : Nat) {x : Str} {p : Pos} {b : Expr} {fb : EF} (hb : FE X b fb) (hN : X.N[i]? = some x := by rfl) (hv : Vis X.env.scope x := by first | exact Or.inl rfl | exact Or.inr (Or.inl rfl) | exact Or.inr (Or.inr rfl)) (hs : PlainIx b := by intro _ _; rfl) (hd : (x == ("__debug__" : Str)) = false := by decide) (hcd : (x == ("__classdict__" : Str)) = false := by decide) : FE X (.Subscript (.Name x p) b pos) (eIxO i fb) := fe_ixo hN hv hb hs hd hcd
theorem fgn (i : Nat) {x : Str} (hN : X.N.Nodup) (hi : X.N[i]? = some x := by rfl) (hx : Loc X.env.scope x := by first | exact Or.inl rfl | exact Or.inr rfl) (hf : X.fn x = true ∨ X.env.scope.names.lookup x = some .local := by first | exact .inl rfl | exact .inr rfl) : FG X (.Name x pos) (gNm i) [i] := fg_name hN hi hx hf
theorem fset (i : Nat) {x : Str} {a : Expr} {f : OF} {pos' : Pos} (hN : X.N.Nodup) (h : FO X a f) (hi : X.N[i]? = some x := by rfl) (hx : Loc X.env.scope x := by first | exact Or.inl rfl | exact Or.inr rfl) (hs : swapsWith a (some (.Name x pos')) pos.line X.env = pure false := by rfl) (hf : X.fn x = true ∨ X.env.scope.names.lookup x = some .local := by first | exact .inl rfl | exact .inr rfl) : FS X (.Assign [.Name x pos'] a pos) (sSet i f) := fs_set hN hi hx h hs hf
theorem fretN (i : Nat) {x : Str} {p : Pos} (hN : X.N[i]? = some x := by rfl) (hv : Vis X.env.scope x := by first | exact Or.inl rfl | exact Or.inr (Or.inl rfl) | exact Or.inr (Or.inr rfl)) (hd : (x == ("__debug__" : Str)) = false := by decide) (hcd : (x == ("__classdict__" : Str)) = false := by decide) : FS X (.Return (some (.Name x p)) pos) (sRetN i) := fs_retN hN hv hd hcd
theorem frf (i : Nat) {x : Str} {p : Pos} {es : List Expr} {g : AF} (hr : FR X es g) (hN : X.N[i]? = some x := by rfl) (hv : Vis X.env.scope x := by first | exact Or.inl rfl | exact Or.inr (Or.inl rfl) | exact Or.inr (Or.inr rfl)) (hs : starEach (.Name x p :: es) X.env = (false, eval (.Name x p) X.env) :: starEach es X.env := by rfl) (hd : (x == ("__debug__" : Str)) = false := by decide) (hcd : (x == ("__classdict__" : Str)) = false := by decide) : FR X (.Name x p :: es) (rRef i g) := fr_ref hN hv hr hs hd hcd
theorem fsub (i : Nat) {x : Str} {p p2 : Pos} {b a : Expr} {fi fv : EF} (hb : FE X b fi) (ha : FE X a fv) (hN : X.N[i]? = some x := by rfl) (hv : Vis X.env.scope x := by first | exact Or.inl rfl | exact Or.inr (Or.inl rfl) | exact Or.inr (Or.inr rfl))
    (hq : ∀ v, assign (.Subscript (.Name x p) b p2) X.env v = (do
      let ov ← holding [v] (eval (.Name x p) X.env)
      let iv ← holding [v, ov] (eval b X.env)
      standAt p2
      holding [v, ov, iv] (setItem ov iv v)
      release [v, ov, iv] []) := by intro _; rfl)
    (hs : swapsWithSole [.Subscript (.Name x p) b p2] a pos.line X.env = pure false := by rfl) (hw : swappedStores [.Subscript (.Name x p) b p2] a X.env = pure none := by rfl) (h1 : (assignEach [.Subscript (.Name x p) b p2] X.env).map (·.2) = [assign (.Subscript (.Name x p) b p2) X.env] := by rfl)
    (hd : (x == ("__debug__" : Str)) = false := by decide) (hcd : (x == ("__classdict__" : Str)) = false := by decide) : FS X (.Assign [.Subscript (.Name x p) b p2] a pos) (sSub i fi fv) := fs_sub hN hv hb ha hq hs hw h1 hd hcd
theorem faugA (i : Nat) {x : Str} {a : Expr} {f : EF} {pos' : Pos} (hN : X.N.Nodup) (ha : FE X a f) (hi : X.N[i]? = some x := by rfl) (hx : Loc X.env.scope x := by first | exact Or.inl rfl | exact Or.inr rfl) (hf : X.fn x = true ∨ X.env.scope.names.lookup x = some .local := by first | exact .inl rfl | exact .inr rfl) : FS X (.AugAssign (.Name x pos') .Add a pos) (sAug dIadd i f) := fs_augAdd hN hi hx ha hf
theorem faugS (i : Nat) {x : Str} {a : Expr} {f : EF} {pos' : Pos} (hN : X.N.Nodup) (ha : FE X a f) (hi : X.N[i]? = some x := by rfl) (hx : Loc X.env.scope x := by first | exact Or.inl rfl | exact Or.inr rfl) (hf : X.fn x = true ∨ X.env.scope.names.lookup x = some .local := by first | exact .inl rfl | exact .inr rfl) : FS X (.AugAssign (.Name x pos') .Sub a pos) (sAug dSub i f) := fs_augSub hN hi hx ha hf
theorem fpar (i j : Nat) {x y : Str} {a b : Expr} {f : OLF} {px py pt : Pos} {kt k2 pt2} (hN : X.N.Nodup) (ha : FOl X [a, b] f) (hc : X.calm = true := by rfl) (hi : X.N[i]? = some x := by rfl) (hj : X.N[j]? = some y := by rfl) (hij : i ≠ j := by decide) (hx : X.env.scope.names.lookup x = some .local := by rfl) (hy : X.env.scope.names.lookup y = some .local := by rfl)
    (hw : swappedStores [.Tuple [.Name x px, .Name y py] kt pt] (.Tuple [a, b] k2 pt2) X.env = pure (some [x, y]) := by rfl) (hs : swapsWithSole [.Tuple [.Name x px, .Name y py] kt pt] (.Tuple [a, b] k2 pt2) pos.line X.env = pure false := by rfl) : FS X (.Assign [.Tuple [.Name x px, .Name y py] kt pt] (.Tuple [a, b] k2 pt2) pos) (sPar [i, j] f) := fs_par hc hN hi hj hij hx hy ha hw hs
theorem fns_nil : PGs X [] (gNames []) := pgs_nil
theorem fns_cons (i : Nat) {is : List Nat} {x : Str} {p : Pos} {es : List Expr} (hN : X.N.Nodup) (h : PGs X es (gNames is)) (hi : X.N[i]? = some x := by rfl) (hx : Loc X.env.scope x := by first | exact Or.inl rfl | exact Or.inr rfl) (hf : X.fn x = true ∨ X.env.scope.names.lookup x = some .local := by first | exact .inl rfl | exact .inr rfl)
    (hs : (assignEach (.Name x p :: es) X.env).map (·.2) = assign (.Name x p) X.env :: (assignEach es X.env).map (·.2) := by rfl) : PGs X (.Name x p :: es) (gNames (i :: is)) := pgs_cons (pg_name hN hi hx hf) h hs
theorem fapp (i : Nat) {x : Str} {p apos : Pos} {a : Expr} {f : EF} (ha : FE X a f) (hN : X.N[i]? = some x := by rfl) (hv : Vis X.env.scope x := by first | exact Or.inl rfl | exact Or.inr (Or.inl rfl) | exact Or.inr (Or.inr rfl)) (hbase : attributeBase (.Name x p) "append" X.env (eval (.Name x p) X.env) = eval (.Name x p) X.env := by rfl)
    (hfew : ((backTo pos (starEach [a] X.env)).all (fun x => !x.1) && (backToKw pos (keywordEach [] X.env)).all (fun x => x.1.isSome)
      && decide (([a]).length + ([] : List Keyword).length + (if ([] : List Keyword).isEmpty then 0 else 1) < 30)) = true := by rfl) (hline : (apos.endLine == pos.line) = true := by rfl)
    (he : starEach [a] X.env = (false, eval a X.env) :: starEach [] X.env := by rfl) (hpl : (backTo pos (starEach [] X.env)).any (·.1) = false := by rfl) (hd : (x == ("__debug__" : Str)) = false := by decide) (hcd : (x == ("__classdict__" : Str)) = false := by decide) : FE X (.Call (.Attribute (.Name x p) "append" apos) [a] [] pos) (eMt1 gAppend i f) :=
  fe_mt1 PySem.F.slot_list_append PySem.F.type_list_append mt_append mt1_append hN hv ha hbase hfew hline he hpl hd hcd
theorem fext (i : Nat) {x : Str} {p apos : Pos} {a : Expr} {f : EF} (ha : FE X a f) (hN : X.N[i]? = some x := by rfl) (hv : Vis X.env.scope x := by first | exact Or.inl rfl | exact Or.inr (Or.inl rfl) | exact Or.inr (Or.inr rfl)) (hbase : attributeBase (.Name x p) "extend" X.env (eval (.Name x p) X.env) = eval (.Name x p) X.env := by rfl)
    (hfew : ((backTo pos (starEach [a] X.env)).all (fun x => !x.1) && (backToKw pos (keywordEach [] X.env)).all (fun x => x.1.isSome)
      && decide (([a]).length + ([] : List Keyword).length + (if ([] : List Keyword).isEmpty then 0 else 1) < 30)) = true := by rfl) (hline : (apos.endLine == pos.line) = true := by rfl)
    (he : starEach [a] X.env = (false, eval a X.env) :: starEach [] X.env := by rfl) (hpl : (backTo pos (starEach [] X.env)).any (·.1) = false := by rfl) (hd : (x == ("__debug__" : Str)) = false := by decide) (hcd : (x == ("__classdict__" : Str)) = false := by decide) : FE X (.Call (.Attribute (.Name x p) "extend" apos) [a] [] pos) (eMt1 gExtend i f) :=
  fe_mt1 PySem.F.slot_list_extend PySem.F.type_list_extend mt_extend mt1_extend hN hv ha hbase hfew hline he hpl hd hcd
theorem fpopA (i : Nat) {x : Str} {p apos : Pos} {a : Expr} {f : EF} (ha : FE X a f) (hN : X.N[i]? = some x := by rfl) (hv : Vis X.env.scope x := by first | exact Or.inl rfl | exact Or.inr (Or.inl rfl) | exact Or.inr (Or.inr rfl)) (hbase : attributeBase (.Name x p) "pop" X.env (eval (.Name x p) X.env) = eval (.Name x p) X.env := by rfl)
    (hfew : ((backTo pos (starEach [a] X.env)).all (fun x => !x.1) && (backToKw pos (keywordEach [] X.env)).all (fun x => x.1.isSome)
      && decide (([a]).length + ([] : List Keyword).length + (if ([] : List Keyword).isEmpty then 0 else 1) < 30)) = true := by rfl) (hline : (apos.endLine == pos.line) = true := by rfl)
    (he : starEach [a] X.env = (false, eval a X.env) :: starEach [] X.env := by rfl) (hpl : (backTo pos (starEach [] X.env)).any (·.1) = false := by rfl) (hd : (x == ("__debug__" : Str)) = false := by decide) (hcd : (x == ("__classdict__" : Str)) = false := by decide) : FE X (.Call (.Attribute (.Name x p) "pop" apos) [a] [] pos) (eMt1 gPopAt i f) :=
  fe_mt1 PySem.F.slot_list_pop PySem.F.type_list_pop mt_popAt mt1_popAt hN hv ha hbase hfew hline he hpl hd hcd
theorem fpop (i : Nat) {x : Str} {p apos : Pos} (hN : X.N[i]? = some x := by rfl) (hv : Vis X.env.scope x := by first | exact Or.inl rfl | exact Or.inr (Or.inl rfl) | exact Or.inr (Or.inr rfl)) (hbase : attributeBase (.Name x p) "pop" X.env (eval (.Name x p) X.env) = eval (.Name x p) X.env := by rfl) (hline : (apos.endLine == pos.line) = true := by rfl)
    (hd : (x == ("__debug__" : Str)) = false := by decide) (hcd : (x == ("__classdict__" : Str)) = false := by decide) : FE X (.Call (.Attribute (.Name x p) "pop" apos) [] [] pos) (eMt0 gPop i) :=
  fe_mt0 PySem.F.slot_list_pop PySem.F.type_list_pop mt_pop mt0_pop hN hv hbase hline hd hcd
end
/-- a made thing stands still: seen from the made one -/
theorem fz_imp {K : Frg} {f : OF} {σ : L2.St} {H : Hp} {Q : VK} (q : tO K (oE (eFz f)) σ H Q) : tO K f σ H Q := by
  obtain ⟨z, r, e', rp, hs, hH, hf, q⟩ := q
  subst hs hH
  obtain ⟨⟨d, e1⟩, h0, h2⟩ := Option.map_eq_some_iff.mp hf
  cases h2
  obtain ⟨⟨r, e1⟩, h1, hf⟩ := Option.bind_eq_some_iff.mp h0
  obtain ⟨d', h3, hf⟩ := Option.map_eq_some_iff.mp hf
  cases hf
  refine ⟨z, r, _, rp, rfl, rfl, h1, fun v y Fr m r2 s2 ee so fr => ?_⟩
  cases r with
  | va d0 =>
    cases h3
    obtain ⟨_, x, hx, p⟩ := so
    cases hx
    exact q _ y [] m r2 s2 ee ⟨rfl, _, rfl, p⟩ fun _ h => nomatch h
  | li xs =>
    cases h3
    obtain ⟨a, vs, hv, rfl, hg, hH', hd⟩ := so
    cases hv
    obtain ⟨f1, f2⟩ := fr a (by simp)
    refine q _ { y with G := upd y.G a (.lst vs) } [] ⟨m.out, m.dom, m.g.trans (sameUpd hg), fun b hb hk => ?_, m.fn, m.kp, m.ln⟩ (r2.freeze hH' hg f2) s2 ee ⟨rfl, _, rfl, .lst upd_same (dvMonoAll (sameUpd hg) _ _ hd)⟩ fun _ h => nomatch h
    show upd y.G a (.lst vs) b = z.G b
    rw [upd_ne (fun z' => hb (by rw [z']; exact f1))]
    exact m.gn b hb hk
  | no => cases h3
  | di _ => cases h3
  | dt _ => cases h3
  | ow _ => cases h3
/-- name = [..] on one line, its list standing still from then on -/
theorem fs_setLcZ {X : Cx} {pos : Pos} {k i : Nat} {y : Str} {py : Pos} {elt tg iter : Expr} {ifs : List Expr} {scope : Scope} {own : List (Str × Nat)} {spos : Pos} {gl : LF} {t : GF} {ws vs : List Nat} {cf : BF} {f : EF} (c : Cc X k) (hy : X.N[i]? = some y) (hyl : X.env.scope.names.lookup y = some .local)
    (hsw : swapsWith (.ListComp elt [⟨tg, iter, ifs, 0⟩] scope pos) (some (.Name y py)) spos.line X.env = pure true) (hi : FI X tg iter gl) (ok : BlkOk X.N X.env.scope scope own)
    (hg : ∀ (s : Shared) (H : Hp) (C : Addr) (cl : List (Str × Addr)) (fp : List Addr), FG (X.blk s H scope (compEnvC scope cl C X.env) fp) tg t ws)
    (ht : ∀ (s : Shared) (H : Hp) (C : Addr) (cl : List (Str × Addr)) (fp : List Addr), FTs (X.blk s H scope (compEnvC scope cl C X.env) fp) ifs cf)
    (he : ∀ (s : Shared) (H : Hp) (C : Addr) (cl : List (Str × Addr)) (fp : List Addr), FE (X.blk s H scope (compEnvC scope cl C X.env) fp) elt f)
    (hvs : own.map (·.2) = vs := by rfl) (hws : ∀ j ∈ ws, j ∈ vs := by decide) (hs : ∀ x, foldedSetIterable iter X.env x = pure x := by intro _; rfl) :
    FS X (.Assign [.Name y py] (.ListComp elt [⟨tg, iter, ifs, 0⟩] scope pos) spos) (sSet i (oE (eFz (oComp gl t cf f vs)))) := by
  subst hvs
  exact fs_of (ps_setLc c.calm c.nd hy hyl hsw hi.pi ok (fun s H C cl fp => (hg s H C cl fp).pg) (fun s H C cl fp => (ht s H C cl fp).pts) (fun s H C cl fp => (he s H C cl fp).pe) hs) fun D z o r h q => lc_tO (fun _ _ _ h => h) hws (fz_imp (set_go (D := D) r h q))
/-- a def that stands at a name of the module -/
def Dk (P : Program) (w : World) (K : Frg) (mg : Str → Option Value) (base : Heap) (x : Str) (l np : Nat) (g : Fnc) : Prop :=
  ∃ (f : Addr) (fd : FuncData) (ps : List Str), FnOk P w K mg base CX0 l f fd ps (spF K np g) ∧ Binds K fd ps [] ∧ mg x = some (.ref f) ∧ PySem.W.keepIn K (.ref f) = true
theorem foc {X : Cx} {pos : Pos} {l np : Nat} {g : Fnc} {x : Str} {p : Pos} {a : Expr} {es : List Expr} {af : AF} (D : Dk X.prog X.w X.K X.mg X.base x l np g) (hr : Room l X.A) (ha : FR X (a :: es) af) (hn : (a :: es).length = np := by rfl)
    (hg : Gl X x := by rfl) (hdb : (x == ("__debug__" : Str)) = false := by decide) (he : starEach (a :: es) X.env = (false, eval a X.env) :: starEach es X.env := by rfl) (hpl : (backTo pos (starEach es X.env)).any (·.1) = false := by rfl) : FO X (.Call (.Name x p) (a :: es) [] pos) (oCall g af) := by
  obtain ⟨f, fd, ps, F, hb, hm, hk⟩ := D
  exact fo_call F hr hm hk hb ha hn hg hdb he hpl
/-- built-in names that the module leaves as they are -/
structure Bt (mg : Str → Option Value) : Prop where
  len : mg "len" = none
  range : mg "range" = none
  tuple : mg "tuple" = none
  list : mg "list" = none
  int : mg "int" = none
  bool : mg "bool" = none
  str : mg "str" = none
  all : mg "all" = none
  any : mg "any" = none
  sum : mg "sum" = none
  min : mg "min" = none
  max : mg "max" = none
  abs : mg "abs" = none
  sorted : mg "sorted" = none
  isinstance : mg "isinstance" = none
  enumerate : mg "enumerate" = none
  zip : mg "zip" = none
  set : mg "set" = none
  dict : mg "dict" = none
  reversed : mg "reversed" = none
end Fl

set_option Elab.async false
set_option linter.all false
set_option maxRecDepth 100000
set_option maxHeartbeats 1000000
set_option autoImplicit false
/-! FnMore: comparisons as values and as tests at once; chains; a list's repeat. -/
namespace Fl
open PySem PySem.Spec PyProof.Rows L2
section
variable {X : Cx} {pos : Pos}
/-- a comparison, as a value and as a test -/
structure FC (X : Cx) (e : Expr) (f : EF) : Prop where
  v : FE X e f
  t : FT X e (bB f)
theorem fc_of {a b : Expr} {op : CmpOp} {r : R2} {g : D → D → Option D} {fa fb : EF} (ho : OpR X (compareOp op) r) (hg : Op2 X.K r g) (ha : FE X a fa) (hb : FB X b fb) (hm : behindInMarks op b = false) : FC X (.Compare a [op] [b] pos) (eOp g fa fb) := ⟨fe_cmp ho hg ha hb hm, ft_cmp ho hg ha hb hm⟩
theorem op2_eq {K : Frg} : Op2 K (rEqD K) dEq := fun x y d G H vx vy Q e s a b q _ => by
  unfold dEq at e
  split at e
  · rename_i hc
    cases e
    exact ⟨x, y, Dv.dp _ _ (dvMono s _ _ a), vwAny s b, hc.1, hc.2, q _ (.bl _)⟩
  · cases e
theorem op2_ne {K : Frg} : Op2 K (rNeD K) dNe := fun x y d G H vx vy Q e s a b q _ => by
  unfold dNe at e
  split at e
  · rename_i hc
    cases e
    exact ⟨x, y, Dv.dp _ _ (dvMono s _ _ a), vwAny s b, hc.1, hc.2, q _ (.bl _)⟩
  · cases e
theorem fc_eq {k : Nat} {a b : Expr} {fa fb : EF} (c : Cc X k) (ha : FE X a fa) (hb : FB X b fb) : FC X (.Compare a [.Eq] [b] pos) (eOp dEq fa fb) := fc_of (op_eqD c.room.units) op2_eq ha hb (nomark _)
theorem fc_ne {k : Nat} {a b : Expr} {fa fb : EF} (c : Cc X k) (ha : FE X a fa) (hb : FB X b fb) : FC X (.Compare a [.NotEq] [b] pos) (eOp dNe fa fb) := fc_of (op_neD c.room.units) op2_ne ha hb (nomark _)
/-- order: ints, tuples of ints, texts -/
def asIntsT : D → Option (List Int)
  | .tuple xs => asInts xs
  | _ => none
def dLtA : D → D → Option D
  | .int i, .int j => some (.bool (decide (i < j)))
  | .str i, .str j => some (.bool (decide (i.cps.toList < j.cps.toList)))
  | .tuple xs, .tuple ys => (asInts xs).bind fun ns => (asInts ys).map fun ms => .bool (HT.lexLt ns ms)
  | _, _ => none
theorem dvInts {K : Frg} {G H : Hp} (s : Same G H) {v : V} {xs : List D} {ns : List Int} (e : asInts xs = some ns) (h : Vw K G H v (.tuple xs)) : ∃ a, v = .ref a ∧ SqT K H a (ns.map V.int) := by
  obtain ⟨a, vs, rfl, h1, h2⟩ := vwTup h
  rw [(asInts_ok e h2).1] at h1
  exact ⟨a, rfl, seqT s h1⟩
theorem op2_lt {K : Frg} : Op2 K (fun x y H Q => rI0 (fun i j => .bl (decide (i < j))) x y H Q ∨ (∃ i j, x = .str i ∧ y = .str j ∧ Q (.bl (decide (i.cps.toList < j.cps.toList))) H) ∨ rLtT K x y H Q) dLtA := fun x y d G H vx vy Q e s a b q _ => by
  unfold dLtA at e
  split at e
  · cases e; cases a; rw [vwInt b]; exact .inl ⟨_, _, rfl, rfl, q _ (.bl _)⟩
  · cases e; cases a; rw [vwStr b]; exact .inr (.inl ⟨_, _, rfl, rfl, q _ (.bl _)⟩)
  · obtain ⟨ns, h1, e⟩ := Option.bind_eq_some_iff.mp e
    obtain ⟨ms, h2, h3⟩ := Option.map_eq_some_iff.mp e
    subst h3
    obtain ⟨p, rfl, k1⟩ := dvInts s h1 (.inl a)
    obtain ⟨p2, rfl, k2⟩ := dvInts s h2 b
    exact .inr (.inr ⟨p, p2, ns, ms, rfl, rfl, k1, k2, q _ (.bl _)⟩)
  · cases e
theorem fc_lt {k : Nat} {a b : Expr} {fa fb : EF} (c : Cc X k) (ha : FE X a fa) (hb : FB X b fb) : FC X (.Compare a [.Lt] [b] pos) (eOp dLtA fa fb) := fc_of (op_lt.or (op_lt_str.or (op_ltT c.room.units0))) op2_lt ha hb (nomark _)
theorem fc_le {k : Nat} {a b : Expr} {fa fb : EF} (c : Cc X k) (ha : FE X a fa) (hb : FB X b fb) : FC X (.Compare a [.LtE] [b] pos) (eOp dLe fa fb) := fc_of op_le (op_dI fun _ _ _ => .bl _) ha hb (nomark _)
theorem fc_gt {k : Nat} {a b : Expr} {fa fb : EF} (c : Cc X k) (ha : FE X a fa) (hb : FB X b fb) : FC X (.Compare a [.Gt] [b] pos) (eOp dGt fa fb) := fc_of op_gt (op_dI fun _ _ _ => .bl _) ha hb (nomark _)
theorem fc_ge {k : Nat} {a b : Expr} {fa fb : EF} (c : Cc X k) (ha : FE X a fa) (hb : FB X b fb) : FC X (.Compare a [.GtE] [b] pos) (eOp dGe fa fb) := fc_of op_ge (op_dI fun _ _ _ => .bl _) ha hb (nomark _)
theorem op2_is {K : Frg} : Op2 K (fun x y H Q => y = .non ∧ Q (.bl (decide (x = .non))) H) dIs := fun x y d G H vx vy Q e s a b q _ => by
  unfold dIs at e
  split at e
  · rename_i hc
    cases e
    exact ⟨vwIsNon b hc, by rw [isNon_iff a]; exact q _ (.bl _)⟩
  · cases e
theorem op2_isn {K : Frg} : Op2 K (fun x y H Q => y = .non ∧ Q (.bl (!decide (x = .non))) H) dIsN := fun x y d G H vx vy Q e s a b q _ => by
  unfold dIsN at e
  split at e
  · rename_i hc
    cases e
    exact ⟨vwIsNon b hc, by rw [isNon_iff a]; exact q _ (.bl _)⟩
  · cases e
theorem fc_is {k : Nat} {a b : Expr} {fa fb : EF} (c : Cc X k) (ha : FE X a fa) (hb : FB X b fb) : FC X (.Compare a [.Is] [b] pos) (eOp dIs fa fb) := fc_of op_isN op2_is ha hb (nomark _)
theorem fc_isn {k : Nat} {a b : Expr} {fa fb : EF} (c : Cc X k) (ha : FE X a fa) (hb : FB X b fb) : FC X (.Compare a [.IsNot] [b] pos) (eOp dIsN fa fb) := fc_of op_notN op2_isn ha hb (nomark _)
/-- in: flat values in a list or a tuple -/
def flatD : D → Bool
  | .none => true
  | .bool _ => true
  | .int _ => true
  | .str _ => true
  | _ => false
theorem flat_iff {K : Frg} {G : Hp} {v : V} {d : D} (h : Dv K G v d) : flatV v = flatD d := by cases h <;> rfl
theorem eqV_iff {K : Frg} {G : Hp} {v w : V} {d e : D} (h : Dv K G v d) (k : Dv K G w e) (f1 : flatD d = true) (f2 : flatD e = true) : eqV v w = PyData.eqv d e := by
  cases h <;> cases k <;> first | rfl | cases f1 | cases f2 | (simp only [eqV, PyData.eqv])
theorem allFlat {K : Frg} {G : Hp} : ∀ {vs : List V} {ds : List D}, DvAll K G vs ds → vs.all flatV = ds.all flatD
  | _, [], h => by cases h; rfl
  | _, d :: ds, h => by
    cases h with
    | cons h1 h2 => rw [List.all_cons, List.all_cons, flat_iff h1, allFlat h2]
theorem inV_iff {K : Frg} {G : Hp} {v : V} {d : D} (h : Dv K G v d) (f : flatD d = true) : ∀ {vs : List V} {ds : List D}, DvAll K G vs ds → ds.all flatD = true → inV v vs = ds.any fun z => PyData.eqv z d
  | _, [], k, _ => by cases k; rfl
  | _, e :: ds, k, f2 => by
    cases k with
    | cons h1 h2 =>
      rw [List.all_cons, Bool.and_eq_true] at f2
      have ih := inV_iff h f h2 f2.2
      unfold inV at ih ⊢
      rw [List.any_cons, List.any_cons, ih, eqV_iff h1 h f2.1 f]
def dInB (neg : Bool) (x y : D) : Option D := match y with
  | .list ds => if flatD x = true ∧ ds.all flatD = true then some (.bool (if neg then !(ds.any fun z => PyData.eqv z x) else ds.any fun z => PyData.eqv z x)) else none
  | .tuple ds => if flatD x = true ∧ ds.all flatD = true then some (.bool (if neg then !(ds.any fun z => PyData.eqv z x) else ds.any fun z => PyData.eqv z x)) else none
  | _ => none
theorem op2_in {K : Frg} (neg : Bool) : Op2 K (rIn K neg) (dInB neg) := fun x y d G H vx vy Q e s a b q _ => by
  unfold dInB at e
  split at e
  · split at e
    · rename_i ds hc
      cases e
      obtain ⟨p, vs, rfl, h1, h2⟩ := vwLst s b
      refine ⟨p, vs, rfl, .inl (SqL.of h1), by rw [flat_iff a]; exact hc.1, by rw [allFlat h2]; exact hc.2, ?_⟩
      rw [inV_iff a hc.1 h2 hc.2]
      exact q _ (.bl _)
    · cases e
  · split at e
    · rename_i ds hc
      cases e
      obtain ⟨p, vs, rfl, h1, h2⟩ := vwTup b
      refine ⟨p, vs, rfl, .inr (seqT s h1), by rw [flat_iff a]; exact hc.1, by rw [allFlat h2]; exact hc.2, ?_⟩
      rw [inV_iff a hc.1 h2 hc.2]
      exact q _ (.bl _)
    · cases e
  · cases e
theorem fc_in {k : Nat} {a b : Expr} {fa fb : EF} (c : Cc X k) (ha : FE X a fa) (hb : FB X b fb) (hm : behindInMarks .In b = false := by with_unfolding_all rfl) : FC X (.Compare a [.In] [b] pos) (eOp (dInB false) fa fb) := fc_of op_in_seq (op2_in false) ha hb hm
theorem fc_notin {k : Nat} {a b : Expr} {fa fb : EF} (c : Cc X k) (ha : FE X a fa) (hb : FB X b fb) (hm : behindInMarks .NotIn b = false := by with_unfolding_all rfl) : FC X (.Compare a [.NotIn] [b] pos) (eOp (dInB true) fa fb) := fc_of op_notIn_seq (op2_in true) ha hb hm
/-! ### a op b op c -/
def eCh (g h : D → D → Option D) (fa fb fc : EF) : EF := fun e => (fa e).bind fun p => (fb p.2).bind fun q => (g p.1 q.1).bind fun d => match d with
  | .bool true => (fc q.2).bind fun r => (h q.1 r.1).map fun d => (d, r.2)
  | .bool false => some (.bool false, q.2)
  | _ => none
theorem ch_run {K : Frg} {r r' : R2} {g h : D → D → Option D} (hg : ∀ x y d G H vx vy (Q : VK), g x y = some d → Same G H → Dv K G vx x → Dv K G vy y → (∀ v, Dv K G v d → Q v H) → r vx vy H Q) (hh : ∀ x y d G H vx vy (Q : VK), h x y = some d → Same G H → Dv K G vx x → Dv K G vy y → (∀ v, Dv K G v d → Q v H) → r' vx vy H Q) {fa fb fc : EF} {σ : L2.St} {H : Hp} {Q : VK} (q : tE K (eCh g h fa fb fc) σ H Q) : tChain r r' (tE K fa) (tE K fb) (tE K fc) σ H Q := by
  obtain ⟨z, d, e', rp, hs, hH, hf, q⟩ := q
  subst hs hH
  obtain ⟨⟨x, e1⟩, h1, hf⟩ := Option.bind_eq_some_iff.mp hf
  obtain ⟨⟨y, e2⟩, h2, hf⟩ := Option.bind_eq_some_iff.mp hf
  obtain ⟨b, h3, hf⟩ := Option.bind_eq_some_iff.mp hf
  refine ⟨z, x, e1, rp, rfl, rfl, h1, fun vx z1 m1 r1 s1 ee1 p1 => ⟨z1, y, e2, r1, s1, rfl, by rw [ee1]; exact h2, fun vy z2 m2 r2 s2 ee2 p2 => ?_⟩⟩
  refine hg x y b z2.G z2.H vx vy _ h3 r2.same (dvMono m2.g _ _ p1) p2 fun v pv => ?_
  cases pv with
  | bl k =>
    cases k with
    | true =>
      obtain ⟨⟨w, e3⟩, h4, hf⟩ := Option.bind_eq_some_iff.mp (show ((fc e2).bind _) = some (d, e') from hf)
      obtain ⟨d', h5, hf⟩ := Option.map_eq_some_iff.mp hf
      cases hf
      refine ⟨true, rfl, iteT ⟨z2, w, e3, r2, s2, rfl, by rw [ee2]; exact h4, fun vw z3 m3 r3 s3 ee3 p3 => ?_⟩⟩
      exact hh y w d z3.G z3.H vy vw Q h5 r3.same (dvMono m3.g _ _ p2) p3 fun v pv => q v z3 ((m1.trans m2).trans m3) r3 s3 ee3 pv
    | false =>
      have hf' : some (PyData.bool false, e2) = some (d, e') := hf
      cases hf'
      exact ⟨false, rfl, iteF (q _ z2 (m1.trans m2) r2 s2 ee2 (.bl _))⟩
  | non => cases hf
  | int _ => cases hf
  | str _ => cases hf
  | lst _ _ => cases hf
  | tup _ _ => cases hf
/-- one comparison of a chain -/
structure Ch (X : Cx) (op : CmpOp) (g : D → D → Option D) : Prop where
  ex : ∃ r : R2, OpR X (compareOp op) r ∧ ∀ x y d G H vx vy (Q : VK), g x y = some d → Same G H → Dv X.K G vx x → Dv X.K G vy y → (∀ v, Dv X.K G v d → Q v H) → r vx vy H Q
theorem chI {op : CmpOp} {gv : Int → Int → Bool} (h : OpR X (compareOp op) (rI0 fun i j => .bl (gv i j))) : Ch X op (dI fun i j => .bool (gv i j)) := ⟨_, h, fun x y d G H vx vy Q e s a b q => by
  unfold dI at e
  split at e
  · cases e; cases a; cases b; exact ⟨_, _, rfl, rfl, q _ (.bl _)⟩
  · cases e⟩
theorem chLt : Ch X .Lt dLt := chI op_lt
theorem chLe : Ch X .LtE dLe := chI op_le
theorem chGt : Ch X .Gt dGt := chI op_gt
theorem chGe : Ch X .GtE dGe := chI op_ge
theorem fc_ch {a b c : Expr} {op op' : CmpOp} {g h : D → D → Option D} {fa fb fc : EF} (k1 : Ch X op g) (k2 : Ch X op' h) (ha : FE X a fa) (hb : FE X b fb) (hc : FE X c fc) (hm : lastMarks [op, op'] [b, c] = false := by with_unfolding_all rfl) : FC X (.Compare a [op, op'] [b, c] pos) (eCh g h fa fb fc) := by
  obtain ⟨r, o1, g1⟩ := k1.ex
  obtain ⟨r', o2, g2⟩ := k2.ex
  refine ⟨⟨PE.imp (pe_chain o1 o2 ha.pe hb.pe hc.pe hm) fun σ H Q q => ch_run g1 g2 q⟩, ⟨PT.imp (pt_chain o1 o2 ha.pe hb.pe hc.pe hm) fun σ H Q q => ?_⟩⟩
  obtain ⟨z, d, e', rp, hs, hH, hf, q⟩ := bB_run q
  exact ch_run g1 g2 ⟨z, d, e', rp, hs, hH, hf, q⟩
/-! ### [..] * n -/
def oRep (fa fb : EF) : OF := fun e => (fa e).bind fun p => (fb p.2).bind fun q => match p.1, q.1 with
  | .list xs, .int k => if (-(2 ^ 63) ≤ k ∧ k < 2 ^ 63) ∧ xs.length * k.toNat ≤ sizeLine then some (.li (List.replicate k.toNat xs).flatten, q.2) else none
  | _, _ => none
theorem dvAll_rep {K : Frg} {G : Hp} {vs : List V} {ds : List D} (h : DvAll K G vs ds) : ∀ k : Nat, DvAll K G (List.replicate k vs).flatten (List.replicate k ds).flatten
  | 0 => .nil
  | k + 1 => by
    rw [List.replicate_succ, List.replicate_succ, List.flatten_cons, List.flatten_cons]
    exact dvAll_app h (dvAll_rep h k)
theorem fo_rep {a b : Expr} {fa fb : EF} (ha : FE X a fa) (hb : FB X b fb) : FO X (.BinOp a .Mult b pos) (oRep fa fb) := ⟨PE.imp (pe_op op_rep ha.pe hb.pb) fun σ H Q ⟨z, r, e', rp, hs, hH, hf, q⟩ => by
  subst hs hH
  obtain ⟨⟨x, e1⟩, h1, hf⟩ := Option.bind_eq_some_iff.mp hf
  obtain ⟨⟨y, e2⟩, h2, hf⟩ := Option.bind_eq_some_iff.mp hf
  split at hf
  · rename_i xs k hx hy
    obtain rfl : x = _ := hx
    obtain rfl : y = _ := hy
    split at hf
    · rename_i hc
      cases hf
      refine ⟨z, _, e1, rp, rfl, rfl, h1, fun vx z1 m1 r1 s1 ee1 p1 => ⟨z1, _, _, r1, s1, rfl, by rw [ee1]; exact h2, fun vy z2 m2 r2 s2 ee2 p2 => ?_⟩⟩
      cases p1 with
      | lst k1 k2 =>
      refine ⟨_, k, _, rfl, vwInt p2, r2.same _ _ (m2.g _ _ k1), hc.1.1, hc.1.2, by rw [dvAll_len k2]; exact hc.2, fun p hn => ?_⟩
      obtain ⟨r3, m3, k, nf⟩ := r2.newLi hn (dvAll_rep (dvMonoAll m2.g _ _ k2) _)
      refine q _ _ [p] ((m1.trans m2).trans m3) r3 s2 ee2 k fun a ha => ?_
      rw [List.mem_singleton.mp ha]
      refine ⟨?_, nf⟩
      by_cases hz : z.H p = none
      · exact hz
      · exact absurd hn ((m1.trans m2).dom p hz)
    · cases hf
  · cases hf⟩
end
end Fl

set_option Elab.async false
set_option linter.all false
set_option maxRecDepth 100000
set_option maxHeartbeats 1000000
set_option autoImplicit false
/-! FnLaw: from the defs' functions to the law's row. -/
namespace Fl
open PySem PySem.Spec PyProof.Rows L2
/-- the tape of a script -/
def spTape (K : Frg) : Sp := fun vs H Q _ => ∃ (a : Addr) (ns : List Int), vs = [.ref a] ∧ SqL K H a (ns.map V.int) ∧ ns.length ≤ 63 ∧ ∀ H' p c, Same H H' → H p = none → H c = none → BoxAt H' p c ⟨ns, 0, 4711 + ns.length⟩ → Q (.ref p) H'
/-! ### what the tape does -/
def stir (b : Int) : Int × Int × Int :=
  let f := (b * 48271 + 17) % 2147483629
  let s := (f * 69621 + 5) % 2147483587
  (f, s, (s * 40692 + 3) % 2147483563)
def mixed (cs : List Int) (a b : Int) : Int × Box := ((stir b).1 * 4611686014132420609 + (stir b).2.1 * 2147483647 + (stir b).2.2, ⟨cs, a, (stir b).2.2⟩)
def sized (c : Int) : Int := if 0 ≤ c then 2 * c else -2 * c - 1
def loadB : Box → Int × Box
  | ⟨[], a, b⟩ => mixed [] a b
  | ⟨c :: cs, a, b⟩ => if 1000000000000000000 ≤ sized c then (sized c, ⟨cs, a, b⟩) else mixed cs a ((b * 69621 + sized c * 48271 + 11) % 2147483647)
def drawB (b : Box) (m : Int) : Int × Box :=
  if b.a < m then ((loadB b).1 % m, { (loadB b).2 with a := (loadB b).1 / m }) else (b.a % m, { b with a := b.a / m })
theorem upd_get {H : Hp} {p q : Addr} {o u : HO} (h : q ≠ p) (e : H q = some u) : upd H p o q = some u := by rw [upd_ne h]; exact e
/-- behind the numbers' end: the rest of the load -/
def tMix (p c : Addr) (a : Int) : TS := fun D σ H => ∃ cs bb c2 c3, p ≠ c ∧ σ = [some (.ref p), some (.ref c), c2, c3, none, none] ∧ H p = some (.lst [.ref c, .int a, .int bb]) ∧ H c = some (.lst (cs.map V.int)) ∧
  ∀ H', BoxAt H' p c (mixed cs a bb).2 → (∀ u, u ≠ p → u ≠ c → H' u = H u) → D.rt (.int (mixed cs a bb).1) H'
theorem cmulR {i j : Int} (h : -(2 ^ 64) < j ∧ j < 2 ^ 64) : CMul i j := .inr h
theorem cut63 (xs : List V) (h : xs.length ≤ 63) : cutV xs none (some 63) = xs := by
  unfold cutV
  rw [HT.sIx_none, show HT.sIx xs.length xs.length (some 63) = min 63 xs.length from HT.sIx_nat xs.length _ 63, Nat.min_eq_right h]
  simp
def spLaw (K : Frg) : Sp := fun vs H Q _ => ∃ (a : Addr) (ns : List Int), vs = [.ref a] ∧ SqL K H a (ns.map V.int) ∧ ns.length ≤ 63 ∧ ∀ H', Q (.bl true) H'
def box0 (ns : List Int) : Box := ⟨ns, 0, 4711 + ns.length⟩
/-- a def that the text tells, by its name -/
def Ft (K : Frg) (mg : Str → Option Value) (x : Str) (st : Stmt) (ps : List Str) : Prop := ∃ (f : Addr) (fd : FuncData), Fun K x x st f fd ∧ Binds K fd ps [] ∧ mg x = some (.ref f)
section
variable {P : Program} {w : World} {K : Frg} {mg : Str → Option Value} {base : Heap}
theorem ft_mk {h : Heap} {x : Str} {st : Stmt} {ps : List Str} {f : Addr} {oc : Value} {od an : Option Addr} {osl : Array (Option Value)} {kV doc pm cdv ct : Value} (X : K.In h) (G : h.Ns mainGlobals mg) (a : PySem.W.nsIn K mainGlobals x = some (some (.ref f)))
    (l : K.lookup f = some ⟨oc, od, .func (PySem.W.fnOf x x (defArgs st) (defBody st) (defScope st) .none kV doc pm an cdv ct), osl⟩) (c : PySem.W.codeIn K cdv x = true) (k : PySem.W.keepIn K (.ref f) = true)
    (hb : ∀ (kV doc pm : Value) (an : Option Addr) (cdv ct : Value) (us : List Value), us.length = ps.length → bindArgs (PySem.W.fnOf x x (defArgs st) (defBody st) (defScope st) .none kV doc pm an cdv ct) ⟨us, []⟩ = pure (ps.zip us)) : Ft K mg x st ps := by
  have F := fun_mk (st := st) l c k
  exact ⟨f, _, F, F.binds hb, PySem.W.mg_of X G a⟩
theorem dk_of {x : Str} {st : Stmt} {ps : List Str} {l : Nat} {g : Fnc} (T : Ft K mg x st ps) (ok : ∀ (f : Addr) (fd : FuncData), Fun K x x st f fd → FnOk P w K mg base CX0 l f fd ps (spF K ps.length g)) : Dk P w K mg base x l ps.length g := by
  obtain ⟨f, fd, F, hb, hm⟩ := T
  exact ⟨f, fd, ps, ok f fd F, hb, hm, F.kp⟩
/-- a def that calls itself: k levels of it -/
theorem dk_rec {x : Str} {st : Stmt} {ps : List Str} {l : Nat} {R : Nat → Fnc} (T : Ft K mg x st ps) (h0 : R 0 = fun _ => none)
    (ok : ∀ (f : Addr) (fd : FuncData) (k : Nat), Fun K x x st f fd → Dk P w K mg base x k ps.length (R (k - l)) → l ≤ k → FnOk P w K mg base CX0 (k + 1) f fd ps (spF K ps.length (R (k - l + 1)))) : ∀ n : Nat, Dk P w K mg base x (l + n) ps.length (R n) := by
  obtain ⟨f, fd, F, hb, hm⟩ := T
  intro n
  induction n with
  | zero =>
    refine ⟨f, fd, ps, ⟨fun vs H Q E h => h.1, fun A outer s H args us vs Q E hr he hbt hv hs => ?_⟩, hb, hm, F.kp⟩
    obtain ⟨_, z, r, ss', _, _, _, _, hg, _⟩ := hs
    rw [h0] at hg
    cases hg
  | succ n ih =>
    have := ok f fd (l + n) F (by rw [Nat.add_sub_cancel_left]; exact ih) (Nat.le_add_right l n)
    rw [Nat.add_sub_cancel_left] at this
    exact ⟨f, fd, ps, this, hb, hm, F.kp⟩
/-- the law's body: the tape, then the rest -/
theorem law_ok {st : Stmt} {N : List Str} {f fB : Addr} {fd fdB : FuncData} {k : Nat} {F1 : SF} (F : Fun K "law" "law" st f fd) (S : FnScope N ["script"] (defScope st)) (hN : 2 ≤ N.length)
    (FB : FnOk P w K mg base CX0 1 fB fdB ["script"] (spTape K)) (bB : Binds K fdB ["script"] []) (gB : mg "_law_box" = some (.ref fB)) (kB : PySem.W.keepIn K (.ref fB) = true)
    (hset : ∀ (cdv : Value) (A : Around) (outer : List Env) (s : Shared) (H : Hp) (E : XK), Room (k + 1) (A.deeper (envOfC "law" (defScope st) s.heap.objs.size f cdv)) →
      ∃ t, PS (cxOf CX0 P w K mg base N "law" (defScope st) f cdv A outer s H E).nox ((defBody st).headD (.Pass ⟨0, 0, 0, 0⟩)) t ∧ ∀ D σ H, (tAsg (tCall (spTape K) [] E0 (tCons (tVar 0) tNil)) (gName 1)) D σ H → t D σ H)
    (hb : defBody st = (defBody st).headD (.Pass ⟨0, 0, 0, 0⟩) :: (defBody st).drop 1)
    (hrest : ∀ (cdv : Value) (A : Around) (outer : List Env) (s : Shared) (H : Hp) (E : XK), Room (k + 1) (A.deeper (envOfC "law" (defScope st) s.heap.objs.size f cdv)) → FSs (cxOf CX0 P w K mg base N "law" (defScope st) f cdv A outer s H E).nox ((defBody st).drop 1) F1)
    (htrue : ∀ ns : List Int, ns.length ≤ 63 → ∃ e', F1 (.no :: .ow (box0 ns).ot :: List.replicate (N.length - 2) .no) = some (.rt (.va (.bool true)) e')) : FnOk P w K mg base CX0 (k + 2) f fd ["script"] (spLaw K) := by
  refine F.ok S (fun vs H Q E ⟨a, ns, h, _⟩ => by rw [h]; rfl) (fun cdv A outer s H vs Q E hr h => ?_)
  obtain ⟨a, ns, rfl, hS, hl, q⟩ := h
  obtain ⟨t, ht, hti⟩ := hset cdv A outer s H E hr
  rw [hb]
  refine ⟨_, pss_cons ht (hrest cdv A outer s H E hr).ps, ?_⟩
  have hσ : L2.start N [V.ref a] = some (V.ref a) :: none :: List.replicate (N.length - 2) none := by
    unfold L2.start
    have e : N.length - [V.ref a].length = (N.length - 2) + 1 := by show N.length - 1 = _; omega
    rw [e, List.replicate_succ]; rfl
  refine hti _ _ _ ?_
  rw [hσ]
  refine ⟨.ref a, rfl, a, ns, rfl, hS, hl, fun H' p c hs hp hc hB => ?_⟩
  obtain ⟨e', he'⟩ := htrue ns hl
  refine tS_out.mpr ⟨⟨fun _ => none, H', some (V.ref a) :: some (V.ref p) :: List.replicate (N.length - 2) none, .no :: .ow (box0 ns).ot :: List.replicate (N.length - 2) .no, fun i => if i = 1 then [p, c] else []⟩, _, ⟨fun b o h => (by cases h), ?_, fun i s h => ?_, fun i h => ?_, fun i j u hij hi hj => ?_⟩, rfl, rfl, he', fun v y Fr m r ee so hf hg => ?_⟩
  · show List.length (some (V.ref a) :: some (V.ref p) :: List.replicate (N.length - 2) none) = List.length (Sl.no :: Sl.ow (box0 ns).ot :: List.replicate (N.length - 2) Sl.no)
    simp
  · match i with
    | 0 => cases h; rfl
    | 1 =>
      cases h
      exact ⟨.ref p, rfl, boxMk hB rfl rfl⟩
    | i + 2 =>
      have h' : (List.replicate (N.length - 2) Sl.no)[i]? = some s := h
      have := List.getElem?_eq_some_iff.mp h'
      obtain ⟨h1, h2⟩ := this
      rw [List.getElem_replicate] at h2
      subst h2
      show (if i + 2 = 1 then [p, c] else []) = []
      rw [if_neg (by omega)]
  · show (if i = 1 then [p, c] else []) = []
    have h' : (Sl.no :: Sl.ow (box0 ns).ot :: List.replicate (N.length - 2) Sl.no).length ≤ i := h
    rw [List.length_cons, List.length_cons] at h'
    rw [if_neg (by omega)]
  · have a1 : u ∈ (if i = 1 then [p, c] else []) := hi
    have a2 : u ∈ (if j = 1 then [p, c] else []) := hj
    split at a1
    · split at a2
      · omega
      · cases a2
    · cases a1
  · obtain ⟨_, x, hx, hv⟩ := so
    cases hx
    cases hv
    exact q _
end
end Fl

set_option Elab.async false
set_option linter.all false
set_option maxRecDepth 100000
set_option maxHeartbeats 1000000
set_option autoImplicit false
/-! FnEnum: enumerate over a list or a tuple, zip of two. -/
namespace Fl
open PySem PySem.Spec PyProof.Rows L2
/-- the tuple at a, each item in a new pair with its number -/
def IteT (K : Frg) (a : Addr) : It :=
  ⟨fun i H => ∃ (xs : List V) (x : V), SqT K H a xs ∧ xs[i]? = some x, fun i H v H' => ∃ T x, v = .ref T ∧ H T = none ∧ H' = upd H T (.tup [.int (i : Nat), x]) ∧ ∀ xs, SqT K H a xs → xs[i]? = some x, fun i H => ∃ xs : List V, SqT K H a xs ∧ xs.length ≤ i⟩
theorem clsNe {h : Heap} {a b : Addr} {o o' : Obj} (h1 : h.get? a = some o) (h2 : h.get? b = some o') (hc : o.cls ≠ o'.cls) : a ≠ b := fun e => by
  subst e
  rw [h1] at h2
  cases h2
  exact hc rfl
theorem enumT_end {prog : Program} {w : World} {A : Around} {E : Value → Shared → Prop} {s : Shared} {e it l : Addr} {i : Nat} {items : Array Value} {old : Value} {Q : Option Value → Shared → Prop} (hh : A.handled = none)
    (he : IsEnum s.heap e it i old) (hit : s.heap.IsTupleIter it l i) (hl : s.heap.IsTuple l items) (hx : items[i]? = none)
    (hQ : ∀ h', Heap.ExtBut it s.heap h' → Q none { s with heap := h' }) : wpAny (model prog w) A (pyNext (.ref e)) Q E s := by
  have hT : s.TypeIs (.ref e) "enumerate" := ⟨_, he, rfl⟩
  unfold pyNext
  refine wpAny_bind (wpAny_attempt (wpAny_callSpecial?_slot (name := Str.ofString "__next__") hT F.slot_enumerate_next
    (wpAny_call_entry F.slot_enumerate_next hT F.entry_enumerate_next ?_ (F.args_enumerate_next_1 _))))
  show wpAny _ _ (field (.ref e) 2 >>= _) _ _ _
  refine wpAny_bind (wpAny_field he rfl (x := .ref it) rfl ?_)
  refine wpAny_bind (wpAny_nextOf_tuple_end hh hit hl hx fun h' x he' hx' => ?_)
  obtain ⟨o, ho, hc⟩ := hx'
  refine wpAny_bind (wpAny_isInstance (T := "StopIteration") (b := true) ⟨o, ho, hc⟩ isSubtype_stop ?_)
  exact wpAny_pure (hQ _ he')
theorem turn_enumT {P : Program} {w : World} {K : Frg} {elts : List Expr} {kk : Nat} {tpos : Pos} (a e it : Addr) :
    Turn P w K (.Tuple elts kk tpos) (IteT K a) [e, it] e (fun i h => (∃ old, IsEnum h e it ((i : Nat) : Int) old) ∧ h.IsTupleIter it a i ∧ e ≠ it) where
  mem := by simp
  obj := fun i h st b hb => by
    obtain ⟨⟨old, he⟩, ⟨o, ho, hc, hd⟩, _⟩ := st
    have e' : b = e ∨ b = it := by simpa using hb
    rcases e' with z | z
    · rw [z]; exact ⟨_, he, fun v q => nomatch q⟩
    · rw [z]; exact ⟨o, ho, fun v q => by rw [hd] at q; cases q⟩
  keep := fun i h h' st k => let ⟨⟨old, he⟩, hi, hne⟩ := st; ⟨⟨old, k e (by simp) _ he⟩, hi.at fun o q => k it (by simp) o q, hne⟩
  item := by
    intro X hP hw hK hc i pins s σ H E I hf st hg
    subst hP hw hK
    obtain ⟨⟨old, he⟩, hit, hne⟩ := st
    obtain ⟨xs, x, hq, hx⟩ := hg
    obtain ⟨its, rv, p, hz⟩ := I.tuple hq
    obtain ⟨u, hu, ru⟩ := rv.get hx
    have hel : e < s.heap.objs.size := Heap.lt_size he
    have hil : it < s.heap.objs.size := by obtain ⟨_, q, _⟩ := hit; exact Heap.lt_size q
    have hea : e ≠ a := by
      obtain ⟨o, ho, hcl, _⟩ := id p
      exact clsNe he ho (by rw [hcl]; exact fun z => by injection z with z; exact absurd z (by decide))
    have hia : a ≠ it := by
      obtain ⟨o, ho, hcl, _⟩ := id p
      obtain ⟨o2, ho2, hc2, _⟩ := id hit
      exact clsNe ho ho2 (by rw [hcl, hc2]; exact fun z => by injection z with z; exact absurd z (by decide))
    have hlt : i < its.toArray.size := by
      have := (List.getElem?_eq_some_iff.mp hu).1
      simpa using this
    refine wpAny_pyNext_enum_itemC (Draws.tuple (prog := X.prog) (w := X.w) (A := X.A.in1) (show X.A.in1.handled = none from I.ok.hd hc) it a hia its.toArray) he ⟨hit, p⟩ hlt hne (by simp [hne, hea]) fun y h' tk hy ho hst' hT hsz hk => ?_
    have ey : y = u := by
      have hy' : its[i]? = some y := by simpa using hy
      rw [hu] at hy'
      exact (Option.some.inj hy').symm
    subst ey
    refine ⟨_, rfl, wpAny_letOwnedTupleGo_enum (s := { s with heap := h', toks := tk + 1 }) ho fun h'' he' sb => ?_⟩
    have hT2 : h''.get? s.heap.objs.size = some { cls := .type "tuple", data := .seq #[.int i tk, y] } := (sb.2 _ (Nat.ne_of_gt hel)).trans hT
    have new : ObjOk X.prog X.w (upd H s.heap.objs.size (.tup [.int (i : Nat), x])) h'' s.heap.objs.size (.tup [.int (i : Nat), x]) :=
      ⟨by show 2 ≤ sizeLine; decide, [.int i tk, y], .cons ⟨_, rfl⟩ (.cons ru .nil), ⟨_, hT2, rfl, _, rfl⟩⟩
    have I1 : Inv X pins σ (upd H s.heap.objs.size (.tup [.int (i : Nat), x])) { s with heap := h'', toks := tk + 1 } :=
      I.turnedNew (ch := [e, it]) (fun b ob hb q => (sb.2 b (fun z => hb (by simp [z]))).trans (hk b ob (fun z => hb (by simp [z])) (fun z => hb (by simp [z])) q)) hf (Nat.le_refl _) new
    refine ⟨.ref s.heap.objs.size, _, I1, rfl, ⟨_, x, rfl, I.hok.fresh (Nat.le_refl _), rfl, fun ys hy => by rw [I.tuple_inj hy hq]; exact hx⟩, ⟨⟨y, ?_⟩, hst'.1.at fun o q => (sb.2 it (Ne.symm hne)).trans q, hne⟩, fun b hb => ?_⟩
    · have e1 : ((i + 1 : Nat) : Int) = (i : Int) + 1 := by omega
      rw [e1]; exact he'
    · have hb' : b < s.heap.objs.size := by
        have e' : b = e ∨ b = it := by simpa using hb
        rcases e' with z | z
        · rw [z]; exact hel
        · rw [z]; exact hil
      rw [upd_ne (Nat.ne_of_lt hb')]
      exact (hf b hb).1
  done := by
    intro X hP hw hK hc i pins s σ H E I hf st hg
    subst hP hw hK
    obtain ⟨⟨old, he⟩, hit, hne⟩ := st
    obtain ⟨xs, hq, hx⟩ := hg
    obtain ⟨its, rv, p, hz⟩ := I.tuple hq
    obtain ⟨f0, f1, f2, f3, f4, f5⟩ := hf it (by simp)
    have hl := rv.length
    exact enumT_end (I.ok.hd hc) he hit p (by simp; omega) fun h' eb => ⟨rfl, I.turned (t' := s.toks) (fun b o hb q => eb b o hb q) f0 f1 f3 f4 f5⟩
  self := fun A i s Q E st h => let ⟨⟨_, he⟩, _⟩ := st; wpAny_pyIter_enum he h
theorem newEnumT (l : Addr) (items : Array Value) (n : Nat) (dct : Option Addr) (sl : Array (Option Value)) :
    Meets (Builtin.«enumerate.__new__» ⟨[.type "enumerate", .ref l], []⟩) (fun _ R s => s.heap.get? l = some { cls := .type "tuple", dict := dct, data := .seq items n, slots := sl } ∧
      R (.ok (.ret (.ref (s.heap.push { cls := .type "tuple_iterator", data := .fields #[.ref l, .int 0 0] }).objs.size)))
        { s with heap := (s.heap.push { cls := .type "tuple_iterator", data := .fields #[.ref l, .int 0 0] }).push { cls := .type "enumerate", data := .fields #[.none, .bool false, .ref s.heap.objs.size, rawInt 0, .none, .none] } }) :=
  .of_wp fun prog w A R s h => by
    obtain ⟨hp, g, d, tk, os⟩ := s; obtain ⟨hl, h⟩ := h
    have hsub := sub_enumerate
    have hL : Heap.IsTuple (Shared.heap ⟨hp, g, d, tk, os⟩) l items := ⟨_, hl, rfl, n, rfl⟩
    have q1 : ∀ {A' : Around} {E : Value → Shared → Prop} {Q : Value → Shared → Prop}, Q (.ref hp.objs.size) ⟨hp.push { cls := .type "tuple_iterator", data := .fields #[.ref l, .int 0 0] }, g, d, tk, os⟩ → wpAny (model prog w) A' (pyIter (.ref l)) Q E ⟨hp, g, d, tk, os⟩ :=
      fun q => (begins_tuple l items).iter prog w _ _ ⟨hp, g, d, tk, os⟩ _ hL q
    wp_walk using q1
    refine wpAny_stack_any fun st => wpAny_pure ?_
    split
    · rename_i c _ _ _ _ _
      cases (c == Value.type "enumerate")
      · wp_walk using q1
        exact ⟨_, rfl, h⟩
      · wp_walk using q1
        exact ⟨_, rfl, h⟩
    · wp_walk using q1
      exact ⟨_, rfl, h⟩
theorem callEnumT {prog : Program} {w : World} {A : Around} {E : Value → Shared → Prop} {s : Shared} {l : Addr} {items : Array Value} {Q : Value → Shared → Prop} (hL : s.heap.IsTuple l items)
    (h : ∀ h', IsEnum h' (s.heap.objs.size + 1) s.heap.objs.size 0 .none → h'.IsTupleIter s.heap.objs.size l 0 → h'.objs.size = s.heap.objs.size + 2 →
      (∀ b o, s.heap.get? b = some o → h'.get? b = some o) → Q (.ref (s.heap.objs.size + 1)) { s with heap := h' }) :
    wpAny (model prog w) A (call (.type "enumerate") [.ref l]) Q E s := by
  obtain ⟨⟨c, dct, dt, sl⟩, hl, hc, n, hd⟩ := hL
  replace hc : c = .type "tuple" := hc
  replace hd : dt = .seq items n := hd
  subst hc hd
  refine callType_new F.called_enumerate (by decide) (F.typeCall_enumerate_1 _) (F.newCall_enumerate_1 _) (fun obj => F.args_object_init_2 obj _) F.entry_enumerate_new
    (newEnumT l items n dct sl) ⟨hl, ?_⟩
  have hz : (s.heap.push { cls := .type "tuple_iterator", data := .fields #[.ref l, .int 0 0] }).objs.size = s.heap.objs.size + 1 := Heap.size_push ..
  show _ ∧ _
  rw [hz]
  have he : IsEnum ((s.heap.push { cls := .type "tuple_iterator", data := .fields #[.ref l, .int 0 0] }).push
      { cls := .type "enumerate", data := .fields #[.none, .bool false, .ref s.heap.objs.size, rawInt 0, .none, .none] }) (s.heap.objs.size + 1) s.heap.objs.size 0 .none := by
    have := Heap.get?_push_size (s.heap.push { cls := .type "tuple_iterator", data := .fields #[.ref l, .int 0 0] })
      (o := { cls := .type "enumerate", data := .fields #[.none, .bool false, .ref s.heap.objs.size, rawInt 0, .none, .none] }) rfl
    rw [hz] at this; exact this
  refine ⟨⟨_, he, rfl⟩, h _ he ⟨_, Heap.get?_push_of_some _ (Heap.get?_push_size _ rfl), rfl, rfl⟩ (by rw [Heap.size_push, hz]) fun b o x => Heap.get?_push_of_some _ (Heap.get?_push_of_some _ x)⟩
def iEnumT (K : Frg) (ta : TA) : TI := fun σ H R => ta σ H fun vs H1 => ∃ a xs, vs = [.ref a] ∧ SqT K H1 a xs ∧ R (IteT K a) H1
theorem pi_enumT {X : Cx} {e : Expr} {ta : TA} {p pos tpos : Pos} {elts : List Expr} {kk : Nat} (hg : Gl X "enumerate") (hm : X.mg "enumerate" = none) (ha : PA X [e] ta) (hs : starEach [e] X.env = [(false, eval e X.env)] := by rfl) :
    PI X (.Tuple elts kk tpos) (.Call (.Name "enumerate" p) [e] [] pos) (iEnumT X.K ta) := by
  refine ⟨fun pins s σ H R I h => ?_⟩
  refine Call_ (ld_blt I hg hm boot_enumerate (PyProof.Rows.callWith_type1 (thn (ha.run pos pins s σ H _ I h) fun us s1 ⟨vs, H1, I1, r1, q1⟩ => ?_) hs rfl))
  obtain ⟨a, xs, ex, hq, q⟩ := q1
  subst ex
  cases r1 with
  | cons r rr =>
    cases rr
    cases r
    obtain ⟨its, rv, p', hz⟩ := I1.tuple hq
    refine callEnumT p' fun h' he hit hsz hk => wpAny_pyIter_enum he ?_
    have I2 : Inv X pins σ H1 { s1 with heap := h' } := I1.kept (t' := s1.toks) hk
    refine ⟨s1.heap.objs.size + 1, [s1.heap.objs.size + 1, s1.heap.objs.size], _, _, H1, rfl, I2, turn_enumT a (s1.heap.objs.size + 1) s1.heap.objs.size, ⟨⟨.none, he⟩, hit, Nat.succ_ne_self _⟩, fun b hb => ?_, q⟩
    have e' : b = s1.heap.objs.size + 1 ∨ b = s1.heap.objs.size := by simpa using hb
    have hle : s1.heap.objs.size ≤ b := by
      rcases e' with z | z
      · rw [z]; exact Nat.le_add_right _ _
      · rw [z]; exact Nat.le_refl _
    exact I1.fpOk hle (I1.hok.fresh hle)
/-- items with their numbers -/
def enD (xs : List D) : List D := xs.zipIdx.map fun p => .tuple [.int p.2, p.1]
theorem enD_len (xs : List D) : (enD xs).length = xs.length := by unfold enD; rw [List.length_map, List.length_zipIdx]
theorem enD_get {xs : List D} {i : Nat} {d : D} (h : xs[i]? = some d) : (enD xs)[i]? = some (.tuple [.int i, d]) := by
  unfold enD
  rw [List.getElem?_map, List.getElem?_zipIdx, h]
  simp
def lEnum (f : EF) : LF := fun e => (f e).bind fun p => match p.1 with
  | .tuple xs => some (enD xs, p.2)
  | .list xs => some (enD xs, p.2)
  | _ => none
theorem itr_enumL {K : Frg} {G : Hp} {a : Addr} {vs : List V} {ds : List D} (h : G a = some (.lst vs)) (hd : DvAll K G vs ds) : Itr K (Ite K a) G (enD ds) := by
  refine ⟨_, _, by rw [enD_len, ← dvAll_len hd]; exact walk_enum (K := K) (a := a) (xs := vs), fun H k => SqL.of (k _ _ h), fun i H x H' hi k y => ?_⟩
  obtain ⟨T, x1, x2, h1, h2, h3, h4, h5⟩ := y
  obtain ⟨d, k1, k2⟩ := dvAll_getV hd h5
  cases h4
  exact .inr ⟨T, _, _, h1, h2, h3, enD_get k1, .cons (.int _) (.cons k2 .nil)⟩
theorem itr_enumT {K : Frg} {G : Hp} {a : Addr} {vs : List V} {ds : List D} (h : SqT K G a vs) (hd : DvAll K G vs ds) : Itr K (IteT K a) G (enD ds) := by
  refine ⟨fun H => SqT K H a vs, fun i H v H' => ∃ T x, v = .ref T ∧ H T = none ∧ H' = upd H T (.tup [.int (i : Nat), x]) ∧ vs[i]? = some x, ?_, fun H k => seqT k h, fun i H x H' hi k y => ?_⟩
  · rw [enD_len, ← dvAll_len hd]
    exact ⟨fun i H hi q => ⟨vs, vs[i], q, by simp [hi]⟩, fun H q => ⟨vs, q, Nat.le_refl _⟩, fun i H v H' _ q ⟨T, x, h1, h2, h3, h4⟩ => ⟨T, x, h1, h2, h3, h4 vs q⟩⟩
  · obtain ⟨T, x1, h1, h2, h3, h5⟩ := y
    obtain ⟨d, k1, k2⟩ := dvAll_getV hd h5
    exact .inr ⟨T, _, _, h1, h2, h3, enD_get k1, .cons (.int _) (.cons k2 .nil)⟩
section
variable {X : Cx} {pos : Pos}
theorem fi_enum {a : Expr} {f : EF} {p tpos : Pos} {elts : List Expr} {kk : Nat} (h : FE X a f) (hm : X.mg "enumerate" = none) (hg : Gl X "enumerate" := by rfl) (hs : starEach [a] X.env = [(false, eval a X.env)] := by rfl) (hs2 : starEach [a] X.env = (false, eval a X.env) :: starEach [] X.env := by rfl) :
    FI X (.Tuple elts kk tpos) (.Call (.Name "enumerate" p) [a] [] pos) (lEnum f) :=
  ⟨PI.imp (iter_or (pi_enum hg hm (pa_cons h.pe pa_nil hs2) hs) (pi_enumT hg hm (pa_cons h.pe pa_nil hs2) hs)) fun σ H R ⟨z, ds, e', rp, hz, hH, hf, q⟩ => by
    subst hz hH
    obtain ⟨⟨x, e1⟩, h1, hf⟩ := Option.bind_eq_some_iff.mp hf
    cases x with
    | tuple xs =>
      have e2 : some (enD xs, e1) = some (ds, e') := hf
      cases e2
      refine .inr ⟨z, _, _, rp, rfl, rfl, h1, fun v y m r s2 ee p => ?_⟩
      cases p with
      | tup k1 k2 => exact ⟨_, _, rfl, seqT r.same k1, q _ y m r s2 ee (itr_enumT k1 k2)⟩
    | list xs =>
      have e2 : some (enD xs, e1) = some (ds, e') := hf
      cases e2
      refine .inl ⟨z, _, _, rp, rfl, rfl, h1, fun v y m r s2 ee p => ?_⟩
      cases p with
      | lst k1 k2 => exact ⟨_, _, rfl, SqL.of (r.same _ _ k1), q _ y m r s2 ee (itr_enumL k1 k2)⟩
    | none => cases hf
    | bool _ => cases hf
    | int _ => cases hf
    | str _ => cases hf
    | dict _ => cases hf⟩
end
end Fl

set_option Elab.async false
set_option linter.all false
set_option maxRecDepth 100000
set_option maxHeartbeats 1000000
set_option autoImplicit false
/-! FnTake: the other tape: [numbers, place, store, stir]. -/
namespace Fl
open PySem PySem.Spec PyProof.Rows L2
structure Tp where
  cells : List Int
  i : Nat
  s : Int
  m : Int
def Tp.ot (b : Tp) : OT := .node [.node (b.cells.map fun i => .leaf (.int i)), .leaf (.int b.i), .leaf (.int b.s), .leaf (.int b.m)]
def TpAt (H : Hp) (p c : Addr) (b : Tp) : Prop := p ≠ c ∧ H p = some (.lst [.ref c, .int b.i, .int b.s, .int b.m]) ∧ H c = some (.lst (b.cells.map V.int))
theorem tpOf {K : Frg} {G H : Hp} {v : V} {F : List Addr} {b : Tp} (h : OtOk K G H v b.ot F) : ∃ p c, v = .ref p ∧ F = [p, c] ∧ TpAt H p c b ∧ G p = none ∧ G c = none := by
  cases h with
  | node h1 h2 h3 h4 =>
    cases h3 with
    | cons k1 k2 k3 =>
      cases k1 with
      | node g1 g2 g3 g4 =>
        obtain ⟨e1, e2⟩ := otsInts g3
        subst e1 e2
        cases k2 with
        | cons l1 l2 l3 =>
          cases l1 with
          | leaf l1 =>
            cases l1
            cases l2 with
            | cons m1 m2 m3 =>
              cases m1 with
              | leaf m1 =>
                cases m1
                cases m2 with
                | cons n1 n2 n3 =>
                  cases n1 with
                  | leaf n1 =>
                    cases n1
                    cases n2
                    refine ⟨_, _, rfl, rfl, ⟨fun e => h4 ?_, h2, g2⟩, h1, g1⟩
                    rw [e]; simp
theorem tpMk {K : Frg} {G H : Hp} {p c : Addr} {b : Tp} (h : TpAt H p c b) (g1 : G p = none) (g2 : G c = none) : OtOk K G H (.ref p) b.ot [p, c] := by
  obtain ⟨h1, h2, h3⟩ := h
  have k1 : OtOk K G H (.ref c) (.node (b.cells.map fun i => OT.leaf (.int i))) [c] := .node g2 h3 (otsIntsMk _) fun h => nomatch h
  have k2 : OtsOk K G H [.int b.i, .int b.s, .int b.m] [.leaf (.int b.i), .leaf (.int b.s), .leaf (.int b.m)] [] := .cons (F1 := []) (F2 := []) (.leaf (.int _)) (.cons (F1 := []) (F2 := []) (.leaf (.int _)) (.cons (F1 := []) (F2 := []) (.leaf (.int _)) .nil fun _ h => nomatch h) fun _ h => nomatch h) fun _ h => nomatch h
  have k3 : OtsOk K G H [.ref c, .int b.i, .int b.s, .int b.m] [.node (b.cells.map fun i => OT.leaf (.int i)), .leaf (.int b.i), .leaf (.int b.s), .leaf (.int b.m)] [c] := .cons (F1 := [c]) (F2 := []) k1 k2 fun _ _ h => nomatch h
  exact .node g1 h2 k3 (by simpa using h1)
def spTp (k : Nat) (go : Tp → List V → Option (V × Tp)) : Sp := fun vs H Q _ => vs.length = k + 1 ∧ ∃ p c b as r b', vs = .ref p :: as ∧ TpAt H p c b ∧ go b as = some (r, b') ∧ ∀ H', TpAt H' p c b' → (∀ a, a ≠ p → a ≠ c → H' a = H a) → Q r H'
/-- a taking: one place -/
def gTake (go : Tp → Int → Int × Tp) (ok : Int → Bool) : Fnc := fun ss => match ss with
  | [.ow (.node [.node cs, .leaf (.int i), .leaf (.int s), .leaf (.int t)]), .va (.int m)] => if ok m = true ∧ 0 ≤ i then (gDraw.cellsOf cs).map fun ns => (.va (.int (go ⟨ns, i.toNat, s, t⟩ m).1), [.ow (go ⟨ns, i.toNat, s, t⟩ m).2.ot, .no]) else none
  | _ => none
theorem gTake_tp (go : Tp → Int → Int × Tp) (ok : Int → Bool) (b : Tp) (m : Int) (h : ok m = true) : gTake go ok [.ow b.ot, .va (.int m)] = some (.va (.int (go b m).1), [.ow (go b m).2.ot, .no]) := by
  show (if ok m = true ∧ 0 ≤ (b.i : Int) then (gDraw.cellsOf (b.cells.map fun i => OT.leaf (.int i))).map _ else none) = _
  rw [if_pos ⟨h, by omega⟩, cellsOf_map]; rfl
section
variable {P : Program} {w : World} {K : Frg} {mg : Str → Option Value} {base : Heap}
/-- a drawing def's promise in the layer's words -/
theorem take_ok {f : Addr} {fd : FuncData} {k : Nat} {ps : List Str} {go : Tp → Int → Int × Tp} {ok : Int → Bool} (F : FnOk P w K mg base CX0 k f fd ps (spTp 1 fun b as => match as with
    | [.int m] => if ok m then some (.int (go b m).1, (go b m).2) else none
    | _ => none)) : FnOk P w K mg base CX0 k f fd ps (spF K 2 (gTake go ok)) := F.imp fun vs H Q E ⟨hl, z, r, ss', hs, hH, rp, har, hg, q⟩ => by
  subst hH
  refine ⟨hl, ?_⟩
  unfold gTake at hg
  split at hg
  · rename_i cs j0 s0 t0 m he
    split at hg
    · rename_i hok0
      obtain ⟨hok, hj0⟩ := hok0
      obtain ⟨j1, rfl⟩ : ∃ j : Nat, j0 = (j : Int) := ⟨j0.toNat, by omega⟩
      obtain ⟨ns, h1, h2⟩ := Option.map_eq_some_iff.mp hg
      have ec := cellsOf_some h1
      subst ec
      cases h2
      have o0 := rp.ok 0 _ (by rw [he]; rfl)
      have o1 := rp.ok 1 _ (by rw [he]; rfl)
      rw [hs] at o0 o1
      match vs, hl, hs, q, o0, o1 with
      | [v0, v1], _, hs, q, o0, o1 =>
      obtain ⟨x, e1, o0⟩ := o0
      cases e1
      obtain ⟨p, c, rfl, hF, hB, g1, g2⟩ := tpOf (b := ⟨ns, j1, s0, t0⟩) o0
      obtain ⟨_, x, e2, o1⟩ := o1
      cases e2
      cases o1
      refine ⟨p, c, ⟨ns, j1, s0, t0⟩, [.int m], _, _, rfl, hB, by show (if ok m = true then _ else none) = _; rw [if_pos hok], fun H' hB' hsame => ?_⟩
      have hF1 : z.F 1 = [] := by
        have := rp.ok 1 _ (show z.e[1]? = some (.va (.int m)) by rw [he]; rfl)
        exact this.1
      have hFo : ∀ i, z.F i = if i = 0 then [p, c] else [] := fun i => by
        match i with
        | 0 => rw [if_pos rfl]; exact hF
        | 1 => exact hF1
        | i + 2 => rw [if_neg (by omega)]; exact rp.out _ (by rw [he]; simp)
      have hHn : ∀ a, H' a = none → z.H a = none := fun a h => by
        by_cases e1 : a = p
        · rw [e1, hB'.2.1] at h; cases h
        · by_cases e2 : a = c
          · rw [e2, hB'.2.2] at h; cases h
          · rw [hsame a e1 e2] at h; exact h
      have nG : ∀ b x, z.G b = some x → b ≠ p ∧ b ≠ c := fun b x h => ⟨fun e => (by rw [e, g1] at h; cases h), fun e => (by rw [e, g2] at h; cases h)⟩
      have lenE : z.e.length = 2 := by rw [he]; rfl
      refine q _ { z with H := H', e := [.ow (go ⟨ns, j1, s0, t0⟩ m).2.ot, .no], F := fun i => if i = 0 then [p, c] else [] } [] ⟨fun u o h hf => ?_, fun u h e => h (hHn u e), Same.refl _, fun _ _ _ => rfl, fun i u h => ?_, fun i h => ?_, by rw [he]; rfl⟩ ⟨fun u x h => ?_, ?_, fun i s h => ?_, fun i h => ?_, fun i j u hij h h' => ?_⟩ rfl rfl ⟨rfl, _, rfl, .int _⟩ fun _ h => nomatch h
      · have hp : u ∉ z.F 0 := hf 0
        rw [hF] at hp
        simp at hp
        show H' u = some o
        rw [hsame u hp.1 hp.2]; exact h
      · rw [hFo]; exact .inl h
      · match i with
        | 0 => exact ⟨rfl, rfl⟩
        | 1 => rw [he] at h; cases h
        | i + 2 => rw [he] at h; cases h
      · obtain ⟨n1, n2⟩ := nG u x h
        show H' u = some x
        rw [hsame u n1 n2]; exact rp.same _ _ h
      · show z.s.length = 2
        rw [rp.len, lenE]
      · match i with
        | 0 =>
          cases h
          show SlOk K z.G H' (z.s[0]?).join [p, c] _
          rw [hs]
          exact ⟨.ref p, rfl, tpMk hB' g1 g2⟩
        | 1 => cases h; rfl
        | i + 2 => cases h
      · show (if i = 0 then [p, c] else []) = []
        rw [if_neg (fun e => by rw [e] at h; cases h)]
      · have h1 : u ∈ (if i = 0 then [p, c] else []) := h
        have h2 : u ∈ (if j = 0 then [p, c] else []) := h'
        split at h1
        · split at h2
          · omega
          · cases h2
        · cases h1
    · cases hg
  · cases hg
end
/-! ### what the tape does -/
def mixN (n : Int) : Int :=
  let k := (n * 6364136223846793005 + 1442695040888963407) % 18446744073709551616
  (k * k / 4294967296 + k * 69621) % 18446744073709551557
def great (c m : Int) : Int := if 1000000000000000000 ≤ c then c else m
def loadT (t : Tp) : Tp := match t.cells[t.i]? with
  | some x => ⟨t.cells, t.i + 1, great (sized x) (mixN (mixN (sized x) + ((t.i + 1 : Nat) : Int))), mixN (t.m + sized x)⟩
  | none => ⟨t.cells, t.i, mixN (t.m + 1), mixN (t.m + 1)⟩
def takeT (t : Tp) (m : Int) : Int × Tp :=
  if t.s < m then ((loadT t).s % m, { loadT t with s := (loadT t).s / m }) else (t.s % m, { t with s := t.s / m })
def spTapeT (K : Frg) : Sp := fun vs H Q _ => ∃ (a : Addr) (ns : List Int), vs = [.ref a] ∧ SqL K H a (ns.map V.int) ∧ ns.length ≤ 63 ∧ ∀ H' p c, Same H H' → H p = none → H c = none → TpAt H' p c ⟨ns, 0, 0, 1 + ns.length⟩ → Q (.ref p) H'
def tp0 (ns : List Int) : Tp := ⟨ns, 0, 0, 1 + ns.length⟩
/-- a def of one number that leaves all as it is -/
def spInt (g : Int → Int) : Sp := fun vs H Q _ => ∃ n, vs = [.int n] ∧ Q (.int (g n)) H
theorem cut80 (xs : List V) (h : xs.length ≤ 63) : cutV xs none (some 80) = xs := by
  unfold cutV
  rw [HT.sIx_none, show HT.sIx xs.length xs.length (some 80) = min 80 xs.length from HT.sIx_nat xs.length _ 80, Nat.min_eq_right (by omega)]
  simp
section
variable {P : Program} {w : World} {K : Frg} {mg : Str → Option Value} {base : Heap}
/-- the law's body: the tape, then the rest -/
theorem law_okT {st : Stmt} {N : List Str} {f fB : Addr} {fd fdB : FuncData} {k : Nat} {F1 : SF} (F : Fun K "law" "law" st f fd) (S : FnScope N ["script"] (defScope st)) (hN : 2 ≤ N.length)
    (FB : FnOk P w K mg base CX0 1 fB fdB ["script"] (spTapeT K)) (bB : Binds K fdB ["script"] []) (gB : mg "_law_tape" = some (.ref fB)) (kB : PySem.W.keepIn K (.ref fB) = true)
    (hset : ∀ (cdv : Value) (A : Around) (outer : List Env) (s : Shared) (H : Hp) (E : XK), Room (k + 1) (A.deeper (envOfC "law" (defScope st) s.heap.objs.size f cdv)) →
      ∃ t, PS (cxOf CX0 P w K mg base N "law" (defScope st) f cdv A outer s H E).nox ((defBody st).headD (.Pass ⟨0, 0, 0, 0⟩)) t ∧ ∀ D σ H, (tAsg (tCall (spTapeT K) [] E0 (tCons (tVar 0) tNil)) (gName 1)) D σ H → t D σ H)
    (hb : defBody st = (defBody st).headD (.Pass ⟨0, 0, 0, 0⟩) :: (defBody st).drop 1)
    (hrest : ∀ (cdv : Value) (A : Around) (outer : List Env) (s : Shared) (H : Hp) (E : XK), Room (k + 1) (A.deeper (envOfC "law" (defScope st) s.heap.objs.size f cdv)) → FSs (cxOf CX0 P w K mg base N "law" (defScope st) f cdv A outer s H E).nox ((defBody st).drop 1) F1)
    (htrue : ∀ ns : List Int, ns.length ≤ 63 → ∃ e', F1 (.no :: .ow (tp0 ns).ot :: List.replicate (N.length - 2) .no) = some (.rt (.va (.bool true)) e')) : FnOk P w K mg base CX0 (k + 2) f fd ["script"] (spLaw K) := by
  refine F.ok S (fun vs H Q E ⟨a, ns, h, _⟩ => by rw [h]; rfl) (fun cdv A outer s H vs Q E hr h => ?_)
  obtain ⟨a, ns, rfl, hS, hl, q⟩ := h
  obtain ⟨t, ht, hti⟩ := hset cdv A outer s H E hr
  rw [hb]
  refine ⟨_, pss_cons ht (hrest cdv A outer s H E hr).ps, ?_⟩
  have hσ : L2.start N [V.ref a] = some (V.ref a) :: none :: List.replicate (N.length - 2) none := by
    unfold L2.start
    have e : N.length - [V.ref a].length = (N.length - 2) + 1 := by show N.length - 1 = _; omega
    rw [e, List.replicate_succ]; rfl
  refine hti _ _ _ ?_
  rw [hσ]
  refine ⟨.ref a, rfl, a, ns, rfl, hS, hl, fun H' p c hs hp hc hB => ?_⟩
  obtain ⟨e', he'⟩ := htrue ns hl
  refine tS_out.mpr ⟨⟨fun _ => none, H', some (V.ref a) :: some (V.ref p) :: List.replicate (N.length - 2) none, .no :: .ow (tp0 ns).ot :: List.replicate (N.length - 2) .no, fun i => if i = 1 then [p, c] else []⟩, _, ⟨fun b o h => (by cases h), ?_, fun i s h => ?_, fun i h => ?_, fun i j u hij hi hj => ?_⟩, rfl, rfl, he', fun v y Fr m r ee so hf hg => ?_⟩
  · show List.length (some (V.ref a) :: some (V.ref p) :: List.replicate (N.length - 2) none) = List.length (Sl.no :: Sl.ow (tp0 ns).ot :: List.replicate (N.length - 2) Sl.no)
    simp
  · match i with
    | 0 => cases h; rfl
    | 1 =>
      cases h
      exact ⟨.ref p, rfl, tpMk hB rfl rfl⟩
    | i + 2 =>
      have h' : (List.replicate (N.length - 2) Sl.no)[i]? = some s := h
      have := List.getElem?_eq_some_iff.mp h'
      obtain ⟨h1, h2⟩ := this
      rw [List.getElem_replicate] at h2
      subst h2
      show (if i + 2 = 1 then [p, c] else []) = []
      rw [if_neg (by omega)]
  · show (if i = 1 then [p, c] else []) = []
    have h' : (Sl.no :: Sl.ow (tp0 ns).ot :: List.replicate (N.length - 2) Sl.no).length ≤ i := h
    rw [List.length_cons, List.length_cons] at h'
    rw [if_neg (by omega)]
  · have a1 : u ∈ (if i = 1 then [p, c] else []) := hi
    have a2 : u ∈ (if j = 1 then [p, c] else []) := hj
    split at a1
    · split at a2
      · omega
      · cases a2
    · cases a1
  · obtain ⟨_, x, hx, hv⟩ := so
    cases hx
    cases hv
    exact q _
end
end Fl

set_option Elab.async false
set_option linter.all false
set_option maxRecDepth 100000
set_option maxHeartbeats 1000000
set_option autoImplicit false
/-! FnMore2: sorted of ints, zip of two, list and tuple of a range. -/
namespace Fl
open PySem PySem.Spec PyProof.Rows L2
def sortI (ns : List Int) : List Int := ns.mergeSort fun a b => decide (a ≤ b)
theorem sortI_perm (ns : List Int) : (sortI ns).Perm ns := List.mergeSort_perm ns _
theorem sortI_pair (ns : List Int) : (sortI ns).Pairwise (· ≤ ·) := by
  have := List.pairwise_mergeSort (le := fun a b : Int => decide (a ≤ b)) (fun a b c h1 h2 => decide_eq_true (Int.le_trans (of_decide_eq_true h1) (of_decide_eq_true h2))) (fun a b => by
    rcases Int.le_total a b with h | h
    · rw [decide_eq_true h]; rfl
    · rw [decide_eq_true h, Bool.or_true]) ns
  exact this.imp fun h => of_decide_eq_true h
theorem sortI_of {ns ms : List Int} (h : ms.Perm ns) (p : ms.Pairwise (· ≤ ·)) : ms = sortI ns :=
  List.Perm.eq_of_pairwise (le := (· ≤ ·)) (fun _ _ _ _ h1 h2 => Int.le_antisymm h1 h2) p (sortI_pair ns) (h.trans (sortI_perm ns).symm)
def dSorted : D → Option (List D)
  | .list xs => (asInts xs).map fun ns => (sortI ns).map PyData.int
  | _ => none
theorem dvAll_ints {K : Frg} {G : Hp} : ∀ ns : List Int, DvAll K G (ns.map V.int) (ns.map PyData.int)
  | [] => .nil
  | n :: ns => .cons (.int n) (dvAll_ints ns)
section
variable {X : Cx} {pos : Pos}
theorem fo_sorted {a : Expr} {p : Pos} {f : EF} (ha : FB X a f) (hm : X.mg "sorted" = none) (hg : Gl X "sorted" := by rfl) (he : starEach [a] X.env = (false, eval a X.env) :: starEach [] X.env := by rfl) : FO X (.Call (.Name "sorted" p) [a] [] pos) (oUn dSorted f) :=
  fo_call1 cr_sortedI (fun x ds G H vx Q e s h q => by
    unfold dSorted at e
    split at e
    · obtain ⟨ns, h1, h2⟩ := Option.map_eq_some_iff.mp e
      subst h2
      obtain ⟨b, vs, rfl, h3, h4⟩ := vwLst s h
      obtain ⟨e1, e2⟩ := asInts_ok h1 h4
      subst e1
      refine ⟨b, ns, rfl, SqL.of h3, fun ns' p hp hr hn => ?_⟩
      have := sortI_of hp hr
      subst this
      exact q p _ hn (dvAll_ints _)
    · cases e) hg hm (by decide +kernel) ha (by decide) (by decide) he
/-- an own list's (or any name's) cut: what stands there behind the bounds -/
def eSlO (i : Nat) (g h : PF) : EF := fun e => (e[i]?.bind vw).bind fun _ => (g e).bind fun q => (h q.2).bind fun r => (r.2[i]?.bind vw).bind fun x => (dSl q.1 r.1 x).map fun d => (d, r.2)
theorem fslo (i : Nat) {x : Str} {p p2 : Pos} {lo hi : Option Expr} {g h : PF} (hl : FP X lo g) (hh : FP X hi h) (hN : X.N[i]? = some x := by rfl) (hv : Vis X.env.scope x := by first | exact Or.inl rfl | exact Or.inr (Or.inl rfl) | exact Or.inr (Or.inr rfl)) (hd : (x == ("__debug__" : Str)) = false := by decide) (hcd : (x == ("__classdict__" : Str)) = false := by decide) : FE X (.Subscript (.Name x p) (.Slice lo hi none p2) pos) (eSlO i g h) :=
  ⟨PE.imp (pe_slice ((sl_list.or sl_tupA).or sl_str) (pe_var hN hv hd hcd) hl.po hh.po) fun σ H Q ⟨z, d, e', rp, hs, hH, hf, q⟩ => by
    subst hs hH
    obtain ⟨_, h0, hf⟩ := Option.bind_eq_some_iff.mp hf
    obtain ⟨⟨l, e1⟩, h1, hf⟩ := Option.bind_eq_some_iff.mp hf
    obtain ⟨⟨u, e2⟩, h2, hf⟩ := Option.bind_eq_some_iff.mp hf
    obtain ⟨xd, h3, hf⟩ := Option.bind_eq_some_iff.mp hf
    obtain ⟨d', h4, hf⟩ := Option.map_eq_some_iff.mp hf
    cases hf
    obtain ⟨v, hv, _⟩ := rp.has h0
    refine ⟨v, hv, z, l, e1, rp, rfl, rfl, h1, fun y2 m2 r2 s3 ee2 => ⟨y2, u, _, r2, s3, rfl, by rw [ee2]; exact h2, fun y3 m3 r3 s4 ee3 => ?_⟩⟩
    obtain ⟨v', hv', pv⟩ := r3.has (i := i) (x := xd) (by rw [ee3]; exact h3)
    rw [s4, hv] at hv'
    cases hv'
    have mm := m2.trans m3
    have finN : ∀ v p o, y3.H p = none → Dv X.K (upd y3.G p o) v d → Q v (upd y3.H p o) := fun v p o hn pv => by
      obtain ⟨r5, m5⟩ := r3.add (o := o) hn
      exact q v (y3.add p o) (mm.trans m5) r5 s4 ee3 pv
    cases xd with
    | list xs =>
      cases h4
      obtain ⟨a, vs, rfl, k1, k2⟩ := vwLst (H := y3.H) r3.same pv
      exact .inl (.inl ⟨_, _, rfl, SqL.of k1, fun p hn => finN _ p _ hn (.lst upd_same (dvMonoAll (sameUpd (r3.same.free hn)) _ _ (dvAll_cut k2 _ _)))⟩)
    | tuple xs =>
      cases h4
      obtain ⟨a, vs, rfl, k1, k2⟩ := vwTup (H := y3.H) pv
      refine .inl (.inr ⟨a, vs, rfl, seqT r3.same k1, fun hw => ?_, fun hw p hn => finN _ p _ hn (.tup (SqT.of upd_same) (dvMonoAll (sameUpd (r3.same.free hn)) _ _ (dvAll_cut k2 _ _)))⟩)
      refine q _ y3 mm r3 s4 ee3 ?_
      rw [dvAll_len k2] at hw
      rw [cut_all hw]
      exact .tup k1 k2
    | str z =>
      have h4' : (if z.length ≤ sizeLine then some (PyData.str (cutS z l u)) else none) = some d := h4
      split at h4'
      · rename_i hz
        cases h4'
        exact .inr ⟨_, vwStr (H := y3.H) pv, hz, q _ y3 mm r3 s4 ee3 (.str _)⟩
      · cases h4'
    | none => cases h4
    | bool _ => cases h4
    | int _ => cases h4
    | dict _ => cases h4⟩
end
end Fl

set_option linter.all false
set_option maxRecDepth 100000
set_option maxHeartbeats 1000000
set_option autoImplicit false
/-! FnEv: evaluation of the layer's words where slots are written out: no rule looks under a binder. -/
namespace Fl
open PySem PySem.Spec PyProof.Rows L2
section
variable {α : Type} (e e1 e2 : Ev) (i : Nat) (is : List Nat) (d x y : D) (f g h fa fb fc : EF) (ds xs ys : List D)
def prE (e : Ev) (a : α) : α × Ev := (a, e)
theorem prE_ev (a : α) : prE e a = (a, e) := rfl
/-! values -/
def varC (e : Ev) : Option Sl → Option (D × Ev)
  | some (.va d) => some (d, e)
  | _ => none
theorem eVar_ev : eVar i e = varC e e[i]? := rfl
theorem varC_ev : varC e (some (.va d)) = some (d, e) := rfl
def nmC (i : Nat) (e : Ev) : Option Sl → Option (D × Ev)
  | some (.va d) => some (d, e)
  | some (.li xs) => some (.list xs, e.set i (.va (.list xs)))
  | _ => none
theorem eNm_ev : eNm i e = nmC i e e[i]? := rfl
theorem nmC_va : nmC i e (some (.va d)) = some (d, e) := rfl
theorem nmC_li : nmC i e (some (.li xs)) = some (.list xs, e.set i (.va (.list xs))) := rfl
theorem eC_ev : eC d e = some (d, e) := rfl
theorem vw_va : vw (.va d) = some d := rfl
theorem vw_li : vw (.li xs) = some (.list xs) := rfl
theorem eOwn_ev : eOwn i e = (e[i]?.bind vw).map (prE e) := rfl
def ixoC3 (k : D) (e : Ev) : D → Option (D × Ev) := fun x => (dIx x k).map (prE e)
def ixoC2 (i : Nat) : D × Ev → Option (D × Ev) := fun q => (q.2[i]?.bind vw).bind (ixoC3 q.1 q.2)
def ixoC (i : Nat) (fb : EF) (e : Ev) : D → Option (D × Ev) := fun _ => (fb e).bind (ixoC2 i)
theorem eIxO_ev : eIxO i fb e = (e[i]?.bind vw).bind (ixoC i fb e) := rfl
theorem ixoC_ev : ixoC i fb e x = (fb e).bind (ixoC2 i) := rfl
theorem ixoC2_ev : ixoC2 i (d, e1) = (e1[i]?.bind vw).bind (ixoC3 d e1) := rfl
theorem ixoC3_ev : ixoC3 d e x = (dIx x d).map (prE e) := rfl
def opC2 (g : D → D → Option D) (x : D) : D × Ev → Option (D × Ev) := fun q => (g x q.1).map (prE q.2)
def opC (g : D → D → Option D) (fb : EF) : D × Ev → Option (D × Ev) := fun p => (fb p.2).bind (opC2 g p.1)
theorem eOp_ev (g : D → D → Option D) : eOp g fa fb e = (fa e).bind (opC g fb) := rfl
theorem opC_ev (g : D → D → Option D) : opC g fb (x, e1) = (fb e1).bind (opC2 g x) := rfl
theorem opC2_ev (g : D → D → Option D) : opC2 g x (y, e1) = (g x y).map (prE e1) := rfl
def unC (g : D → Option D) : D × Ev → Option (D × Ev) := fun p => (g p.1).map (prE p.2)
theorem eUn_ev (g : D → Option D) : eUn g fa e = (fa e).bind (unC g) := rfl
theorem unC_ev (g : D → Option D) : unC g (x, e1) = (g x).map (prE e1) := rfl
def bEC : D × Ev → Option (Bool × Ev) := fun p => (dTru p.1).map (prE p.2)
theorem bE_ev : bE f e = (f e).bind bEC := rfl
theorem bEC_ev : bEC (x, e1) = (dTru x).map (prE e1) := rfl
def bBC : D × Ev → Option (Bool × Ev) := fun p => match p.1 with
  | .bool b => some (b, p.2)
  | _ => none
theorem bB_ev : bB f e = (f e).bind bBC := rfl
theorem bBC_ev (b : Bool) : bBC (.bool b, e1) = some (b, e1) := rfl
def notC : Bool × Ev → Bool × Ev := fun p => (!p.1, p.2)
theorem bNot_ev (f : BF) : bNot f e = (f e).map notC := rfl
theorem notC_ev (b : Bool) : notC (b, e1) = (!b, e1) := rfl
def andC (g : BF) : Bool × Ev → Option (Bool × Ev) := fun p => if p.1 = true then g p.2 else some (false, p.2)
theorem bAnd_ev (f g : BF) : bAnd f g e = (f e).bind (andC g) := rfl
theorem andC_t (g : BF) : andC g (true, e1) = g e1 := rfl
theorem andC_f (g : BF) : andC g (false, e1) = some (false, e1) := rfl
def orC (g : BF) : Bool × Ev → Option (Bool × Ev) := fun p => if p.1 = true then some (true, p.2) else g p.2
theorem bOr_ev (f g : BF) : bOr f g e = (f e).bind (orC g) := rfl
theorem orC_t (g : BF) : orC g (true, e1) = some (true, e1) := rfl
theorem orC_f (g : BF) : orC g (false, e1) = g e1 := rfl
theorem bYes_ev : bYes e = some (true, e) := rfl
def eandC (g : EF) : D × Ev → Option (D × Ev) := fun p => match p.1 with
  | .bool true => g p.2
  | .bool false => some (.bool false, p.2)
  | _ => none
theorem eAnd_ev : eAnd f g e = (f e).bind (eandC g) := rfl
theorem eandC_t : eandC g (.bool true, e1) = g e1 := rfl
theorem eandC_f : eandC g (.bool false, e1) = some (.bool false, e1) := rfl
def eorC (g : EF) : D × Ev → Option (D × Ev) := fun p => match p.1 with
  | .bool true => some (.bool true, p.2)
  | .bool false => g p.2
  | _ => none
theorem eOr_ev : eOr f g e = (f e).bind (eorC g) := rfl
theorem eorC_t : eorC g (.bool true, e1) = some (.bool true, e1) := rfl
theorem eorC_f : eorC g (.bool false, e1) = g e1 := rfl
def enotC : D × Ev → Option (D × Ev) := fun p => match p.1 with
  | .bool b => some (.bool (!b), p.2)
  | _ => none
theorem eNot_ev : eNot f e = (f e).bind enotC := rfl
theorem enotC_ev (b : Bool) : enotC (.bool b, e1) = some (.bool (!b), e1) := rfl
def ifC (f g : EF) : Bool × Ev → Option (D × Ev) := fun p => if p.1 = true then f p.2 else g p.2
theorem eIf_ev (c : BF) : eIf c f g e = (c e).bind (ifC f g) := rfl
theorem ifC_t : ifC f g (true, e1) = f e1 := rfl
theorem ifC_f : ifC f g (false, e1) = g e1 := rfl
def tupC : List D × Ev → Option (D × Ev) := fun p => if p.1.length ≤ sizeLine then some (.tuple p.1, p.2) else none
theorem eTup_ev (g : LF) : eTup g e = (g e).bind tupC := rfl
theorem tupC_ev : tupC (xs, e1) = if xs.length ≤ sizeLine then some (.tuple xs, e1) else none := rfl
theorem aNil_ev : aNil e = some ([], e) := rfl
def aconsC2 (x : D) : List D × Ev → List D × Ev := fun q => (x :: q.1, q.2)
def aconsC (g : LF) : D × Ev → Option (List D × Ev) := fun p => (g p.2).map (aconsC2 p.1)
theorem aCons_ev (g : LF) : aCons f g e = (f e).bind (aconsC g) := rfl
theorem aconsC_ev (g : LF) : aconsC g (x, e1) = (g e1).map (aconsC2 x) := rfl
theorem aconsC2_ev : aconsC2 x (xs, e1) = (x :: xs, e1) := rfl
def lstC : List D × Ev → Option (Sl × Ev) := fun p => if p.1.length ≤ sizeLine then some (.li p.1, p.2) else none
theorem oLst_ev (g : LF) : oLst g e = (g e).bind lstC := rfl
theorem lstC_ev : lstC (xs, e1) = if xs.length ≤ sizeLine then some (.li xs, e1) else none := rfl
def oEC : D × Ev → Sl × Ev := fun p => (.va p.1, p.2)
theorem oE_ev : oE f e = (f e).map oEC := rfl
theorem oEC_ev : oEC (x, e1) = (.va x, e1) := rfl
def fzC : Sl × Ev → Option (D × Ev) := fun p => (fz p.1).map (prE p.2)
theorem eFz_ev (f : OF) : eFz f e = (f e).bind fzC := rfl
theorem fzC_va : fzC (.va d, e1) = some (d, e1) := rfl
theorem fzC_li : fzC (.li xs, e1) = some (.list xs, e1) := rfl
def prL (e : Ev) : List D → Sl × Ev := fun xs => (.li xs, e)
def ounC (g : D → Option (List D)) : D × Ev → Option (Sl × Ev) := fun p => (g p.1).map (prL p.2)
theorem oUn_ev (g : D → Option (List D)) : oUn g f e = (f e).bind (ounC g) := rfl
theorem ounC_ev (g : D → Option (List D)) : ounC g (x, e1) = (g x).map (prL e1) := rfl
theorem prL_ev : prL e xs = (.li xs, e) := rfl
def slC3 (x : D) (lo : Option Int) : Option Int × Ev → Option (D × Ev) := fun r => (dSl lo r.1 x).map (prE r.2)
def slC2 (h : PF) (x : D) : Option Int × Ev → Option (D × Ev) := fun q => (h q.2).bind (slC3 x q.1)
def slC (g h : PF) : D × Ev → Option (D × Ev) := fun p => (g p.2).bind (slC2 h p.1)
theorem eSl_ev (g h : PF) : eSl f g h e = (f e).bind (slC g h) := rfl
theorem slC_ev (g h : PF) : slC g h (x, e1) = (g e1).bind (slC2 h x) := rfl
theorem slC2_ev (h : PF) (lo : Option Int) : slC2 h x (lo, e1) = (h e1).bind (slC3 x lo) := rfl
theorem slC3_ev (lo hi : Option Int) : slC3 x lo (hi, e1) = (dSl lo hi x).map (prE e1) := rfl
def sloC4 (lo hi : Option Int) (e : Ev) : D → Option (D × Ev) := fun x => (dSl lo hi x).map (prE e)
def sloC3 (i : Nat) (lo : Option Int) : Option Int × Ev → Option (D × Ev) := fun r => (r.2[i]?.bind vw).bind (sloC4 lo r.1 r.2)
def sloC2 (i : Nat) (h : PF) : Option Int × Ev → Option (D × Ev) := fun q => (h q.2).bind (sloC3 i q.1)
def sloC (i : Nat) (g h : PF) (e : Ev) : D → Option (D × Ev) := fun _ => (g e).bind (sloC2 i h)
theorem eSlO_ev (g h : PF) : eSlO i g h e = (e[i]?.bind vw).bind (sloC i g h e) := rfl
theorem sloC_ev (g h : PF) : sloC i g h e x = (g e).bind (sloC2 i h) := rfl
theorem sloC2_ev (h : PF) (lo : Option Int) : sloC2 i h (lo, e1) = (h e1).bind (sloC3 i lo) := rfl
theorem sloC3_ev (lo hi : Option Int) : sloC3 i lo (hi, e1) = (e1[i]?.bind vw).bind (sloC4 lo hi e1) := rfl
theorem sloC4_ev (lo hi : Option Int) : sloC4 lo hi e1 x = (dSl lo hi x).map (prE e1) := rfl
def enC : D × Ev → Option (List D × Ev) := fun p => match p.1 with
  | .tuple xs => some (enD xs, p.2)
  | .list xs => some (enD xs, p.2)
  | _ => none
theorem lEnum_ev : lEnum f e = (f e).bind enC := rfl
theorem enC_tup : enC (.tuple xs, e1) = some (enD xs, e1) := rfl
theorem enC_lst : enC (.list xs, e1) = some (enD xs, e1) := rfl
theorem pNo_ev : pNo e = some (none, e) := rfl
def psoC : D × Ev → Option (Option Int × Ev) := fun p => match p.1 with
  | .int i => some (some i, p.2)
  | _ => none
theorem pSo_ev : pSo f e = (f e).bind psoC := rfl
theorem psoC_ev (k : Int) : psoC (.int k, e1) = some (some k, e1) := rfl
def lofC : D × Ev → Option (List D × Ev) := fun p => match p.1 with
  | .tuple xs => some (xs, p.2)
  | .list xs => some (xs, p.2)
  | _ => none
theorem lOf_ev : lOf f e = (f e).bind lofC := rfl
theorem lofC_tup : lofC (.tuple xs, e1) = some (xs, e1) := rfl
theorem lofC_lst : lofC (.list xs, e1) = some (xs, e1) := rfl
theorem ifCg {α : Type} {p q : Prop} {_ : Decidable p} {_ : Decidable q} {x y u v : α} (h : p ↔ q) (h1 : x = u) (h2 : y = v) : (if p then x else y) = if q then u else v := by
  subst h1; subst h2
  by_cases k : p
  · rw [if_pos k, if_pos (h.mp k)]
  · rw [if_neg k, if_neg fun z => k (h.mpr z)]
def rng1C : D × Ev → Option (List D × Ev) := fun p => match p.1 with
  | .int j => if -(2 ^ 62) ≤ j ∧ j < 2 ^ 62 then some (rngD 0 j.toNat, p.2) else none
  | _ => none
theorem lRng1_ev : lRng1 f e = (f e).bind rng1C := rfl
def Rg (j : Int) : Prop := -(2 ^ 62) ≤ j ∧ j < 2 ^ 62
instance (j : Int) : Decidable (Rg j) := inferInstanceAs (Decidable (-(2 ^ 62) ≤ j ∧ j < 2 ^ 62))
theorem rg_of {j : Int} (h1 : -1000000000000 ≤ j) (h2 : j ≤ 1000000000000) : Rg j := ⟨by omega, by omega⟩
theorem rng1C_ev (j : Int) : rng1C (.int j, e1) = if Rg j then some (rngD 0 j.toNat, e1) else none := ifCg Iff.rfl rfl rfl
def rng2C2 (x : D) : D × Ev → Option (List D × Ev) := fun q => match x, q.1 with
  | .int i, .int j => if (-(2 ^ 62) ≤ i ∧ i < 2 ^ 62) ∧ -(2 ^ 62) ≤ j ∧ j < 2 ^ 62 then some (rngD i (j - i).toNat, q.2) else none
  | _, _ => none
def rng2C (g : EF) : D × Ev → Option (List D × Ev) := fun p => (g p.2).bind (rng2C2 p.1)
theorem lRng2_ev : lRng2 f g e = (f e).bind (rng2C g) := rfl
theorem rng2C_ev : rng2C g (x, e1) = (g e1).bind (rng2C2 x) := rfl
theorem rng2C2_ev (k j : Int) : rng2C2 (.int k) (.int j, e1) = if Rg k ∧ Rg j then some (rngD k (j - k).toNat, e1) else none := ifCg Iff.rfl rfl rfl
def Rpt (n : Nat) (k : Int) : Prop := (-(2 ^ 63) ≤ k ∧ k < 2 ^ 63) ∧ n * k.toNat ≤ sizeLine
instance (n : Nat) (k : Int) : Decidable (Rpt n k) := inferInstanceAs (Decidable ((-(2 ^ 63) ≤ k ∧ k < 2 ^ 63) ∧ n * k.toNat ≤ sizeLine))
theorem rpt_of {n : Nat} {k : Int} (h1 : -1000000000000 ≤ k) (h2 : k ≤ 1000000000000) (h3 : n * k.toNat ≤ 1000000) : Rpt n k := ⟨⟨by omega, by omega⟩, Nat.le_trans h3 (by decide)⟩
def repC2 (x : D) : D × Ev → Option (Sl × Ev) := fun q => match x, q.1 with
  | .list xs, .int k => if (-(2 ^ 63) ≤ k ∧ k < 2 ^ 63) ∧ xs.length * k.toNat ≤ sizeLine then some (.li (List.replicate k.toNat xs).flatten, q.2) else none
  | _, _ => none
def repC (g : EF) : D × Ev → Option (Sl × Ev) := fun p => (g p.2).bind (repC2 p.1)
theorem oRep_ev : oRep f g e = (f e).bind (repC g) := rfl
theorem repC_ev : repC g (x, e1) = (g e1).bind (repC2 x) := rfl
theorem repC2_ev (k : Int) : repC2 (.list xs) (.int k, e1) = if Rpt xs.length k then some (.li (List.replicate k.toNat xs).flatten, e1) else none := ifCg Iff.rfl rfl rfl
/-! calls -/
def callC2 (as : List Ar) (e : Ev) : Sl × List Sl → Sl × Ev := fun q => (q.1, arBack as q.2 e)
def callC (g : Fnc) : List Ar × Ev → Option (Sl × Ev) := fun p => if (refs p.1).Nodup ∧ ((refs p.1).all fun i => isOw p.2[i]?) = true then (g (p.1.map (arSl p.2))).map (callC2 p.1 p.2) else none
theorem oCall_ev (g : Fnc) (f : AF) : oCall g f e = (f e).bind (callC g) := rfl
/-- all arguments are values -/
def vals : List Ar → Option (List D)
  | [] => some []
  | .vl d :: as => (vals as).map (d :: ·)
  | .rf _ :: _ => none
theorem callC_0 (g : Fnc) : callC g ([], e1) = (g []).map (callC2 [] e1) := by unfold callC; rw [if_pos ⟨List.nodup_nil, rfl⟩]; rfl
theorem callC_1 (g : Fnc) : callC g ([.vl x], e1) = (g [.va x]).map (callC2 [.vl x] e1) := by unfold callC; rw [if_pos ⟨List.nodup_nil, rfl⟩]; rfl
theorem callC_2 (g : Fnc) : callC g ([.vl x, .vl y], e1) = (g [.va x, .va y]).map (callC2 [.vl x, .vl y] e1) := by unfold callC; rw [if_pos ⟨List.nodup_nil, rfl⟩]; rfl
theorem callC_3 (g : Fnc) (z : D) : callC g ([.vl x, .vl y, .vl z], e1) = (g [.va x, .va y, .va z]).map (callC2 [.vl x, .vl y, .vl z] e1) := by unfold callC; rw [if_pos ⟨List.nodup_nil, rfl⟩]; rfl
theorem callC_4 (g : Fnc) (z u : D) : callC g ([.vl x, .vl y, .vl z, .vl u], e1) = (g [.va x, .va y, .va z, .va u]).map (callC2 [.vl x, .vl y, .vl z, .vl u] e1) := by unfold callC; rw [if_pos ⟨List.nodup_nil, rfl⟩]; rfl
theorem callC_5 (g : Fnc) (z u v : D) : callC g ([.vl x, .vl y, .vl z, .vl u, .vl v], e1) = (g [.va x, .va y, .va z, .va u, .va v]).map (callC2 [.vl x, .vl y, .vl z, .vl u, .vl v] e1) := by unfold callC; rw [if_pos ⟨List.nodup_nil, rfl⟩]; rfl
/-- a tape first -/
theorem callC_r (g : Fnc) (as : List Ar) (hv : refs as = []) (hi : isOw e1[i]? = true) : callC g (.rf i :: as, e1) = (g (arSl e1 (.rf i) :: as.map (arSl e1))).map (callC2 (.rf i :: as) e1) := by
  unfold callC
  rw [if_pos ⟨by show (i :: refs as).Nodup; rw [hv]; simp, by show ((i :: refs as).all _) = true; rw [hv]; simp [hi]⟩]; rfl
theorem callC_rv (g : Fnc) : callC g ([.rf i, .vl x], e1) = if isOw e1[i]? = true then (g [(e1[i]?).getD .no, .va x]).map (callC2 [.rf i, .vl x] e1) else none := by
  by_cases h : isOw e1[i]? = true
  · rw [if_pos h, callC_r e1 i g [.vl x] rfl h]; rfl
  · rw [if_neg h]
    unfold callC
    rw [if_neg fun k => h (List.all_eq_true.mp k.2 i (List.mem_singleton.mpr rfl))]
theorem callC_rv4 (g : Fnc) (x1 x2 x3 x4 : D) : callC g ([.rf i, .vl x1, .vl x2, .vl x3, .vl x4], e1) = if isOw e1[i]? = true then (g [(e1[i]?).getD .no, .va x1, .va x2, .va x3, .va x4]).map (callC2 [.rf i, .vl x1, .vl x2, .vl x3, .vl x4] e1) else none := by
  by_cases h : isOw e1[i]? = true
  · rw [if_pos h, callC_r e1 i g [.vl x1, .vl x2, .vl x3, .vl x4] rfl h]; rfl
  · rw [if_neg h]
    unfold callC
    rw [if_neg fun k => h (List.all_eq_true.mp k.2 i (List.mem_singleton.mpr rfl))]
theorem arSl_vl : arSl e (.vl x) = .va x := rfl
theorem arSl_rf : arSl e (.rf i) = (e[i]?).getD .no := rfl
theorem callC2_ev (as : List Ar) (r : Sl) (ss : List Sl) : callC2 as e (r, ss) = (r, arBack as ss e) := rfl
theorem arBack_nil (ss : List Sl) : arBack [] ss e = e := by cases ss <;> rfl
theorem arBack_vl (as : List Ar) (s : Sl) (ss : List Sl) : arBack (.vl x :: as) (s :: ss) e = arBack as ss e := rfl
theorem arBack_rf (as : List Ar) (s : Sl) (ss : List Sl) : arBack (.rf i :: as) (s :: ss) e = arBack as ss (e.set i s) := rfl
theorem rNil_ev : rNil e = some ([], e) := rfl
def rvC2 (d : D) : List Ar × Ev → List Ar × Ev := fun q => (.vl d :: q.1, q.2)
def rvC (g : AF) : D × Ev → Option (List Ar × Ev) := fun p => (g p.2).map (rvC2 p.1)
theorem rVal_ev (g : AF) : rVal f g e = (f e).bind (rvC g) := rfl
theorem rvC_ev (g : AF) : rvC g (d, e1) = (g e1).map (rvC2 d) := rfl
theorem rvC2_ev (as : List Ar) : rvC2 d (as, e1) = (.vl d :: as, e1) := rfl
def rrC (i : Nat) : List Ar × Ev → List Ar × Ev := fun q => (.rf i :: q.1, q.2)
theorem rRef_ev (g : AF) : rRef i g e = if isOw e[i]? = true then (g e).map (rrC i) else none := rfl
theorem rrC_ev (as : List Ar) : rrC i (as, e1) = (.rf i :: as, e1) := rfl
/-! comprehensions -/
def compC2 (b : Ev) (vs : List Nat) : List D × Ev → Sl × Ev := fun r => (.li r.1, backE b r.2 vs)
def compC (t : GF) (c : BF) (f : EF) (vs : List Nat) : List D × Ev → Option (Sl × Ev) := fun p => if p.1.length ≤ sizeLine ∧ (vs.all fun i => !isOw p.2[i]?) = true then (compL t c f vs p.1 (wipeE p.2 vs)).map (compC2 p.2 vs) else none
theorem oComp_ev (g : LF) (t : GF) (c : BF) (vs : List Nat) : oComp g t c f vs e = (g e).bind (compC t c f vs) := rfl
theorem compC_ev (t : GF) (c : BF) (vs : List Nat) (h1 : ds.length ≤ sizeLine) (h2 : (vs.all fun i => !isOw e1[i]?) = true) : compC t c f vs (ds, e1) = (compL t c f vs ds (wipeE e1 vs)).map (compC2 e1 vs) := if_pos ⟨h1, h2⟩
theorem compC2_ev (vs : List Nat) : compC2 e vs (xs, e1) = (.li xs, backE e e1 vs) := rfl
theorem wipeE_nil : wipeE e [] = e := rfl
theorem wipeE_cons (v : Nat) (vs : List Nat) : wipeE e (v :: vs) = (wipeE e vs).set v .no := rfl
theorem backE_nil : backE e e1 [] = e1 := rfl
theorem backE_cons (v : Nat) (vs : List Nat) : backE e e1 (v :: vs) = (backE e e1 vs).set v ((e[v]?).getD .no) := rfl
/-! targets -/
theorem gNm_ev : gNm i d e = if isOw e[i]? = true then none else some (e.set i (.va d)) := rfl
theorem gTupF_ev (t : List D → Ev → Option Ev) (n : Nat) : gTupF t n (.tuple ds) e = if ds.length = n then t ds e else none := rfl
theorem gsNil_ev : gsNil [] e = some e := rfl
theorem gsCons_ev (t : GF) (u : List D → Ev → Option Ev) : gsCons t u (d :: ds) e = (t d e).bind (u ds) := rfl
/-! statements -/
theorem sNext_ev : sNext e = some (.nx e) := rfl
theorem sBreak_ev : sBreak e = some (.bk e) := rfl
theorem sCont_ev : sCont e = some (.ct e) := rfl
def seqC (g : SF) : O → Option O
  | .nx e1 => g e1
  | .bk e1 => some (.bk e1)
  | .ct e1 => some (.ct e1)
  | .rt r e1 => some (.rt r e1)
theorem sSeq_ev (f g : SF) : sSeq f g e = (f e).bind (seqC g) := by
  unfold sSeq
  cases f e with
  | none => rfl
  | some o => cases o <;> rfl
theorem seqC_nx (g : SF) : seqC g (.nx e1) = g e1 := rfl
theorem seqC_bk (g : SF) : seqC g (.bk e1) = some (.bk e1) := rfl
theorem seqC_ct (g : SF) : seqC g (.ct e1) = some (.ct e1) := rfl
theorem seqC_rt (g : SF) (r : Sl) : seqC g (.rt r e1) = some (.rt r e1) := rfl
def setC (i : Nat) : Sl × Ev → Option O := fun p => if isOw p.2[i]? = true then none else some (.nx (p.2.set i p.1))
theorem sSet_ev (f : OF) : sSet i f e = (f e).bind (setC i) := rfl
theorem setC_ev (s : Sl) : setC i (s, e1) = if isOw e1[i]? = true then none else some (.nx (e1.set i s)) := rfl
def parC (is : List Nat) : List Sl × Ev → Option O := fun p => (setAll is p.1 p.2).map O.nx
theorem sPar_ev (f : OLF) : sPar is f e = (f e).bind (parC is) := rfl
theorem parC_ev (ss : List Sl) : parC is (ss, e1) = (setAll is ss e1).map O.nx := rfl
theorem setAll_nil : setAll [] [] e = some e := rfl
theorem setAll_cons (s : Sl) (ss : List Sl) : setAll (i :: is) (s :: ss) e = if isOw e[i]? = true then none else setAll is ss (e.set i s) := rfl
theorem olNil_ev : olNil e = some ([], e) := rfl
def olC2 (s : Sl) : List Sl × Ev → List Sl × Ev := fun q => (s :: q.1, q.2)
def olC (g : OLF) : Sl × Ev → Option (List Sl × Ev) := fun p => (g p.2).map (olC2 p.1)
theorem olCons_ev (f : OF) (g : OLF) : olCons f g e = (f e).bind (olC g) := rfl
theorem olC_ev (g : OLF) (s : Sl) : olC g (s, e1) = (g e1).map (olC2 s) := rfl
theorem olC2_ev (s : Sl) (ss : List Sl) : olC2 s (ss, e1) = (s :: ss, e1) := rfl
def asgC (t : GF) : D × Ev → Option O := fun p => (t p.1 p.2).map O.nx
theorem sAsg_ev (t : GF) : sAsg f t e = (f e).bind (asgC t) := rfl
theorem asgC_ev (t : GF) : asgC t (d, e1) = (t d e1).map O.nx := rfl
def sifC (f g : SF) : Bool × Ev → Option O := fun p => if p.1 = true then f p.2 else g p.2
theorem sIf_ev (c : BF) (f g : SF) : sIf c f g e = (c e).bind (sifC f g) := rfl
theorem sifC_t (f g : SF) : sifC f g (true, e1) = f e1 := rfl
theorem sifC_f (f g : SF) : sifC f g (false, e1) = g e1 := rfl
def forC (t : GF) (b : SF) : List D × Ev → Option O := fun p => forL t b p.1 p.2
theorem sFor_ev (g : LF) (t : GF) (b : SF) : sFor g t b e = (g e).bind (forC t b) := rfl
theorem forC_ev (t : GF) (b : SF) : forC t b (ds, e1) = forL t b ds e1 := rfl
def dropC : D × Ev → O := fun p => .nx p.2
theorem sDrop_ev : sDrop f e = (f e).map dropC := rfl
theorem dropC_ev : dropC (d, e1) = .nx e1 := rfl
def retC : D × Ev → O := fun p => .rt (.va p.1) p.2
theorem sRet_ev : sRet f e = (f e).map retC := rfl
theorem retC_ev : retC (d, e1) = .rt (.va d) e1 := rfl
def retnC (i : Nat) (e : Ev) : Sl → Option O := fun s => match s with
  | .va d => some (.rt (.va d) e)
  | .li xs => some (.rt (.li xs) (e.set i .no))
  | .di xs => some (.rt (.di xs) (e.set i .no))
  | .dt xs => some (.rt (.dt xs) (e.set i .no))
  | _ => none
theorem sRetN_ev : sRetN i e = e[i]?.bind (retnC i e) := rfl
theorem retnC_va : retnC i e (.va d) = some (.rt (.va d) e) := rfl
theorem retnC_li : retnC i e (.li xs) = some (.rt (.li xs) (e.set i .no)) := rfl
theorem liOf_li : liOf (some (.li xs)) = some xs := rfl
def mt1C4 (i : Nat) (e : Ev) : D × List D → D × Ev := fun r => (r.1, e.set i (.li r.2))
def mt1C3 (g : List D → D → Option (D × List D)) (i : Nat) (d : D) (e : Ev) : List D → Option (D × Ev) := fun xs => (g xs d).map (mt1C4 i e)
def mt1C2 (g : List D → D → Option (D × List D)) (i : Nat) : D × Ev → Option (D × Ev) := fun p => (liOf p.2[i]?).bind (mt1C3 g i p.1 p.2)
def mt1C (g : List D → D → Option (D × List D)) (i : Nat) (f : EF) (e : Ev) : List D → Option (D × Ev) := fun _ => (f e).bind (mt1C2 g i)
theorem eMt1_ev (g : List D → D → Option (D × List D)) : eMt1 g i f e = (liOf e[i]?).bind (mt1C g i f e) := rfl
theorem mt1C_ev (g : List D → D → Option (D × List D)) : mt1C g i f e xs = (f e).bind (mt1C2 g i) := rfl
theorem mt1C2_ev (g : List D → D → Option (D × List D)) : mt1C2 g i (d, e1) = (liOf e1[i]?).bind (mt1C3 g i d e1) := rfl
theorem mt1C3_ev (g : List D → D → Option (D × List D)) : mt1C3 g i d e xs = (g xs d).map (mt1C4 i e) := rfl
theorem mt1C4_ev : mt1C4 i e (d, xs) = (d, e.set i (.li xs)) := rfl
def mt0C (g : List D → Option (D × List D)) (i : Nat) (e : Ev) : List D → Option (D × Ev) := fun xs => (g xs).map (mt1C4 i e)
theorem eMt0_ev (g : List D → Option (D × List D)) : eMt0 g i e = (liOf e[i]?).bind (mt0C g i e) := rfl
theorem mt0C_ev (g : List D → Option (D × List D)) : mt0C g i e xs = (g xs).map (mt1C4 i e) := rfl
def subC4 (i : Nat) (e : Ev) (xs : List D) (v : D) : Nat → O := fun j => .nx (e.set i (.li (xs.set j v)))
def subC3 (i : Nat) (v k : D) (e : Ev) : List D → Option O := fun xs => match k with
  | .int k => (ixN xs.length k).map (subC4 i e xs v)
  | _ => none
def subC2 (i : Nat) (v : D) : D × Ev → Option O := fun q => (liOf q.2[i]?).bind (subC3 i v q.1 q.2)
def subC1 (i : Nat) (fi : EF) (v : D) (e : Ev) : List D → Option O := fun _ => (fi e).bind (subC2 i v)
def subC (i : Nat) (fi : EF) : D × Ev → Option O := fun p => (liOf p.2[i]?).bind (subC1 i fi p.1 p.2)
theorem sSub_ev (fi fv : EF) : sSub i fi fv e = (fv e).bind (subC i fi) := rfl
theorem subC_ev (fi : EF) : subC i fi (x, e1) = (liOf e1[i]?).bind (subC1 i fi x e1) := rfl
theorem subC1_ev (fi : EF) : subC1 i fi x e xs = (fi e).bind (subC2 i x) := rfl
theorem subC2_ev : subC2 i x (y, e1) = (liOf e1[i]?).bind (subC3 i x y e1) := rfl
theorem subC3_ev (k : Int) : subC3 i x (.int k) e xs = (ixN xs.length k).map (subC4 i e xs x) := rfl
theorem subC4_ev (j : Nat) : subC4 i e xs x j = .nx (e.set i (.li (xs.set j x))) := rfl
def augC3 (i : Nat) (e : Ev) : D → Option O := fun d => if isOw e[i]? = true then none else some (.nx (e.set i (.va d)))
def augC2 (g : D → D → Option D) (i : Nat) (x : D) : D × Ev → Option O := fun p => (g x p.1).bind (augC3 i p.2)
def augC (g : D → D → Option D) (i : Nat) (f : EF) (e : Ev) : Option Sl → Option O
  | some (.va x) => (f e).bind (augC2 g i x)
  | _ => none
theorem sAug_ev (g : D → D → Option D) : sAug g i f e = augC g i f e e[i]? := rfl
theorem augC_ev (g : D → D → Option D) : augC g i f e (some (.va x)) = (f e).bind (augC2 g i x) := rfl
theorem augC2_ev (g : D → D → Option D) : augC2 g i x (y, e1) = (g x y).bind (augC3 i e1) := rfl
theorem augC3_ev : augC3 i e d = if isOw e[i]? = true then none else some (.nx (e.set i (.va d))) := rfl
def mkC (ss : List Sl) : O → Option (Sl × List Sl)
  | .rt r e => some (r, keepE ss e)
  | .nx e => some (.va .none, keepE ss e)
  | _ => none
theorem mkF_ev (n : Nat) (b : SF) (ss : List Sl) : mkF n b ss = (b (ss ++ List.replicate (n - ss.length) .no)).bind (mkC ss) := by
  unfold mkF
  cases b (ss ++ List.replicate (n - ss.length) .no) with
  | none => rfl
  | some o => cases o <;> rfl
theorem mkC_rt (ss : List Sl) (r : Sl) : mkC ss (.rt r e) = some (r, keepE ss e) := rfl
theorem mkC_nx (ss : List Sl) : mkC ss (.nx e) = some (.va .none, keepE ss e) := rfl
theorem keepE_nil : keepE [] e = [] := rfl
theorem keepE_va (ss : List Sl) : keepE (.va d :: ss) e = .no :: keepE ss e.tail := rfl
theorem keepE_ow' (t : OT) (ss : List Sl) : keepE (.ow t :: ss) e = e.headD .no :: keepE ss e.tail := rfl
/-! the values' own operations -/
theorem dTru_bool (b : Bool) : dTru (.bool b) = some b := rfl
theorem dTru_int (k : Int) : dTru (.int k) = some (k != 0) := rfl
theorem dTru_none : dTru .none = some false := rfl
theorem dTru_list : dTru (.list xs) = some (!xs.isEmpty) := rfl
theorem dTru_tuple : dTru (.tuple xs) = some (!xs.isEmpty) := rfl
theorem dAdd_int (k j : Int) : dAdd (.int k) (.int j) = some (.int (k + j)) := rfl
theorem dAdd_tup : dAdd (.tuple xs) (.tuple ys) = if xs.length + ys.length ≤ sizeLine then some (.tuple (xs ++ ys)) else none := rfl
theorem dAdd_lst : dAdd (.list xs) (.list ys) = if xs.length + ys.length ≤ sizeLine then some (.list (xs ++ ys)) else none := rfl
theorem dIadd_int (k j : Int) : dIadd (.int k) (.int j) = some (.int (k + j)) := rfl
theorem dSub_int (k j : Int) : dSub (.int k) (.int j) = some (.int (k - j)) := rfl
theorem dMul_int (k j : Int) : dMul (.int k) (.int j) = if CMul k j then some (.int (k * j)) else none := rfl
theorem dDiv_int (k j : Int) : dDiv (.int k) (.int j) = if CDiv k j then some (.int (k / j)) else none := rfl
theorem dMod_int (k j : Int) : dMod (.int k) (.int j) = if 0 < j then some (.int (k % j)) else none := rfl
theorem dNeg_int (k : Int) : dNeg (.int k) = some (.int (-k)) := rfl
theorem dMin2_int (k j : Int) : dMin2 (.int k) (.int j) = some (.int (if j < k then j else k)) := rfl
theorem dMax2_int (k j : Int) : dMax2 (.int k) (.int j) = some (.int (if j > k then j else k)) := rfl
theorem dLtA_int (k j : Int) : dLtA (.int k) (.int j) = some (.bool (decide (k < j))) := rfl
theorem dLe_int (k j : Int) : dLe (.int k) (.int j) = some (.bool (decide (k ≤ j))) := rfl
theorem dLt_int (k j : Int) : dLt (.int k) (.int j) = some (.bool (decide (k < j))) := rfl
theorem dGt_int (k j : Int) : dGt (.int k) (.int j) = some (.bool (decide (j < k))) := rfl
theorem dGe_int (k j : Int) : dGe (.int k) (.int j) = some (.bool (decide (j ≤ k))) := rfl
theorem shaped_int (k : Int) : SeqAt.shaped (.int k) = true := rfl
theorem shaped_bool (k : Bool) : SeqAt.shaped (.bool k) = true := rfl
theorem shaped_none : SeqAt.shaped .none = true := rfl
theorem eqv_int (k j : Int) : PyData.eqv (.int k) (.int j) = (k == j) := by rw [PyData.eqv]
theorem eqv_bool (k j : Bool) : PyData.eqv (.bool k) (.bool j) = (k == j) := by rw [PyData.eqv]
theorem dEq_int (k j : Int) : dEq (.int k) (.int j) = some (.bool (k == j)) := by unfold dEq; rw [if_pos ⟨shaped_int k, shaped_int j⟩, eqv_int]
theorem dNe_int (k j : Int) : dNe (.int k) (.int j) = some (.bool (!(k == j))) := by unfold dNe; rw [if_pos ⟨shaped_int k, shaped_int j⟩, eqv_int]
theorem dEq_bool (k j : Bool) : dEq (.bool k) (.bool j) = some (.bool (k == j)) := by unfold dEq; rw [if_pos ⟨shaped_bool k, shaped_bool j⟩, eqv_bool]
theorem dIs_none : dIs x .none = some (.bool (isNon x)) := rfl
theorem dIsN_none : dIsN x .none = some (.bool (!isNon x)) := rfl
theorem isNon_none : isNon .none = true := rfl
theorem isNon_int (k : Int) : isNon (.int k) = false := rfl
theorem isNon_tup : isNon (.tuple xs) = false := rfl
theorem isNon_bool (b : Bool) : isNon (.bool b) = false := rfl
theorem dLen_tup : dLen (.tuple xs) = some (.int xs.length) := rfl
theorem dLen_lst : dLen (.list xs) = some (.int xs.length) := rfl
theorem dIx_tup (k : Int) : dIx (.tuple xs) (.int k) = atI xs k := rfl
theorem dIx_lst (k : Int) : dIx (.list xs) (.int k) = atI xs k := rfl
theorem at0 : atI (x :: xs) 0 = some x := atI_nat (j := 0) rfl
theorem at1 : atI (x :: y :: xs) 1 = some y := atI_nat (j := 1) rfl
theorem at2 (z : D) : atI (x :: y :: z :: xs) 2 = some z := atI_nat (j := 2) rfl
theorem at3 (z u : D) : atI (x :: y :: z :: u :: xs) 3 = some u := atI_nat (j := 3) rfl
theorem gExtend_lst : gExtend ds (.list xs) = if ds.length + xs.length ≤ sizeLine then some (.none, ds ++ xs) else none := rfl
theorem dTuple_lst : dTuple (.list xs) = some (.tuple xs) := rfl
theorem dTuple_tup : dTuple (.tuple xs) = some (.tuple xs) := rfl
theorem dList_lst : dList (.list xs) = some xs := rfl
theorem dList_tup : dList (.tuple xs) = some xs := rfl
theorem dInt_int (k : Int) : dInt (.int k) = some (.int k) := rfl
theorem dSl_tup (lo hi : Option Int) : dSl lo hi (.tuple xs) = some (.tuple (cutD xs lo hi)) := rfl
theorem dSl_lst (lo hi : Option Int) : dSl lo hi (.list xs) = some (.list (cutD xs lo hi)) := rfl
theorem isi_tup (p : D → Bool) : dIsi p (.tuple xs) = some (.bool (p (.tuple xs))) := rfl
theorem isi_lst (p : D → Bool) : dIsi p (.list xs) = some (.bool (p (.list xs))) := rfl
theorem isi_int (p : D → Bool) (k : Int) : dIsi p (.int k) = some (.bool (p (.int k))) := rfl
theorem isi_bool (p : D → Bool) (k : Bool) : dIsi p (.bool k) = some (.bool (p (.bool k))) := rfl
theorem isi_str (p : D → Bool) (k : Str) : dIsi p (.str k) = some (.bool (p (.str k))) := rfl
theorem isi_none (p : D → Bool) : dIsi p .none = some (.bool (p .none)) := rfl
theorem sz0 : 0 ≤ sizeLine := by decide
theorem sz1 : 1 ≤ sizeLine := by decide
theorem sz2 : 2 ≤ sizeLine := by decide
theorem sz3 : 3 ≤ sizeLine := by decide
theorem sz4 : 4 ≤ sizeLine := by decide
theorem sz5 : 5 ≤ sizeLine := by decide
theorem sz6 : 6 ≤ sizeLine := by decide
theorem sz7 : 7 ≤ sizeLine := by decide
theorem sz8 : 8 ≤ sizeLine := by decide
theorem sz9 : 9 ≤ sizeLine := by decide
theorem sz10 : 10 ≤ sizeLine := by decide
theorem sz11 : 11 ≤ sizeLine := by decide
theorem sz12 : 12 ≤ sizeLine := by decide
/-! ownership at written slots -/
theorem isOw_no : isOw (some .no) = false := rfl
theorem isOw_va : isOw (some (.va d)) = false := rfl
theorem isOw_li : isOw (some (.li xs)) = false := rfl
theorem isOw_di (r : List (Key × D)) : isOw (some (.di r)) = false := rfl
theorem isOw_dt (r : List (List Key × D)) : isOw (some (.dt r)) = false := rfl
theorem isOw_ow (t : OT) : isOw (some (.ow t)) = true := rfl
theorem isOw_none : isOw none = false := rfl
end
def sl : Option D → Sl
  | none => .no
  | some d => .va d
theorem isOw_sl (m : Option D) : isOw (some (sl m)) = false := by cases m <;> rfl
end Fl

set_option linter.all false
set_option maxRecDepth 100000
set_option maxHeartbeats 1000000
set_option autoImplicit false
/-! FnPure: plain lemmas about the layer's functions. -/
namespace Fl
open PySem PySem.Spec PyProof.Rows L2
abbrev iL (xs : List Int) : List D := xs.map PyData.int
theorem iL_app (xs : List Int) (v : Int) : iL xs ++ [PyData.int v] = iL (xs ++ [v]) := by simp [iL]
theorem iL_len (xs : List Int) : (iL xs).length = xs.length := List.length_map _
theorem small1M {n : Nat} (h : n < 1000000) : n < sizeLine := Nat.lt_trans h (by decide)
theorem small1Me {n : Nat} (h : n ≤ 1000000) : n ≤ sizeLine := Nat.le_trans h (by decide)
theorem atI_end (xs : List D) (v : D) : atI (xs ++ [v]) (-1) = some v := atI_last xs v
theorem atI_ofNat {α : Type} {xs : List α} {j : Nat} {v : α} (h : xs[j]? = some v) : atI xs (j : Int) = some v := atI_nat h
/-! own lists -/
theorem gAppend_ok {xs : List D} {d : D} (h : xs.length < 1000000) : gAppend xs d = some (.none, xs ++ [d]) := if_pos (small1M h)
theorem gPop_ok {xs : List D} {d : D} : gPop (xs ++ [d]) = some (d, xs) := by
  unfold gPop
  rw [List.length_append, List.length_singleton, Nat.add_sub_cancel, List.getElem?_append_right (Nat.le_refl _), Nat.sub_self, List.dropLast_concat]
  rfl
theorem iL_cat (xs : List Int) (v : Int) : iL (xs ++ [v]) = iL xs ++ [PyData.int v] := by simp [iL]
theorem intsOf_tup (ns : List Int) : intsOf (.tuple (iL ns)) = some ns := asInts_map ns
theorem intsOf_lst (ns : List Int) : intsOf (.list (iL ns)) = some ns := asInts_map ns
theorem dSum_tup (ns : List Int) : dSum (.tuple (iL ns)) = some (.int ns.sum) := by unfold dSum; rw [intsOf_tup]; rfl
theorem dSum_lst (ns : List Int) : dSum (.list (iL ns)) = some (.int ns.sum) := by unfold dSum; rw [intsOf_lst]; rfl
theorem emp_iL (xs : List Int) : (iL xs).isEmpty = xs.isEmpty := by cases xs <;> rfl
theorem emp_cat {α : Type} (xs : List α) (v : α) : (xs ++ [v]).isEmpty = false := by cases xs <;> rfl
theorem atI_iL {xs : List Int} {j : Nat} {v : Int} (h : xs[j]? = some v) : atI (iL xs) (j : Int) = some (.int v) := atI_ofNat (by rw [List.getElem?_map, h]; rfl)
theorem atI_iL' {xs : List Int} {j : Nat} (h : j < xs.length) : atI (iL xs) (j : Int) = some (.int (xs.getD j 0)) := atI_iL (by rw [List.getD_eq_getElem?_getD, List.getElem?_eq_getElem h]; rfl)
theorem nilCat {α : Type} (xs : List α) : xs = [] ∨ ∃ ys y, xs = ys ++ [y] := by
  rcases List.eq_nil_or_concat xs with h | ⟨ys, y, h⟩
  · exact .inl h
  · exact .inr ⟨ys, y, h.trans (List.concat_eq_append)⟩
theorem min_if (a b : Int) : (if b < a then b else a) = min a b := by split <;> omega
theorem max_if (a b : Int) : (if b > a then b else a) = max a b := by split <;> omega
/-! ### in, of ints -/
theorem flat_iL (os : List Int) : (iL os).all flatD = true := by
  rw [List.all_map]
  exact List.all_eq_true.mpr fun _ _ => rfl
theorem any_iL (s : Int) : ∀ os : List Int, ((iL os).any fun z => PyData.eqv z (.int s)) = decide (s ∈ os)
  | [] => rfl
  | o :: os => by
    show (PyData.eqv (.int o) (.int s) || (iL os).any _) = _
    rw [eqv_int, any_iL s os]
    by_cases h : o = s
    · subst h; simp
    · have h2 : (o == s) = false := by simpa using h
      rw [h2, Bool.false_or]
      by_cases k : s ∈ os
      · rw [decide_eq_true k, decide_eq_true (List.mem_cons_of_mem _ k)]
      · rw [decide_eq_false k, decide_eq_false fun z => (List.mem_cons.mp z).elim (fun e => h e.symm) k]
theorem inB_tup (s : Int) (os : List Int) : dInB false (.int s) (.tuple (iL os)) = some (.bool (decide (s ∈ os))) := by
  show (if flatD (.int s) = true ∧ (iL os).all flatD = true then some (PyData.bool (if false = true then _ else (iL os).any fun z => PyData.eqv z (.int s))) else none) = _
  rw [if_pos ⟨rfl, flat_iL os⟩, any_iL]; rfl
theorem inB_lst (s : Int) (os : List Int) : dInB false (.int s) (.list (iL os)) = some (.bool (decide (s ∈ os))) := inB_tup s os
theorem ninB_tup (s : Int) (os : List Int) : dInB true (.int s) (.tuple (iL os)) = some (.bool (!decide (s ∈ os))) := by
  show (if flatD (.int s) = true ∧ (iL os).all flatD = true then some (PyData.bool (if true = true then !((iL os).any fun z => PyData.eqv z (.int s)) else _)) else none) = _
  rw [if_pos ⟨rfl, flat_iL os⟩, any_iL]; rfl
theorem ninB_lst (s : Int) (os : List Int) : dInB true (.int s) (.list (iL os)) = some (.bool (!decide (s ∈ os))) := ninB_tup s os
/-! ### cuts -/
theorem cutD_m1 {α : Type} (xs : List α) (v : α) : cutD (xs ++ [v]) none (some (-1)) = xs := by
  unfold cutD
  have h1 : HT.sIx (xs ++ [v]).length 0 none = 0 := rfl
  have h2 : HT.sIx (xs ++ [v]).length (xs ++ [v]).length (some (-1)) = xs.length := by
    show (if (-1 : Int) < 0 then ((-1) + ((xs ++ [v]).length : Int)).toNat else min (-1 : Int).toNat (xs ++ [v]).length) = _
    rw [if_pos (by decide), List.length_append, List.length_singleton]
    omega
  rw [h1, h2, List.drop_zero, Nat.sub_zero, List.take_left' rfl]
theorem cutD_to {α : Type} (xs : List α) (k : Nat) : cutD xs none (some (k : Int)) = xs.take k := by
  unfold cutD
  rw [HT.sIx_nat, show HT.sIx xs.length 0 none = 0 from rfl, List.drop_zero, Nat.sub_zero]
  rcases Nat.le_total k xs.length with h | h
  · rw [Nat.min_eq_left h]
  · rw [Nat.min_eq_right h, List.take_length, List.take_of_length_le h]
theorem cutD_from {α : Type} (xs : List α) (k : Nat) : cutD xs (some (k : Int)) none = xs.drop k := by
  unfold cutD
  rw [HT.sIx_nat, show HT.sIx xs.length xs.length none = xs.length from rfl]
  rcases Nat.le_total k xs.length with h | h
  · rw [Nat.min_eq_left h, List.take_of_length_le (by rw [List.length_drop]; omega)]
  · rw [Nat.min_eq_right h, List.drop_eq_nil_of_le (Nat.le_refl _), List.drop_eq_nil_of_le h]; simp
/-! ### loops -/
theorem forL_nil {t : GF} {b : SF} {e : Ev} : forL t b [] e = some (.nx e) := rfl
theorem forL_step {t : GF} {b : SF} {d : D} {ds : List D} {e e1 e2 : Ev} (h1 : t d e = some e1) (h2 : b e1 = some (.nx e2)) : forL t b (d :: ds) e = forL t b ds e2 := by
  unfold forL
  rw [h1]
  show ((b e1).bind _) = _
  rw [h2]
  cases ds <;> rfl
theorem forL_stepC {t : GF} {b : SF} {d : D} {ds : List D} {e e1 e2 : Ev} (h1 : t d e = some e1) (h2 : b e1 = some (.ct e2)) : forL t b (d :: ds) e = forL t b ds e2 := by
  unfold forL
  rw [h1]
  show ((b e1).bind _) = _
  rw [h2]
  cases ds <;> rfl
theorem forL_stepB {t : GF} {b : SF} {d : D} {ds : List D} {e e2 : Ev} (h : (t d e).bind b = some (.nx e2)) : forL t b (d :: ds) e = forL t b ds e2 := by
  obtain ⟨e1, h1, h2⟩ := Option.bind_eq_some_iff.mp h
  exact forL_step h1 h2
theorem forL_ret {t : GF} {b : SF} {d : D} {ds : List D} {e e2 : Ev} {r : Sl} (h : (t d e).bind b = some (.rt r e2)) : forL t b (d :: ds) e = some (.rt r e2) := by
  obtain ⟨e1, h1, h2⟩ := Option.bind_eq_some_iff.mp h
  unfold forL
  rw [h1]
  show ((b e1).bind _) = _
  rw [h2]
  cases ds <;> rfl
/-- a loop by the index of its item -/
theorem forL_at {A : Type} {t : GF} {b : SF} {ds : List D} (enc : Nat → A → Ev) (I : Nat → A → Prop)
    (h : ∀ n a d, ds[n]? = some d → I n a → ∃ a', (t d (enc n a)).bind b = some (.nx (enc (n + 1) a')) ∧ I (n + 1) a') (a0 : A) (h0 : I 0 a0) : ∃ a', forL t b ds (enc 0 a0) = some (.nx (enc ds.length a')) ∧ I ds.length a' := by
  have key : ∀ (k n : Nat) (a : A), n + k = ds.length → I n a → ∃ a', forL t b (ds.drop n) (enc n a) = some (.nx (enc ds.length a')) ∧ I ds.length a' := fun k => by
    induction k with
    | zero =>
      intro n a hn hi
      have : n = ds.length := by omega
      subst this
      rw [List.drop_eq_nil_of_le (Nat.le_refl _)]
      exact ⟨a, rfl, hi⟩
    | succ k ih =>
      intro n a hn hi
      have hl : n < ds.length := by omega
      obtain ⟨a', h1, h2⟩ := h n a ds[n] (List.getElem?_eq_getElem hl) hi
      rw [List.drop_eq_getElem_cons hl, forL_stepB h1]
      exact ih (n + 1) a' (by omega) h2
  exact key ds.length 0 a0 (by omega) h0
/-- the same, where a turn may go on early -/
theorem forL_stepD {t : GF} {b : SF} {d : D} {ds : List D} {e e2 : Ev} (h : (t d e).bind b = some (.ct e2)) : forL t b (d :: ds) e = forL t b ds e2 := by
  obtain ⟨e1, h1, h2⟩ := Option.bind_eq_some_iff.mp h
  exact forL_stepC h1 h2
theorem forL_atC {t : GF} {b : SF} (I : Ev → Prop) (h : ∀ d e, I e → ∃ e', ((t d e).bind b = some (.nx e') ∨ (t d e).bind b = some (.ct e')) ∧ I e') : ∀ (ds : List D) (e : Ev), I e → ∃ e', forL t b ds e = some (.nx e') ∧ I e'
  | [], e, hi => ⟨e, rfl, hi⟩
  | d :: ds, e, hi => by
    obtain ⟨e1, h1, h2⟩ := h d e hi
    obtain ⟨e2, h3, h4⟩ := forL_atC I h ds e1 h2
    rcases h1 with h1 | h1
    · exact ⟨e2, by rw [forL_stepB h1]; exact h3, h4⟩
    · exact ⟨e2, by rw [forL_stepD h1]; exact h3, h4⟩
/-- a loop as a fold over states -/
theorem forL_fold {α S : Type} {t : GF} {b : SF} (encx : α → D) (enc : S → Ev) (step : S → α → S) (I : S → List α → Prop)
    (h : ∀ s x xs, I s (x :: xs) → ∃ e1, t (encx x) (enc s) = some e1 ∧ b e1 = some (.nx (enc (step s x))) ∧ I (step s x) xs) : ∀ (xs : List α) (s : S), I s xs → forL t b (xs.map encx) (enc s) = some (.nx (enc (xs.foldl step s)))
  | [], s, _ => rfl
  | x :: xs, s, hi => by
    obtain ⟨e1, h1, h2, h3⟩ := h s x xs hi
    rw [List.map_cons, forL_step h1 h2, List.foldl_cons]
    exact forL_fold encx enc step I h xs _ h3
/-- a loop that keeps a word: by the items left -/
theorem forL_inv {t : GF} {b : SF} (I : List D → Ev → Prop) (h : ∀ d ds e, I (d :: ds) e → ∃ e1 e2, t d e = some e1 ∧ b e1 = some (.nx e2) ∧ I ds e2) : ∀ (ds : List D) (e : Ev), I ds e → ∃ e', forL t b ds e = some (.nx e') ∧ I [] e'
  | [], e, hi => ⟨e, rfl, hi⟩
  | d :: ds, e, hi => by
    obtain ⟨e1, e2, h1, h2, h3⟩ := h d ds e hi
    rw [forL_step h1 h2]
    exact forL_inv I h ds e2 h3
/-- a while that keeps a word -/
theorem while_inv {c : BF} {b : SF} (I : Ev → Prop) (μ : Ev → Nat) (h : ∀ e, I e → (∃ e', c e = some (false, e') ∧ I e') ∨ ∃ e1 e2, c e = some (true, e1) ∧ b e1 = some (.nx e2) ∧ I e2 ∧ μ e2 < μ e) : ∀ (n : Nat) (e : Ev), μ e ≤ n → I e → ∃ e0 e', sWhile c b e = some (.nx e') ∧ I e0 ∧ c e0 = some (false, e') ∧ I e'
  | n, e, hn, hi => by
    rcases h e hi with ⟨e', h1, h2⟩ | ⟨e1, e2, h1, h2, h3, h4⟩
    · refine ⟨e, e', ?_, hi, h1, h2⟩
      rw [sWhile_eq, h1]; rfl
    · cases n with
      | zero => omega
      | succ n =>
        obtain ⟨e0, e', k1, k2, k3, k4⟩ := while_inv I μ h n e2 (by omega) h3
        refine ⟨e0, e', ?_, k2, k3, k4⟩
        rw [sWhile_eq, h1]
        show ((b e1).bind _) = _
        rw [h2]
        exact k1
/-- a while over states: as long as the test holds -/
theorem while_st {S : Type} {c : BF} {b : SF} (enc : S → Ev) (test : S → Bool) (step : S → S) (I : S → Prop) (μ : S → Nat)
    (h : ∀ s, I s → c (enc s) = some (test s, enc s) ∧ (test s = true → b (enc s) = some (.nx (enc (step s))) ∧ I (step s) ∧ μ (step s) < μ s)) : ∀ (n : Nat) (s : S), μ s ≤ n → I s → ∃ s', sWhile c b (enc s) = some (.nx (enc s')) ∧ I s' ∧ test s' = false ∧ ∀ P : S → Prop, P s → (∀ u, I u → test u = true → P u → P (step u)) → P s'
  | n, s, hn, hi => by
    obtain ⟨h1, h2⟩ := h s hi
    cases ht : test s with
    | false =>
      refine ⟨s, ?_, hi, ht, fun P h _ => h⟩
      rw [sWhile_eq, h1, ht]; rfl
    | true =>
      obtain ⟨h3, h4, h5⟩ := h2 ht
      cases n with
      | zero => omega
      | succ n =>
        obtain ⟨s', k1, k2, k3, k4⟩ := while_st enc test step I μ h n (step s) (by omega) h4
        refine ⟨s', ?_, k2, k3, fun P hp hs => k4 P (hs s hi ht hp) hs⟩
        rw [sWhile_eq, h1, ht]
        show ((b (enc s)).bind _) = _
        rw [h3]
        exact k1
theorem ixN_nat' {n k : Nat} (h : k < n) : ixN n (k : Int) = some k := by
  unfold ixN
  rw [if_pos (by omega), if_pos (by omega), Int.toNat_natCast]
theorem iL_set (xs : List Int) (k : Nat) (v : Int) : (iL xs).set k (.int v) = iL (xs.set k v) := by simp [iL]
/-! ### a list that turns into another, place by place -/
def mix {α : Type} (k : Nat) (xs ys : List α) : List α := ys.take k ++ xs.drop k
theorem mix_zero {α : Type} (xs ys : List α) : mix 0 xs ys = xs := rfl
theorem mix_all {α : Type} {xs ys : List α} {n : Nat} (h1 : ys.length = n) (h2 : xs.length = n) : mix n xs ys = ys := by
  unfold mix
  rw [List.take_of_length_le (by omega), List.drop_eq_nil_of_le (by omega), List.append_nil]
theorem mix_len {α : Type} {xs ys : List α} {k n : Nat} (h1 : ys.length = n) (h2 : xs.length = n) (hk : k ≤ n) : (mix k xs ys).length = n := by
  unfold mix
  rw [List.length_append, List.length_take, List.length_drop]; omega
theorem mix_get {α : Type} {xs ys : List α} {k : Nat} (h1 : ys.length = xs.length) (hk : k < xs.length) : (mix k xs ys)[k]? = xs[k]? := by
  unfold mix
  rw [List.getElem?_append_right (by rw [List.length_take]; omega), List.getElem?_drop, List.length_take]
  congr 1; omega
theorem mix_set {α : Type} {xs ys : List α} {k : Nat} {v : α} (h1 : ys.length = xs.length) (hv : ys[k]? = some v) : (mix k xs ys).set k v = mix (k + 1) xs ys := by
  have hk : k < ys.length := (List.getElem?_eq_some_iff.mp hv).1
  unfold mix
  have hl : (ys.take k).length = k := by rw [List.length_take]; omega
  rw [List.set_append, if_neg (by omega), hl, Nat.sub_self, List.drop_eq_getElem_cons (by omega : k < xs.length), List.set_cons_zero, List.take_add_one, hv, List.append_assoc]
  rfl
theorem nilCons {α : Type} : ∀ xs : List α, xs = [] ∨ ∃ x r, xs = x :: r
  | [] => .inl rfl
  | x :: r => .inr ⟨x, r, rfl⟩
theorem erase_perm {α : Type} : ∀ (l : List α) (j : Nat) (v : α), l[j]? = some v → (v :: l.eraseIdx j).Perm l
  | [], _, _, h => by cases h
  | x :: l, 0, v, h => by cases h; exact List.Perm.refl _
  | x :: l, j + 1, v, h => by
    have ih := erase_perm l j v h
    exact (List.Perm.swap x v (l.eraseIdx j)).trans (ih.cons x)
theorem iL_erase : ∀ (xs : List Int) (j : Nat), (iL xs).eraseIdx j = iL (xs.eraseIdx j)
  | [], _ => rfl
  | _ :: _, 0 => rfl
  | x :: xs, j + 1 => by show PyData.int x :: (iL xs).eraseIdx j = PyData.int x :: iL (xs.eraseIdx j); rw [iL_erase xs j]
theorem gPopAt_int (xs : List D) (k : Int) : gPopAt xs (.int k) = if -(2 ^ 63) ≤ k ∧ k < 2 ^ 63 then (ixN xs.length k).bind fun j => (xs[j]?).map fun y => (y, xs.eraseIdx j) else none := rfl
theorem gPopAt_ok {xs : List Int} {j : Nat} {v : Int} (hl : xs.length ≤ 1000000) (h : xs[j]? = some v) : gPopAt (iL xs) (.int j) = some (.int v, iL (xs.eraseIdx j)) := by
  have hj : j < xs.length := (List.getElem?_eq_some_iff.mp h).1
  rw [gPopAt_int, if_pos ⟨by omega, by omega⟩, ixN_nat' (by rw [iL_len]; omega), Option.bind_some, List.getElem?_map, h]
  show some (_, (iL xs).eraseIdx _) = _
  rw [iL_erase]
/-- a while over states, the next state of any kind -/
theorem while_ex {S : Type} {c : BF} {b : SF} (enc : S → Ev) (I Q : S → Prop) (μ : S → Nat)
    (h : ∀ s, I s → (c (enc s) = some (false, enc s) ∧ Q s) ∨ (c (enc s) = some (true, enc s) ∧ ∃ s', b (enc s) = some (.nx (enc s')) ∧ I s' ∧ μ s' < μ s)) : ∀ (s : S), I s → ∃ s', sWhile c b (enc s) = some (.nx (enc s')) ∧ I s' ∧ Q s' := by
  have key : ∀ (n : Nat) (s : S), μ s ≤ n → I s → ∃ s', sWhile c b (enc s) = some (.nx (enc s')) ∧ I s' ∧ Q s' := fun n => by
    induction n with
    | zero =>
      intro s hn hi
      rcases h s hi with ⟨h1, h2⟩ | ⟨h1, s', h2, h3, h4⟩
      · exact ⟨s, by rw [sWhile_eq, h1]; rfl, hi, h2⟩
      · omega
    | succ n ih =>
      intro s hn hi
      rcases h s hi with ⟨h1, h2⟩ | ⟨h1, s', h2, h3, h4⟩
      · exact ⟨s, by rw [sWhile_eq, h1]; rfl, hi, h2⟩
      · obtain ⟨s2, k1, k2, k3⟩ := ih s' (by omega) h3
        refine ⟨s2, ?_, k2, k3⟩
        rw [sWhile_eq, h1]
        show ((b (enc s)).bind _) = _
        rw [h2]
        exact k1
  exact fun s hi => key _ s (Nat.le_refl _) hi
/-! ### comprehensions -/
theorem compL_nil {t : GF} {c : BF} {f : EF} {vs : List Nat} {e : Ev} : compL t c f vs [] e = some ([], e) := rfl
theorem compL_cons {t : GF} {c : BF} {f : EF} {vs : List Nat} {d : D} {ds : List D} {e : Ev} : compL t c f vs (d :: ds) e = (t d e).bind fun e1 => (c e1).bind fun p => if p.1 = true then (f p.2).bind fun q => (compL t c f vs ds (wipeE q.2 vs)).map fun r => (q.1 :: r.1, r.2) else compL t c f vs ds (wipeE p.2 vs) := rfl
theorem compL_take {t : GF} {c : BF} {f : EF} {vs : List Nat} {d : D} {ds : List D} {e e1 e2 e3 : Ev} {v : D} (h1 : t d e = some e1) (h2 : c e1 = some (true, e2)) (h3 : f e2 = some (v, e3)) : compL t c f vs (d :: ds) e = (compL t c f vs ds (wipeE e3 vs)).map fun r => (v :: r.1, r.2) := by
  rw [compL_cons, h1, Option.bind_some, h2, Option.bind_some, if_pos rfl, h3, Option.bind_some]
theorem compL_skip {t : GF} {c : BF} {f : EF} {vs : List Nat} {d : D} {ds : List D} {e e1 e2 : Ev} (h1 : t d e = some e1) (h2 : c e1 = some (false, e2)) : compL t c f vs (d :: ds) e = compL t c f vs ds (wipeE e2 vs) := by
  rw [compL_cons, h1, Option.bind_some, h2, Option.bind_some, if_neg Bool.false_ne_true]
/-- a comprehension that changes nothing else: a filter and a map -/
theorem compL_map {α : Type} {t : GF} {c : BF} {f : EF} {vs : List Nat} (encx : α → D) (p : α → Bool) (g : α → D) (e : Ev) : ∀ (xs : List α),
    (∀ x ∈ xs, ∃ e1 e2 e3, t (encx x) e = some e1 ∧ c e1 = some (p x, e2) ∧ (p x = true → f e2 = some (g x, e3) ∧ wipeE e3 vs = e) ∧ (p x = false → wipeE e2 vs = e)) → compL t c f vs (xs.map encx) e = some ((xs.filter p).map g, e)
  | [], _ => rfl
  | x :: xs, h => by
    obtain ⟨e1, e2, e3, h1, h2, h3, h4⟩ := h x List.mem_cons_self
    have ih := compL_map encx p g e xs fun y hy => h y (List.mem_cons_of_mem _ hy)
    rw [List.map_cons]
    cases hp : p x with
    | true =>
      rw [hp] at h2
      obtain ⟨k1, k2⟩ := h3 hp
      rw [compL_take h1 h2 k1, k2, ih, List.filter_cons_of_pos hp]; rfl
    | false =>
      rw [hp] at h2
      rw [compL_skip h1 h2, h4 hp, ih, List.filter_cons_of_neg (by simp [hp])]
/-- a comprehension whose element changes the tape alone: what its items are worth -/
theorem compL_st {S : Type} {t : GF} {c : BF} {f : EF} {vs : List Nat} (enc : S → Ev) (P : D → Prop)
    (h : ∀ d s, ∃ e1 e2 e3 v s', t d (enc s) = some e1 ∧ c e1 = some (true, e2) ∧ f e2 = some (v, e3) ∧ wipeE e3 vs = enc s' ∧ P v) : ∀ (ds : List D) (s : S), ∃ rs s', compL t c f vs ds (enc s) = some (rs, enc s') ∧ rs.length = ds.length ∧ ∀ v ∈ rs, P v
  | [], s => ⟨[], s, rfl, rfl, fun _ h => nomatch h⟩
  | d :: ds, s => by
    obtain ⟨e1, e2, e3, v, s1, h1, h2, h3, h4, h5⟩ := h d s
    obtain ⟨rs, s', k1, k2, k3⟩ := compL_st enc P h ds s1
    refine ⟨v :: rs, s', ?_, by rw [List.length_cons, List.length_cons, k2], fun u hu => ?_⟩
    · rw [compL_take h1 h2 h3, h4, k1]; rfl
    · rcases List.mem_cons.mp hu with rfl | hu
      · exact h5
      · exact k3 u hu
theorem listInts : ∀ {ds : List D} {P : Int → Prop}, (∀ d ∈ ds, ∃ i, d = .int i ∧ P i) → ∃ ns : List Int, ds = iL ns ∧ ∀ i ∈ ns, P i
  | [], P, _ => ⟨[], rfl, fun _ h => nomatch h⟩
  | d :: ds, P, h => by
    obtain ⟨i, h1, h2⟩ := h d List.mem_cons_self
    obtain ⟨ns, h3, h4⟩ := listInts (ds := ds) fun x hx => h x (List.mem_cons_of_mem _ hx)
    refine ⟨i :: ns, by rw [h1, h3]; rfl, fun x hx => ?_⟩
    rcases List.mem_cons.mp hx with rfl | hx
    · exact h2
    · exact h4 x hx
/-! ### draws -/
noncomputable def fDraw : Fnc := gDraw drawB fun m => decide (0 < m ∧ m < 1073741824)
theorem draw_lt (b : Box) {m : Int} (h : 0 < m) : 0 ≤ (drawB b m).1 ∧ (drawB b m).1 < m := by
  unfold drawB
  split
  · exact ⟨Int.emod_nonneg _ (by omega), Int.emod_lt_of_pos _ h⟩
  · exact ⟨Int.emod_nonneg _ (by omega), Int.emod_lt_of_pos _ h⟩
theorem fDraw_eq (b : Box) {m : Int} (h : 0 < m) (h2 : m < 1073741824) : fDraw [.ow b.ot, .va (.int m)] = some (.va (.int (drawB b m).1), [.ow (drawB b m).2.ot, .no]) :=
  gDraw_box drawB _ b m (decide_eq_true ⟨h, h2⟩)
/-- a draw: some number below, and some tape behind -/
theorem fDraw_ex (b : Box) {m : Int} (h : 0 < m) (h2 : m < 1073741824) : ∃ (d : Int) (b' : Box), fDraw [.ow b.ot, .va (.int m)] = some (.va (.int d), [.ow b'.ot, .no]) ∧ 0 ≤ d ∧ d < m :=
  ⟨_, _, fDraw_eq b h h2, (draw_lt b h).1, (draw_lt b h).2⟩
/-! ### the evaluation of the layer's words on slots that are written out -/
local macro_rules | `(tactic| walk_at "ev") => `(tactic| simp -implicitDefEqProofs only [prE_ev, eVar_ev, varC_ev, eNm_ev, nmC_va, nmC_li, eC_ev, vw_va, vw_li, eOwn_ev, eIxO_ev, ixoC_ev, ixoC2_ev, ixoC3_ev, eOp_ev, opC_ev, opC2_ev, eUn_ev, unC_ev, bE_ev, bEC_ev, bB_ev, bBC_ev, bNot_ev, notC_ev, bAnd_ev, andC_t, andC_f, bOr_ev, orC_t, orC_f, bYes_ev, eAnd_ev, eandC_t, eandC_f, eOr_ev, eorC_t, eorC_f, eNot_ev, enotC_ev, eIf_ev, ifC_t, ifC_f, eTup_ev, tupC_ev, aNil_ev, aCons_ev, aconsC_ev, aconsC2_ev, oLst_ev, lstC_ev, oE_ev, oEC_ev, eFz_ev, fzC_va, fzC_li, oUn_ev, ounC_ev, prL_ev, eSl_ev, slC_ev, slC2_ev, slC3_ev, eSlO_ev, sloC_ev, sloC2_ev, sloC3_ev, sloC4_ev, lEnum_ev, enC_tup, enC_lst, pNo_ev, pSo_ev, psoC_ev, lOf_ev, lofC_tup, lofC_lst, lRng1_ev, rng1C_ev, lRng2_ev, rng2C_ev, rng2C2_ev, oRep_ev, repC_ev, repC2_ev, oCall_ev, callC_0, callC_1, callC_2, callC_3, callC_4, callC_5, callC_rv, callC_rv4, arSl_vl, arSl_rf, callC2_ev, arBack_nil, arBack_vl, arBack_rf, rNil_ev, rVal_ev, rvC_ev, rvC2_ev, rRef_ev, rrC_ev, oComp_ev, compC2_ev, wipeE_nil, wipeE_cons, backE_nil, backE_cons, gNm_ev, gTupF_ev, gsNil_ev, gsCons_ev, sNext_ev, sBreak_ev, sCont_ev, sSeq_ev, seqC_nx, seqC_bk, seqC_ct, seqC_rt, sSet_ev, setC_ev, sPar_ev, parC_ev, setAll_nil, setAll_cons, olNil_ev, olCons_ev, olC_ev, olC2_ev, sAsg_ev, asgC_ev, sIf_ev, sifC_t, sifC_f, sFor_ev, forC_ev, sDrop_ev, dropC_ev, sRet_ev, retC_ev, sRetN_ev, retnC_va, retnC_li, liOf_li, eMt1_ev, mt1C_ev, mt1C2_ev, mt1C3_ev, mt1C4_ev, eMt0_ev, mt0C_ev, sSub_ev, subC_ev, subC1_ev, subC2_ev, subC3_ev, subC4_ev, sAug_ev, augC_ev, augC2_ev, augC3_ev, mkF_ev, mkC_rt, mkC_nx, keepE_nil, keepE_va, keepE_ow', dTru_bool, dTru_int, dTru_none, dTru_list, dTru_tuple, dAdd_int, dAdd_tup, dAdd_lst, dIadd_int, dSub_int, dMul_int, dDiv_int, dMod_int, dNeg_int, dMin2_int, dMax2_int, dLtA_int, dLe_int, dLt_int, dGt_int, dGe_int, shaped_int, shaped_bool, shaped_none, eqv_int, eqv_bool, dEq_int, dNe_int, dEq_bool, dIs_none, dIsN_none, isNon_none, isNon_int, isNon_tup, isNon_bool, dLen_tup, dLen_lst, dIx_tup, dIx_lst, at0, at1, at2, at3, gExtend_lst, dTuple_lst, dTuple_tup, dList_lst, dList_tup, dInt_int, dSl_tup, dSl_lst, isTup, isLst, isBool, isIntB, isStr, beq_self_eq_true, decide_true, decide_false, isi_tup, isi_lst, isi_int, isi_bool, isi_str, isi_none, sz0, sz1, sz2, sz3, sz4, sz5, sz6, sz7, sz8, sz9, sz10, sz11, sz12, isOw_no, isOw_va, isOw_li, isOw_di, isOw_dt, isOw_ow, isOw_none, isOw_sl,
  Option.bind_some, Option.map_some, Option.bind_none, Option.map_none, Option.getD_some, Option.getD_none, List.getElem?_cons_zero, List.getElem?_cons_succ, List.set_cons_zero, List.set_cons_succ, List.map_cons, List.map_nil, List.headD_cons, List.headD_nil, List.tail_cons, List.tail_nil, List.isEmpty_nil, List.isEmpty_cons, List.length_nil, List.length_cons, List.nil_append, List.cons_append, List.replicate_succ, List.replicate_zero, Nat.reduceSub, Nat.reduceAdd, Bool.false_eq_true, if_false, if_true, reduceIte, Bool.not_true, Bool.not_false, and_true, true_and, and_self, Int.toNat_natCast, Int.zero_add])
local macro_rules | `(tactic| walk_at "evh") => `(tactic| simp -implicitDefEqProofs only [prE_ev, eVar_ev, varC_ev, eNm_ev, nmC_va, nmC_li, eC_ev, vw_va, vw_li, eOwn_ev, eIxO_ev, ixoC_ev, ixoC2_ev, ixoC3_ev, eOp_ev, opC_ev, opC2_ev, eUn_ev, unC_ev, bE_ev, bEC_ev, bB_ev, bBC_ev, bNot_ev, notC_ev, bAnd_ev, andC_t, andC_f, bOr_ev, orC_t, orC_f, bYes_ev, eAnd_ev, eandC_t, eandC_f, eOr_ev, eorC_t, eorC_f, eNot_ev, enotC_ev, eIf_ev, ifC_t, ifC_f, eTup_ev, tupC_ev, aNil_ev, aCons_ev, aconsC_ev, aconsC2_ev, oLst_ev, lstC_ev, oE_ev, oEC_ev, eFz_ev, fzC_va, fzC_li, oUn_ev, ounC_ev, prL_ev, eSl_ev, slC_ev, slC2_ev, slC3_ev, eSlO_ev, sloC_ev, sloC2_ev, sloC3_ev, sloC4_ev, lEnum_ev, enC_tup, enC_lst, pNo_ev, pSo_ev, psoC_ev, lOf_ev, lofC_tup, lofC_lst, lRng1_ev, rng1C_ev, lRng2_ev, rng2C_ev, rng2C2_ev, oRep_ev, repC_ev, repC2_ev, oCall_ev, callC_0, callC_1, callC_2, callC_3, callC_4, callC_5, callC_rv, callC_rv4, arSl_vl, arSl_rf, callC2_ev, arBack_nil, arBack_vl, arBack_rf, rNil_ev, rVal_ev, rvC_ev, rvC2_ev, rRef_ev, rrC_ev, oComp_ev, compC2_ev, wipeE_nil, wipeE_cons, backE_nil, backE_cons, gNm_ev, gTupF_ev, gsNil_ev, gsCons_ev, sNext_ev, sBreak_ev, sCont_ev, sSeq_ev, seqC_nx, seqC_bk, seqC_ct, seqC_rt, sSet_ev, setC_ev, sPar_ev, parC_ev, setAll_nil, setAll_cons, olNil_ev, olCons_ev, olC_ev, olC2_ev, sAsg_ev, asgC_ev, sIf_ev, sifC_t, sifC_f, sFor_ev, forC_ev, sDrop_ev, dropC_ev, sRet_ev, retC_ev, sRetN_ev, retnC_va, retnC_li, liOf_li, eMt1_ev, mt1C_ev, mt1C2_ev, mt1C3_ev, mt1C4_ev, eMt0_ev, mt0C_ev, sSub_ev, subC_ev, subC1_ev, subC2_ev, subC3_ev, subC4_ev, sAug_ev, augC_ev, augC2_ev, augC3_ev, mkF_ev, mkC_rt, mkC_nx, keepE_nil, keepE_va, keepE_ow', dTru_bool, dTru_int, dTru_none, dTru_list, dTru_tuple, dAdd_int, dAdd_tup, dAdd_lst, dIadd_int, dSub_int, dMul_int, dDiv_int, dMod_int, dNeg_int, dMin2_int, dMax2_int, dLtA_int, dLe_int, dLt_int, dGt_int, dGe_int, shaped_int, shaped_bool, shaped_none, eqv_int, eqv_bool, dEq_int, dNe_int, dEq_bool, dIs_none, dIsN_none, isNon_none, isNon_int, isNon_tup, isNon_bool, dLen_tup, dLen_lst, dIx_tup, dIx_lst, at0, at1, at2, at3, gExtend_lst, dTuple_lst, dTuple_tup, dList_lst, dList_tup, dInt_int, dSl_tup, dSl_lst, isTup, isLst, isBool, isIntB, isStr, beq_self_eq_true, decide_true, decide_false, isi_tup, isi_lst, isi_int, isi_bool, isi_str, isi_none, sz0, sz1, sz2, sz3, sz4, sz5, sz6, sz7, sz8, sz9, sz10, sz11, sz12, isOw_no, isOw_va, isOw_li, isOw_di, isOw_dt, isOw_ow, isOw_none, isOw_sl,
  Option.bind_some, Option.map_some, Option.bind_none, Option.map_none, Option.getD_some, Option.getD_none, List.getElem?_cons_zero, List.getElem?_cons_succ, List.set_cons_zero, List.set_cons_succ, List.map_cons, List.map_nil, List.headD_cons, List.headD_nil, List.tail_cons, List.tail_nil, List.isEmpty_nil, List.isEmpty_cons, List.length_nil, List.length_cons, List.nil_append, List.cons_append, List.replicate_succ, List.replicate_zero, Nat.reduceSub, Nat.reduceAdd, Bool.false_eq_true, if_false, if_true, reduceIte, Bool.not_true, Bool.not_false, and_true, true_and, and_self, Int.toNat_natCast, Int.zero_add, *])
/-! ### _law_same of a value and itself -/
noncomputable def K1_same (F : Fnc) : EF := (eFz (oCall F (rVal (eOp dIx (eVar 0) (eVar 2)) (rVal (eOp dIx (eVar 1) (eVar 2)) rNil))))
noncomputable def B_same (F : Fnc) : SF := (sSeq (sIf (bOr (bAnd (bE (eUn (dIsi isTup) (eVar 0))) (bE (eUn (dIsi isTup) (eVar 1)))) (bAnd (bE (eUn (dIsi isLst) (eVar 0))) (bE (eUn (dIsi isLst) (eVar 1))))) (sRet (eAnd (eOp dEq (eUn dLen (eVar 0)) (eUn dLen (eVar 1))) (eUn dAll (eFz (oComp (lRng1 (eUn dLen (eVar 0))) (gNm 2) bYes (K1_same F) [2]))))) sNext) (sSeq (sIf (bOr (bE (eUn (dIsi isBool) (eVar 0))) (bE (eUn (dIsi isBool) (eVar 1)))) (sRet (eAnd (eUn (dIsi isBool) (eVar 0)) (eAnd (eUn (dIsi isBool) (eVar 1)) (eOp dEq (eVar 0) (eVar 1))))) sNext) (sSeq (sIf (bOr (bAnd (bE (eUn (dIsi isIntB) (eVar 0))) (bE (eUn (dIsi isIntB) (eVar 1)))) (bAnd (bE (eUn (dIsi isStr) (eVar 0))) (bE (eUn (dIsi isStr) (eVar 1))))) (sRet (eOp dEq (eVar 0) (eVar 1))) sNext) (sRet (eAnd (eOp dIs (eVar 0) (eC .none)) (eOp dIs (eVar 1) (eC .none)))))))
noncomputable def R_same : Nat → Fnc
  | 0 => fun _ => none
  | k + 1 => mkF 3 (B_same (R_same k))
/-- plain values to a depth -/
def Plain : Nat → D → Prop
  | _, .none => True
  | _, .bool _ => True
  | _, .int _ => True
  | _, .str s => SeqAt.shaped (.str s) = true
  | n + 1, .tuple ds => ds.length ≤ 1000000 ∧ ∀ d ∈ ds, Plain n d
  | n + 1, .list ds => ds.length ≤ 1000000 ∧ ∀ d ∈ ds, Plain n d
  | _, _ => False
theorem same_items {n : Nat} {ds : List D} {A B : D} (hl : ds.length ≤ 1000000) (hA : ∀ i : Int, dIx A (.int i) = atI ds i) (hB : ∀ i : Int, dIx B (.int i) = atI ds i) (ih : ∀ d ∈ ds, R_same n [.va d, .va d] = some (.va (.bool true), [.no, .no])) :
    compL (gNm 2) bYes (K1_same (R_same n)) [2] (rngD 0 ds.length) [.va A, .va B, .no] = some ((List.replicate ds.length (PyData.bool true)), [.va A, .va B, .no]) := by
  unfold rngD
  rw [compL_map (fun i : Nat => PyData.int (0 + (i : Nat))) (fun _ => true) (fun _ => PyData.bool true) [.va A, .va B, .no] (List.range ds.length) ?_]
  · congr 1
    rw [List.filter_eq_self.mpr fun _ _ => rfl]
    refine Prod.ext ?_ rfl
    apply List.ext_getElem?
    intro i
    simp only [List.getElem?_map, List.getElem?_replicate, List.getElem?_range']
    by_cases h : i < ds.length
    · simp [h]
    · simp [h]
  · intro i hi
    have hi' : i < ds.length := List.mem_range.mp hi
    refine ⟨[.va A, .va B, .va (.int (0 + (i : Nat)))], [.va A, .va B, .va (.int (0 + (i : Nat)))], [.va A, .va B, .va (.int (0 + (i : Nat)))], rfl, rfl, fun _ => ⟨?_, rfl⟩, fun h => by cases h⟩
    have hg : atI ds (0 + (i : Int)) = some ds[i] := by rw [Int.zero_add]; exact atI_nat (List.getElem?_eq_getElem hi')
    have := ih ds[i] (List.getElem_mem hi')
    unfold K1_same
    rw [Int.zero_add] at hg
    walk_at "evh"
theorem wrap_true (ds : List D) : boolsOf (.list (List.replicate ds.length (PyData.bool true))) = some (List.replicate ds.length true) := by
  show asBools _ = _
  rw [show List.replicate ds.length (PyData.bool true) = (List.replicate ds.length true).map PyData.bool by rw [List.map_replicate]]
  exact asBools_map _
theorem all_rep (n : Nat) : (List.replicate n true).all (fun b => b) = true := by
  induction n with
  | zero => rfl
  | succ n ih => rw [List.replicate_succ, List.all_cons, ih]; rfl
theorem same_seq {n : Nat} {ds : List D} {A : D} (hl : ds.length ≤ 1000000) (hd : dLen A = some (.int ds.length)) (hA : ∀ i : Int, dIx A (.int i) = atI ds i) (ih : ∀ d ∈ ds, R_same n [.va d, .va d] = some (.va (.bool true), [.no, .no])) :
    eAnd (eOp dEq (eUn dLen (eVar 0)) (eUn dLen (eVar 1))) (eUn dAll (eFz (oComp (lRng1 (eUn dLen (eVar 0))) (gNm 2) bYes (K1_same (R_same n)) [2]))) [.va A, .va A, .no] = some (.bool true, [.va A, .va A, .no]) := by
  have hb : Rg (ds.length : Int) := rg_of (by omega) (by omega)
  have h0 : (wipeE [.va A, .va A, .no] [2]) = [Sl.va A, .va A, .no] := rfl
  walk_at "evh"
  rw [compC_ev _ _ _ _ _ _ (by rw [rngD_len]; exact small1Me hl) rfl]
  rw [show wipeE [.va A, .va A, .no] [2] = [.va A, .va A, .no] from rfl, same_items hl hA hA ih]
  show ((dAll (.list (List.replicate ds.length (.bool true)))).map _) = _
  unfold dAll
  rw [wrap_true, Option.map_some, all_rep]
  rfl
theorem same_refl : ∀ (n : Nat) (x : D), Plain n x → R_same (n + 1) [.va x, .va x] = some (.va (.bool true), [.no, .no])
  | n, .none, _ => by
    show mkF 3 (B_same (R_same n)) _ = _
    unfold B_same
    walk_at "ev"
  | n, .bool b, _ => by
    show mkF 3 (B_same (R_same n)) _ = _
    unfold B_same
    have h : dEq (.bool b) (.bool b) = some (.bool true) := by rw [dEq_bool, beq_self_eq_true]
    walk_at "evh"
  | n, .int b, _ => by
    show mkF 3 (B_same (R_same n)) _ = _
    unfold B_same
    have h : dEq (.int b) (.int b) = some (.bool true) := by rw [dEq_int, beq_self_eq_true]
    walk_at "evh"
  | n, .str s, hp => by
    show mkF 3 (B_same (R_same n)) _ = _
    unfold B_same
    have hp' : SeqAt.shaped (.str s) = true := by cases n <;> exact hp
    have h : dEq (.str s) (.str s) = some (.bool true) := by unfold dEq; rw [if_pos ⟨hp', hp'⟩, PyData.eqv, beq_self_eq_true]
    walk_at "evh"
  | 0, .tuple _, h => h.elim
  | 0, .list _, h => h.elim
  | n + 1, .tuple ds, h => by
    have ih := same_seq (n := n + 1) (A := .tuple ds) h.1 rfl (fun _ => rfl) fun d hd => same_refl n d (h.2 d hd)
    show mkF 3 (B_same (R_same (n + 1))) _ = _
    unfold B_same
    rw [mkF_ev, sSeq_ev, sIf_ev]
    show (((bOr (bAnd (bE (eUn (dIsi isTup) (eVar 0))) (bE (eUn (dIsi isTup) (eVar 1)))) _ [.va (.tuple ds), .va (.tuple ds), .no]).bind _).bind _).bind _ = _
    rw [show bOr (bAnd (bE (eUn (dIsi isTup) (eVar 0))) (bE (eUn (dIsi isTup) (eVar 1)))) (bAnd (bE (eUn (dIsi isLst) (eVar 0))) (bE (eUn (dIsi isLst) (eVar 1)))) [.va (.tuple ds), .va (.tuple ds), .no] = some (true, [.va (.tuple ds), .va (.tuple ds), .no]) from rfl]
    rw [Option.bind_some, sifC_t, sRet_ev, ih]
    rfl
  | n + 1, .list ds, h => by
    have ih := same_seq (n := n + 1) (A := .list ds) h.1 rfl (fun _ => rfl) fun d hd => same_refl n d (h.2 d hd)
    show mkF 3 (B_same (R_same (n + 1))) _ = _
    unfold B_same
    rw [mkF_ev, sSeq_ev, sIf_ev]
    show (((bOr (bAnd (bE (eUn (dIsi isTup) (eVar 0))) (bE (eUn (dIsi isTup) (eVar 1)))) _ [.va (.list ds), .va (.list ds), .no]).bind _).bind _).bind _ = _
    rw [show bOr (bAnd (bE (eUn (dIsi isTup) (eVar 0))) (bE (eUn (dIsi isTup) (eVar 1)))) (bAnd (bE (eUn (dIsi isLst) (eVar 0))) (bE (eUn (dIsi isLst) (eVar 1)))) [.va (.list ds), .va (.list ds), .no] = some (true, [.va (.list ds), .va (.list ds), .no]) from rfl]
    rw [Option.bind_some, sifC_t, sRet_ev, ih]
    rfl
  | 0, .dict _, h => h.elim
  | n + 1, .dict _, h => h.elim
/-! ### the first of a range -/
theorem rng_head {m j : Nat} {p : Nat → Bool} (hj : j < m) (hp : p j = true) (hn : ∀ i, i < j → p i = false) : ((List.range m).filter p).head? = some j := by
  obtain ⟨k, rfl⟩ := Nat.exists_eq_add_of_lt hj
  have h1 : List.range (j + k + 1) = List.range j ++ (j :: (List.range k).map (j + 1 + ·)) := by
    rw [show j + k + 1 = j + (k + 1) by omega, List.range_add, List.range_succ_eq_map, List.map_cons, List.map_map]
    congr 2
    apply List.map_congr_left
    intro x _
    show j + (x + 1) = j + 1 + x
    omega
  have h2 : (List.range j).filter p = [] := List.filter_eq_nil_iff.mpr fun x hx => by rw [hn x (List.mem_range.mp hx)]; decide
  rw [h1, List.filter_append, h2, List.nil_append, List.filter_cons_of_pos hp]; rfl
theorem rng_none {m : Nat} {p : Nat → Bool} (hn : ∀ i, i < m → p i = false) : (List.range m).filter p = [] := List.filter_eq_nil_iff.mpr fun x hx => by rw [hn x (List.mem_range.mp hx)]; decide
theorem enD_drop {xs : List D} {j : Nat} {d : D} (h : xs[j]? = some d) : (enD xs).drop j = .tuple [.int j, d] :: (enD xs).drop (j + 1) := by
  have h1 := enD_get h
  have hj := (List.getElem?_eq_some_iff.mp h1).1
  rw [List.drop_eq_getElem_cons hj]
  rw [List.getElem?_eq_getElem hj] at h1
  rw [Option.some.inj h1]
/-- a list of truths -/
theorem dAll_map {α : Type} (f : α → Bool) (xs : List α) : dAll (.list (xs.map fun x => PyData.bool (f x))) = some (.bool (xs.all f)) := by
  unfold dAll
  rw [show boolsOf (.list (xs.map fun x => PyData.bool (f x))) = some (xs.map f) from (by show asBools _ = _; rw [show (xs.map fun x => PyData.bool (f x)) = (xs.map f).map PyData.bool by rw [List.map_map]; rfl]; exact asBools_map _), Option.map_some, List.all_map]
  rfl
theorem dAny_map {α : Type} (f : α → Bool) (xs : List α) : dAny (.list (xs.map fun x => PyData.bool (f x))) = some (.bool (xs.any f)) := by
  unfold dAny
  rw [show boolsOf (.list (xs.map fun x => PyData.bool (f x))) = some (xs.map f) from (by show asBools _ = _; rw [show (xs.map fun x => PyData.bool (f x)) = (xs.map f).map PyData.bool by rw [List.map_map]; rfl]; exact asBools_map _), Option.map_some, List.any_map]
  rfl
/-! ### plain values may be compared -/
theorem plain_lay : ∀ (n : Nat) (x : D), Plain n x → x.canLay0 = true ∧ x.depth ≤ n
  | _, .none, _ => ⟨by simp [PyData.canLay0], by simp [PyData.depth]⟩
  | _, .bool _, _ => ⟨by simp [PyData.canLay0], by simp [PyData.depth]⟩
  | _, .int _, _ => ⟨by simp [PyData.canLay0], by simp [PyData.depth]⟩
  | n, .str s, h => by
    have h' : SeqAt.shaped (.str s) = true := by cases n <;> exact h
    exact ⟨(Bool.and_eq_true_iff.mp h').1, by simp [PyData.depth]⟩
  | 0, .tuple _, h => h.elim
  | 0, .list _, h => h.elim
  | n + 1, .tuple ds, h => by
    have k := plain_all n ds fun d hd => plain_lay n d (h.2 d hd)
    exact ⟨by rw [PyData.canLay0]; exact k.1, by rw [PyData.depth]; omega⟩
  | n + 1, .list ds, h => by
    have k := plain_all n ds fun d hd => plain_lay n d (h.2 d hd)
    exact ⟨by rw [PyData.canLay0]; exact k.1, by rw [PyData.depth]; omega⟩
  | 0, .dict _, h => h.elim
  | n + 1, .dict _, h => h.elim
where plain_all (n : Nat) : ∀ ds : List D, (∀ d ∈ ds, d.canLay0 = true ∧ d.depth ≤ n) → PyData.canLayAll0 ds = true ∧ PyData.depthAll ds ≤ n
  | [], _ => ⟨by rw [PyData.canLayAll0], by rw [PyData.depthAll]; exact Nat.zero_le _⟩
  | d :: ds, h => by
    have h1 := h d List.mem_cons_self
    have h2 := plain_all n ds fun x hx => h x (List.mem_cons_of_mem _ hx)
    exact ⟨by rw [PyData.canLayAll0, h1.1, h2.1]; rfl, by rw [PyData.depthAll]; omega⟩
theorem plain_shaped {n : Nat} {x : D} (h : Plain n x) (hn : n ≤ 64) : SeqAt.shaped x = true := by
  obtain ⟨h1, h2⟩ := plain_lay n x h
  unfold SeqAt.shaped
  rw [h1, decide_eq_true (by omega)]; rfl
theorem plain_ints {n : Nat} {xs : List Int} (h : xs.length ≤ 1000000) : Plain (n + 1) (.tuple (iL xs)) := by
  refine ⟨by rw [iL_len]; exact h, fun d hd => ?_⟩
  obtain ⟨i, _, rfl⟩ := List.mem_map.mp hd
  cases n <;> trivial
theorem plain_intsL {n : Nat} {xs : List Int} (h : xs.length ≤ 1000000) : Plain (n + 1) (.list (iL xs)) := plain_ints h
theorem dEq_nil {n : Nat} {xs : List D} (h : Plain n (.list xs)) (hn : n ≤ 64) : dEq (.list xs) (.list []) = some (.bool xs.isEmpty) := by
  have h0 : SeqAt.shaped (.list []) = true := plain_shaped (n := 1) ⟨Nat.zero_le _, fun _ h => nomatch h⟩ (by decide)
  unfold dEq
  rw [if_pos ⟨plain_shaped h hn, h0⟩]
  cases xs with
  | nil => rw [PyData.eqv]; rfl
  | cons x xs => rw [PyData.eqv]; rfl
theorem dNe_nil {n : Nat} {xs : List D} (h : Plain n (.list xs)) (hn : n ≤ 64) : dNe (.list xs) (.list []) = some (.bool (!xs.isEmpty)) := by
  have h0 : SeqAt.shaped (.list []) = true := plain_shaped (n := 1) ⟨Nat.zero_le _, fun _ h => nomatch h⟩ (by decide)
  unfold dNe
  rw [if_pos ⟨plain_shaped h hn, h0⟩]
  cases xs with
  | nil => rw [PyData.eqv]; rfl
  | cons x xs => rw [PyData.eqv]; rfl
theorem rngD_drop {n j : Nat} (h : j < n) : (rngD 0 n).drop j = .int (j : Nat) :: (rngD 0 n).drop (j + 1) := by
  have hj : j < (rngD 0 n).length := by rw [rngD_len]; exact h
  rw [List.drop_eq_getElem_cons hj]
  have h1 := rngD_get (lo := 0) h
  rw [List.getElem?_eq_getElem hj, Int.zero_add] at h1
  rw [Option.some.inj h1]
theorem rngD_end (n : Nat) : (rngD 0 n).drop n = [] := List.drop_eq_nil_of_le (by rw [rngD_len]; exact Nat.le_refl _)
theorem range_map_succ {α : Type} (f : Nat → α) (n : Nat) : (List.range (n + 1)).map f = (List.range n).map f ++ [f n] := by rw [List.range_succ, List.map_append]; rfl
theorem range_filter_succ (p : Nat → Bool) (n : Nat) : (List.range (n + 1)).filter p = (List.range n).filter p ++ (if p n = true then [n] else []) := by
  rw [List.range_succ, List.filter_append]
  congr 1
  by_cases h : p n = true
  · rw [if_pos h, List.filter_cons_of_pos h]; rfl
  · rw [if_neg h, List.filter_cons_of_neg h]; rfl
end Fl

set_option linter.all false
set_option maxRecDepth 100000
set_option maxHeartbeats 1000000
set_option autoImplicit false
/-! FnPath: signs that lead: plain paths. -/
namespace Fl
open PySem PySem.Spec PyProof.Rows L2
section
variable (os : List Int) (nf : Int → Option Int)
/-- from a room by the signs to a room of os, in at most so many rooms -/
def go : Nat → Int → Option (List Int)
  | 0, _ => none
  | f + 1, r => if r ∈ os then some [r] else (nf r).bind fun s => (go f s).map (r :: ·)
end
section
variable {os : List Int} {nf : Int → Option Int}
theorem go_out {f : Nat} {r : Int} (h : r ∈ os) : go os nf (f + 1) r = some [r] := if_pos h
theorem go_in {f : Nat} {r : Int} (h : r ∉ os) : go os nf (f + 1) r = (nf r).bind fun s => (go os nf f s).map (r :: ·) := if_neg h
theorem go_step {f : Nat} {r : Int} {p : List Int} (h : r ∉ os) (e : go os nf f r = some p) : ∃ g s q, f = g + 1 ∧ nf r = some s ∧ go os nf g s = some q ∧ p = r :: q := by
  cases f with
  | zero => cases e
  | succ g =>
    rw [go_in h] at e
    obtain ⟨s, h1, h2⟩ := Option.bind_eq_some_iff.mp e
    obtain ⟨q, h3, h4⟩ := Option.map_eq_some_iff.mp h2
    exact ⟨g, s, q, rfl, h1, h3, h4.symm⟩
theorem go_succ : ∀ {f : Nat} {r : Int} {p : List Int}, go os nf f r = some p → go os nf (f + 1) r = some p
  | 0, _, _, h => nomatch h
  | f + 1, r, p, h => by
    by_cases hr : r ∈ os
    · rw [go_out hr] at h ⊢; exact h
    · obtain ⟨g, s, q, e1, e2, e3, e4⟩ := go_step hr h
      cases e1
      rw [go_in hr, e2, Option.bind_some, go_succ e3, e4]; rfl
theorem go_mono {f g : Nat} {r : Int} {p : List Int} (h : go os nf f r = some p) (hg : f ≤ g) : go os nf g r = some p := by
  obtain ⟨k, rfl⟩ := Nat.exists_eq_add_of_le hg
  clear hg
  induction k with
  | zero => exact h
  | succ k ih => exact go_succ ih
theorem go_uniq {f g : Nat} {r : Int} {p q : List Int} (h : go os nf f r = some p) (k : go os nf g r = some q) : p = q := by
  rcases Nat.le_total f g with hl | hl
  · exact Option.some.inj ((go_mono h hl).symm.trans k)
  · exact Option.some.inj (h.symm.trans (go_mono k hl))
theorem go_head {f : Nat} {r : Int} {p : List Int} (h : go os nf f r = some p) : ∃ q, p = r :: q := by
  cases f with
  | zero => cases h
  | succ f =>
    by_cases hr : r ∈ os
    · rw [go_out hr] at h; cases h; exact ⟨[], rfl⟩
    · obtain ⟨g, s, q, e1, e2, e3, e4⟩ := go_step hr h
      exact ⟨q, e4⟩
theorem go_len : ∀ {f : Nat} {r : Int} {p : List Int}, go os nf f r = some p → p.length ≤ f ∧ go os nf p.length r = some p
  | 0, _, _, h => nomatch h
  | f + 1, r, p, h => by
    by_cases hr : r ∈ os
    · rw [go_out hr] at h; cases h
      exact ⟨Nat.succ_le_succ (Nat.zero_le _), go_out hr⟩
    · obtain ⟨g, s, q, e1, e2, e3, e4⟩ := go_step hr h
      cases e1
      obtain ⟨k1, k2⟩ := go_len e3
      subst e4
      refine ⟨Nat.succ_le_succ k1, ?_⟩
      show go os nf (q.length + 1) r = _
      rw [go_in hr, e2, Option.bind_some, k2]; rfl
theorem go_suffix : ∀ {f : Nat} {r : Int} {u v : List Int} {x : Int}, go os nf f r = some (u ++ x :: v) → go os nf f x = some (x :: v)
  | f, r, [], v, x, h => by
    obtain ⟨q, hq⟩ := go_head h
    have : x = r := by cases hq; rfl
    subst this
    exact h
  | 0, _, _ :: _, _, _, h => nomatch h
  | f + 1, r, y :: u, v, x, h => by
    by_cases hr : r ∈ os
    · rw [go_out hr] at h
      have := congrArg (Option.map List.length) h
      simp at this
    · obtain ⟨g, s, q, e1, e2, e3, e4⟩ := go_step hr h
      cases e1
      have e5 : q = u ++ x :: v := by cases e4; rfl
      rw [e5] at e3
      exact go_succ (go_suffix e3)
theorem go_nodup : ∀ {f : Nat} {r : Int} {p : List Int}, go os nf f r = some p → p.Nodup
  | 0, _, _, h => nomatch h
  | f + 1, r, p, h => by
    by_cases hr : r ∈ os
    · rw [go_out hr] at h; cases h; simp
    · obtain ⟨g, s, q, e1, e2, e3, e4⟩ := go_step hr h
      cases e1
      subst e4
      refine List.nodup_cons.mpr ⟨fun hm => ?_, go_nodup e3⟩
      obtain ⟨u, v, rfl⟩ := List.append_of_mem hm
      have := go_uniq (go_suffix e3) h
      have := congrArg List.length this
      simp at this
      omega
theorem go_range {n : Int} (hn : ∀ r s, nf r = some s → 0 ≤ s ∧ s < n) : ∀ {f : Nat} {r : Int} {p : List Int}, 0 ≤ r ∧ r < n → go os nf f r = some p → ∀ x ∈ p, 0 ≤ x ∧ x < n
  | 0, _, _, _, h => nomatch h
  | f + 1, r, p, hr0, h => by
    by_cases hr : r ∈ os
    · rw [go_out hr] at h; cases h
      intro x hx
      rw [List.mem_singleton.mp hx]; exact hr0
    · obtain ⟨g, s, q, e1, e2, e3, e4⟩ := go_step hr h
      cases e1
      subst e4
      intro x hx
      rcases List.mem_cons.mp hx with rfl | hx
      · exact hr0
      · exact go_range hn (hn _ _ e2) e3 x hx
theorem nodup_len : ∀ (n : Nat) (l : List Int), l.Nodup → (∀ x ∈ l, 0 ≤ x ∧ x < (n : Int)) → l.length ≤ n
  | 0, [], _, _ => Nat.le_refl _
  | 0, x :: _, _, h => by have := h x List.mem_cons_self; omega
  | n + 1, l, hd, h => by
    by_cases hm : (n : Int) ∈ l
    · have h1 := nodup_len n (l.erase (n : Int)) (hd.erase _) fun x hx => by
        have h2 := h x (List.mem_of_mem_erase hx)
        have h3 : x ≠ (n : Int) := fun e => by
          rw [e] at hx
          exact (List.Nodup.not_mem_erase hd) hx
        omega
      rw [List.length_erase_of_mem hm] at h1
      omega
    · have := nodup_len n l hd fun x hx => by
        have h2 := h x hx
        have h3 : x ≠ (n : Int) := fun e => hm (e ▸ hx)
        omega
      omega
/-- so many rooms are enough -/
theorem go_enough {n : Nat} (hn : ∀ r s, nf r = some s → 0 ≤ s ∧ s < (n : Int)) {f : Nat} {r : Int} {p : List Int} (hr : 0 ≤ r ∧ r < (n : Int)) (h : go os nf f r = some p) : go os nf (n + 1) r = some p ∧ p.length ≤ n := by
  have h1 := nodup_len n p (go_nodup h) (go_range hn hr h)
  exact ⟨go_mono (go_len h).2 (by omega), h1⟩
/-- rooms one after the other by the signs, none of them of os, and s next -/
def Chn (os : List Int) (nf : Int → Option Int) : List Int → Int → Prop
  | [], _ => True
  | x :: l, s => x ∉ os ∧ nf x = some ((l ++ [s]).headD 0) ∧ Chn os nf l s
theorem ch_snoc : ∀ {u : List Int} {s t : Int}, Chn os nf u s → s ∉ os → nf s = some t → Chn os nf (u ++ [s]) t
  | [], s, t, _, h1, h2 => ⟨h1, h2, trivial⟩
  | x :: u, s, t, ⟨h1, h2, h3⟩, k1, k2 => by
    refine ⟨h1, ?_, ch_snoc h3 k1 k2⟩
    rw [h2]
    cases u <;> rfl
theorem ch_suffix : ∀ {u v : List Int} {s : Int}, Chn os nf (u ++ v) s → Chn os nf v s
  | [], _, _, h => h
  | _ :: _, _, _, h => ch_suffix h.2.2
theorem ch_go : ∀ {l : List Int} {x s : Int} {f : Nat} {p : List Int}, Chn os nf (x :: l) s → go os nf f x = some p → ∃ g q, go os nf g s = some q ∧ p = x :: l ++ q
  | [], x, s, f, p, ⟨h1, h2, _⟩, h => by
    obtain ⟨g, t, q, e1, e2, e3, e4⟩ := go_step h1 h
    have : t = s := by rw [e2] at h2; exact Option.some.inj h2
    subst this
    exact ⟨g, q, e3, e4⟩
  | y :: l, x, s, f, p, ⟨h1, h2, h3⟩, h => by
    obtain ⟨g, t, q, e1, e2, e3, e4⟩ := go_step h1 h
    have : t = y := by rw [e2] at h2; exact Option.some.inj h2
    subst this
    obtain ⟨g2, q2, k1, k2⟩ := ch_go h3 e3
    exact ⟨g2, q2, k1, by rw [e4, k2]; rfl⟩
/-- who comes back never gets out -/
theorem ch_ring {u : List Int} {s : Int} (h : Chn os nf u s) (hs : s ∈ u) : ∀ f, go os nf f s = none := by
  intro f
  obtain ⟨u1, u2, rfl⟩ := List.append_of_mem hs
  have h2 := ch_suffix h
  cases hg : go os nf f s with
  | none => rfl
  | some p =>
    obtain ⟨g, q, k1, k2⟩ := ch_go h2 hg
    have := go_uniq k1 hg
    rw [this] at k2
    have := congrArg List.length k2
    simp at this
    omega
/-! ### one sign turned -/
theorem go_same {nf2 : Int → Option Int} {r : Int} (hd : ∀ x, x ≠ r → nf2 x = nf x) : ∀ {f : Nat} {s : Int} {p : List Int}, go os nf f s = some p → r ∉ p → go os nf2 f s = some p
  | 0, _, _, h, _ => nomatch h
  | f + 1, s, p, h, hr => by
    by_cases hs : s ∈ os
    · rw [go_out hs] at h ⊢; exact h
    · obtain ⟨g, t, q, e1, e2, e3, e4⟩ := go_step hs h
      cases e1
      subst e4
      have h1 : s ≠ r := fun e => hr (by rw [e]; exact List.mem_cons_self)
      rw [go_in hs, hd s h1, e2, Option.bind_some, go_same hd e3 fun hm => hr (List.mem_cons_of_mem _ hm)]; rfl
theorem turn_right {nf2 : Int → Option Int} {r b : Int} (hd : ∀ x, x ≠ r → nf2 x = nf x) (hr : nf2 r = some b) (hro : r ∉ os) {fb : Nat} {pb : List Int} (hb : go os nf fb b = some pb) (hn : r ∉ pb) : ∀ {f : Nat} {s : Int} {p : List Int}, go os nf f s = some p → ∃ g q, go os nf2 g s = some q
  | 0, _, _, h => nomatch h
  | f + 1, s, p, h => by
    by_cases hs : s ∈ os
    · exact ⟨1, [s], go_out hs⟩
    · by_cases e : s = r
      · subst e
        refine ⟨fb + 1, s :: pb, ?_⟩
        rw [go_in hs, hr, Option.bind_some, go_same hd hb hn]; rfl
      · obtain ⟨g, t, q, e1, e2, e3, e4⟩ := go_step hs h
        cases e1
        obtain ⟨g2, q2, k⟩ := turn_right hd hr hro hb hn e3
        refine ⟨g2 + 1, s :: q2, ?_⟩
        rw [go_in hs, hd s e, e2, Option.bind_some, k]; rfl
theorem turn_back {nf2 : Int → Option Int} {r : Int} (hd : ∀ x, x ≠ r → nf2 x = nf x) : ∀ (f : Nat) (s : Int) (p : List Int), go os nf f s = some p → r ∈ p → ∀ (g : Nat) (q : List Int), go os nf2 g s = some q → ∃ g2 q2, g2 ≤ g ∧ go os nf2 g2 r = some q2
  | 0, _, _, h, _ => nomatch h
  | f + 1, s, p, h, hr => by
    intro g q hq
    by_cases e : s = r
    · subst e; exact ⟨g, q, Nat.le_refl _, hq⟩
    · by_cases hs : s ∈ os
      · rw [go_out hs] at h
        cases h
        exact absurd (List.mem_singleton.mp hr).symm e
      · obtain ⟨f1, t, p1, e1, e2, e3, e4⟩ := go_step hs h
        cases e1
        subst e4
        obtain ⟨g1, t2, q1, k1, k2, k3, k4⟩ := go_step hs hq
        rw [hd s e, e2] at k2
        cases k2
        have hm : r ∈ p1 := by
          rcases List.mem_cons.mp hr with h1 | h1
          · exact absurd h1.symm e
          · exact h1
        obtain ⟨g2, q2, m1, m2⟩ := turn_back hd f t p1 e3 hm g1 q1 k3
        exact ⟨g2, q2, by omega, m2⟩
theorem turn_ring {nf2 : Int → Option Int} {r b : Int} (hd : ∀ x, x ≠ r → nf2 x = nf x) (hr : nf2 r = some b) (hro : r ∉ os) {fb : Nat} {pb : List Int} (hb : go os nf fb b = some pb) (hn : r ∈ pb) : ∀ f, go os nf2 f r = none := by
  intro f
  induction f using Nat.strongRecOn with
  | ind f ih =>
    cases hg : go os nf2 f r with
    | none => rfl
    | some p =>
      obtain ⟨g, s, q, e1, e2, e3, e4⟩ := go_step hro hg
      rw [hr] at e2
      cases e2
      obtain ⟨g2, q2, m1, m2⟩ := turn_back hd _ _ _ hb hn _ _ e3
      rw [ih g2 (by omega)] at m2
      cases m2
end
end Fl

set_option Elab.async false
set_option linter.all false
set_option maxRecDepth 100000
set_option maxHeartbeats 4000000
namespace Fl
open PySem PySem.Spec PyProof.Rows L2
def topS (i : Nat) : Stmt := PySem.Challenge.pw_roomsemptied_k40_whole_second_signs.main.body.getD i (.Pass ⟨0, 0, 0, 0⟩)
section
variable {P : Program} {w : World} {K : Frg} {mg : Str → Option Value} {base : Heap}
abbrev s__law_mix : Stmt := topS 6
abbrev s__law_tape : Stmt := topS 7
abbrev s__law_take : Stmt := topS 8
theorem sc__law_mix : FnScope ["number"] ["number"] (defScope s__law_mix) := ⟨rfl, rfl, rfl, by decide +kernel, rfl, by decide +kernel, by decide +kernel⟩
theorem sc__law_take : FnScope ["tape", "many", "cell", "digit"] ["tape", "many"] (defScope s__law_take) := ⟨rfl, rfl, rfl, by decide +kernel, rfl, by decide +kernel, by decide +kernel⟩
theorem sc__law_tape : FnScope ["script"] ["script"] (defScope s__law_tape) := ⟨rfl, rfl, rfl, by decide +kernel, rfl, by decide +kernel, by decide +kernel⟩
theorem ok_mix {f : Addr} {fd : FuncData} {k : Nat} (F : Fun K "_law_mix" "_law_mix" s__law_mix f fd) (mint : mg "int" = none) : FnOk P w K mg base CX0 (k + 1) f fd ["number"] (spInt mixN) := by
  refine F.ok sc__law_mix (fun vs H Q E ⟨n, h, _⟩ => by rw [h]; rfl) (fun cdv A outer s H vs Q E hr h => ?_)
  obtain ⟨n, rfl, q⟩ := h
  refine ⟨_, pss_cons (ps_set (i := 0) sc__law_mix.nd rfl (.inl rfl) (pe_op op_mod (pe_callTy call_int1 (by rfl) mint (by decide +kernel) (pa_cons (pe_op op_add (pe_op op_mul (pv 0) pe_int) pe_int) pa_nil)) pe_int))
    (pss_one (ps_ret (pe_op op_mod (pe_callTy call_int1 (by rfl) mint (by decide +kernel) (pa_cons (pe_op op_add (pe_op op_fdivW (pe_op op_mul (pv 0) (pv 0)) pe_int) (pe_op op_mul (pv 0) pe_int)) pa_nil)) pe_int))), ?_⟩
  refine ⟨_, rfl, _, _, rfl, rfl, cmulR (by decide), _, _, rfl, rfl, .inl ⟨_, rfl, _, _, rfl, rfl, by show (0 : Int) < _; decide, ?_⟩⟩
  have hk : 0 ≤ (n * 6364136223846793005 + 1442695040888963407) % 18446744073709551616 ∧ (n * 6364136223846793005 + 1442695040888963407) % 18446744073709551616 < 18446744073709551616 := ⟨Int.emod_nonneg _ (by decide), Int.emod_lt_of_pos _ (by decide)⟩
  refine ⟨_, rfl, _, rfl, _, _, rfl, rfl, cmulR ⟨by omega, by omega⟩, _, _, rfl, rfl, ⟨by decide, by decide⟩, _, rfl, _, _, rfl, rfl, cmulR (by decide), _, _, rfl, rfl, .inl ⟨_, rfl, _, _, rfl, rfl, by show (0 : Int) < _; decide, ?_⟩⟩
  exact q
theorem ok_tape {f : Addr} {fd : FuncData} {k : Nat} (F : Fun K "_law_tape" "_law_tape" s__law_tape f fd) (mlen : mg "len" = none) (mlist : mg "list" = none) : FnOk P w K mg base CX0 (k + 1) f fd ["script"] (spTapeT K) := by
  refine F.ok sc__law_tape (fun vs H Q E ⟨a, ns, h, _⟩ => by rw [h]; rfl) (fun cdv A outer s H vs Q E hr h => ?_)
  obtain ⟨a, ns, rfl, hS, hl, q⟩ := h
  refine ⟨_, pss_one (ps_ret (pe_lst (pa_cons (pe_callTy call_list_of (by rfl) mlist (by decide +kernel) (pa_cons (pe_slice sl_list (pv 0) po_none (po_some pe_int)) pa_nil)) (pa_cons pe_int (pa_cons pe_int (pa_cons (pe_op op_add pe_int (pe_callB call_len_seq (by rfl) mlen PySem.boot_len (pa_cons (pv 0) pa_nil))) pa_nil)))))), ?_⟩
  refine ⟨.ref a, rfl, 80, rfl, a, _, rfl, hS, fun p1 n1 => ?_⟩
  have s1 : Same H (upd H p1 (.lst (cutV (ns.map V.int) none (some 80)))) := sameUpd n1
  refine ⟨p1, _, rfl, .inl (SqL.of upd_same), fun c n2 => ?_⟩
  have s2 := s1.trans (sameUpd n2 (o := .lst (cutV (ns.map V.int) none (some 80))))
  refine ⟨.ref a, rfl, a, _, rfl, .inl (s2.seq hS), _, _, rfl, rfl, by show 4 ≤ sizeLine; decide, fun p n3 => ?_⟩
  have hpc : p ≠ c := fun e => by rw [e, upd_same] at n3; cases n3
  refine q _ p c (s2.trans (sameUpd n3)) (s2.free n3) (s1.free n2) ⟨hpc, ?_, ?_⟩
  · rw [upd_same, List.length_map]; rfl
  · rw [upd_ne (Ne.symm hpc), upd_same, cut80 _ (by rw [List.length_map]; exact hl)]
theorem ok_take {f fM : Addr} {fd fdM : FuncData} {k : Nat} (F : Fun K "_law_take" "_law_take" s__law_take f fd) (FM : Fun K "_law_mix" "_law_mix" s__law_mix fM fdM) (bM : Binds K fdM ["number"] []) (gM : mg "_law_mix" = some (.ref fM)) (mlen : mg "len" = none) (mint : mg "int" = none) :
    FnOk P w K mg base CX0 (k + 2) f fd ["tape", "many"] (spTp 1 fun b as => match as with
      | [.int m] => if decide (0 < m ∧ m < 1073741824) = true then some (.int (takeT b m).1, (takeT b m).2) else none
      | _ => none) := by
  have GM : FnOk P w K mg base CX0 (k + 1) fM fdM ["number"] (spInt mixN) := ok_mix FM mint
  refine F.ok sc__law_take (fun vs H Q E h => h.1) (fun cdv A outer s H vs Q E hr h => ?_)
  obtain ⟨hl, p, c, b, as, r, b', rfl, hB, hgo, q⟩ := h
  obtain ⟨hne, hp, hc⟩ := hB
  match as, hl with
  | [.int m], _ =>
    have hgo' : (if decide (0 < m ∧ m < 1073741824) = true then some (V.int (takeT b m).1, (takeT b m).2) else none) = some (r, b') := hgo
    split at hgo'
    · rename_i hm
      obtain ⟨hm0, hm1⟩ := of_decide_eq_true hm
      cases hgo'
      refine ⟨_, pss_cons (ps_if (pt_cmpR op_lt (pe_ix ix_list (pv 0) pe_int (fun _ _ => rfl)) (pv 1) (nomark _))
          (pss_one (ps_if (pt_cmpR op_lt (pe_ix ix_list (pv 0) pe_int (fun _ _ => rfl)) (pe_callB call_len_seq (by rfl) mlen PySem.boot_len (pa_cons (pe_ix ix_list (pv 0) pe_int (fun _ _ => rfl)) pa_nil)) (nomark _))
            (pss_cons (ps_set (i := 2) sc__law_take.nd rfl (.inl rfl) (pe_ix ix_list (pe_ix ix_list (pv 0) pe_int (fun _ _ => rfl)) (pe_ix ix_list (pv 0) pe_int (fun _ _ => rfl)) (fun _ _ => rfl)))
            (pss_cons (ps_set (i := 2) sc__law_take.nd rfl (.inl rfl) (pe_ifExp (pt_cmpR op_ge (pv 2) pe_int (nomark _)) (pe_op op_mul pe_int (pv 2)) (pe_op op_sub (pe_op op_mul (pe_un un_neg pe_int) (pv 2)) pe_int)))
            (PSs.imp (t' := fun D σ H1 => ∃ c0 : Int, σ = [some (.ref p), some (.int m), some (.int c0), none] ∧ H1 p = some (.lst [.ref c, .int b.i, .int b.s, .int b.m]) ∧ H1 c = some (.lst (b.cells.map V.int)) ∧
                ∀ H', H' p = some (.lst [.ref c, .int (b.i + 1), .int (great c0 (mixN (mixN c0 + (b.i + 1)))), .int (mixN (b.m + c0))]) → H' c = some (.lst (b.cells.map V.int)) → (∀ u, u ≠ p → u ≠ c → H' u = H1 u) → D.nx [some (.ref p), some (.int m), some (.int c0), none] H')
              (pss_cons (ps_asg (pe_op op_add (pe_ix ix_list (pv 0) pe_int (fun _ _ => rfl)) pe_int) (pg_sub (pv 0) pe_int set_list))
              (pss_cons (ps_asg (pe_call GM hr (by rfl) gM FM.kp bM .nil pass0 (pa_cons (pe_op op_add (pe_ix ix_list (pv 0) pe_int (fun _ _ => rfl)) (pv 2)) pa_nil)) (pg_sub (pv 0) pe_int set_list))
              (pss_one (ps_asg (pe_ifExp (pt_cmpR op_ge (pv 2) (pe_op op_pow pe_int pe_int) (nomark _)) (pv 2) (pe_call GM hr (by rfl) gM FM.kp bM .nil pass0 (pa_cons (pe_op op_add (pe_call GM hr (by rfl) gM FM.kp bM .nil pass0 (pa_cons (pv 2) pa_nil)) (pe_ix ix_list (pv 0) pe_int (fun _ _ => rfl))) pa_nil))) (pg_sub (pv 0) pe_int set_list)))))
              (fun D σ H1 ⟨c0, hσ, h1, h2, q⟩ => by
                subst hσ
                refine ⟨.ref p, rfl, p, _, 1, _, rfl, rfl, SqL.of h1, rfl, _, _, rfl, rfl, .ref p, rfl, p, _, 1, 1, rfl, rfl, h1, rfl, ?_⟩
                refine ⟨.ref p, rfl, p, _, 3, _, rfl, rfl, SqL.of upd_same, rfl, _, rfl, _, _, rfl, rfl, _, rfl, .ref p, rfl, p, _, 3, 3, rfl, rfl, upd_same, rfl, ?_⟩
                refine ⟨_, rfl, _, _, rfl, rfl, ⟨by decide, by decide, by decide⟩, _, _, rfl, rfl, _, rfl, ite2 (fun e3 => ?_) fun e3 => ?_⟩
                · have h10 : (1000000000000000000 : Int) ≤ c0 := of_decide_eq_true e3
                  have hg : great c0 (mixN (mixN c0 + (b.i + 1))) = c0 := if_pos h10
                  rw [hg] at q
                  refine ⟨_, rfl, .ref p, rfl, p, _, 2, 2, rfl, rfl, upd_same, rfl, ?_⟩
                  exact q _ upd_same (upd_get (Ne.symm hne) (upd_get (Ne.symm hne) (upd_get (Ne.symm hne) h2))) fun u hu _ => by rw [upd_ne hu, upd_ne hu, upd_ne hu]
                · have h10 : ¬ (1000000000000000000 : Int) ≤ c0 := of_decide_eq_false (Bool.eq_false_iff.mpr e3)
                  have hg : great c0 (mixN (mixN c0 + (b.i + 1))) = mixN (mixN c0 + (b.i + 1)) := if_neg h10
                  rw [hg] at q
                  refine ⟨_, rfl, _, rfl, .ref p, rfl, p, _, 1, _, rfl, rfl, SqL.of upd_same, rfl, _, _, rfl, rfl, _, rfl, .ref p, rfl, p, _, 2, 2, rfl, rfl, upd_same, rfl, ?_⟩
                  exact q _ upd_same (upd_get (Ne.symm hne) (upd_get (Ne.symm hne) (upd_get (Ne.symm hne) h2))) fun u hu _ => by rw [upd_ne hu, upd_ne hu, upd_ne hu]))))
            (pss_cons (ps_asg (pe_call GM hr (by rfl) gM FM.kp bM .nil pass0 (pa_cons (pe_op op_add (pe_ix ix_list (pv 0) pe_int (fun _ _ => rfl)) pe_int) pa_nil)) (pg_sub (pv 0) pe_int set_list))
            (pss_one (ps_asg (pe_ix ix_list (pv 0) pe_int (fun _ _ => rfl)) (pg_sub (pv 0) pe_int set_list)))))) pss_nil)
        (PSs.imp (t' := fun D σ H1 => ∃ (i2 s2 t2 : Int) (c2 : Option V), σ = [some (.ref p), some (.int m), c2, none] ∧ H1 p = some (.lst [.ref c, .int i2, .int s2, .int t2]) ∧ H1 c = some (.lst (b.cells.map V.int)) ∧
            ∀ H', H' p = some (.lst [.ref c, .int i2, .int (s2 / m), .int t2]) → H' c = some (.lst (b.cells.map V.int)) → (∀ u, u ≠ p → u ≠ c → H' u = H1 u) → D.rt (.int (s2 % m)) H')
          (pss_cons (ps_set (i := 3) sc__law_take.nd rfl (.inl rfl) (pe_op op_mod (pe_callTy call_int1 (by rfl) mint (by decide +kernel) (pa_cons (pe_ix ix_list (pv 0) pe_int (fun _ _ => rfl)) pa_nil)) (pv 1)))
          (pss_cons (ps_asg (pe_op op_fdiv (pe_ix ix_list (pv 0) pe_int (fun _ _ => rfl)) (pv 1)) (pg_sub (pv 0) pe_int set_list))
          (pss_one (ps_ret (pv 3)))))
          (fun D σ H1 ⟨i2, s2, t2, c2, hσ, h1, h2, q⟩ => by
            subst hσ
            refine ⟨.ref p, rfl, p, _, 2, _, rfl, rfl, SqL.of h1, rfl, .inl ⟨_, rfl, _, rfl, _, _, rfl, rfl, hm0, ?_⟩⟩
            refine ⟨.ref p, rfl, p, _, 2, _, rfl, rfl, SqL.of h1, rfl, _, rfl, _, _, rfl, rfl, ⟨hm0, hm1⟩, ?_⟩
            refine ⟨.ref p, rfl, p, _, 2, 2, rfl, rfl, h1, rfl, _, rfl, ?_⟩
            exact q _ upd_same (upd_get (Ne.symm hne) h2) fun u hu _ => upd_ne hu)), ?_⟩
      refine ⟨.ref p, rfl, p, _, 2, _, rfl, rfl, SqL.of hp, rfl, _, rfl, _, _, rfl, rfl, _, rfl, ite2 (fun e => ?_) fun e => ?_⟩
      · have ha : b.s < m := of_decide_eq_true e
        have hd : takeT b m = ((loadT b).s % m, { loadT b with s := (loadT b).s / m }) := by unfold takeT; rw [if_pos ha]
        rw [hd] at q
        refine ⟨.ref p, rfl, p, _, 1, _, rfl, rfl, SqL.of hp, rfl, .ref p, rfl, p, _, 0, .ref c, rfl, rfl, SqL.of hp, rfl, c, b.cells.map V.int, rfl, .inl (SqL.of hc), _, _, rfl, rfl, _, rfl, ite2 (fun e2 => ?_) fun e2 => ?_⟩
        · have hlt : b.i < b.cells.length := by
            have := of_decide_eq_true e2
            rw [List.length_map] at this
            omega
          obtain ⟨x, hx⟩ : ∃ x, b.cells[b.i]? = some x := ⟨_, List.getElem?_eq_getElem hlt⟩
          have hd2 : loadT b = ⟨b.cells, b.i + 1, great (sized x) (mixN (mixN (sized x) + ((b.i + 1 : Nat) : Int))), mixN (b.m + sized x)⟩ := by unfold loadT; rw [hx]
          rw [hd2] at q
          have ha2 : atI (b.cells.map V.int) (b.i : Int) = some (.int x) := atI_nat (by rw [List.getElem?_map, hx]; rfl)
          refine ⟨.ref p, rfl, p, _, 0, .ref c, rfl, rfl, SqL.of hp, rfl, .ref p, rfl, p, _, 1, _, rfl, rfl, SqL.of hp, rfl, c, _, (b.i : Int), .int x, rfl, rfl, SqL.of hc, ha2, ?_⟩
          refine ⟨_, rfl, _, _, rfl, rfl, _, rfl, ite2 (fun e3 => ?_) fun e3 => ?_⟩
          · have hs : sized x = 2 * x := by unfold sized; rw [if_pos (of_decide_eq_true e3)]
            rw [hs] at q
            refine ⟨_, rfl, _, _, rfl, rfl, .inl (by decide), ?_⟩
            exact ⟨2 * x, rfl, hp, hc, fun H2 h1 h2 h3 => ⟨_, _, _, _, rfl, h1, h2, fun H' k1 k2 k3 => q H' ⟨hne, k1, k2⟩ fun u hu hu2 => by rw [k3 u hu hu2, h3 u hu hu2]⟩⟩
          · have hs : sized x = -2 * x - 1 := by unfold sized; rw [if_neg (fun z => e3 (decide_eq_true z))]
            rw [hs] at q
            refine ⟨_, rfl, _, rfl, _, _, rfl, rfl, .inl (by decide), _, _, rfl, rfl, ?_⟩
            exact ⟨-2 * x - 1, rfl, hp, hc, fun H2 h1 h2 h3 => ⟨_, _, _, _, rfl, h1, h2, fun H' k1 k2 k3 => q H' ⟨hne, k1, k2⟩ fun u hu hu2 => by rw [k3 u hu hu2, h3 u hu hu2]⟩⟩
        · have hge : b.cells.length ≤ b.i := by
            have := of_decide_eq_false (Bool.eq_false_iff.mpr e2)
            rw [List.length_map] at this
            omega
          have hd2 : loadT b = ⟨b.cells, b.i, mixN (b.m + 1), mixN (b.m + 1)⟩ := by unfold loadT; rw [List.getElem?_eq_none hge]
          rw [hd2] at q
          refine ⟨.ref p, rfl, p, _, 3, _, rfl, rfl, SqL.of hp, rfl, _, _, rfl, rfl, _, rfl, .ref p, rfl, p, _, 3, 3, rfl, rfl, hp, rfl, ?_⟩
          refine ⟨.ref p, rfl, p, _, 3, _, rfl, rfl, SqL.of upd_same, rfl, .ref p, rfl, p, _, 2, 2, rfl, rfl, upd_same, rfl, ?_⟩
          exact ⟨_, _, _, _, rfl, upd_same, upd_get (Ne.symm hne) (upd_get (Ne.symm hne) hc), fun H' k1 k2 k3 => q H' ⟨hne, k1, k2⟩ fun u hu hu2 => by rw [k3 u hu hu2, upd_ne hu, upd_ne hu]⟩
      · have ha : ¬ b.s < m := fun z => e (decide_eq_true z)
        have hd : takeT b m = (b.s % m, { b with s := b.s / m }) := by unfold takeT; rw [if_neg ha]
        rw [hd] at q
        exact ⟨b.i, b.s, b.m, none, rfl, hp, hc, fun H' h1 h2 h3 => q H' ⟨hne, h1, h2⟩ h3⟩
    · cases hgo'

noncomputable def F__law_take : Fnc := gTake takeT fun m => decide (0 < m ∧ m < 1073741824)
/-! ### led -/
abbrev s_led : Stmt := topS 1
theorem sc_led : FnScope ["house", "signs", "room", "rooms", "here", "there"] ["house", "signs", "room"] (defScope s_led) := ⟨rfl, rfl, rfl, by decide +kernel, rfl, by decide +kernel, by decide +kernel⟩
noncomputable def T1_led : BF := (bE (eC (.bool true)))
noncomputable def L2_led : SF := (sSeq (sSet 4 (oE (eIxO 3 (eUn dNeg (eC (.int 1)))))) (sSeq (sIf (bB (eOp (dInB false) (eVar 4) (eOp dIx (eVar 0) (eC (.int 2))))) (sRet (eTup (aCons (eC (.str "out")) (aCons (eUn dTuple (eOwn 3)) aNil)))) sNext) (sSeq (sIf (bB (eOp dIs (eOp dIx (eVar 1) (eVar 4)) (eC .none))) (sRet (eTup (aCons (eC (.str "stuck")) (aCons (eUn dTuple (eOwn 3)) aNil)))) sNext) (sSeq (sSet 5 (oE (eOp dIx (eOp dIx (eOp dIx (eVar 0) (eC (.int 1))) (eOp dIx (eVar 1) (eVar 4))) (eC (.int 1))))) (sSeq (sDrop (eMt1 gAppend 3 (eVar 5))) (sIf (bB (eOp (dInB false) (eVar 5) (eSlO 3 pNo (pSo (eUn dNeg (eC (.int 1))))))) (sRet (eTup (aCons (eC (.str "ring")) (aCons (eUn dTuple (eOwn 3)) aNil)))) sNext))))))
noncomputable def F_led : Fnc := mkF 6 (sSeq (sSet 3 (oLst (aCons (eVar 2) aNil))) (sWhile (T1_led) (L2_led)))
theorem ok_led {f : Addr} {fd : FuncData} (F : Fun K "led" "led" s_led f fd) (B : Bt mg) : FnOk P w K mg base CX0 1 f fd ["house", "signs", "room"] (spF K 3 F_led) :=
  def_ok F sc_led (by decide) fun cdv A outer s H E hr =>
    (fss_cons (fset 3 sc_led.nd (fo_lst (fa_cons (fv 2) fa_nil))) (fss_one (fs_while PassesOwn.never (ft_e (fb_fe fe_bl) (by intro _; rfl)) (fss_cons (fset 4 sc_led.nd (fo_fe (fixo 3 (fe_neg (fb_fe fe_int))))) (fss_cons (fs_if (fc_in ⟨rfl, sc_led.nd, hr⟩ (fv 4) (fb_fe (fe_ix (fv 0) fe_int))).t (fss_one (fs_ret (fe_tup (fa_cons fe_str (fa_cons (fe_tuple (fo 3) B.tuple) fa_nil))))) fss_nil) (fss_cons (fs_if (fc_is ⟨rfl, sc_led.nd, hr⟩ (fe_ix (fv 1) (fv 4)) (fb_fe fe_non)).t (fss_one (fs_ret (fe_tup (fa_cons fe_str (fa_cons (fe_tuple (fo 3) B.tuple) fa_nil))))) fss_nil) (fss_cons (fset 5 sc_led.nd (fo_fe (fe_ix (fe_ix (fe_ix (fv 0) fe_int) (fe_ix (fv 1) (fv 4))) fe_int))) (fss_cons (fs_expr (fapp 3 (fv 5))) (fss_one (fs_if (fc_in ⟨rfl, sc_led.nd, hr⟩ (fv 5) (fb_fe (fslo 3 fp_no (fp_so (fe_neg (fb_fe fe_int)))))).t (fss_one (fs_ret (fe_tup (fa_cons fe_str (fa_cons (fe_tuple (fo 3) B.tuple) fa_nil))))) fss_nil))))))))))
/-! ### second_sign -/
abbrev s_second_sign : Stmt := topS 3
theorem sc_second_sign : FnScope ["house", "signs", "room", "k", "a", "b", "_"] ["house", "signs", "room"] (defScope s_second_sign) := ⟨rfl, rfl, rfl, by decide +kernel, rfl, by decide +kernel, by decide +kernel⟩
noncomputable def L1_second_sign : SF := (sIf (bAnd (bB (eOp dEq (eVar 4) (eVar 2))) (bAnd (bB (eOp dNe (eVar 3) (eOp dIx (eVar 1) (eVar 2)))) (bB (eOp (dInB true) (eVar 2) (eOp dIx (eFz (oCall F_led (rVal (eVar 0) (rVal (eVar 1) (rVal (eVar 5) rNil))))) (eC (.int 1))))))) (sRet (eVar 3)) sNext)
noncomputable def F_second_sign : Fnc := mkF 7 (sSeq (sFor (lEnum (eOp dIx (eVar 0) (eC (.int 1)))) (gTupF (gsCons (gNm 3) (gsCons (gTupF (gsCons (gNm 4) (gsCons (gNm 5) (gsCons (gNm 6) (gsCons (gNm 6) gsNil)))) 4) gsNil)) 2) (L1_second_sign)) (sRet (eC .none)))
theorem ok_second_sign {f : Addr} {fd : FuncData} (F : Fun K "second_sign" "second_sign" s_second_sign f fd) (B : Bt mg) (D_led : Dk P w K mg base "led" 1 3 F_led) : FnOk P w K mg base CX0 2 f fd ["house", "signs", "room"] (spF K 3 F_second_sign) :=
  def_ok F sc_second_sign (by decide) fun cdv A outer s H E hr =>
    (fss_cons (fs_for PassesOwn.never rfl (fi_enum (fe_ix (fv 0) fe_int) B.enumerate) (fg_tup rfl (fgs_cons (fgn 3 sc_second_sign.nd) (fgs_cons (fg_tup rfl (fgs_cons (fgn 4 sc_second_sign.nd) (fgs_cons (fgn 5 sc_second_sign.nd) (fgs_cons (fgn 6 sc_second_sign.nd) (fgs_cons (fgn 6 sc_second_sign.nd) fgs_nil))))) fgs_nil))) (fss_one (fs_if (FW.ft (fw_and (fc_eq ⟨rfl, sc_second_sign.nd, hr⟩ (fv 4) (fb_fe (fv 2))).t (fw_and (fc_ne ⟨rfl, sc_second_sign.nd, hr⟩ (fv 3) (fb_fe (fe_ix (fv 1) (fv 2)))).t (fw_and1 (fc_notin ⟨rfl, sc_second_sign.nd, hr⟩ (fv 2) (fb_fe (fe_ix (fe_fo (foc D_led (hr.mono (by decide)) (fr_val (fv 0) (fr_val (fv 1) (fr_val (fv 5) fr_nil))))) fe_int))).t)))) (fss_one (fs_ret (fv 3))) fss_nil))) (fss_one (fs_ret fe_non)))
/-! ### second_signs -/
abbrev s_second_signs : Stmt := topS 4
theorem sc_second_signs : FnScope ["house", "signs", "found", "room", "k"] ["house", "signs"] (defScope s_second_signs) := ⟨rfl, rfl, rfl, by decide +kernel, rfl, by decide +kernel, by decide +kernel⟩
noncomputable def L1_second_signs : SF := (sSeq (sSet 4 (oE (eIf (bB (eOp (dInB false) (eVar 3) (eOp dIx (eVar 0) (eC (.int 2))))) (eC .none) (eFz (oCall F_second_sign (rVal (eVar 0) (rVal (eVar 1) (rVal (eVar 3) rNil)))))))) (sSeq (sIf (bAnd (bB (eOp dIs (eVar 4) (eC .none))) (bB (eOp (dInB true) (eVar 3) (eOp dIx (eVar 0) (eC (.int 2)))))) (sRet (eTup (aCons (eC (.str "none")) (aCons (eVar 3) aNil)))) sNext) (sDrop (eMt1 gAppend 2 (eVar 4)))))
noncomputable def F_second_signs : Fnc := mkF 5 (sSeq (sSet 2 (oLst aNil)) (sSeq (sFor (lRng1 (eOp dIx (eVar 0) (eC (.int 0)))) (gNm 3) (L1_second_signs)) (sRet (eTup (aCons (eC (.str "signs")) (aCons (eUn dTuple (eOwn 2)) aNil))))))
theorem ok_second_signs {f : Addr} {fd : FuncData} (F : Fun K "second_signs" "second_signs" s_second_signs f fd) (B : Bt mg) (D_second_sign : Dk P w K mg base "second_sign" 2 3 F_second_sign) : FnOk P w K mg base CX0 3 f fd ["house", "signs"] (spF K 2 F_second_signs) :=
  def_ok F sc_second_signs (by decide) fun cdv A outer s H E hr =>
    (fss_cons (fset 2 sc_second_signs.nd (fo_lst fa_nil)) (fss_cons (fs_for PassesOwn.never rfl (fi_rng1 (fe_ix (fv 0) fe_int) B.range) (fgn 3 sc_second_signs.nd) (fss_cons (fset 4 sc_second_signs.nd (fo_fe (fe_if (fc_in ⟨rfl, sc_second_signs.nd, hr⟩ (fv 3) (fb_fe (fe_ix (fv 0) fe_int))).t fe_non (fe_fo (foc D_second_sign (hr.mono (by decide)) (fr_val (fv 0) (fr_val (fv 1) (fr_val (fv 3) fr_nil)))))))) (fss_cons (fs_if (FW.ft (fw_and (fc_is ⟨rfl, sc_second_signs.nd, hr⟩ (fv 4) (fb_fe fe_non)).t (fw_and1 (fc_notin ⟨rfl, sc_second_signs.nd, hr⟩ (fv 3) (fb_fe (fe_ix (fv 0) fe_int))).t))) (fss_one (fs_ret (fe_tup (fa_cons fe_str (fa_cons (fv 3) fa_nil))))) fss_nil) (fss_one (fs_expr (fapp 2 (fv 4))))))) (fss_one (fs_ret (fe_tup (fa_cons fe_str (fa_cons (fe_tuple (fo 2) B.tuple) fa_nil)))))))
/-! ### _law_same -/
abbrev s__law_same : Stmt := topS 9
theorem sc__law_same : FnScope ["a", "b", "k"] ["a", "b"] (defScope s__law_same) := ⟨rfl, rfl, rfl, by decide +kernel, rfl, by decide +kernel, by decide +kernel⟩
noncomputable def K1__law_same (F : Fnc) : EF := (eFz (oCall F (rVal (eOp dIx (eVar 0) (eVar 2)) (rVal (eOp dIx (eVar 1) (eVar 2)) rNil))))
noncomputable def B__law_same (F : Fnc) : SF := (sSeq (sIf (bOr (bAnd (bE (eUn (dIsi isTup) (eVar 0))) (bE (eUn (dIsi isTup) (eVar 1)))) (bAnd (bE (eUn (dIsi isLst) (eVar 0))) (bE (eUn (dIsi isLst) (eVar 1))))) (sRet (eAnd (eOp dEq (eUn dLen (eVar 0)) (eUn dLen (eVar 1))) (eUn dAll (eFz (oComp (lRng1 (eUn dLen (eVar 0))) (gNm 2) bYes (K1__law_same F) [2]))))) sNext) (sSeq (sIf (bOr (bE (eUn (dIsi isBool) (eVar 0))) (bE (eUn (dIsi isBool) (eVar 1)))) (sRet (eAnd (eUn (dIsi isBool) (eVar 0)) (eAnd (eUn (dIsi isBool) (eVar 1)) (eOp dEq (eVar 0) (eVar 1))))) sNext) (sSeq (sIf (bOr (bAnd (bE (eUn (dIsi isIntB) (eVar 0))) (bE (eUn (dIsi isIntB) (eVar 1)))) (bAnd (bE (eUn (dIsi isStr) (eVar 0))) (bE (eUn (dIsi isStr) (eVar 1))))) (sRet (eOp dEq (eVar 0) (eVar 1))) sNext) (sRet (eAnd (eOp dIs (eVar 0) (eC .none)) (eOp dIs (eVar 1) (eC .none)))))))
noncomputable def R__law_same : Nat → Fnc
  | 0 => fun _ => none
  | k + 1 => mkF 3 (B__law_same (R__law_same k))
noncomputable def F__law_same : Fnc := R__law_same 20
theorem st__law_same {f : Addr} {fd : FuncData} {k : Nat} {G : Fnc} (F : Fun K "_law_same" "_law_same" s__law_same f fd) (B : Bt mg) (D : Dk P w K mg base "_law_same" k 2 G) (hk : 0 ≤ k) : FnOk P w K mg base CX0 (k + 1) f fd ["a", "b"] (spF K 2 (mkF 3 (B__law_same G))) :=
  def_ok F sc__law_same (by decide) fun cdv A outer s H E hr =>
    (fss_cons (fs_if (FW.ft (fw_or (FW.ft (fw_and (ft_e (fb_fe (fe_isi kit_tup (fv 0) B.isinstance B.tuple (by decide +kernel))) (by intro _; rfl)) (fw_and1 (ft_e (fb_fe (fe_isi kit_tup (fv 1) B.isinstance B.tuple (by decide +kernel))) (by intro _; rfl))))) (fw_or1 (FW.ft (fw_and (ft_e (fb_fe (fe_isi kit_lst (fv 0) B.isinstance B.list (by decide +kernel))) (by intro _; rfl)) (fw_and1 (ft_e (fb_fe (fe_isi kit_lst (fv 1) B.isinstance B.list (by decide +kernel))) (by intro _; rfl)))))))) (fss_one (fs_ret (fe_and (fc_eq ⟨rfl, sc__law_same.nd, hr⟩ (fe_len (fb_fe (fv 0)) B.len) (fb_fe (fe_len (fb_fe (fv 1)) B.len))).v (fe_one (fe_all ⟨rfl, sc__law_same.nd, hr⟩ (fb_fe (fe_fo (fo_lc ⟨rfl, sc__law_same.nd, hr⟩ (fi_rng1 (fe_len (fb_fe (fv 0)) B.len) B.range) (blkOk_by (own := [("k", 2)]) (N := ["a", "b", "k"]) (sc := defScope s__law_same) (by decide +kernel)) (fun _ _ _ _ _ => (fgn 2 sc__law_same.nd)) (fun _ _ _ _ _ => fts_nil) (fun _ _ _ _ _ => (fe_fo (foc D hr (fr_val (fe_ix (fv 0) (fv 2)) (fr_val (fe_ix (fv 1) (fv 2)) fr_nil)))))))) B.all))))) fss_nil) (fss_cons (fs_if (FW.ft (fw_or (ft_e (fb_fe (fe_isi kit_bool (fv 0) B.isinstance B.bool (by decide +kernel))) (by intro _; rfl)) (fw_or1 (ft_e (fb_fe (fe_isi kit_bool (fv 1) B.isinstance B.bool (by decide +kernel))) (by intro _; rfl))))) (fss_one (fs_ret (fe_and (fe_isi kit_bool (fv 0) B.isinstance B.bool (by decide +kernel)) (fe_and (fe_isi kit_bool (fv 1) B.isinstance B.bool (by decide +kernel)) (fe_one (fc_eq ⟨rfl, sc__law_same.nd, hr⟩ (fv 0) (fb_fe (fv 1))).v))))) fss_nil) (fss_cons (fs_if (FW.ft (fw_or (FW.ft (fw_and (ft_e (fb_fe (fe_isi kit_int (fv 0) B.isinstance B.int (by decide +kernel))) (by intro _; rfl)) (fw_and1 (ft_e (fb_fe (fe_isi kit_int (fv 1) B.isinstance B.int (by decide +kernel))) (by intro _; rfl))))) (fw_or1 (FW.ft (fw_and (ft_e (fb_fe (fe_isi kit_str (fv 0) B.isinstance B.str (by decide +kernel))) (by intro _; rfl)) (fw_and1 (ft_e (fb_fe (fe_isi kit_str (fv 1) B.isinstance B.str (by decide +kernel))) (by intro _; rfl)))))))) (fss_one (fs_ret (fc_eq ⟨rfl, sc__law_same.nd, hr⟩ (fv 0) (fb_fe (fv 1))).v)) fss_nil) (fss_one (fs_ret (fe_and (fc_is ⟨rfl, sc__law_same.nd, hr⟩ (fv 0) (fb_fe fe_non)).v (fe_one (fc_is ⟨rfl, sc__law_same.nd, hr⟩ (fv 1) (fb_fe fe_non)).v)))))))
/-! ### _law_house -/
abbrev s__law_house : Stmt := topS 10
theorem sc__law_house : FnScope ["tape", "most", "many", "wide", "long", "n", "doors", "k", "a", "b", "outside", "door"] ["tape", "most", "many", "wide", "long"] (defScope s__law_house) := ⟨rfl, rfl, rfl, by decide +kernel, rfl, by decide +kernel, by decide +kernel⟩
noncomputable def L1__law_house : SF := (sSeq (sSet 8 (oE (eFz (oCall F__law_take (rRef 0 (rVal (eVar 5) rNil)))))) (sSeq (sSet 9 (oE (eOp dAdd (eOp dAdd (eVar 8) (eC (.int 1))) (eFz (oCall F__law_take (rRef 0 (rVal (eOp dSub (eVar 5) (eC (.int 1))) rNil))))))) (sSeq (sSet 9 (oE (eOp dSub (eVar 9) (eOp dMul (eOp dDiv (eVar 9) (eVar 5)) (eVar 5))))) (sDrop (eMt1 gAppend 6 (eTup (aCons (eVar 8) (aCons (eVar 9) (aCons (eOp dAdd (eC (.int 1)) (eFz (oCall F__law_take (rRef 0 (rVal (eVar 3) rNil))))) (aCons (eFz (oCall F__law_take (rRef 0 (rVal (eOp dAdd (eVar 4) (eC (.int 1))) rNil)))) aNil))))))))))
noncomputable def T2__law_house : BF := (bB (eOp dNe (eOp dIx (eVar 11) (eC (.int 0))) (eOp dIx (eVar 11) (eC (.int 1)))))
noncomputable def K3__law_house : EF := (eVar 11)
noncomputable def F__law_house : Fnc := mkF 12 (sSeq (sSet 5 (oE (eOp dAdd (eC (.int 2)) (eFz (oCall F__law_take (rRef 0 (rVal (eOp dSub (eVar 1) (eC (.int 1))) rNil))))))) (sSeq (sSet 6 (oLst aNil)) (sSeq (sFor (lRng1 (eFz (oCall F__law_take (rRef 0 (rVal (eOp dAdd (eVar 2) (eC (.int 1))) rNil))))) (gNm 7) (L1__law_house)) (sSeq (sSet 10 (oE (eOp dAdd (eFz (oLst (aCons (eOp dSub (eVar 5) (eC (.int 1))) aNil))) (eIf (bAnd (bB (eOp dGt (eVar 5) (eC (.int 2)))) (bB (eOp dEq (eFz (oCall F__law_take (rRef 0 (rVal (eC (.int 3)) rNil)))) (eC (.int 0))))) (eFz (oLst (aCons (eOp dSub (eVar 5) (eC (.int 2))) aNil))) (eFz (oLst aNil)))))) (sRet (eTup (aCons (eVar 5) (aCons (eUn dTuple (eFz (oComp (lOf (eNm 6)) (gNm 11) (T2__law_house) (K3__law_house) [11]))) (aCons (eUn dTuple (eFz (oUn dSorted (eVar 10)))) aNil)))))))))
theorem ok__law_house {f : Addr} {fd : FuncData} (F : Fun K "_law_house" "_law_house" s__law_house f fd) (B : Bt mg) (D__law_take : Dk P w K mg base "_law_take" 2 2 F__law_take) : FnOk P w K mg base CX0 3 f fd ["tape", "most", "many", "wide", "long"] (spF K 5 F__law_house) :=
  def_ok F sc__law_house (by decide) fun cdv A outer s H E hr =>
    (fss_cons (fset 5 sc__law_house.nd (fo_fe (fe_add fe_int (fb_fe (fe_fo (foc D__law_take (hr.mono (by decide)) (frf 0 (fr_val (fe_sub (fv 1) (fb_fe fe_int)) fr_nil)))))))) (fss_cons (fset 6 sc__law_house.nd (fo_lst fa_nil)) (fss_cons (fs_for PassesOwn.never rfl (fi_rng1 (fe_fo (foc D__law_take (hr.mono (by decide)) (frf 0 (fr_val (fe_add (fv 2) (fb_fe fe_int)) fr_nil)))) B.range) (fgn 7 sc__law_house.nd) (fss_cons (fset 8 sc__law_house.nd (fo_fe (fe_fo (foc D__law_take (hr.mono (by decide)) (frf 0 (fr_val (fv 5) fr_nil)))))) (fss_cons (fset 9 sc__law_house.nd (fo_fe (fe_add (fe_add (fv 8) (fb_fe fe_int)) (fb_fe (fe_fo (foc D__law_take (hr.mono (by decide)) (frf 0 (fr_val (fe_sub (fv 5) (fb_fe fe_int)) fr_nil)))))))) (fss_cons (fset 9 sc__law_house.nd (fo_fe (fe_sub (fv 9) (fb_fe (fe_mul (fe_div (fv 9) (fb_fe (fv 5))) (fb_fe (fv 5))))))) (fss_one (fs_expr (fapp 6 (fe_tup (fa_cons (fv 8) (fa_cons (fv 9) (fa_cons (fe_add fe_int (fb_fe (fe_fo (foc D__law_take (hr.mono (by decide)) (frf 0 (fr_val (fv 3) fr_nil)))))) (fa_cons (fe_fo (foc D__law_take (hr.mono (by decide)) (frf 0 (fr_val (fe_add (fv 4) (fb_fe fe_int)) fr_nil)))) fa_nil)))))))))))) (fss_cons (fset 10 sc__law_house.nd (fo_fe (fe_add (fe_fo (fo_lst (fa_cons (fe_sub (fv 5) (fb_fe fe_int)) fa_nil))) (fb_fe (fe_if (FW.ft (fw_and (fc_gt ⟨rfl, sc__law_house.nd, hr⟩ (fv 5) (fb_fe fe_int)).t (fw_and1 (fc_eq ⟨rfl, sc__law_house.nd, hr⟩ (fe_fo (foc D__law_take (hr.mono (by decide)) (frf 0 (fr_val fe_int fr_nil)))) (fb_fe fe_int)).t))) (fe_fo (fo_lst (fa_cons (fe_sub (fv 5) (fb_fe fe_int)) fa_nil))) (fe_fo (fo_lst fa_nil))))))) (fss_one (fs_ret (fe_tup (fa_cons (fv 5) (fa_cons (fe_tuple (fb_fe (fe_fo (fo_lc ⟨rfl, sc__law_house.nd, hr⟩ (fi_seq (fm 6)) (blkOk_by (own := [("door", 11)]) (N := ["tape", "most", "many", "wide", "long", "n", "doors", "k", "a", "b", "outside", "door"]) (sc := defScope s__law_house) (by decide +kernel)) (fun _ _ _ _ _ => (fgn 11 sc__law_house.nd)) (fun _ _ _ _ _ => (fts_one (fc_ne ⟨rfl, sc__law_house.nd, hr⟩ (fe_ix (fv 11) fe_int) (fb_fe (fe_ix (fv 11) fe_int))).t)) (fun _ _ _ _ _ => (fv 11))))) B.tuple) (fa_cons (fe_tuple (fb_fe (fe_fo (fo_sorted (fb_fe (fv 10)) B.sorted))) B.tuple) fa_nil))))))))))
/-! ### _law_led -/
abbrev s__law_led : Stmt := topS 11
theorem sc__law_led : FnScope ["house", "signs", "room", "rooms", "step", "here"] ["house", "signs", "room"] (defScope s__law_led) := ⟨rfl, rfl, rfl, by decide +kernel, rfl, by decide +kernel, by decide +kernel⟩
noncomputable def L1__law_led : SF := (sSeq (sSet 5 (oE (eIxO 3 (eUn dNeg (eC (.int 1)))))) (sSeq (sIf (bB (eOp (dInB false) (eVar 5) (eOp dIx (eVar 0) (eC (.int 2))))) (sRet (eTup (aCons (eC (.str "out")) (aCons (eUn dTuple (eOwn 3)) aNil)))) sNext) (sSeq (sIf (bB (eOp (dInB false) (eVar 5) (eSlO 3 pNo (pSo (eUn dNeg (eC (.int 1))))))) (sRet (eTup (aCons (eC (.str "ring")) (aCons (eUn dTuple (eOwn 3)) aNil)))) sNext) (sSeq (sIf (bB (eOp dIs (eOp dIx (eVar 1) (eVar 5)) (eC .none))) (sRet (eTup (aCons (eC (.str "stuck")) (aCons (eUn dTuple (eOwn 3)) aNil)))) sNext) (sDrop (eMt1 gAppend 3 (eOp dIx (eOp dIx (eOp dIx (eVar 0) (eC (.int 1))) (eOp dIx (eVar 1) (eVar 5))) (eC (.int 1)))))))))
noncomputable def F__law_led : Fnc := mkF 6 (sSeq (sSet 3 (oLst (aCons (eVar 2) aNil))) (sSeq (sFor (lRng1 (eOp dAdd (eOp dIx (eVar 0) (eC (.int 0))) (eC (.int 1)))) (gNm 4) (L1__law_led)) (sRet (eC .none))))
theorem ok__law_led {f : Addr} {fd : FuncData} (F : Fun K "_law_led" "_law_led" s__law_led f fd) (B : Bt mg) : FnOk P w K mg base CX0 1 f fd ["house", "signs", "room"] (spF K 3 F__law_led) :=
  def_ok F sc__law_led (by decide) fun cdv A outer s H E hr =>
    (fss_cons (fset 3 sc__law_led.nd (fo_lst (fa_cons (fv 2) fa_nil))) (fss_cons (fs_for PassesOwn.never rfl (fi_rng1 (fe_add (fe_ix (fv 0) fe_int) (fb_fe fe_int)) B.range) (fgn 4 sc__law_led.nd) (fss_cons (fset 5 sc__law_led.nd (fo_fe (fixo 3 (fe_neg (fb_fe fe_int))))) (fss_cons (fs_if (fc_in ⟨rfl, sc__law_led.nd, hr⟩ (fv 5) (fb_fe (fe_ix (fv 0) fe_int))).t (fss_one (fs_ret (fe_tup (fa_cons fe_str (fa_cons (fe_tuple (fo 3) B.tuple) fa_nil))))) fss_nil) (fss_cons (fs_if (fc_in ⟨rfl, sc__law_led.nd, hr⟩ (fv 5) (fb_fe (fslo 3 fp_no (fp_so (fe_neg (fb_fe fe_int)))))).t (fss_one (fs_ret (fe_tup (fa_cons fe_str (fa_cons (fe_tuple (fo 3) B.tuple) fa_nil))))) fss_nil) (fss_cons (fs_if (fc_is ⟨rfl, sc__law_led.nd, hr⟩ (fe_ix (fv 1) (fv 5)) (fb_fe fe_non)).t (fss_one (fs_ret (fe_tup (fa_cons fe_str (fa_cons (fe_tuple (fo 3) B.tuple) fa_nil))))) fss_nil) (fss_one (fs_expr (fapp 3 (fe_ix (fe_ix (fe_ix (fv 0) fe_int) (fe_ix (fv 1) (fv 5))) fe_int))))))))) (fss_one (fs_ret fe_non))))
/-! ### _law_right -/
abbrev s__law_right : Stmt := topS 12
theorem sc__law_right : FnScope ["house", "signs", "room"] ["house", "signs"] (defScope s__law_right) := ⟨rfl, rfl, rfl, by decide +kernel, rfl, by decide +kernel, by decide +kernel⟩
noncomputable def K1__law_right : EF := (eOp dEq (eOp dIx (eFz (oCall F__law_led (rVal (eVar 0) (rVal (eVar 1) (rVal (eVar 2) rNil))))) (eC (.int 0))) (eC (.str "out")))
noncomputable def F__law_right : Fnc := mkF 3 (sRet (eUn dAll (eFz (oComp (lRng1 (eOp dIx (eVar 0) (eC (.int 0)))) (gNm 2) bYes (K1__law_right) [2]))))
theorem ok__law_right {f : Addr} {fd : FuncData} (F : Fun K "_law_right" "_law_right" s__law_right f fd) (B : Bt mg) (D__law_led : Dk P w K mg base "_law_led" 1 3 F__law_led) : FnOk P w K mg base CX0 2 f fd ["house", "signs"] (spF K 2 F__law_right) :=
  def_ok F sc__law_right (by decide) fun cdv A outer s H E hr =>
    (fss_one (fs_ret (fe_all ⟨rfl, sc__law_right.nd, hr⟩ (fb_fe (fe_fo (fo_lc ⟨rfl, sc__law_right.nd, hr⟩ (fi_rng1 (fe_ix (fv 0) fe_int) B.range) (blkOk_by (own := [("room", 2)]) (N := ["house", "signs", "room"]) (sc := defScope s__law_right) (by decide +kernel)) (fun _ _ _ _ _ => (fgn 2 sc__law_right.nd)) (fun _ _ _ _ _ => fts_nil) (fun _ _ _ _ _ => (fc_eq ⟨rfl, sc__law_right.nd, hr⟩ (fe_ix (fe_fo (foc D__law_led (hr.mono (by decide)) (fr_val (fv 0) (fr_val (fv 1) (fr_val (fv 2) fr_nil))))) fe_int) (fb_fe fe_str)).v)))) B.all)))
/-! ### _law_all_signs -/
abbrev s__law_all_signs : Stmt := topS 13
theorem sc__law_all_signs : FnScope ["house", "rows", "room", "doors", "choices", "further", "row", "k"] ["house"] (defScope s__law_all_signs) := ⟨rfl, rfl, rfl, by decide +kernel, rfl, by decide +kernel, by decide +kernel⟩
noncomputable def T1__law_all_signs : BF := (bB (eOp dEq (eOp dIx (eOp dIx (eOp dIx (eVar 0) (eC (.int 1))) (eVar 7)) (eC (.int 0))) (eVar 2)))
noncomputable def K2__law_all_signs : EF := (eVar 7)
noncomputable def K3__law_all_signs : EF := (eOp dAdd (eVar 6) (eTup (aCons (eVar 7) aNil)))
noncomputable def L4__law_all_signs : SF := (sDrop (eMt1 gExtend 5 (eFz (oComp (lOf (eVar 4)) (gNm 7) bYes (K3__law_all_signs) [7]))))
noncomputable def L5__law_all_signs : SF := (sSeq (sSet 3 (oE (eFz (oComp (lRng1 (eUn dLen (eOp dIx (eVar 0) (eC (.int 1))))) (gNm 7) (T1__law_all_signs) (K2__law_all_signs) [7])))) (sSeq (sSet 4 (oE (eIf (bOr (bB (eOp (dInB false) (eVar 2) (eOp dIx (eVar 0) (eC (.int 2))))) (bB (eOp dEq (eVar 3) (eFz (oLst aNil))))) (eFz (oLst (aCons (eC .none) aNil))) (eVar 3)))) (sSeq (sSet 5 (oLst aNil)) (sSeq (sFor (lOf (eVar 1)) (gNm 6) (L4__law_all_signs)) (sSet 1 (oE (eNm 5)))))))
noncomputable def F__law_all_signs : Fnc := mkF 8 (sSeq (sSet 1 (oE (eFz (oLst (aCons (eTup aNil) aNil))))) (sSeq (sFor (lRng1 (eOp dIx (eVar 0) (eC (.int 0)))) (gNm 2) (L5__law_all_signs)) (sRet (eVar 1))))
theorem ok__law_all_signs {f : Addr} {fd : FuncData} (F : Fun K "_law_all_signs" "_law_all_signs" s__law_all_signs f fd) (B : Bt mg) : FnOk P w K mg base CX0 1 f fd ["house"] (spF K 1 F__law_all_signs) :=
  def_ok F sc__law_all_signs (by decide) fun cdv A outer s H E hr =>
    (fss_cons (fset 1 sc__law_all_signs.nd (fo_fe (fe_fo (fo_lst (fa_cons (fe_tup fa_nil) fa_nil))))) (fss_cons (fs_for PassesOwn.never rfl (fi_rng1 (fe_ix (fv 0) fe_int) B.range) (fgn 2 sc__law_all_signs.nd) (fss_cons (fs_setLcZ (i := 3) ⟨rfl, sc__law_all_signs.nd, hr⟩ rfl rfl (sw_true rfl rfl rfl (by decide +kernel)) (fi_rng1 (fe_len (fb_fe (fe_ix (fv 0) fe_int)) B.len) B.range) (blkOk_by (own := [("k", 7)]) (N := ["house", "rows", "room", "doors", "choices", "further", "row", "k"]) (sc := defScope s__law_all_signs) (by decide +kernel)) (fun _ _ _ _ _ => (fgn 7 sc__law_all_signs.nd)) (fun _ _ _ _ _ => (fts_one (fc_eq ⟨rfl, sc__law_all_signs.nd, hr⟩ (fe_ix (fe_ix (fe_ix (fv 0) fe_int) (fv 7)) fe_int) (fb_fe (fv 2))).t)) (fun _ _ _ _ _ => (fv 7))) (fss_cons (fset 4 sc__law_all_signs.nd (fo_fe (fe_if (FW.ft (fw_or (fc_in ⟨rfl, sc__law_all_signs.nd, hr⟩ (fv 2) (fb_fe (fe_ix (fv 0) fe_int))).t (fw_or1 (fc_eq ⟨rfl, sc__law_all_signs.nd, hr⟩ (fv 3) (fb_fe (fe_fo (fo_lst fa_nil)))).t))) (fe_fo (fo_lst (fa_cons fe_non fa_nil))) (fv 3)))) (fss_cons (fset 5 sc__law_all_signs.nd (fo_lst fa_nil)) (fss_cons (fs_for PassesOwn.never rfl (fi_seq (fv 1)) (fgn 6 sc__law_all_signs.nd) (fss_one (fs_expr (fext 5 (fe_fo (fo_lc ⟨rfl, sc__law_all_signs.nd, hr⟩ (fi_seq (fv 4)) (blkOk_by (own := [("k", 7)]) (N := ["house", "rows", "room", "doors", "choices", "further", "row", "k"]) (sc := defScope s__law_all_signs) (by decide +kernel)) (fun _ _ _ _ _ => (fgn 7 sc__law_all_signs.nd)) (fun _ _ _ _ _ => fts_nil) (fun _ _ _ _ _ => (fe_add (fv 6) (fb_fe (fe_tup (fa_cons (fv 7) fa_nil))))))))))) (fss_one (fset 1 sc__law_all_signs.nd (fo_fe (fm 5))))))))) (fss_one (fs_ret (fv 1)))))
/-! ### law -/
abbrev s_law : Stmt := topS 14
theorem sc_law : FnScope ["script", "tape", "turn", "house", "rows", "signs_here", "due", "bare", "room", "fit", "told_here", "turned_here", "k", "row", "j"] ["script"] (defScope s_law) := ⟨rfl, rfl, rfl, by decide +kernel, rfl, by decide +kernel, by decide +kernel⟩
noncomputable def T1_law : BF := (bE (eFz (oCall F__law_right (rVal (eVar 3) (rVal (eVar 13) rNil)))))
noncomputable def K2_law : EF := (eVar 13)
noncomputable def T3_law : BF := (bAnd (bB (eOp dEq (eOp dIx (eOp dIx (eOp dIx (eVar 3) (eC (.int 1))) (eVar 12)) (eC (.int 0))) (eVar 8))) (bAnd (bB (eOp dNe (eVar 12) (eOp dIx (eVar 5) (eVar 8)))) (bB (eOp (dInB true) (eVar 8) (eOp dIx (eFz (oCall F__law_led (rVal (eVar 3) (rVal (eVar 5) (rVal (eOp dIx (eOp dIx (eOp dIx (eVar 3) (eC (.int 1))) (eVar 12)) (eC (.int 1))) rNil))))) (eC (.int 1)))))))
noncomputable def K4_law : EF := (eVar 12)
noncomputable def L5_law : SF := (sSeq (sSet 9 (oE (eFz (oComp (lRng1 (eUn dLen (eOp dIx (eVar 3) (eC (.int 1))))) (gNm 12) (T3_law) (K4_law) [12])))) (sSeq (sDrop (eMt1 gAppend 6 (eIf (bOr (bB (eOp (dInB false) (eVar 8) (eOp dIx (eVar 3) (eC (.int 2))))) (bB (eOp dEq (eVar 9) (eFz (oLst aNil))))) (eC .none) (eOp dIx (eVar 9) (eC (.int 0)))))) (sIf (bAnd (bB (eOp (dInB true) (eVar 8) (eOp dIx (eVar 3) (eC (.int 2))))) (bB (eOp dEq (eVar 9) (eFz (oLst aNil))))) (sDrop (eMt1 gAppend 7 (eVar 8))) sNext)))
noncomputable def L6_law : SF := (sIf (bB (eOp (dInB true) (eVar 8) (eOp dIx (eVar 3) (eC (.int 2))))) (sSeq (sSet 11 (oE (eOp dAdd (eOp dAdd (eSl (eVar 5) pNo (pSo (eVar 8))) (eTup (aCons (eIxO 6 (eVar 8)) aNil))) (eSl (eVar 5) (pSo (eOp dAdd (eVar 8) (eC (.int 1)))) pNo)))) (sIf (bNot (bE (eFz (oCall F__law_right (rVal (eVar 3) (rVal (eVar 11) rNil)))))) (sRet (eC (.bool false))) sNext)) sNext)
noncomputable def T7_law : BF := (bAnd (bB (eOp dEq (eOp dIx (eOp dIx (eOp dIx (eVar 3) (eC (.int 1))) (eVar 14)) (eC (.int 0))) (eVar 8))) (bB (eOp dNe (eVar 14) (eOp dIx (eVar 5) (eVar 8)))))
noncomputable def K8_law : EF := (eVar 14)
noncomputable def L9_law : SF := (sIf (bE (eFz (oCall F__law_right (rVal (eVar 3) (rVal (eOp dAdd (eOp dAdd (eSl (eVar 5) pNo (pSo (eVar 8))) (eTup (aCons (eVar 12) aNil))) (eSl (eVar 5) (pSo (eOp dAdd (eVar 8) (eC (.int 1)))) pNo)) rNil))))) (sRet (eC (.bool false))) sNext)
noncomputable def L10_law : SF := (sFor (lOf (eFz (oComp (lRng1 (eUn dLen (eOp dIx (eVar 3) (eC (.int 1))))) (gNm 14) (T7_law) (K8_law) [14]))) (gNm 12) (L9_law))
noncomputable def L11_law : SF := (sSeq (sSet 3 (oE (eFz (oCall F__law_house (rRef 1 (rVal (eC (.int 6)) (rVal (eC (.int 15)) (rVal (eC (.int 2)) (rVal (eC (.int 1)) rNil))))))))) (sSeq (sSet 4 (oE (eFz (oComp (lOf (eSl (eFz (oCall F__law_all_signs (rVal (eVar 3) rNil))) pNo (pSo (eC (.int 400))))) (gNm 13) (T1_law) (K2_law) [13])))) (sSeq (sIf (bB (eOp dEq (eVar 4) (eFz (oLst aNil)))) sCont sNext) (sSeq (sSet 5 (oE (eOp dIx (eVar 4) (eFz (oCall F__law_take (rRef 1 (rVal (eUn dLen (eVar 4)) rNil))))))) (sSeq (sPar [6, 7] (olCons (oLst aNil) (olCons (oLst aNil) olNil))) (sSeq (sFor (lRng1 (eOp dIx (eVar 3) (eC (.int 0)))) (gNm 8) (L5_law)) (sSeq (sSet 10 (oE (eFz (oCall F_second_signs (rVal (eVar 3) (rVal (eVar 5) rNil)))))) (sSeq (sIf (bNot (bE (eFz (oCall F__law_same (rVal (eVar 10) (rVal (eIf (bB (eOp dNe (eNm 7) (eFz (oLst aNil)))) (eTup (aCons (eC (.str "none")) (aCons (eIxO 7 (eC (.int 0))) aNil))) (eTup (aCons (eC (.str "signs")) (aCons (eUn dTuple (eOwn 6)) aNil)))) rNil)))))) (sRet (eC (.bool false))) sNext) (sSeq (sIf (bB (eOp dEq (eNm 7) (eFz (oLst aNil)))) (sFor (lRng1 (eOp dIx (eVar 3) (eC (.int 0)))) (gNm 8) (L6_law)) sNext) (sFor (lOf (eNm 7)) (gNm 8) (L10_law)))))))))))
noncomputable def F_law : SF := (sSeq (sFor (lRng1 (eC (.int 4))) (gNm 2) (L11_law)) (sRet (eC (.bool true))))
theorem ok_law_rest {f : Addr} (B : Bt mg) (D__law_house : Dk P w K mg base "_law_house" 3 5 F__law_house) (D__law_all_signs : Dk P w K mg base "_law_all_signs" 1 1 F__law_all_signs) (D__law_right : Dk P w K mg base "_law_right" 2 2 F__law_right) (D__law_take : Dk P w K mg base "_law_take" 2 2 F__law_take) (D__law_led : Dk P w K mg base "_law_led" 1 3 F__law_led) (D_second_signs : Dk P w K mg base "second_signs" 3 2 F_second_signs) (D__law_same : Dk P w K mg base "_law_same" 20 2 F__law_same) (cdv : Value) (A : Around) (outer : List Env) (s : Shared) (H : Hp) (E : XK) (hr : Room 20 (A.deeper (envOfC "law" (defScope s_law) s.heap.objs.size f cdv))) :
    FSs (cxOf CX0 P w K mg base ["script", "tape", "turn", "house", "rows", "signs_here", "due", "bare", "room", "fit", "told_here", "turned_here", "k", "row", "j"] "law" (defScope s_law) f cdv A outer s H E).nox ((defBody s_law).drop 1) F_law :=
  (fss_cons (fs_for PassesOwn.never rfl (fi_rng1 fe_int B.range) (fgn 2 sc_law.nd) (fss_cons (fset 3 sc_law.nd (fo_fe (fe_fo (foc D__law_house (hr.mono (by decide)) (frf 1 (fr_val fe_int (fr_val fe_int (fr_val fe_int (fr_val fe_int fr_nil))))))))) (fss_cons (fs_setLcZ (i := 4) ⟨rfl, sc_law.nd, hr⟩ rfl rfl (sw_true rfl rfl rfl (by decide +kernel)) (fi_seq (fe_sl (fe_fo (foc D__law_all_signs (hr.mono (by decide)) (fr_val (fv 3) fr_nil))) fp_no (fp_so fe_int))) (blkOk_by (own := [("row", 13)]) (N := ["script", "tape", "turn", "house", "rows", "signs_here", "due", "bare", "room", "fit", "told_here", "turned_here", "k", "row", "j"]) (sc := defScope s_law) (by decide +kernel)) (fun _ _ _ _ _ => (fgn 13 sc_law.nd)) (fun _ _ _ _ _ => (fts_one (ft_e (fb_fe (fe_fo (foc D__law_right (hr.mono (by decide)) (fr_val (fv 3) (fr_val (fv 13) fr_nil))))) (by intro _; rfl)))) (fun _ _ _ _ _ => (fv 13))) (fss_cons (fs_if (fc_eq ⟨rfl, sc_law.nd, hr⟩ (fv 4) (fb_fe (fe_fo (fo_lst fa_nil)))).t (fss_one fs_cont) fss_nil) (fss_cons (fset 5 sc_law.nd (fo_fe (fe_ix (fv 4) (fe_fo (foc D__law_take (hr.mono (by decide)) (frf 1 (fr_val (fe_len (fb_fe (fv 4)) B.len) fr_nil))))))) (fss_cons (fpar 6 7 sc_law.nd (fol_cons (fo_lst fa_nil) (fol_cons (fo_lst fa_nil) fol_nil))) (fss_cons (fs_for PassesOwn.never rfl (fi_rng1 (fe_ix (fv 3) fe_int) B.range) (fgn 8 sc_law.nd) (fss_cons (fs_setLcZ (i := 9) ⟨rfl, sc_law.nd, hr⟩ rfl rfl (sw_true rfl rfl rfl (by decide +kernel)) (fi_rng1 (fe_len (fb_fe (fe_ix (fv 3) fe_int)) B.len) B.range) (blkOk_by (own := [("k", 12)]) (N := ["script", "tape", "turn", "house", "rows", "signs_here", "due", "bare", "room", "fit", "told_here", "turned_here", "k", "row", "j"]) (sc := defScope s_law) (by decide +kernel)) (fun _ _ _ _ _ => (fgn 12 sc_law.nd)) (fun _ _ _ _ _ => (fts_one (FW.ft (fw_and (fc_eq ⟨rfl, sc_law.nd, hr⟩ (fe_ix (fe_ix (fe_ix (fv 3) fe_int) (fv 12)) fe_int) (fb_fe (fv 8))).t (fw_and (fc_ne ⟨rfl, sc_law.nd, hr⟩ (fv 12) (fb_fe (fe_ix (fv 5) (fv 8)))).t (fw_and1 (fc_notin ⟨rfl, sc_law.nd, hr⟩ (fv 8) (fb_fe (fe_ix (fe_fo (foc D__law_led (hr.mono (by decide)) (fr_val (fv 3) (fr_val (fv 5) (fr_val (fe_ix (fe_ix (fe_ix (fv 3) fe_int) (fv 12)) fe_int) fr_nil))))) fe_int))).t)))))) (fun _ _ _ _ _ => (fv 12))) (fss_cons (fs_expr (fapp 6 (fe_if (FW.ft (fw_or (fc_in ⟨rfl, sc_law.nd, hr⟩ (fv 8) (fb_fe (fe_ix (fv 3) fe_int))).t (fw_or1 (fc_eq ⟨rfl, sc_law.nd, hr⟩ (fv 9) (fb_fe (fe_fo (fo_lst fa_nil)))).t))) fe_non (fe_ix (fv 9) fe_int)))) (fss_one (fs_if (FW.ft (fw_and (fc_notin ⟨rfl, sc_law.nd, hr⟩ (fv 8) (fb_fe (fe_ix (fv 3) fe_int))).t (fw_and1 (fc_eq ⟨rfl, sc_law.nd, hr⟩ (fv 9) (fb_fe (fe_fo (fo_lst fa_nil)))).t))) (fss_one (fs_expr (fapp 7 (fv 8)))) fss_nil))))) (fss_cons (fset 10 sc_law.nd (fo_fe (fe_fo (foc D_second_signs (hr.mono (by decide)) (fr_val (fv 3) (fr_val (fv 5) fr_nil)))))) (fss_cons (fs_if (ft_not (ft_e (fb_fe (fe_fo (foc D__law_same (hr.mono (by decide)) (fr_val (fv 10) (fr_val (fe_if (fc_ne ⟨rfl, sc_law.nd, hr⟩ (fm 7) (fb_fe (fe_fo (fo_lst fa_nil)))).t (fe_tup (fa_cons fe_str (fa_cons (fixo 7 fe_int) fa_nil))) (fe_tup (fa_cons fe_str (fa_cons (fe_tuple (fo 6) B.tuple) fa_nil)))) fr_nil))))) (by intro _; rfl))) (fss_one (fs_ret fe_bl)) fss_nil) (fss_cons (fs_if (fc_eq ⟨rfl, sc_law.nd, hr⟩ (fm 7) (fb_fe (fe_fo (fo_lst fa_nil)))).t (fss_one (fs_for PassesOwn.never rfl (fi_rng1 (fe_ix (fv 3) fe_int) B.range) (fgn 8 sc_law.nd) (fss_one (fs_if (fc_notin ⟨rfl, sc_law.nd, hr⟩ (fv 8) (fb_fe (fe_ix (fv 3) fe_int))).t (fss_cons (fset 11 sc_law.nd (fo_fe (fe_add (fe_add (fe_sl (fv 5) fp_no (fp_so (fv 8))) (fb_fe (fe_tup (fa_cons (fixo 6 (fv 8)) fa_nil)))) (fb_fe (fe_sl (fv 5) (fp_so (fe_add (fv 8) (fb_fe fe_int))) fp_no))))) (fss_one (fs_if (ft_not (ft_e (fb_fe (fe_fo (foc D__law_right (hr.mono (by decide)) (fr_val (fv 3) (fr_val (fv 11) fr_nil))))) (by intro _; rfl))) (fss_one (fs_ret fe_bl)) fss_nil))) fss_nil)))) fss_nil) (fss_one (fs_for PassesOwn.never rfl (fi_seq (fm 7)) (fgn 8 sc_law.nd) (fss_one (fs_for PassesOwn.never rfl (fi_seq (fe_fo (fo_lc ⟨rfl, sc_law.nd, hr⟩ (fi_rng1 (fe_len (fb_fe (fe_ix (fv 3) fe_int)) B.len) B.range) (blkOk_by (own := [("j", 14)]) (N := ["script", "tape", "turn", "house", "rows", "signs_here", "due", "bare", "room", "fit", "told_here", "turned_here", "k", "row", "j"]) (sc := defScope s_law) (by decide +kernel)) (fun _ _ _ _ _ => (fgn 14 sc_law.nd)) (fun _ _ _ _ _ => (fts_one (FW.ft (fw_and (fc_eq ⟨rfl, sc_law.nd, hr⟩ (fe_ix (fe_ix (fe_ix (fv 3) fe_int) (fv 14)) fe_int) (fb_fe (fv 8))).t (fw_and1 (fc_ne ⟨rfl, sc_law.nd, hr⟩ (fv 14) (fb_fe (fe_ix (fv 5) (fv 8)))).t))))) (fun _ _ _ _ _ => (fv 14))))) (fgn 12 sc_law.nd) (fss_one (fs_if (ft_e (fb_fe (fe_fo (foc D__law_right (hr.mono (by decide)) (fr_val (fv 3) (fr_val (fe_add (fe_add (fe_sl (fv 5) fp_no (fp_so (fv 8))) (fb_fe (fe_tup (fa_cons (fv 12) fa_nil)))) (fb_fe (fe_sl (fv 5) (fp_so (fe_add (fv 8) (fb_fe fe_int))) fp_no))) fr_nil))))) (by intro _; rfl)) (fss_one (fs_ret fe_bl)) fss_nil)))))))))))))))) (fss_one (fs_ret fe_bl)))
end
end Fl

set_option Elab.async false
set_option linter.all false
set_option maxRecDepth 100000
set_option maxHeartbeats 4000000
set_option autoImplicit false
namespace Fl
open PySem PySem.Spec PyProof.Rows L2
local macro_rules | `(tactic| walk_at "ev") => `(tactic| simp -implicitDefEqProofs only [prE_ev, eVar_ev, varC_ev, eNm_ev, nmC_va, nmC_li, eC_ev, vw_va, vw_li, eOwn_ev, eIxO_ev, ixoC_ev, ixoC2_ev, ixoC3_ev, eOp_ev, opC_ev, opC2_ev, eUn_ev, unC_ev, bE_ev, bEC_ev, bB_ev, bBC_ev, bNot_ev, notC_ev, bAnd_ev, andC_t, andC_f, bOr_ev, orC_t, orC_f, bYes_ev, eAnd_ev, eandC_t, eandC_f, eOr_ev, eorC_t, eorC_f, eNot_ev, enotC_ev, eIf_ev, ifC_t, ifC_f, eTup_ev, tupC_ev, aNil_ev, aCons_ev, aconsC_ev, aconsC2_ev, oLst_ev, lstC_ev, oE_ev, oEC_ev, eFz_ev, fzC_va, fzC_li, oUn_ev, ounC_ev, prL_ev, eSl_ev, slC_ev, slC2_ev, slC3_ev, eSlO_ev, sloC_ev, sloC2_ev, sloC3_ev, sloC4_ev, lEnum_ev, enC_tup, enC_lst, pNo_ev, pSo_ev, psoC_ev, lOf_ev, lofC_tup, lofC_lst, lRng1_ev, rng1C_ev, lRng2_ev, rng2C_ev, rng2C2_ev, oRep_ev, repC_ev, repC2_ev, oCall_ev, callC_0, callC_1, callC_2, callC_3, callC_4, callC_5, callC_rv, callC_rv4, arSl_vl, arSl_rf, callC2_ev, arBack_nil, arBack_vl, arBack_rf, rNil_ev, rVal_ev, rvC_ev, rvC2_ev, rRef_ev, rrC_ev, oComp_ev, compC2_ev, wipeE_nil, wipeE_cons, backE_nil, backE_cons, gNm_ev, gTupF_ev, gsNil_ev, gsCons_ev, sNext_ev, sBreak_ev, sCont_ev, sSeq_ev, seqC_nx, seqC_bk, seqC_ct, seqC_rt, sSet_ev, setC_ev, sPar_ev, parC_ev, setAll_nil, setAll_cons, olNil_ev, olCons_ev, olC_ev, olC2_ev, sAsg_ev, asgC_ev, sIf_ev, sifC_t, sifC_f, sFor_ev, forC_ev, sDrop_ev, dropC_ev, sRet_ev, retC_ev, sRetN_ev, retnC_va, retnC_li, liOf_li, eMt1_ev, mt1C_ev, mt1C2_ev, mt1C3_ev, mt1C4_ev, eMt0_ev, mt0C_ev, sSub_ev, subC_ev, subC1_ev, subC2_ev, subC3_ev, subC4_ev, sAug_ev, augC_ev, augC2_ev, augC3_ev, mkF_ev, mkC_rt, mkC_nx, keepE_nil, keepE_va, keepE_ow', dTru_bool, dTru_int, dTru_none, dTru_list, dTru_tuple, dAdd_int, dAdd_tup, dAdd_lst, dIadd_int, dSub_int, dMul_int, dDiv_int, dMod_int, dNeg_int, dMin2_int, dMax2_int, dLtA_int, dLe_int, dLt_int, dGt_int, dGe_int, shaped_int, shaped_bool, shaped_none, eqv_int, eqv_bool, dEq_int, dNe_int, dEq_bool, dIs_none, dIsN_none, isNon_none, isNon_int, isNon_tup, isNon_bool, dLen_tup, dLen_lst, dIx_tup, dIx_lst, at0, at1, at2, at3, gExtend_lst, dTuple_lst, dTuple_tup, dList_lst, dList_tup, dInt_int, dSl_tup, dSl_lst, isTup, isLst, isBool, isIntB, isStr, beq_self_eq_true, decide_true, decide_false, isi_tup, isi_lst, isi_int, isi_bool, isi_str, isi_none, sz0, sz1, sz2, sz3, sz4, sz5, sz6, sz7, sz8, sz9, sz10, sz11, sz12, isOw_no, isOw_va, isOw_li, isOw_di, isOw_dt, isOw_ow, isOw_none, isOw_sl,
  Option.bind_some, Option.map_some, Option.bind_none, Option.map_none, Option.getD_some, Option.getD_none, List.getElem?_cons_zero, List.getElem?_cons_succ, List.set_cons_zero, List.set_cons_succ, List.map_cons, List.map_nil, List.headD_cons, List.headD_nil, List.tail_cons, List.tail_nil, List.isEmpty_nil, List.isEmpty_cons, List.length_nil, List.length_cons, List.nil_append, List.cons_append, List.replicate_succ, List.replicate_zero, Nat.reduceSub, Nat.reduceAdd, Bool.false_eq_true, if_false, if_true, reduceIte, Bool.not_true, Bool.not_false, and_true, true_and, and_self, Int.toNat_natCast, Int.zero_add])
local macro_rules | `(tactic| walk_at "evh") => `(tactic| simp -implicitDefEqProofs only [prE_ev, eVar_ev, varC_ev, eNm_ev, nmC_va, nmC_li, eC_ev, vw_va, vw_li, eOwn_ev, eIxO_ev, ixoC_ev, ixoC2_ev, ixoC3_ev, eOp_ev, opC_ev, opC2_ev, eUn_ev, unC_ev, bE_ev, bEC_ev, bB_ev, bBC_ev, bNot_ev, notC_ev, bAnd_ev, andC_t, andC_f, bOr_ev, orC_t, orC_f, bYes_ev, eAnd_ev, eandC_t, eandC_f, eOr_ev, eorC_t, eorC_f, eNot_ev, enotC_ev, eIf_ev, ifC_t, ifC_f, eTup_ev, tupC_ev, aNil_ev, aCons_ev, aconsC_ev, aconsC2_ev, oLst_ev, lstC_ev, oE_ev, oEC_ev, eFz_ev, fzC_va, fzC_li, oUn_ev, ounC_ev, prL_ev, eSl_ev, slC_ev, slC2_ev, slC3_ev, eSlO_ev, sloC_ev, sloC2_ev, sloC3_ev, sloC4_ev, lEnum_ev, enC_tup, enC_lst, pNo_ev, pSo_ev, psoC_ev, lOf_ev, lofC_tup, lofC_lst, lRng1_ev, rng1C_ev, lRng2_ev, rng2C_ev, rng2C2_ev, oRep_ev, repC_ev, repC2_ev, oCall_ev, callC_0, callC_1, callC_2, callC_3, callC_4, callC_5, callC_rv, callC_rv4, arSl_vl, arSl_rf, callC2_ev, arBack_nil, arBack_vl, arBack_rf, rNil_ev, rVal_ev, rvC_ev, rvC2_ev, rRef_ev, rrC_ev, oComp_ev, compC2_ev, wipeE_nil, wipeE_cons, backE_nil, backE_cons, gNm_ev, gTupF_ev, gsNil_ev, gsCons_ev, sNext_ev, sBreak_ev, sCont_ev, sSeq_ev, seqC_nx, seqC_bk, seqC_ct, seqC_rt, sSet_ev, setC_ev, sPar_ev, parC_ev, setAll_nil, setAll_cons, olNil_ev, olCons_ev, olC_ev, olC2_ev, sAsg_ev, asgC_ev, sIf_ev, sifC_t, sifC_f, sFor_ev, forC_ev, sDrop_ev, dropC_ev, sRet_ev, retC_ev, sRetN_ev, retnC_va, retnC_li, liOf_li, eMt1_ev, mt1C_ev, mt1C2_ev, mt1C3_ev, mt1C4_ev, eMt0_ev, mt0C_ev, sSub_ev, subC_ev, subC1_ev, subC2_ev, subC3_ev, subC4_ev, sAug_ev, augC_ev, augC2_ev, augC3_ev, mkF_ev, mkC_rt, mkC_nx, keepE_nil, keepE_va, keepE_ow', dTru_bool, dTru_int, dTru_none, dTru_list, dTru_tuple, dAdd_int, dAdd_tup, dAdd_lst, dIadd_int, dSub_int, dMul_int, dDiv_int, dMod_int, dNeg_int, dMin2_int, dMax2_int, dLtA_int, dLe_int, dLt_int, dGt_int, dGe_int, shaped_int, shaped_bool, shaped_none, eqv_int, eqv_bool, dEq_int, dNe_int, dEq_bool, dIs_none, dIsN_none, isNon_none, isNon_int, isNon_tup, isNon_bool, dLen_tup, dLen_lst, dIx_tup, dIx_lst, at0, at1, at2, at3, gExtend_lst, dTuple_lst, dTuple_tup, dList_lst, dList_tup, dInt_int, dSl_tup, dSl_lst, isTup, isLst, isBool, isIntB, isStr, beq_self_eq_true, decide_true, decide_false, isi_tup, isi_lst, isi_int, isi_bool, isi_str, isi_none, sz0, sz1, sz2, sz3, sz4, sz5, sz6, sz7, sz8, sz9, sz10, sz11, sz12, isOw_no, isOw_va, isOw_li, isOw_di, isOw_dt, isOw_ow, isOw_none, isOw_sl,
  Option.bind_some, Option.map_some, Option.bind_none, Option.map_none, Option.getD_some, Option.getD_none, List.getElem?_cons_zero, List.getElem?_cons_succ, List.set_cons_zero, List.set_cons_succ, List.map_cons, List.map_nil, List.headD_cons, List.headD_nil, List.tail_cons, List.tail_nil, List.isEmpty_nil, List.isEmpty_cons, List.length_nil, List.length_cons, List.nil_append, List.cons_append, List.replicate_succ, List.replicate_zero, Nat.reduceSub, Nat.reduceAdd, Bool.false_eq_true, if_false, if_true, reduceIte, Bool.not_true, Bool.not_false, and_true, true_and, and_self, Int.toNat_natCast, Int.zero_add, *])
abbrev Door := Int × Int × Int × Int
def doorD (d : Door) : D := .tuple [.int d.1, .int d.2.1, .int d.2.2.1, .int d.2.2.2]
def hD (n : Nat) (ds : List Door) (os : List Int) : D := .tuple [.int n, .tuple (ds.map doorD), .tuple (iL os)]
def oD : Option Int → D
  | none => .none
  | some k => .int k
def sD (sg : List (Option Int)) : D := .tuple (sg.map oD)
def nfS (ds : List Door) (sg : List (Option Int)) (r : Int) : Option Int := if 0 ≤ r then (sg.getD r.toNat none).bind fun k => (ds[k.toNat]?).map fun d => d.2.1 else none
structure WS (n : Nat) (ds : List Door) (sg : List (Option Int)) : Prop where
  len : sg.length = n
  ok : ∀ k, some k ∈ sg → 0 ≤ k ∧ k.toNat < ds.length
structure WH (n : Nat) (ds : List Door) (os : List Int) : Prop where
  n6 : n ≤ 6
  d15 : ds.length ≤ 15
  rng : ∀ d ∈ ds, (0 ≤ d.1 ∧ d.1 < n) ∧ 0 ≤ d.2.1 ∧ d.2.1 < n
  o6 : os.length ≤ 6
theorem sg_at {n : Nat} {ds : List Door} {sg : List (Option Int)} (w : WS n ds sg) {s : Int} (h : 0 ≤ s ∧ s < n) : atI (sg.map oD) s = some (oD (sg.getD s.toNat none)) := by
  obtain ⟨j, rfl⟩ : ∃ j : Nat, s = (j : Int) := ⟨s.toNat, by omega⟩
  have hj : j < sg.length := by rw [w.len]; omega
  refine atI_nat ?_
  rw [List.getElem?_map, List.getElem?_eq_getElem hj, Int.toNat_natCast, List.getD_eq_getElem?_getD, List.getElem?_eq_getElem hj]; rfl
theorem sg_door {n : Nat} {ds : List Door} {sg : List (Option Int)} (w : WS n ds sg) {s k : Int} (h : 0 ≤ s ∧ s < n) (e : sg.getD s.toNat none = some k) : 0 ≤ k ∧ ∃ d, ds[k.toNat]? = some d ∧ atI (ds.map doorD) k = some (doorD d) ∧ nfS ds sg s = some d.2.1 ∧ d ∈ ds := by
  have hj : s.toNat < sg.length := by rw [w.len]; omega
  have hm : some k ∈ sg := by
    rw [List.getD_eq_getElem?_getD, List.getElem?_eq_getElem hj] at e
    rw [← (show sg[s.toNat] = some k from e)]; exact List.getElem_mem hj
  obtain ⟨h0, h1⟩ := w.ok k hm
  obtain ⟨i, rfl⟩ : ∃ i : Nat, k = (i : Int) := ⟨k.toNat, by omega⟩
  rw [Int.toNat_natCast] at h1
  refine ⟨h0, ds[i], by rw [Int.toNat_natCast]; exact List.getElem?_eq_getElem h1, atI_nat (by rw [List.getElem?_map, List.getElem?_eq_getElem h1]; rfl), ?_, List.getElem_mem h1⟩
  unfold nfS
  rw [if_pos h.1, e, Option.bind_some, Int.toNat_natCast, List.getElem?_eq_getElem h1]; rfl
theorem nfS_none {ds : List Door} {sg : List (Option Int)} {s : Int} (e : sg.getD s.toNat none = none) : nfS ds sg s = none := by unfold nfS; rw [e]; split <;> rfl
theorem nfS_rng {n : Nat} {ds : List Door} {os : List Int} (w : WH n ds os) (sg : List (Option Int)) : ∀ r s, nfS ds sg r = some s → 0 ≤ s ∧ s < (n : Int) := fun r s h => by
  unfold nfS at h
  split at h
  · obtain ⟨k, h1, h2⟩ := Option.bind_eq_some_iff.mp h
    obtain ⟨d, h3, h4⟩ := Option.map_eq_some_iff.mp h2
    rw [← h4]
    exact (w.rng d (List.mem_of_getElem? h3)).2
  · cases h
theorem isNon_oD (o : Option Int) : isNon (oD o) = o.isNone := by cases o <;> rfl
/-! led, the program's -/
theorem led_loop {n : Nat} {ds : List Door} {os : List Int} {sg : List (Option Int)} (wh : WH n ds os) (ws : WS n ds sg) (rv : D) : ∀ (f : Nat) (s : Int) (p u : List Int) (s4 s5 : Sl), go os (nfS ds sg) f s = some p → (u ++ p).Nodup → (u ++ p).length ≤ 1000 → (0 ≤ s ∧ s < n) → isOw (some s4) = false → isOw (some s5) = false →
    ∃ e', sWhile T1_led L2_led [.va (hD n ds os), .va (sD sg), .va rv, .li (iL (u ++ [s])), s4, s5] = some (.rt (.va (.tuple [.str "out", .tuple (iL (u ++ p))])) e')
  | 0, _, _, _, _, _, h, _, _, _, _, _ => nomatch h
  | f + 1, s, p, u, s4, s5, h, hnd, hln, hs, h4, h5 => by
    have hT : T1_led [.va (hD n ds os), .va (sD sg), .va rv, .li (iL (u ++ [s])), s4, s5] = some (true, [.va (hD n ds os), .va (sD sg), .va rv, .li (iL (u ++ [s])), s4, s5]) := by
      unfold T1_led
      walk_at "ev"
    have hlast : atI (iL (u ++ [s])) (-1) = some (.int s) := by rw [iL_cat]; exact atI_end _ _
    by_cases ho : s ∈ os
    · have hp : p = [s] := by rw [go_out ho] at h; exact (Option.some.inj h).symm
      subst hp
      have d1 : decide (s ∈ os) = true := decide_eq_true ho
      have hL : ∃ e', L2_led [.va (hD n ds os), .va (sD sg), .va rv, .li (iL (u ++ [s])), s4, s5] = some (.rt (.va (.tuple [.str "out", .tuple (iL (u ++ [s]))])) e') := by
        refine ⟨[.va (hD n ds os), .va (sD sg), .va rv, .li (iL (u ++ [s])), .va (.int s), s5], ?_⟩
        unfold L2_led hD
        repeat (first | walk_at "ev" | simp only [h4, hlast, inB_tup, d1, reduceIte])
      obtain ⟨e', hL⟩ := hL
      exact ⟨e', by rw [sWhile_eq, hT, Option.bind_some, if_pos rfl, hL]; rfl⟩
    · obtain ⟨g, t, q, e1, e2, e3, e4⟩ := go_step ho h
      cases e1
      subst e4
      have d1 : decide (s ∈ os) = false := decide_eq_false ho
      cases hk : sg.getD s.toNat none with
      | none => rw [nfS_none hk] at e2; cases e2
      | some k =>
        obtain ⟨k0, d, k1, k2, k3, k4⟩ := sg_door ws hs hk
        rw [k3] at e2
        have e2 : d.2.1 = t := Option.some.inj e2
        have hsg : atI (sg.map oD) s = some (.int k) := by rw [sg_at ws hs, hk]; rfl
        obtain ⟨q0, hq0⟩ := go_head e3
        have hnt : t ∉ u ++ [s] := fun hm => by
          have h1 := List.nodup_append.mp hnd
          rw [hq0] at hnd
          have h2 : ((u ++ [s]) ++ (t :: q0)).Nodup := by rw [List.append_assoc]; exact hnd
          exact (List.nodup_append.mp h2).2.2 t hm t List.mem_cons_self rfl
        have d2 : decide (t ∈ u ++ [s]) = false := decide_eq_false hnt
        have ha : gAppend (iL (u ++ [s])) (.int t) = some (.none, iL (u ++ [s] ++ [t])) := by
          rw [iL_cat (u ++ [s]) t]
          refine gAppend_ok ?_
          rw [iL_len, List.length_append, List.length_singleton]
          rw [List.length_append, List.length_cons] at hln
          omega
        have hcut : cutD (iL (u ++ [s] ++ [t])) none (some (-1)) = iL (u ++ [s]) := by rw [iL_cat (u ++ [s]) t]; exact cutD_m1 _ _
        have hL : L2_led [.va (hD n ds os), .va (sD sg), .va rv, .li (iL (u ++ [s])), s4, s5] = some (.nx [.va (hD n ds os), .va (sD sg), .va rv, .li (iL (u ++ [s] ++ [t])), .va (.int s), .va (.int t)]) := by
          unfold L2_led hD sD
          repeat (first | walk_at "ev" | simp only [h4, h5, hlast, inB_tup, inB_lst, d1, d2, hsg, k2, doorD, e2, ha, hcut, reduceIte])
        have hrs : 0 ≤ t ∧ t < (n : Int) := nfS_rng wh sg s t (by rw [k3, e2])
        obtain ⟨e', ih⟩ := led_loop wh ws rv f t q (u ++ [s]) (.va (.int s)) (.va (.int t)) e3 (by rw [List.append_assoc]; exact hnd) (by rw [List.append_assoc]; exact hln) hrs rfl rfl
        refine ⟨e', ?_⟩
        rw [sWhile_eq, hT, Option.bind_some, if_pos rfl, hL, Option.bind_some]
        show sWhile T1_led L2_led _ = _
        rw [ih, List.append_assoc]; rfl
theorem led_ok {n : Nat} {ds : List Door} {os : List Int} {sg : List (Option Int)} (wh : WH n ds os) (ws : WS n ds sg) {f : Nat} {s : Int} {p : List Int} (h : go os (nfS ds sg) f s = some p) (hs : 0 ≤ s ∧ s < n) :
    F_led [.va (hD n ds os), .va (sD sg), .va (.int s)] = some (.va (.tuple [.str "out", .tuple (iL p)]), [.no, .no, .no]) := by
  have hl : p.length ≤ 1000 := by have := (go_enough (nfS_rng wh sg) hs h).2; have := wh.n6; omega
  obtain ⟨e', h1⟩ := led_loop wh ws (.int s) f s p [] .no .no h (go_nodup h) hl hs rfl rfl
  have h1' : sWhile T1_led L2_led [.va (hD n ds os), .va (sD sg), .va (.int s), .li [.int s], .no, .no] = some (.rt (.va (.tuple [.str "out", .tuple (iL p)])) e') := h1
  unfold F_led
  repeat (first | walk_at "ev" | simp only [h1', reduceIte])
/-! led, the law's -/
def wOut : Str := "out"
def wRing : Str := "ring"
def wStuck : Str := "stuck"
theorem lled_loop {n : Nat} {ds : List Door} {os : List Int} {sg : List (Option Int)} (wh : WH n ds os) (ws : WS n ds sg) (rv : D) : ∀ (its : List D) (u : List Int) (s : Int) (s4 s5 : Sl), Chn os (nfS ds sg) u s → u.Nodup → (∀ x ∈ u, 0 ≤ x ∧ x < (n : Int)) → (0 ≤ s ∧ s < n) → u.length + its.length = n + 1 → isOw (some s4) = false → isOw (some s5) = false →
    ∃ w rooms e', forL (gNm 4) L1__law_led its [.va (hD n ds os), .va (sD sg), .va rv, .li (iL (u ++ [s])), s4, s5] = some (.rt (.va (.tuple [.str w, .tuple (iL rooms)])) e') ∧ ((w = wOut ∧ ∃ q, go os (nfS ds sg) its.length s = some q ∧ rooms = u ++ q) ∨ ((w = wRing ∨ w = wStuck) ∧ ∀ f, go os (nfS ds sg) f s = none))
  | [], u, s, s4, s5, hc, hn, hr, hs, hl, _, _ => by
    have := nodup_len n u hn hr
    rw [List.length_nil] at hl
    omega
  | it :: its, u, s, s4, s5, hc, hn, hr, hs, hl, h4, h5 => by
    have hlast : atI (iL (u ++ [s])) (-1) = some (.int s) := by rw [iL_cat]; exact atI_end _ _
    have hcut : cutD (iL (u ++ [s])) none (some (-1)) = iL u := by rw [iL_cat]; exact cutD_m1 _ _
    have hul := nodup_len n u hn hr
    have hn6 := wh.n6
    by_cases ho : s ∈ os
    · have d1 : decide (s ∈ os) = true := decide_eq_true ho
      refine ⟨wOut, u ++ [s], [.va (hD n ds os), .va (sD sg), .va rv, .li (iL (u ++ [s])), .va it, .va (.int s)], forL_ret ?_, .inl ⟨rfl, [s], go_out ho, rfl⟩⟩
      unfold L1__law_led hD
      repeat (first | walk_at "ev" | simp only [h4, h5, hlast, inB_tup, d1, reduceIte])
      rfl
    · have d1 : decide (s ∈ os) = false := decide_eq_false ho
      by_cases hu : s ∈ u
      · have d2 : decide (s ∈ u) = true := decide_eq_true hu
        refine ⟨wRing, u ++ [s], [.va (hD n ds os), .va (sD sg), .va rv, .li (iL (u ++ [s])), .va it, .va (.int s)], forL_ret ?_, .inr ⟨.inl rfl, ch_ring hc hu⟩⟩
        unfold L1__law_led hD
        repeat (first | walk_at "ev" | simp only [h4, h5, hlast, inB_tup, inB_lst, hcut, d1, d2, reduceIte])
        rfl
      · have d2 : decide (s ∈ u) = false := decide_eq_false hu
        cases hk : sg.getD s.toNat none with
        | none =>
          have hsg : atI (sg.map oD) s = some .none := by rw [sg_at ws hs, hk]; rfl
          refine ⟨wStuck, u ++ [s], [.va (hD n ds os), .va (sD sg), .va rv, .li (iL (u ++ [s])), .va it, .va (.int s)], forL_ret ?_, .inr ⟨.inr rfl, fun f => ?_⟩⟩
          · unfold L1__law_led hD sD
            repeat (first | walk_at "ev" | simp only [h4, h5, hlast, inB_tup, inB_lst, hcut, d1, d2, hsg, reduceIte])
            rfl
          · cases f with
            | zero => rfl
            | succ f => rw [go_in ho, nfS_none hk]; rfl
        | some k =>
          obtain ⟨k0, d, k1, k2, k3, k4⟩ := sg_door ws hs hk
          have hsg : atI (sg.map oD) s = some (.int k) := by rw [sg_at ws hs, hk]; rfl
          have ha : gAppend (iL (u ++ [s])) (.int d.2.1) = some (.none, iL (u ++ [s] ++ [d.2.1])) := by
            rw [iL_cat (u ++ [s]) d.2.1]
            refine gAppend_ok ?_
            rw [iL_len, List.length_append, List.length_singleton]
            omega
          have hrs : 0 ≤ d.2.1 ∧ d.2.1 < (n : Int) := nfS_rng wh sg s _ k3
          obtain ⟨w, rooms, e', i1, i2⟩ := lled_loop wh ws rv its (u ++ [s]) d.2.1 (.va it) (.va (.int s)) (ch_snoc hc ho k3)
            (List.nodup_append.mpr ⟨hn, by simp, fun a ha b hb e => hu (by rw [List.mem_singleton.mp hb] at e; exact e ▸ ha)⟩)
            (fun x hx => (List.mem_append.mp hx).elim (hr x) fun h => by rw [List.mem_singleton.mp h]; exact hs) hrs (by rw [List.length_append, List.length_singleton]; rw [List.length_cons] at hl; omega) rfl rfl
          refine ⟨w, rooms, e', ?_, ?_⟩
          · have hL : (gNm 4 it [.va (hD n ds os), .va (sD sg), .va rv, .li (iL (u ++ [s])), s4, s5]).bind L1__law_led = some (.nx [.va (hD n ds os), .va (sD sg), .va rv, .li (iL (u ++ [s] ++ [d.2.1])), .va it, .va (.int s)]) := by
              unfold L1__law_led hD sD
              repeat (first | walk_at "ev" | simp only [h4, h5, hlast, inB_tup, inB_lst, hcut, d1, d2, hsg, k2, doorD, ha, reduceIte])
            rw [forL_stepB hL]
            exact i1
          · rcases i2 with ⟨j1, q, j2, j3⟩ | ⟨j1, j2⟩
            · refine .inl ⟨j1, s :: q, ?_, by rw [j3, List.append_assoc]; rfl⟩
              rw [List.length_cons, go_in ho, k3, Option.bind_some, j2]; rfl
            · refine .inr ⟨j1, fun f => ?_⟩
              cases f with
              | zero => rfl
              | succ f => rw [go_in ho, k3, Option.bind_some, j2]; rfl
theorem lled_ok {n : Nat} {ds : List Door} {os : List Int} {sg : List (Option Int)} (wh : WH n ds os) (ws : WS n ds sg) {s : Int} (hs : 0 ≤ s ∧ s < n) :
    ∃ w rooms, F__law_led [.va (hD n ds os), .va (sD sg), .va (.int s)] = some (.va (.tuple [.str w, .tuple (iL rooms)]), [.no, .no, .no]) ∧ ((w = wOut ∧ go os (nfS ds sg) (n + 1) s = some rooms) ∨ ((w = wRing ∨ w = wStuck) ∧ ∀ f, go os (nfS ds sg) f s = none)) := by
  have hl : (rngD 0 (n + 1)).length = n + 1 := rngD_len _ _
  obtain ⟨w, rooms, e', h1, h2⟩ := lled_loop wh ws (.int s) (rngD 0 (n + 1)) [] s .no .no trivial (by simp) (fun _ h => nomatch h) hs (by rw [hl, List.length_nil]; omega) rfl rfl
  rw [hl] at h2
  refine ⟨w, rooms, ?_, ?_⟩
  · have h1' : forL (gNm 4) L1__law_led (rngD 0 (n + 1)) [.va (hD n ds os), .va (sD sg), .va (.int s), .li [.int s], .no, .no] = some (.rt (.va (.tuple [.str w, .tuple (iL rooms)])) e') := h1
    have hr : Rg ((n : Int) + 1) := rg_of (by omega) (by have := wh.n6; omega)
    have ht : ((n : Int) + 1).toNat = n + 1 := by omega
    unfold F__law_led
    rw [show hD n ds os = .tuple [.int n, .tuple (ds.map doorD), .tuple (iL os)] from rfl] at h1' ⊢
    repeat (first | walk_at "ev" | simp only [hr, ht, h1', reduceIte])
  · rcases h2 with ⟨j1, q, j2, j3⟩ | h2
    · exact .inl ⟨j1, by rw [j2, j3]; rfl⟩
    · exact .inr h2
/-! right signs -/
def rightB (n : Nat) (ds : List Door) (os : List Int) (sg : List (Option Int)) : Bool := (List.range n).all fun i => (go os (nfS ds sg) (n + 1) (i : Nat)).isSome
theorem dEq_str {x y : Str} (hx : SeqAt.shaped (.str x) = true) (hy : SeqAt.shaped (.str y) = true) : dEq (.str x) (.str y) = some (.bool (x == y)) := by unfold dEq; rw [if_pos ⟨hx, hy⟩, PyData.eqv]
theorem eq_out : dEq (.str wOut) (.str "out") = some (.bool true) := by rw [dEq_str (by decide +kernel) (by decide +kernel), show (wOut == ("out" : Str)) = true by decide +kernel]
theorem eq_ring : dEq (.str wRing) (.str "out") = some (.bool false) := by rw [dEq_str (by decide +kernel) (by decide +kernel), show (wRing == ("out" : Str)) = false by decide +kernel]
theorem eq_stuck : dEq (.str wStuck) (.str "out") = some (.bool false) := by rw [dEq_str (by decide +kernel) (by decide +kernel), show (wStuck == ("out" : Str)) = false by decide +kernel]
theorem right_ok {n : Nat} {ds : List Door} {os : List Int} {sg : List (Option Int)} (wh : WH n ds os) (ws : WS n ds sg) : F__law_right [.va (hD n ds os), .va (sD sg)] = some (.va (.bool (rightB n ds os sg)), [.no, .no]) := by
  have h1 : compL (gNm 2) bYes K1__law_right [2] (rngD 0 n) [.va (hD n ds os), .va (sD sg), .no] = some (((List.range n).filter fun _ => true).map fun i => PyData.bool (go os (nfS ds sg) (n + 1) (i : Nat)).isSome, [.va (hD n ds os), .va (sD sg), .no]) := by
    unfold rngD
    refine compL_map (fun i : Nat => PyData.int (0 + (i : Nat))) (fun _ => true) _ _ (List.range n) fun i hi => ?_
    have hi' : i < n := List.mem_range.mp hi
    refine ⟨[.va (hD n ds os), .va (sD sg), .va (.int (0 + (i : Nat)))], [.va (hD n ds os), .va (sD sg), .va (.int (0 + (i : Nat)))], [.va (hD n ds os), .va (sD sg), .va (.int (0 + (i : Nat)))], rfl, rfl, fun _ => ⟨?_, rfl⟩, fun h => by cases h⟩
    rw [Int.zero_add]
    obtain ⟨w, rooms, k1, k2⟩ := lled_ok wh ws (s := (i : Int)) ⟨by omega, by omega⟩
    unfold K1__law_right
    rcases k2 with ⟨rfl, k2⟩ | ⟨rfl | rfl, k2⟩
    · rw [k2]
      repeat (first | walk_at "ev" | simp only [k1, eq_out, Option.isSome_some])
    · rw [k2]
      repeat (first | walk_at "ev" | simp only [k1, eq_ring, Option.isSome_none])
    · rw [k2]
      repeat (first | walk_at "ev" | simp only [k1, eq_stuck, Option.isSome_none])
  have hr : Rg (n : Int) := rg_of (by omega) (by have := wh.n6; omega)
  have hc : compC (gNm 2) bYes K1__law_right [2] (rngD 0 n, [.va (hD n ds os), .va (sD sg), .no]) = some (.li ((List.range n).map fun i => PyData.bool (go os (nfS ds sg) (n + 1) (i : Nat)).isSome), [.va (hD n ds os), .va (sD sg), .no]) := by
    rw [compC_ev _ _ _ _ _ _ (by rw [rngD_len]; exact small1Me (by have := wh.n6; omega)) rfl]
    rw [show wipeE [.va (hD n ds os), .va (sD sg), .no] [2] = [.va (hD n ds os), .va (sD sg), .no] from rfl, h1, List.filter_eq_self.mpr fun _ _ => rfl]
    rfl
  have ha := dAll_map (fun i : Nat => (go os (nfS ds sg) (n + 1) (i : Nat)).isSome) (List.range n)
  unfold F__law_right
  rw [show hD n ds os = .tuple [.int n, .tuple (ds.map doorD), .tuple (iL os)] from rfl] at hc ⊢
  repeat (first | walk_at "ev" | simp only [hr, hc, ha, reduceIte])
  rfl
theorem right_iff {n : Nat} {ds : List Door} {os : List Int} {sg : List (Option Int)} (wh : WH n ds os) (h : rightB n ds os sg = true) {s : Int} (hs : 0 ≤ s ∧ s < n) : ∃ p, go os (nfS ds sg) (n + 1) s = some p := by
  have := List.all_eq_true.mp h s.toNat (List.mem_range.mpr (by omega))
  rw [show ((s.toNat : Nat) : Int) = s by omega] at this
  exact Option.isSome_iff_exists.mp this
theorem right_of {n : Nat} {ds : List Door} {os : List Int} {sg : List (Option Int)} (wh : WH n ds os) (h : ∀ s : Int, 0 ≤ s ∧ s < n → ∃ f p, go os (nfS ds sg) f s = some p) : rightB n ds os sg = true := by
  refine List.all_eq_true.mpr fun i hi => ?_
  have hi' : i < n := List.mem_range.mp hi
  obtain ⟨f, p, hp⟩ := h (i : Int) ⟨by omega, by omega⟩
  rw [(go_enough (nfS_rng wh sg) ⟨by omega, by omega⟩ hp).1]; rfl
/-! second signs -/
def pathS (n : Nat) (ds : List Door) (os : List Int) (sg : List (Option Int)) (s : Int) : List Int := (go os (nfS ds sg) (n + 1) s).getD []
def fitB (n : Nat) (ds : List Door) (os : List Int) (sg : List (Option Int)) (room : Int) (k : Nat) : Bool := match ds[k]? with
  | some d => (d.1 == room) && (!(sg.getD room.toNat none == some (k : Int)) && !(decide (room ∈ pathS n ds os sg d.2.1)))
  | none => false
def fits (n : Nat) (ds : List Door) (os : List Int) (sg : List (Option Int)) (room : Int) : List Nat := (List.range ds.length).filter (fitB n ds os sg room)
theorem dNe_oD (k : Int) (o : Option Int) : dNe (.int k) (oD o) = some (.bool (!(o == some k))) := by
  cases o with
  | none => rfl
  | some j =>
    show dNe (.int k) (.int j) = _
    rw [dNe_int]
    by_cases h : k = j
    · subst h; simp
    · have h1 : (k == j) = false := by simpa using h
      have h2 : (some j == some k) = false := by simpa using fun e => h e.symm
      rw [h1, h2]
theorem ss_loop {n : Nat} {ds : List Door} {os : List Int} {sg : List (Option Int)} (wh : WH n ds os) (ws : WS n ds sg) (hR : rightB n ds os sg = true) {room : Int} (hr : 0 ≤ room ∧ room < n) : ∀ (m j : Nat) (s3 s4 s5 s6 : Sl), j + m = ds.length → (∀ i, i < j → fitB n ds os sg room i = false) → isOw (some s3) = false → isOw (some s4) = false → isOw (some s5) = false → isOw (some s6) = false →
    ∃ e', forL (gTupF (gsCons (gNm 3) (gsCons (gTupF (gsCons (gNm 4) (gsCons (gNm 5) (gsCons (gNm 6) (gsCons (gNm 6) gsNil)))) 4) gsNil)) 2) L1_second_sign ((enD (ds.map doorD)).drop j) [.va (hD n ds os), .va (sD sg), .va (.int room), s3, s4, s5, s6] =
      some (match (fits n ds os sg room).head? with
        | some k => .rt (.va (.int k)) e'
        | none => .nx e')
  | 0, j, s3, s4, s5, s6, hj, hf, _, _, _, _ => by
    have : (enD (ds.map doorD)).drop j = [] := List.drop_eq_nil_of_le (by rw [enD_len, List.length_map]; omega)
    rw [this]
    have h0 : fits n ds os sg room = [] := rng_none fun i hi => hf i (by omega)
    rw [h0]
    exact ⟨_, rfl⟩
  | m + 1, j, s3, s4, s5, s6, hj, hf, h3, h4, h5, h6 => by
    have hjl : j < ds.length := by omega
    have hd : (ds.map doorD)[j]? = some (doorD ds[j]) := by rw [List.getElem?_map, List.getElem?_eq_getElem hjl]; rfl
    have hdj : ds[j]? = some ds[j] := List.getElem?_eq_getElem hjl
    rw [enD_drop hd]
    have hrg := wh.rng ds[j] (List.getElem_mem hjl)
    generalize ds[j] = d at hdj hrg hd ⊢
    have hsg := sg_at ws hr
    obtain ⟨p, hp⟩ := right_iff wh hR hrg.2
    have hled := led_ok wh ws hp hrg.2
    have hps : pathS n ds os sg d.2.1 = p := by unfold pathS; rw [hp]; rfl
    have hfit : fitB n ds os sg room j = ((d.1 == room) && (!(sg.getD room.toNat none == some (j : Int)) && !(decide (room ∈ p)))) := by unfold fitB; rw [hdj]; simp only [hps]
    have hstep : (gTupF (gsCons (gNm 3) (gsCons (gTupF (gsCons (gNm 4) (gsCons (gNm 5) (gsCons (gNm 6) (gsCons (gNm 6) gsNil)))) 4) gsNil)) 2 (.tuple [.int j, doorD d]) [.va (hD n ds os), .va (sD sg), .va (.int room), s3, s4, s5, s6]).bind L1_second_sign =
        some (if fitB n ds os sg room j = true then .rt (.va (.int j)) [.va (hD n ds os), .va (sD sg), .va (.int room), .va (.int j), .va (.int d.1), .va (.int d.2.1), .va (.int d.2.2.2)] else .nx [.va (hD n ds os), .va (sD sg), .va (.int room), .va (.int j), .va (.int d.1), .va (.int d.2.1), .va (.int d.2.2.2)]) := by
      rw [hfit]
      unfold L1_second_sign
      rw [show sD sg = .tuple (sg.map oD) from rfl] at hled ⊢
      cases c1 : d.1 == room with
      | false =>
        repeat (first | walk_at "ev" | simp only [doorD, gTupF_ev, gsCons_ev, gsNil_ev, gNm_ev, h3, h4, h5, h6, c1, Bool.false_and, reduceIte])
      | true =>
        cases c2 : sg.getD room.toNat none == some (j : Int) with
        | true =>
          repeat (first | walk_at "ev" | simp only [doorD, gTupF_ev, gsCons_ev, gsNil_ev, gNm_ev, h3, h4, h5, h6, c1, c2, hsg, dNe_oD, Bool.true_and, Bool.not_true, Bool.false_and, reduceIte])
        | false =>
          cases c3 : decide (room ∈ p) <;>
          repeat (first | walk_at "ev" | simp only [doorD, gTupF_ev, gsCons_ev, gsNil_ev, gNm_ev, h3, h4, h5, h6, c1, c2, c3, hsg, dNe_oD, hled, ninB_tup, Bool.true_and, Bool.not_true, Bool.not_false, Bool.and_true, Bool.and_false, reduceIte])
    by_cases hb : fitB n ds os sg room j = true
    · rw [if_pos hb] at hstep
      have hh : (fits n ds os sg room).head? = some j := rng_head hjl hb hf
      rw [hh]
      exact ⟨_, forL_ret hstep⟩
    · rw [if_neg hb] at hstep
      rw [forL_stepB hstep]
      exact ss_loop wh ws hR hr m (j + 1) _ _ _ _ (by omega) (fun i hi => by
        rcases Nat.lt_or_ge i j with h | h
        · exact hf i h
        · rw [show i = j by omega]; exact Bool.eq_false_iff.mpr hb) rfl rfl rfl rfl
theorem ss_ok {n : Nat} {ds : List Door} {os : List Int} {sg : List (Option Int)} (wh : WH n ds os) (ws : WS n ds sg) (hR : rightB n ds os sg = true) {room : Int} (hr : 0 ≤ room ∧ room < n) :
    F_second_sign [.va (hD n ds os), .va (sD sg), .va (.int room)] = some (.va (oD (Option.map (fun k : Nat => Int.ofNat k) (fits n ds os sg room).head?)), [.no, .no, .no]) := by
  obtain ⟨e', h⟩ := ss_loop wh ws hR hr ds.length 0 .no .no .no .no (by omega) (fun i h => absurd h (Nat.not_lt_zero _)) rfl rfl rfl rfl
  rw [List.drop_zero] at h
  unfold F_second_sign
  rw [show hD n ds os = .tuple [.int n, .tuple (ds.map doorD), .tuple (iL os)] from rfl] at h ⊢
  cases hh : (fits n ds os sg room).head? with
  | none =>
    rw [hh] at h
    repeat (first | walk_at "ev" | simp only [h, Option.map_none, oD])
  | some k =>
    rw [hh] at h
    repeat (first | walk_at "ev" | simp only [h, Option.map_some, oD])
    rfl
def dueO (n : Nat) (ds : List Door) (os : List Int) (sg : List (Option Int)) (room : Nat) : Option Int := if ((room : Nat) : Int) ∈ os then none else Option.map (fun k : Nat => Int.ofNat k) (fits n ds os sg room).head?
def bareB (n : Nat) (ds : List Door) (os : List Int) (sg : List (Option Int)) (room : Nat) : Bool := !(decide (((room : Nat) : Int) ∈ os)) && (fits n ds os sg room).isEmpty
def bares (n : Nat) (ds : List Door) (os : List Int) (sg : List (Option Int)) : List Nat := (List.range n).filter (bareB n ds os sg)
def dues (n : Nat) (ds : List Door) (os : List Int) (sg : List (Option Int)) : List (Option Int) := (List.range n).map (dueO n ds os sg)
theorem sss_loop {n : Nat} {ds : List Door} {os : List Int} {sg : List (Option Int)} (wh : WH n ds os) (ws : WS n ds sg) (hR : rightB n ds os sg = true) : ∀ (m j : Nat) (s3 s4 : Sl), j + m = n → (∀ i, i < j → bareB n ds os sg i = false) → isOw (some s3) = false → isOw (some s4) = false →
    ∃ e' t3 t4, forL (gNm 3) L1_second_signs ((rngD 0 n).drop j) [.va (hD n ds os), .va (sD sg), .li (((List.range j).map (dueO n ds os sg)).map oD), s3, s4] =
      some (match (bares n ds os sg).head? with
        | some k => .rt (.va (.tuple [.str "none", .int k])) e'
        | none => .nx [.va (hD n ds os), .va (sD sg), .li ((dues n ds os sg).map oD), t3, t4])
  | 0, j, s3, s4, hj, hf, _, _ => by
    have : j = n := by omega
    subst this
    rw [rngD_end]
    have h0 : bares j ds os sg = [] := rng_none fun i hi => hf i (by omega)
    rw [h0]
    exact ⟨[], s3, s4, rfl⟩
  | m + 1, j, s3, s4, hj, hf, h3, h4 => by
    have hjn : j < n := by omega
    rw [rngD_drop hjn]
    have hrr : (0 : Int) ≤ (j : Int) ∧ (j : Int) < n := ⟨by omega, by omega⟩
    have hss := ss_ok wh ws hR hrr
    have hn6 := wh.n6
    by_cases ho : (j : Int) ∈ os
    · have d1 : decide ((j : Int) ∈ os) = true := decide_eq_true ho
      have hdue : dueO n ds os sg j = none := if_pos ho
      have hb : bareB n ds os sg j = false := by unfold bareB; rw [d1]; rfl
      have ha : gAppend (((List.range j).map (dueO n ds os sg)).map oD) .none = some (.none, ((List.range (j + 1)).map (dueO n ds os sg)).map oD) := by
        rw [range_map_succ, List.map_append, hdue]
        exact gAppend_ok (by rw [List.length_map, List.length_map, List.length_range]; omega)
      have hstep : (gNm 3 (.int j) [.va (hD n ds os), .va (sD sg), .li (((List.range j).map (dueO n ds os sg)).map oD), s3, s4]).bind L1_second_signs = some (.nx [.va (hD n ds os), .va (sD sg), .li (((List.range (j + 1)).map (dueO n ds os sg)).map oD), .va (.int j), .va .none]) := by
        unfold L1_second_signs hD
        repeat (first | walk_at "ev" | simp only [gNm_ev, h3, h4, inB_tup, ninB_tup, d1, ha, reduceIte])
      rw [forL_stepB hstep]
      exact sss_loop wh ws hR m (j + 1) _ _ (by omega) (fun i hi => by
        rcases Nat.lt_or_ge i j with h | h
        · exact hf i h
        · rw [show i = j by omega]; exact hb) rfl rfl
    · have d1 : decide ((j : Int) ∈ os) = false := decide_eq_false ho
      cases hh : (fits n ds os sg j).head? with
      | none =>
        have he : (fits n ds os sg j).isEmpty = true := by rw [List.head?_eq_none_iff.mp hh]; rfl
        have hb : bareB n ds os sg j = true := by unfold bareB; rw [d1, he]; rfl
        have hh2 : (bares n ds os sg).head? = some j := rng_head hjn hb hf
        rw [hh] at hss
        have hss' : F_second_sign [.va (hD n ds os), .va (sD sg), .va (.int (j : Int))] = some (.va .none, [.no, .no, .no]) := hss
        rw [hh2]
        refine ⟨[.va (hD n ds os), .va (sD sg), .li (((List.range j).map (dueO n ds os sg)).map oD), .va (.int j), .va .none], .no, .no, forL_ret ?_⟩
        unfold L1_second_signs
        rw [show hD n ds os = .tuple [.int n, .tuple (ds.map doorD), .tuple (iL os)] from rfl] at hss' ⊢
        repeat (first | walk_at "ev" | simp only [gNm_ev, h3, h4, inB_tup, ninB_tup, d1, hss', reduceIte])
      | some k =>
        have he : (fits n ds os sg j).isEmpty = false := by
          cases hfz : fits n ds os sg j with
          | nil => rw [hfz] at hh; cases hh
          | cons _ _ => rfl
        have hb : bareB n ds os sg j = false := by unfold bareB; rw [d1, he]; rfl
        rw [hh] at hss
        have hss' : F_second_sign [.va (hD n ds os), .va (sD sg), .va (.int (j : Int))] = some (.va (.int (Int.ofNat k)), [.no, .no, .no]) := hss
        have hdue : dueO n ds os sg j = some (Int.ofNat k) := by unfold dueO; rw [if_neg ho, hh]; rfl
        have ha : gAppend (((List.range j).map (dueO n ds os sg)).map oD) (.int (Int.ofNat k)) = some (.none, ((List.range (j + 1)).map (dueO n ds os sg)).map oD) := by
          rw [range_map_succ, List.map_append, hdue]
          exact gAppend_ok (by rw [List.length_map, List.length_map, List.length_range]; omega)
        have hstep : (gNm 3 (.int j) [.va (hD n ds os), .va (sD sg), .li (((List.range j).map (dueO n ds os sg)).map oD), s3, s4]).bind L1_second_signs = some (.nx [.va (hD n ds os), .va (sD sg), .li (((List.range (j + 1)).map (dueO n ds os sg)).map oD), .va (.int j), .va (.int (Int.ofNat k))]) := by
          unfold L1_second_signs
          rw [show hD n ds os = .tuple [.int n, .tuple (ds.map doorD), .tuple (iL os)] from rfl] at hss' ⊢
          repeat (first | walk_at "ev" | simp only [gNm_ev, h3, h4, inB_tup, ninB_tup, d1, hss', ha, reduceIte])
        rw [forL_stepB hstep]
        exact sss_loop wh ws hR m (j + 1) _ _ (by omega) (fun i hi => by
          rcases Nat.lt_or_ge i j with h | h
          · exact hf i h
          · rw [show i = j by omega]; exact hb) rfl rfl
def toldD (n : Nat) (ds : List Door) (os : List Int) (sg : List (Option Int)) : D := match (bares n ds os sg).head? with
  | some k => .tuple [.str "none", .int k]
  | none => .tuple [.str "signs", .tuple ((dues n ds os sg).map oD)]
theorem sss_ok {n : Nat} {ds : List Door} {os : List Int} {sg : List (Option Int)} (wh : WH n ds os) (ws : WS n ds sg) (hR : rightB n ds os sg = true) : F_second_signs [.va (hD n ds os), .va (sD sg)] = some (.va (toldD n ds os sg), [.no, .no]) := by
  obtain ⟨e', t3, t4, h⟩ := sss_loop wh ws hR n 0 .no .no (by omega) (fun i h => absurd h (Nat.not_lt_zero _)) rfl rfl
  rw [List.drop_zero] at h
  have h' : forL (gNm 3) L1_second_signs (rngD 0 n) [.va (hD n ds os), .va (sD sg), .li [], .no, .no] = _ := h
  have hr : Rg (n : Int) := rg_of (by omega) (by have := wh.n6; omega)
  unfold F_second_signs toldD
  rw [show hD n ds os = .tuple [.int n, .tuple (ds.map doorD), .tuple (iL os)] from rfl] at h' ⊢
  cases hh : (bares n ds os sg).head? with
  | none =>
    rw [hh] at h'
    repeat (first | walk_at "ev" | simp only [h', hr, reduceIte])
  | some k =>
    rw [hh] at h'
    repeat (first | walk_at "ev" | simp only [h', hr, reduceIte])
end Fl

set_option Elab.async false
set_option linter.all false
set_option maxRecDepth 100000
set_option maxHeartbeats 4000000
set_option autoImplicit false
namespace Fl
open PySem PySem.Spec PyProof.Rows L2
local macro_rules | `(tactic| walk_at "ev") => `(tactic| simp -implicitDefEqProofs only [prE_ev, eVar_ev, varC_ev, eNm_ev, nmC_va, nmC_li, eC_ev, vw_va, vw_li, eOwn_ev, eIxO_ev, ixoC_ev, ixoC2_ev, ixoC3_ev, eOp_ev, opC_ev, opC2_ev, eUn_ev, unC_ev, bE_ev, bEC_ev, bB_ev, bBC_ev, bNot_ev, notC_ev, bAnd_ev, andC_t, andC_f, bOr_ev, orC_t, orC_f, bYes_ev, eAnd_ev, eandC_t, eandC_f, eOr_ev, eorC_t, eorC_f, eNot_ev, enotC_ev, eIf_ev, ifC_t, ifC_f, eTup_ev, tupC_ev, aNil_ev, aCons_ev, aconsC_ev, aconsC2_ev, oLst_ev, lstC_ev, oE_ev, oEC_ev, eFz_ev, fzC_va, fzC_li, oUn_ev, ounC_ev, prL_ev, eSl_ev, slC_ev, slC2_ev, slC3_ev, eSlO_ev, sloC_ev, sloC2_ev, sloC3_ev, sloC4_ev, lEnum_ev, enC_tup, enC_lst, pNo_ev, pSo_ev, psoC_ev, lOf_ev, lofC_tup, lofC_lst, lRng1_ev, rng1C_ev, lRng2_ev, rng2C_ev, rng2C2_ev, oRep_ev, repC_ev, repC2_ev, oCall_ev, callC_0, callC_1, callC_2, callC_3, callC_4, callC_5, callC_rv, callC_rv4, arSl_vl, arSl_rf, callC2_ev, arBack_nil, arBack_vl, arBack_rf, rNil_ev, rVal_ev, rvC_ev, rvC2_ev, rRef_ev, rrC_ev, oComp_ev, compC2_ev, wipeE_nil, wipeE_cons, backE_nil, backE_cons, gNm_ev, gTupF_ev, gsNil_ev, gsCons_ev, sNext_ev, sBreak_ev, sCont_ev, sSeq_ev, seqC_nx, seqC_bk, seqC_ct, seqC_rt, sSet_ev, setC_ev, sPar_ev, parC_ev, setAll_nil, setAll_cons, olNil_ev, olCons_ev, olC_ev, olC2_ev, sAsg_ev, asgC_ev, sIf_ev, sifC_t, sifC_f, sFor_ev, forC_ev, sDrop_ev, dropC_ev, sRet_ev, retC_ev, sRetN_ev, retnC_va, retnC_li, liOf_li, eMt1_ev, mt1C_ev, mt1C2_ev, mt1C3_ev, mt1C4_ev, eMt0_ev, mt0C_ev, sSub_ev, subC_ev, subC1_ev, subC2_ev, subC3_ev, subC4_ev, sAug_ev, augC_ev, augC2_ev, augC3_ev, mkF_ev, mkC_rt, mkC_nx, keepE_nil, keepE_va, keepE_ow', dTru_bool, dTru_int, dTru_none, dTru_list, dTru_tuple, dAdd_int, dAdd_tup, dAdd_lst, dIadd_int, dSub_int, dMul_int, dDiv_int, dMod_int, dNeg_int, dMin2_int, dMax2_int, dLtA_int, dLe_int, dLt_int, dGt_int, dGe_int, shaped_int, shaped_bool, shaped_none, eqv_int, eqv_bool, dEq_int, dNe_int, dEq_bool, dIs_none, dIsN_none, isNon_none, isNon_int, isNon_tup, isNon_bool, dLen_tup, dLen_lst, dIx_tup, dIx_lst, at0, at1, at2, at3, gExtend_lst, dTuple_lst, dTuple_tup, dList_lst, dList_tup, dInt_int, dSl_tup, dSl_lst, isTup, isLst, isBool, isIntB, isStr, beq_self_eq_true, decide_true, decide_false, isi_tup, isi_lst, isi_int, isi_bool, isi_str, isi_none, sz0, sz1, sz2, sz3, sz4, sz5, sz6, sz7, sz8, sz9, sz10, sz11, sz12, isOw_no, isOw_va, isOw_li, isOw_di, isOw_dt, isOw_ow, isOw_none, isOw_sl,
  Option.bind_some, Option.map_some, Option.bind_none, Option.map_none, Option.getD_some, Option.getD_none, List.getElem?_cons_zero, List.getElem?_cons_succ, List.set_cons_zero, List.set_cons_succ, List.map_cons, List.map_nil, List.headD_cons, List.headD_nil, List.tail_cons, List.tail_nil, List.isEmpty_nil, List.isEmpty_cons, List.length_nil, List.length_cons, List.nil_append, List.cons_append, List.replicate_succ, List.replicate_zero, Nat.reduceSub, Nat.reduceAdd, Bool.false_eq_true, if_false, if_true, reduceIte, Bool.not_true, Bool.not_false, and_true, true_and, and_self, Int.toNat_natCast, Int.zero_add])
local macro_rules | `(tactic| walk_at "evh") => `(tactic| simp -implicitDefEqProofs only [prE_ev, eVar_ev, varC_ev, eNm_ev, nmC_va, nmC_li, eC_ev, vw_va, vw_li, eOwn_ev, eIxO_ev, ixoC_ev, ixoC2_ev, ixoC3_ev, eOp_ev, opC_ev, opC2_ev, eUn_ev, unC_ev, bE_ev, bEC_ev, bB_ev, bBC_ev, bNot_ev, notC_ev, bAnd_ev, andC_t, andC_f, bOr_ev, orC_t, orC_f, bYes_ev, eAnd_ev, eandC_t, eandC_f, eOr_ev, eorC_t, eorC_f, eNot_ev, enotC_ev, eIf_ev, ifC_t, ifC_f, eTup_ev, tupC_ev, aNil_ev, aCons_ev, aconsC_ev, aconsC2_ev, oLst_ev, lstC_ev, oE_ev, oEC_ev, eFz_ev, fzC_va, fzC_li, oUn_ev, ounC_ev, prL_ev, eSl_ev, slC_ev, slC2_ev, slC3_ev, eSlO_ev, sloC_ev, sloC2_ev, sloC3_ev, sloC4_ev, lEnum_ev, enC_tup, enC_lst, pNo_ev, pSo_ev, psoC_ev, lOf_ev, lofC_tup, lofC_lst, lRng1_ev, rng1C_ev, lRng2_ev, rng2C_ev, rng2C2_ev, oRep_ev, repC_ev, repC2_ev, oCall_ev, callC_0, callC_1, callC_2, callC_3, callC_4, callC_5, callC_rv, callC_rv4, arSl_vl, arSl_rf, callC2_ev, arBack_nil, arBack_vl, arBack_rf, rNil_ev, rVal_ev, rvC_ev, rvC2_ev, rRef_ev, rrC_ev, oComp_ev, compC2_ev, wipeE_nil, wipeE_cons, backE_nil, backE_cons, gNm_ev, gTupF_ev, gsNil_ev, gsCons_ev, sNext_ev, sBreak_ev, sCont_ev, sSeq_ev, seqC_nx, seqC_bk, seqC_ct, seqC_rt, sSet_ev, setC_ev, sPar_ev, parC_ev, setAll_nil, setAll_cons, olNil_ev, olCons_ev, olC_ev, olC2_ev, sAsg_ev, asgC_ev, sIf_ev, sifC_t, sifC_f, sFor_ev, forC_ev, sDrop_ev, dropC_ev, sRet_ev, retC_ev, sRetN_ev, retnC_va, retnC_li, liOf_li, eMt1_ev, mt1C_ev, mt1C2_ev, mt1C3_ev, mt1C4_ev, eMt0_ev, mt0C_ev, sSub_ev, subC_ev, subC1_ev, subC2_ev, subC3_ev, subC4_ev, sAug_ev, augC_ev, augC2_ev, augC3_ev, mkF_ev, mkC_rt, mkC_nx, keepE_nil, keepE_va, keepE_ow', dTru_bool, dTru_int, dTru_none, dTru_list, dTru_tuple, dAdd_int, dAdd_tup, dAdd_lst, dIadd_int, dSub_int, dMul_int, dDiv_int, dMod_int, dNeg_int, dMin2_int, dMax2_int, dLtA_int, dLe_int, dLt_int, dGt_int, dGe_int, shaped_int, shaped_bool, shaped_none, eqv_int, eqv_bool, dEq_int, dNe_int, dEq_bool, dIs_none, dIsN_none, isNon_none, isNon_int, isNon_tup, isNon_bool, dLen_tup, dLen_lst, dIx_tup, dIx_lst, at0, at1, at2, at3, gExtend_lst, dTuple_lst, dTuple_tup, dList_lst, dList_tup, dInt_int, dSl_tup, dSl_lst, isTup, isLst, isBool, isIntB, isStr, beq_self_eq_true, decide_true, decide_false, isi_tup, isi_lst, isi_int, isi_bool, isi_str, isi_none, sz0, sz1, sz2, sz3, sz4, sz5, sz6, sz7, sz8, sz9, sz10, sz11, sz12, isOw_no, isOw_va, isOw_li, isOw_di, isOw_dt, isOw_ow, isOw_none, isOw_sl,
  Option.bind_some, Option.map_some, Option.bind_none, Option.map_none, Option.getD_some, Option.getD_none, List.getElem?_cons_zero, List.getElem?_cons_succ, List.set_cons_zero, List.set_cons_succ, List.map_cons, List.map_nil, List.headD_cons, List.headD_nil, List.tail_cons, List.tail_nil, List.isEmpty_nil, List.isEmpty_cons, List.length_nil, List.length_cons, List.nil_append, List.cons_append, List.replicate_succ, List.replicate_zero, Nat.reduceSub, Nat.reduceAdd, Bool.false_eq_true, if_false, if_true, reduceIte, Bool.not_true, Bool.not_false, and_true, true_and, and_self, Int.toNat_natCast, Int.zero_add, *])
theorem take_lt (b : Tp) {m : Int} (h : 0 < m) : 0 ≤ (takeT b m).1 ∧ (takeT b m).1 < m := by
  unfold takeT
  split
  · exact ⟨Int.emod_nonneg _ (by omega), Int.emod_lt_of_pos _ h⟩
  · exact ⟨Int.emod_nonneg _ (by omega), Int.emod_lt_of_pos _ h⟩
theorem tk40 (b : Tp) {m : Int} (h : 0 < m) (h2 : m < 1073741824) : ∃ (d : Int) (b' : Tp), F__law_take [.ow b.ot, .va (.int m)] = some (.va (.int d), [.ow b'.ot, .no]) ∧ 0 ≤ d ∧ d < m :=
  ⟨_, _, gTake_tp takeT _ b m (decide_eq_true ⟨h, h2⟩), (take_lt b h).1, (take_lt b h).2⟩
theorem dSorted_ok (xs : List Int) : dSorted (.list (iL xs)) = some (iL (sortI xs)) := by
  show (asInts (iL xs)).map _ = _
  rw [show asInts (iL xs) = some xs from asInts_map xs]; rfl
theorem house_for (b : Tp) (n : Int) (hn : 2 ≤ n ∧ n ≤ 6) (m : Nat) (hm : m ≤ 15) (s10 s11 : Sl) : ∃ (b' : Tp) (ds : List Door) (s7 s8 s9 : Sl), forL (gNm 7) L1__law_house (rngD 0 m) [.ow b.ot, .va (.int 6), .va (.int 15), .va (.int 2), .va (.int 1), .va (.int n), .li [], .no, .no, .no, s10, s11] = some (.nx [.ow b'.ot, .va (.int 6), .va (.int 15), .va (.int 2), .va (.int 1), .va (.int n), .li (ds.map doorD), s7, s8, s9, s10, s11]) ∧ ds.length ≤ 15 ∧ ∀ d ∈ ds, (0 ≤ d.1 ∧ d.1 < n) ∧ 0 ≤ d.2.1 ∧ d.2.1 < n := by
  obtain ⟨⟨b', ds, s7, s8, s9⟩, h1, h2, h3, _⟩ := forL_at (t := gNm 7) (b := L1__law_house) (ds := rngD 0 m) (A := Tp × List Door × Sl × Sl × Sl) (fun _ a => [.ow a.1.ot, .va (.int 6), .va (.int 15), .va (.int 2), .va (.int 1), .va (.int n), .li (a.2.1.map doorD), a.2.2.1, a.2.2.2.1, a.2.2.2.2, s10, s11])
    (fun j a => a.2.1.length ≤ j ∧ (∀ d ∈ a.2.1, (0 ≤ d.1 ∧ d.1 < n) ∧ 0 ≤ d.2.1 ∧ d.2.1 < n) ∧ isOw (some a.2.2.1) = false ∧ isOw (some a.2.2.2.1) = false ∧ isOw (some a.2.2.2.2) = false) (fun j ⟨b, ds, s7, s8, s9⟩ it hit ⟨hl, hd, h7, h8, h9⟩ => by
    have h7 : isOw (some s7) = false := h7
    have h8 : isOw (some s8) = false := h8
    have h9 : isOw (some s9) = false := h9
    have hl : ds.length ≤ j := hl
    have hj : j < m := by
      have := (List.getElem?_eq_some_iff.mp hit).1
      rwa [rngD_len] at this
    obtain ⟨a, b1, e1, a0, a1⟩ := tk40 b (m := n) (by omega) (by omega)
    obtain ⟨c, b2, e2, c0, c1⟩ := tk40 b1 (m := n - 1) (by omega) (by omega)
    obtain ⟨w, b3, e3, w0, w1⟩ := tk40 b2 (m := 2) (by decide) (by decide)
    obtain ⟨l, b4, e4, l0, l1⟩ := tk40 b3 (m := 1 + 1) (by decide) (by decide)
    have hdiv : CDiv (a + 1 + c) n := ⟨by omega, by omega⟩
    have hmul : CMul ((a + 1 + c) / n) n := cmulR ⟨by omega, by omega⟩
    have hmod : a + 1 + c - (a + 1 + c) / n * n = (a + 1 + c) % n := by rw [Int.emod_def, Int.mul_comm]
    have ha : gAppend (ds.map doorD) (doorD (a, (a + 1 + c) % n, 1 + w, l)) = some (.none, (ds ++ [(a, (a + 1 + c) % n, 1 + w, l)]).map doorD) := by
      rw [List.map_append]
      exact gAppend_ok (by rw [List.length_map]; omega)
    refine ⟨(b4, ds ++ [(a, (a + 1 + c) % n, 1 + w, l)], .va it, .va (.int a), .va (.int ((a + 1 + c) % n))), ?_, ?_, ?_, rfl, rfl, rfl⟩
    · have ha' : gAppend (ds.map doorD) (.tuple [.int a, .int ((a + 1 + c) % n), .int (1 + w), .int l]) = _ := ha
      unfold L1__law_house
      repeat (first | walk_at "ev" | simp only [gNm_ev, h7, h8, h9, e1, e2, e3, e4, hdiv, hmul, hmod, ha', reduceIte])
    · show (ds ++ [_]).length ≤ j + 1
      rw [List.length_append, List.length_singleton]; omega
    · intro d hd2
      rcases List.mem_append.mp hd2 with h | h
      · exact hd d h
      · rw [List.mem_singleton.mp h]
        exact ⟨⟨a0, a1⟩, Int.emod_nonneg _ (by omega), Int.emod_lt_of_pos _ (by omega)⟩) (b, [], .no, .no, .no) ⟨Nat.le_refl _, (fun _ h => nomatch h), rfl, rfl, rfl⟩
  exact ⟨b', ds, s7, s8, s9, h1, by rw [rngD_len] at h2; exact Nat.le_trans h2 hm, h3⟩
theorem house_ok (b : Tp) : ∃ (n : Nat) (ds : List Door) (os : List Int) (b' : Tp), F__law_house [.ow b.ot, .va (.int 6), .va (.int 15), .va (.int 2), .va (.int 1)] = some (.va (hD n ds os), [.ow b'.ot, .no, .no, .no, .no]) ∧ WH n ds os := by
  obtain ⟨n0, b1, e1, n00, n01⟩ := tk40 b (m := 6 - 1) (by decide) (by decide)
  obtain ⟨m, b2, e2, m0, m1⟩ := tk40 b1 (m := 15 + 1) (by decide) (by decide)
  obtain ⟨b3, ds, s7, s8, s9, h1, h2, h3⟩ := house_for b2 (2 + n0) ⟨by omega, by omega⟩ m.toNat (by omega) .no .no
  obtain ⟨o, b4, e4, o0, o1⟩ := tk40 b3 (m := 3) (by decide) (by decide)
  have hr : Rg m := rg_of (by omega) (by omega)
  have hcomp : ∀ (b : Tp) (s10 : Sl), compC (gNm 11) T2__law_house K3__law_house [11] (ds.map doorD, [.ow b.ot, .va (.int 6), .va (.int 15), .va (.int 2), .va (.int 1), .va (.int (2 + n0)), .va (.list (ds.map doorD)), s7, s8, s9, s10, .no]) = some (.li ((ds.filter fun d => !(d.1 == d.2.1)).map doorD), [.ow b.ot, .va (.int 6), .va (.int 15), .va (.int 2), .va (.int 1), .va (.int (2 + n0)), .va (.list (ds.map doorD)), s7, s8, s9, s10, .no]) := fun b s10 => by
    rw [compC_ev _ _ _ _ _ _ (by rw [List.length_map]; exact small1Me (by omega)) rfl]
    rw [show wipeE [.ow b.ot, .va (.int 6), .va (.int 15), .va (.int 2), .va (.int 1), .va (.int (2 + n0)), .va (.list (ds.map doorD)), s7, s8, s9, s10, .no] [11] = [.ow b.ot, .va (.int 6), .va (.int 15), .va (.int 2), .va (.int 1), .va (.int (2 + n0)), .va (.list (ds.map doorD)), s7, s8, s9, s10, .no] from rfl]
    rw [compL_map doorD (fun d => !(d.1 == d.2.1)) doorD _ ds fun d _ => ⟨[.ow b.ot, .va (.int 6), .va (.int 15), .va (.int 2), .va (.int 1), .va (.int (2 + n0)), .va (.list (ds.map doorD)), s7, s8, s9, s10, .va (doorD d)], [.ow b.ot, .va (.int 6), .va (.int 15), .va (.int 2), .va (.int 1), .va (.int (2 + n0)), .va (.list (ds.map doorD)), s7, s8, s9, s10, .va (doorD d)], [.ow b.ot, .va (.int 6), .va (.int 15), .va (.int 2), .va (.int 1), .va (.int (2 + n0)), .va (.list (ds.map doorD)), s7, s8, s9, s10, .va (doorD d)], rfl, by unfold T2__law_house doorD; walk_at "ev", fun _ => ⟨by unfold K3__law_house; walk_at "ev", rfl⟩, fun _ => rfl⟩]
    rfl
  have wh : ∀ os : List Int, os.length ≤ 6 → WH (2 + n0).toNat (ds.filter fun d => !(d.1 == d.2.1)) os := fun os ho => ⟨by omega, Nat.le_trans (List.length_filter_le _ _) h2, fun d hd => by
    have := h3 d (List.mem_filter.mp hd).1
    omega, ho⟩
  have hnn : (((2 + n0).toNat : Nat) : Int) = 2 + n0 := by omega
  by_cases hc : 2 < 2 + n0
  · have d1 : decide (2 < 2 + n0) = true := decide_eq_true hc
    by_cases ho : o = 0
    · have d2 : (o == 0) = true := by simpa using ho
      have hs := dSorted_ok [2 + n0 - 1, 2 + n0 - 2]
      have hs' : dSorted (.list [.int (2 + n0 - 1), .int (2 + n0 - 2)]) = _ := hs
      refine ⟨(2 + n0).toNat, ds.filter fun d => !(d.1 == d.2.1), sortI [2 + n0 - 1, 2 + n0 - 2], b4, ?_, wh _ (by rw [(sortI_perm _).length_eq]; exact Nat.le_of_ble_eq_true rfl)⟩
      unfold F__law_house hD
      repeat (first | walk_at "ev" | simp only [e1, e2, hr, h1, d1, d2, e4, hcomp, hs', hnn, reduceIte])
    · have d2 : (o == 0) = false := by simpa using ho
      have hs := dSorted_ok [2 + n0 - 1]
      have hs' : dSorted (.list [.int (2 + n0 - 1)]) = _ := hs
      refine ⟨(2 + n0).toNat, ds.filter fun d => !(d.1 == d.2.1), sortI [2 + n0 - 1], b4, ?_, wh _ (by rw [(sortI_perm _).length_eq]; exact Nat.le_of_ble_eq_true rfl)⟩
      unfold F__law_house hD
      repeat (first | walk_at "ev" | simp only [e1, e2, hr, h1, d1, d2, e4, hcomp, hs', hnn, List.append_nil, reduceIte])
  · have d1 : decide (2 < 2 + n0) = false := decide_eq_false hc
    have hs := dSorted_ok [2 + n0 - 1]
    have hs' : dSorted (.list [.int (2 + n0 - 1)]) = _ := hs
    refine ⟨(2 + n0).toNat, ds.filter fun d => !(d.1 == d.2.1), sortI [2 + n0 - 1], b3, ?_, wh _ (by rw [(sortI_perm _).length_eq]; exact Nat.le_of_ble_eq_true rfl)⟩
    unfold F__law_house hD
    repeat (first | walk_at "ev" | simp only [e1, e2, hr, h1, d1, hcomp, hs', hnn, List.append_nil, reduceIte])
end Fl

set_option Elab.async false
set_option linter.all false
set_option maxRecDepth 100000
set_option maxHeartbeats 4000000
set_option autoImplicit false
namespace Fl
open PySem PySem.Spec PyProof.Rows L2
local macro_rules | `(tactic| walk_at "ev") => `(tactic| simp -implicitDefEqProofs only [prE_ev, eVar_ev, varC_ev, eNm_ev, nmC_va, nmC_li, eC_ev, vw_va, vw_li, eOwn_ev, eIxO_ev, ixoC_ev, ixoC2_ev, ixoC3_ev, eOp_ev, opC_ev, opC2_ev, eUn_ev, unC_ev, bE_ev, bEC_ev, bB_ev, bBC_ev, bNot_ev, notC_ev, bAnd_ev, andC_t, andC_f, bOr_ev, orC_t, orC_f, bYes_ev, eAnd_ev, eandC_t, eandC_f, eOr_ev, eorC_t, eorC_f, eNot_ev, enotC_ev, eIf_ev, ifC_t, ifC_f, eTup_ev, tupC_ev, aNil_ev, aCons_ev, aconsC_ev, aconsC2_ev, oLst_ev, lstC_ev, oE_ev, oEC_ev, eFz_ev, fzC_va, fzC_li, oUn_ev, ounC_ev, prL_ev, eSl_ev, slC_ev, slC2_ev, slC3_ev, eSlO_ev, sloC_ev, sloC2_ev, sloC3_ev, sloC4_ev, lEnum_ev, enC_tup, enC_lst, pNo_ev, pSo_ev, psoC_ev, lOf_ev, lofC_tup, lofC_lst, lRng1_ev, rng1C_ev, lRng2_ev, rng2C_ev, rng2C2_ev, oRep_ev, repC_ev, repC2_ev, oCall_ev, callC_0, callC_1, callC_2, callC_3, callC_4, callC_5, callC_rv, callC_rv4, arSl_vl, arSl_rf, callC2_ev, arBack_nil, arBack_vl, arBack_rf, rNil_ev, rVal_ev, rvC_ev, rvC2_ev, rRef_ev, rrC_ev, oComp_ev, compC2_ev, wipeE_nil, wipeE_cons, backE_nil, backE_cons, gNm_ev, gTupF_ev, gsNil_ev, gsCons_ev, sNext_ev, sBreak_ev, sCont_ev, sSeq_ev, seqC_nx, seqC_bk, seqC_ct, seqC_rt, sSet_ev, setC_ev, sPar_ev, parC_ev, setAll_nil, setAll_cons, olNil_ev, olCons_ev, olC_ev, olC2_ev, sAsg_ev, asgC_ev, sIf_ev, sifC_t, sifC_f, sFor_ev, forC_ev, sDrop_ev, dropC_ev, sRet_ev, retC_ev, sRetN_ev, retnC_va, retnC_li, liOf_li, eMt1_ev, mt1C_ev, mt1C2_ev, mt1C3_ev, mt1C4_ev, eMt0_ev, mt0C_ev, sSub_ev, subC_ev, subC1_ev, subC2_ev, subC3_ev, subC4_ev, sAug_ev, augC_ev, augC2_ev, augC3_ev, mkF_ev, mkC_rt, mkC_nx, keepE_nil, keepE_va, keepE_ow', dTru_bool, dTru_int, dTru_none, dTru_list, dTru_tuple, dAdd_int, dAdd_tup, dAdd_lst, dIadd_int, dSub_int, dMul_int, dDiv_int, dMod_int, dNeg_int, dMin2_int, dMax2_int, dLtA_int, dLe_int, dLt_int, dGt_int, dGe_int, shaped_int, shaped_bool, shaped_none, eqv_int, eqv_bool, dEq_int, dNe_int, dEq_bool, dIs_none, dIsN_none, isNon_none, isNon_int, isNon_tup, isNon_bool, dLen_tup, dLen_lst, dIx_tup, dIx_lst, at0, at1, at2, at3, gExtend_lst, dTuple_lst, dTuple_tup, dList_lst, dList_tup, dInt_int, dSl_tup, dSl_lst, isTup, isLst, isBool, isIntB, isStr, beq_self_eq_true, decide_true, decide_false, isi_tup, isi_lst, isi_int, isi_bool, isi_str, isi_none, sz0, sz1, sz2, sz3, sz4, sz5, sz6, sz7, sz8, sz9, sz10, sz11, sz12, isOw_no, isOw_va, isOw_li, isOw_di, isOw_dt, isOw_ow, isOw_none, isOw_sl,
  Option.bind_some, Option.map_some, Option.bind_none, Option.map_none, Option.getD_some, Option.getD_none, List.getElem?_cons_zero, List.getElem?_cons_succ, List.set_cons_zero, List.set_cons_succ, List.map_cons, List.map_nil, List.headD_cons, List.headD_nil, List.tail_cons, List.tail_nil, List.isEmpty_nil, List.isEmpty_cons, List.length_nil, List.length_cons, List.nil_append, List.cons_append, List.replicate_succ, List.replicate_zero, Nat.reduceSub, Nat.reduceAdd, Bool.false_eq_true, if_false, if_true, reduceIte, Bool.not_true, Bool.not_false, and_true, true_and, and_self, Int.toNat_natCast, Int.zero_add])
local macro_rules | `(tactic| walk_at "evh") => `(tactic| simp -implicitDefEqProofs only [prE_ev, eVar_ev, varC_ev, eNm_ev, nmC_va, nmC_li, eC_ev, vw_va, vw_li, eOwn_ev, eIxO_ev, ixoC_ev, ixoC2_ev, ixoC3_ev, eOp_ev, opC_ev, opC2_ev, eUn_ev, unC_ev, bE_ev, bEC_ev, bB_ev, bBC_ev, bNot_ev, notC_ev, bAnd_ev, andC_t, andC_f, bOr_ev, orC_t, orC_f, bYes_ev, eAnd_ev, eandC_t, eandC_f, eOr_ev, eorC_t, eorC_f, eNot_ev, enotC_ev, eIf_ev, ifC_t, ifC_f, eTup_ev, tupC_ev, aNil_ev, aCons_ev, aconsC_ev, aconsC2_ev, oLst_ev, lstC_ev, oE_ev, oEC_ev, eFz_ev, fzC_va, fzC_li, oUn_ev, ounC_ev, prL_ev, eSl_ev, slC_ev, slC2_ev, slC3_ev, eSlO_ev, sloC_ev, sloC2_ev, sloC3_ev, sloC4_ev, lEnum_ev, enC_tup, enC_lst, pNo_ev, pSo_ev, psoC_ev, lOf_ev, lofC_tup, lofC_lst, lRng1_ev, rng1C_ev, lRng2_ev, rng2C_ev, rng2C2_ev, oRep_ev, repC_ev, repC2_ev, oCall_ev, callC_0, callC_1, callC_2, callC_3, callC_4, callC_5, callC_rv, callC_rv4, arSl_vl, arSl_rf, callC2_ev, arBack_nil, arBack_vl, arBack_rf, rNil_ev, rVal_ev, rvC_ev, rvC2_ev, rRef_ev, rrC_ev, oComp_ev, compC2_ev, wipeE_nil, wipeE_cons, backE_nil, backE_cons, gNm_ev, gTupF_ev, gsNil_ev, gsCons_ev, sNext_ev, sBreak_ev, sCont_ev, sSeq_ev, seqC_nx, seqC_bk, seqC_ct, seqC_rt, sSet_ev, setC_ev, sPar_ev, parC_ev, setAll_nil, setAll_cons, olNil_ev, olCons_ev, olC_ev, olC2_ev, sAsg_ev, asgC_ev, sIf_ev, sifC_t, sifC_f, sFor_ev, forC_ev, sDrop_ev, dropC_ev, sRet_ev, retC_ev, sRetN_ev, retnC_va, retnC_li, liOf_li, eMt1_ev, mt1C_ev, mt1C2_ev, mt1C3_ev, mt1C4_ev, eMt0_ev, mt0C_ev, sSub_ev, subC_ev, subC1_ev, subC2_ev, subC3_ev, subC4_ev, sAug_ev, augC_ev, augC2_ev, augC3_ev, mkF_ev, mkC_rt, mkC_nx, keepE_nil, keepE_va, keepE_ow', dTru_bool, dTru_int, dTru_none, dTru_list, dTru_tuple, dAdd_int, dAdd_tup, dAdd_lst, dIadd_int, dSub_int, dMul_int, dDiv_int, dMod_int, dNeg_int, dMin2_int, dMax2_int, dLtA_int, dLe_int, dLt_int, dGt_int, dGe_int, shaped_int, shaped_bool, shaped_none, eqv_int, eqv_bool, dEq_int, dNe_int, dEq_bool, dIs_none, dIsN_none, isNon_none, isNon_int, isNon_tup, isNon_bool, dLen_tup, dLen_lst, dIx_tup, dIx_lst, at0, at1, at2, at3, gExtend_lst, dTuple_lst, dTuple_tup, dList_lst, dList_tup, dInt_int, dSl_tup, dSl_lst, isTup, isLst, isBool, isIntB, isStr, beq_self_eq_true, decide_true, decide_false, isi_tup, isi_lst, isi_int, isi_bool, isi_str, isi_none, sz0, sz1, sz2, sz3, sz4, sz5, sz6, sz7, sz8, sz9, sz10, sz11, sz12, isOw_no, isOw_va, isOw_li, isOw_di, isOw_dt, isOw_ow, isOw_none, isOw_sl,
  Option.bind_some, Option.map_some, Option.bind_none, Option.map_none, Option.getD_some, Option.getD_none, List.getElem?_cons_zero, List.getElem?_cons_succ, List.set_cons_zero, List.set_cons_succ, List.map_cons, List.map_nil, List.headD_cons, List.headD_nil, List.tail_cons, List.tail_nil, List.isEmpty_nil, List.isEmpty_cons, List.length_nil, List.length_cons, List.nil_append, List.cons_append, List.replicate_succ, List.replicate_zero, Nat.reduceSub, Nat.reduceAdd, Bool.false_eq_true, if_false, if_true, reduceIte, Bool.not_true, Bool.not_false, and_true, true_and, and_self, Int.toNat_natCast, Int.zero_add, *])
abbrev Sg := List (Option Int)
/-- choices of a door of the house -/
def OkK (ds : List Door) (o : Option Int) : Prop := ∀ k, o = some k → 0 ≤ k ∧ k.toNat < ds.length
def OkRow (ds : List Door) (j : Nat) (row : Sg) : Prop := row.length = j ∧ ∀ o ∈ row, OkK ds o
theorem sD_snoc (row : Sg) (k : Option Int) : (row ++ [k]).map oD = row.map oD ++ [oD k] := by rw [List.map_append]; rfl
theorem rows_in {n : Nat} {ds : List Door} {os : List Int} {j : Nat} (hj : j < 6) (rows : List Sg) (hl : rows.length ≤ 15 ^ j) (hr : ∀ r ∈ rows, OkRow ds j r) (ch : List (Option Int)) (hc : ch.length ≤ 15) (hk : ∀ o ∈ ch, OkK ds o) (s2 s3 s6 : Sl) (h6 : isOw (some s6) = false) :
    ∃ (acc : List Sg) (t6 : Sl), forL (gNm 6) L4__law_all_signs (rows.map sD) [.va (hD n ds os), .va (.list (rows.map sD)), s2, s3, .va (.list (ch.map oD)), .li [], s6, .no] = some (.nx [.va (hD n ds os), .va (.list (rows.map sD)), s2, s3, .va (.list (ch.map oD)), .li (acc.map sD), t6, .no]) ∧ acc.length ≤ 15 ^ (j + 1) ∧ (∀ r ∈ acc, OkRow ds (j + 1) r) ∧ isOw (some t6) = false := by
  have hpow : (15 : Nat) ^ (j + 1) ≤ 15 ^ 6 := Nat.pow_le_pow_right (by decide) (by omega)
  have hp6 : (15 : Nat) ^ 6 = 11390625 := by decide
  have hps : (15 : Nat) ^ (j + 1) = 15 ^ j * 15 := Nat.pow_succ ..
  obtain ⟨⟨acc, t6⟩, h1, h2, h3, h4⟩ := forL_at (t := gNm 6) (b := L4__law_all_signs) (ds := rows.map sD) (A := List Sg × Sl) (fun _ a => [.va (hD n ds os), .va (.list (rows.map sD)), s2, s3, .va (.list (ch.map oD)), .li (a.1.map sD), a.2, .no])
    (fun i a => a.1.length ≤ i * 15 ∧ (∀ r ∈ a.1, OkRow ds (j + 1) r) ∧ isOw (some a.2) = false) (fun i ⟨acc, s6⟩ d hd ⟨hi, ha, h6⟩ => by
    have h6 : isOw (some s6) = false := h6
    have hi : acc.length ≤ i * 15 := hi
    have hil : i < rows.length := by
      have := (List.getElem?_eq_some_iff.mp hd).1
      rwa [List.length_map] at this
    rw [List.getElem?_map, List.getElem?_eq_getElem hil] at hd
    cases hd
    have hrow := hr rows[i] (List.getElem_mem hil)
    generalize rows[i] = row at hrow ⊢
    refine ⟨(acc ++ ch.map fun k => row ++ [k], .va (sD row)), ?_, ?_, ?_, rfl⟩
    · have hcl : compC (gNm 7) bYes K3__law_all_signs [7] (ch.map oD, [.va (hD n ds os), .va (.list (rows.map sD)), s2, s3, .va (.list (ch.map oD)), .li (acc.map sD), .va (sD row), .no]) = some (.li ((ch.map fun k => row ++ [k]).map sD), [.va (hD n ds os), .va (.list (rows.map sD)), s2, s3, .va (.list (ch.map oD)), .li (acc.map sD), .va (sD row), .no]) := by
        rw [compC_ev _ _ _ _ _ _ (by rw [List.length_map]; exact small1Me (by omega)) rfl]
        rw [show wipeE [.va (hD n ds os), .va (.list (rows.map sD)), s2, s3, .va (.list (ch.map oD)), .li (acc.map sD), .va (sD row), .no] [7] = [.va (hD n ds os), .va (.list (rows.map sD)), s2, s3, .va (.list (ch.map oD)), .li (acc.map sD), .va (sD row), .no] from rfl]
        have hz : row.length + 1 ≤ sizeLine := small1Me (by rw [hrow.1]; omega)
        rw [compL_map oD (fun _ => true) (fun k => sD (row ++ [k])) _ ch fun k _ => ⟨[.va (hD n ds os), .va (.list (rows.map sD)), s2, s3, .va (.list (ch.map oD)), .li (acc.map sD), .va (sD row), .va (oD k)], [.va (hD n ds os), .va (.list (rows.map sD)), s2, s3, .va (.list (ch.map oD)), .li (acc.map sD), .va (sD row), .va (oD k)], [.va (hD n ds os), .va (.list (rows.map sD)), s2, s3, .va (.list (ch.map oD)), .li (acc.map sD), .va (sD row), .va (oD k)], rfl, rfl, fun _ => ⟨by
            unfold K3__law_all_signs sD
            rw [sD_snoc]
            repeat (first | walk_at "ev" | simp only [List.length_map, hz, reduceIte]), rfl⟩, fun h => by cases h⟩]
        rw [List.filter_eq_self.mpr fun _ _ => rfl, List.map_map]; rfl
      have hz2 : (acc.map sD).length + ((ch.map fun k => row ++ [k]).map sD).length ≤ sizeLine := by
        rw [List.length_map, List.length_map, List.length_map]
        refine Nat.le_trans ?_ (show (11390625 : Nat) ≤ sizeLine by decide)
        omega
      unfold L4__law_all_signs
      repeat (first | walk_at "ev" | simp only [gNm_ev, h6, hcl, hz2, reduceIte])
      rw [List.map_append]
    · show (acc ++ _).length ≤ (i + 1) * 15
      rw [List.length_append, List.length_map]; omega
    · intro r hr2
      rcases List.mem_append.mp hr2 with h | h
      · exact ha r h
      · obtain ⟨k, hk1, rfl⟩ := List.mem_map.mp h
        refine ⟨by rw [List.length_append, hrow.1]; rfl, fun o ho => ?_⟩
        rcases List.mem_append.mp ho with h2 | h2
        · exact hrow.2 o h2
        · rw [List.mem_singleton.mp h2]; exact hk k hk1) ([], s6) ⟨Nat.zero_le _, (fun _ h => nomatch h), h6⟩
  rw [List.length_map] at h2
  exact ⟨acc, t6, h1, by have h2' : acc.length ≤ rows.length * 15 := h2; omega, h3, h4⟩
def doorsFrom (ds : List Door) (room : Int) : List Int := ((List.range ds.length).filter fun k => match ds[k]? with
  | some d => d.1 == room
  | none => false).map fun k => ((k : Nat) : Int)
theorem ds_at {ds : List Door} {k : Nat} {d : Door} (h : ds[k]? = some d) : atI (ds.map doorD) (k : Int) = some (doorD d) := atI_nat (by rw [List.getElem?_map, h]; rfl)
theorem rows_ok {n : Nat} {ds : List Door} {os : List Int} (wh : WH n ds os) : ∃ rows : List Sg, F__law_all_signs [.va (hD n ds os)] = some (.va (.list (rows.map sD)), [.no]) ∧ ∀ r ∈ rows, OkRow ds n r := by
  have hn6 := wh.n6
  have hd15 := wh.d15
  obtain ⟨⟨rows, s2, s3, s4, s5, s6⟩, h1, h2, h3, _⟩ := forL_at (t := gNm 2) (b := L5__law_all_signs) (ds := rngD 0 n) (A := List Sg × Sl × Sl × Sl × Sl × Sl) (fun _ a => [.va (hD n ds os), .va (.list (a.1.map sD)), a.2.1, a.2.2.1, a.2.2.2.1, a.2.2.2.2.1, a.2.2.2.2.2, .no])
    (fun j a => a.1.length ≤ 15 ^ j ∧ (∀ r ∈ a.1, OkRow ds j r) ∧ isOw (some a.2.1) = false ∧ isOw (some a.2.2.1) = false ∧ isOw (some a.2.2.2.1) = false ∧ isOw (some a.2.2.2.2.1) = false ∧ isOw (some a.2.2.2.2.2) = false) (fun j ⟨rows, s2, s3, s4, s5, s6⟩ it hit ⟨hl, hr, h2, h3, h4, h5, h6⟩ => by
    have h2 : isOw (some s2) = false := h2
    have h3 : isOw (some s3) = false := h3
    have h4 : isOw (some s4) = false := h4
    have h5 : isOw (some s5) = false := h5
    have h6 : isOw (some s6) = false := h6
    have hjn : j < n := by
      have := (List.getElem?_eq_some_iff.mp hit).1
      rwa [rngD_len] at this
    rw [rngD_get hjn, Int.zero_add] at hit
    cases hit
    have hrg : Rg (ds.length : Int) := rg_of (by omega) (by omega)
    have hfl : (doorsFrom ds j).length ≤ 15 := by
      unfold doorsFrom
      rw [List.length_map]
      exact Nat.le_trans (List.length_filter_le _ _) (by rw [List.length_range]; exact hd15)
    have hfk : ∀ k ∈ doorsFrom ds j, 0 ≤ k ∧ k.toNat < ds.length := fun k hk => by
      obtain ⟨i, hi, rfl⟩ := List.mem_map.mp hk
      have := List.mem_range.mp (List.mem_filter.mp hi).1
      exact ⟨by omega, by omega⟩
    have hcomp : compC (gNm 7) T1__law_all_signs K2__law_all_signs [7] (rngD 0 ds.length, [.va (hD n ds os), .va (.list (rows.map sD)), .va (.int j), s3, s4, s5, s6, .no]) = some (.li (iL (doorsFrom ds j)), [.va (hD n ds os), .va (.list (rows.map sD)), .va (.int j), s3, s4, s5, s6, .no]) := by
      rw [compC_ev _ _ _ _ _ _ (by rw [rngD_len]; exact small1Me (by omega)) rfl]
      rw [show wipeE [.va (hD n ds os), .va (.list (rows.map sD)), .va (.int j), s3, s4, s5, s6, .no] [7] = [.va (hD n ds os), .va (.list (rows.map sD)), .va (.int j), s3, s4, s5, s6, .no] from rfl]
      unfold rngD
      rw [compL_map (fun i : Nat => PyData.int (0 + (i : Nat))) (fun k => match ds[k]? with
        | some d => d.1 == (j : Int)
        | none => false) (fun k : Nat => PyData.int (k : Nat)) _ (List.range ds.length) fun k hk => by
          have hk' : k < ds.length := List.mem_range.mp hk
          have hdk : ds[k]? = some ds[k] := List.getElem?_eq_getElem hk'
          have hat := ds_at hdk
          refine ⟨[.va (hD n ds os), .va (.list (rows.map sD)), .va (.int j), s3, s4, s5, s6, .va (.int (0 + (k : Nat)))], [.va (hD n ds os), .va (.list (rows.map sD)), .va (.int j), s3, s4, s5, s6, .va (.int (0 + (k : Nat)))], [.va (hD n ds os), .va (.list (rows.map sD)), .va (.int j), s3, s4, s5, s6, .va (.int (0 + (k : Nat)))], rfl, ?_, fun _ => ⟨?_, rfl⟩, fun _ => rfl⟩
          · rw [hdk, Int.zero_add]
            unfold T1__law_all_signs hD
            repeat (first | walk_at "ev" | simp only [hat, doorD, reduceIte])
          · rw [Int.zero_add]
            unfold K2__law_all_signs
            walk_at "ev"]
      unfold doorsFrom iL
      rw [List.map_map]; rfl
    -- the choices
    obtain ⟨ch, hch, hck, hset⟩ : ∃ ch : List (Option Int), ch.length ≤ 15 ∧ (∀ o ∈ ch, OkK ds o) ∧ (eIf (bOr (bB (eOp (dInB false) (eVar 2) (eOp dIx (eVar 0) (eC (.int 2))))) (bB (eOp dEq (eVar 3) (eFz (oLst aNil))))) (eFz (oLst (aCons (eC .none) aNil))) (eVar 3)) [.va (hD n ds os), .va (.list (rows.map sD)), .va (.int j), .va (.list (iL (doorsFrom ds j))), s4, s5, s6, .no] = some (.list (ch.map oD), [.va (hD n ds os), .va (.list (rows.map sD)), .va (.int j), .va (.list (iL (doorsFrom ds j))), s4, s5, s6, .no]) := by
      have hq : dEq (.list (iL (doorsFrom ds j))) (.list []) = some (.bool (iL (doorsFrom ds j)).isEmpty) := dEq_nil (n := 1) (plain_intsL (by omega)) (by decide)
      by_cases ho : (j : Int) ∈ os
      · have d1 : decide ((j : Int) ∈ os) = true := decide_eq_true ho
        refine ⟨[none], by decide, fun o ho k hk => (by rw [List.mem_singleton.mp ho] at hk; cases hk), ?_⟩
        unfold hD
        repeat (first | walk_at "ev" | simp only [inB_tup, d1, reduceIte])
        rfl
      · have d1 : decide ((j : Int) ∈ os) = false := decide_eq_false ho
        cases he : (iL (doorsFrom ds j)).isEmpty with
        | true =>
          rw [he] at hq
          refine ⟨[none], by decide, fun o ho k hk => (by rw [List.mem_singleton.mp ho] at hk; cases hk), ?_⟩
          unfold hD
          repeat (first | walk_at "ev" | simp only [inB_tup, d1, hq, reduceIte])
          rfl
        | false =>
          rw [he] at hq
          refine ⟨(doorsFrom ds j).map some, by rw [List.length_map]; exact hfl, fun o ho k hk => ?_, ?_⟩
          · obtain ⟨i, hi, rfl⟩ := List.mem_map.mp ho
            cases hk
            exact hfk _ hi
          · unfold hD
            repeat (first | walk_at "ev" | simp only [inB_tup, d1, hq, reduceIte])
            rw [List.map_map]; rfl
    obtain ⟨acc, t6, i1, i2, i3, i4⟩ := rows_in (n := n) (os := os) (by omega) rows hl hr ch hch hck (.va (.int j)) (.va (.list (iL (doorsFrom ds j)))) s6 h6
    refine ⟨(acc, .va (.int j), .va (.list (iL (doorsFrom ds j))), .va (.list (ch.map oD)), .va (.list (acc.map sD)), t6), ?_, i2, i3, rfl, rfl, rfl, rfl, i4⟩
    have g1 : (sSet 4 (oE (eIf (bOr (bB (eOp (dInB false) (eVar 2) (eOp dIx (eVar 0) (eC (.int 2))))) (bB (eOp dEq (eVar 3) (eFz (oLst aNil))))) (eFz (oLst (aCons (eC .none) aNil))) (eVar 3)))) [.va (hD n ds os), .va (.list (rows.map sD)), .va (.int j), .va (.list (iL (doorsFrom ds j))), s4, s5, s6, .no] = some (.nx [.va (hD n ds os), .va (.list (rows.map sD)), .va (.int j), .va (.list (iL (doorsFrom ds j))), .va (.list (ch.map oD)), s5, s6, .no]) := by
      rw [sSet_ev, oE_ev, hset]
      repeat (first | walk_at "ev" | simp only [h4, reduceIte])
    have g0 : (sSet 3 (oE (eFz (oComp (lRng1 (eUn dLen (eOp dIx (eVar 0) (eC (.int 1))))) (gNm 7) (T1__law_all_signs) (K2__law_all_signs) [7])))) [.va (hD n ds os), .va (.list (rows.map sD)), .va (.int j), s3, s4, s5, s6, .no] = some (.nx [.va (hD n ds os), .va (.list (rows.map sD)), .va (.int j), .va (.list (iL (doorsFrom ds j))), s4, s5, s6, .no]) := by
      rw [show hD n ds os = .tuple [.int n, .tuple (ds.map doorD), .tuple (iL os)] from rfl] at hcomp ⊢
      repeat (first | walk_at "ev" | simp only [List.length_map, hrg, hcomp, h3, reduceIte])
    have hg : gNm 2 (.int j) [Sl.va (hD n ds os), .va (.list (rows.map sD)), s2, s3, s4, s5, s6, .no] = some [Sl.va (hD n ds os), .va (.list (rows.map sD)), .va (.int j), s3, s4, s5, s6, .no] := by
      repeat (first | walk_at "ev" | simp only [gNm_ev, h2, reduceIte])
    unfold L5__law_all_signs
    rw [hg, Option.bind_some]
    rw [sSeq_ev, g0, Option.bind_some, seqC_nx, sSeq_ev, g1, Option.bind_some, seqC_nx]
    clear hset g0 g1 hcomp
    repeat (first | walk_at "ev" | simp only [h5, i1, reduceIte])) ([[]], .no, .no, .no, .no, .no) ⟨Nat.le_refl _, fun r hr => by rw [List.mem_singleton.mp hr]; exact ⟨rfl, fun _ h => nomatch h⟩, rfl, rfl, rfl, rfl, rfl⟩
  rw [rngD_len] at h3
  refine ⟨rows, ?_, h3⟩
  have hr : Rg (n : Int) := rg_of (by omega) (by omega)
  have h1' : forL (gNm 2) L5__law_all_signs (rngD 0 n) [.va (hD n ds os), .va (.list [.tuple []]), .no, .no, .no, .no, .no, .no] = _ := h1
  unfold F__law_all_signs
  rw [show hD n ds os = .tuple [.int n, .tuple (ds.map doorD), .tuple (iL os)] from rfl] at h1' ⊢
  repeat (first | walk_at "ev" | simp only [hr, h1', reduceIte])
end Fl

set_option Elab.async false
set_option linter.all false
set_option maxRecDepth 100000
set_option maxHeartbeats 4000000
set_option autoImplicit false
namespace Fl
open PySem PySem.Spec PyProof.Rows L2
local macro_rules | `(tactic| walk_at "ev") => `(tactic| simp -implicitDefEqProofs only [prE_ev, eVar_ev, varC_ev, eNm_ev, nmC_va, nmC_li, eC_ev, vw_va, vw_li, eOwn_ev, eIxO_ev, ixoC_ev, ixoC2_ev, ixoC3_ev, eOp_ev, opC_ev, opC2_ev, eUn_ev, unC_ev, bE_ev, bEC_ev, bB_ev, bBC_ev, bNot_ev, notC_ev, bAnd_ev, andC_t, andC_f, bOr_ev, orC_t, orC_f, bYes_ev, eAnd_ev, eandC_t, eandC_f, eOr_ev, eorC_t, eorC_f, eNot_ev, enotC_ev, eIf_ev, ifC_t, ifC_f, eTup_ev, tupC_ev, aNil_ev, aCons_ev, aconsC_ev, aconsC2_ev, oLst_ev, lstC_ev, oE_ev, oEC_ev, eFz_ev, fzC_va, fzC_li, oUn_ev, ounC_ev, prL_ev, eSl_ev, slC_ev, slC2_ev, slC3_ev, eSlO_ev, sloC_ev, sloC2_ev, sloC3_ev, sloC4_ev, lEnum_ev, enC_tup, enC_lst, pNo_ev, pSo_ev, psoC_ev, lOf_ev, lofC_tup, lofC_lst, lRng1_ev, rng1C_ev, lRng2_ev, rng2C_ev, rng2C2_ev, oRep_ev, repC_ev, repC2_ev, oCall_ev, callC_0, callC_1, callC_2, callC_3, callC_4, callC_5, callC_rv, callC_rv4, arSl_vl, arSl_rf, callC2_ev, arBack_nil, arBack_vl, arBack_rf, rNil_ev, rVal_ev, rvC_ev, rvC2_ev, rRef_ev, rrC_ev, oComp_ev, compC2_ev, wipeE_nil, wipeE_cons, backE_nil, backE_cons, gNm_ev, gTupF_ev, gsNil_ev, gsCons_ev, sNext_ev, sBreak_ev, sCont_ev, sSeq_ev, seqC_nx, seqC_bk, seqC_ct, seqC_rt, sSet_ev, setC_ev, sPar_ev, parC_ev, setAll_nil, setAll_cons, olNil_ev, olCons_ev, olC_ev, olC2_ev, sAsg_ev, asgC_ev, sIf_ev, sifC_t, sifC_f, sFor_ev, forC_ev, sDrop_ev, dropC_ev, sRet_ev, retC_ev, sRetN_ev, retnC_va, retnC_li, liOf_li, eMt1_ev, mt1C_ev, mt1C2_ev, mt1C3_ev, mt1C4_ev, eMt0_ev, mt0C_ev, sSub_ev, subC_ev, subC1_ev, subC2_ev, subC3_ev, subC4_ev, sAug_ev, augC_ev, augC2_ev, augC3_ev, mkF_ev, mkC_rt, mkC_nx, keepE_nil, keepE_va, keepE_ow', dTru_bool, dTru_int, dTru_none, dTru_list, dTru_tuple, dAdd_int, dAdd_tup, dAdd_lst, dIadd_int, dSub_int, dMul_int, dDiv_int, dMod_int, dNeg_int, dMin2_int, dMax2_int, dLtA_int, dLe_int, dLt_int, dGt_int, dGe_int, shaped_int, shaped_bool, shaped_none, eqv_int, eqv_bool, dEq_int, dNe_int, dEq_bool, dIs_none, dIsN_none, isNon_none, isNon_int, isNon_tup, isNon_bool, dLen_tup, dLen_lst, dIx_tup, dIx_lst, at0, at1, at2, at3, gExtend_lst, dTuple_lst, dTuple_tup, dList_lst, dList_tup, dInt_int, dSl_tup, dSl_lst, isTup, isLst, isBool, isIntB, isStr, beq_self_eq_true, decide_true, decide_false, isi_tup, isi_lst, isi_int, isi_bool, isi_str, isi_none, sz0, sz1, sz2, sz3, sz4, sz5, sz6, sz7, sz8, sz9, sz10, sz11, sz12, isOw_no, isOw_va, isOw_li, isOw_di, isOw_dt, isOw_ow, isOw_none, isOw_sl,
  Option.bind_some, Option.map_some, Option.bind_none, Option.map_none, Option.getD_some, Option.getD_none, List.getElem?_cons_zero, List.getElem?_cons_succ, List.set_cons_zero, List.set_cons_succ, List.map_cons, List.map_nil, List.headD_cons, List.headD_nil, List.tail_cons, List.tail_nil, List.isEmpty_nil, List.isEmpty_cons, List.length_nil, List.length_cons, List.nil_append, List.cons_append, List.replicate_succ, List.replicate_zero, Nat.reduceSub, Nat.reduceAdd, Bool.false_eq_true, if_false, if_true, reduceIte, Bool.not_true, Bool.not_false, and_true, true_and, and_self, Int.toNat_natCast, Int.zero_add])
local macro_rules | `(tactic| walk_at "evh") => `(tactic| simp -implicitDefEqProofs only [prE_ev, eVar_ev, varC_ev, eNm_ev, nmC_va, nmC_li, eC_ev, vw_va, vw_li, eOwn_ev, eIxO_ev, ixoC_ev, ixoC2_ev, ixoC3_ev, eOp_ev, opC_ev, opC2_ev, eUn_ev, unC_ev, bE_ev, bEC_ev, bB_ev, bBC_ev, bNot_ev, notC_ev, bAnd_ev, andC_t, andC_f, bOr_ev, orC_t, orC_f, bYes_ev, eAnd_ev, eandC_t, eandC_f, eOr_ev, eorC_t, eorC_f, eNot_ev, enotC_ev, eIf_ev, ifC_t, ifC_f, eTup_ev, tupC_ev, aNil_ev, aCons_ev, aconsC_ev, aconsC2_ev, oLst_ev, lstC_ev, oE_ev, oEC_ev, eFz_ev, fzC_va, fzC_li, oUn_ev, ounC_ev, prL_ev, eSl_ev, slC_ev, slC2_ev, slC3_ev, eSlO_ev, sloC_ev, sloC2_ev, sloC3_ev, sloC4_ev, lEnum_ev, enC_tup, enC_lst, pNo_ev, pSo_ev, psoC_ev, lOf_ev, lofC_tup, lofC_lst, lRng1_ev, rng1C_ev, lRng2_ev, rng2C_ev, rng2C2_ev, oRep_ev, repC_ev, repC2_ev, oCall_ev, callC_0, callC_1, callC_2, callC_3, callC_4, callC_5, callC_rv, callC_rv4, arSl_vl, arSl_rf, callC2_ev, arBack_nil, arBack_vl, arBack_rf, rNil_ev, rVal_ev, rvC_ev, rvC2_ev, rRef_ev, rrC_ev, oComp_ev, compC2_ev, wipeE_nil, wipeE_cons, backE_nil, backE_cons, gNm_ev, gTupF_ev, gsNil_ev, gsCons_ev, sNext_ev, sBreak_ev, sCont_ev, sSeq_ev, seqC_nx, seqC_bk, seqC_ct, seqC_rt, sSet_ev, setC_ev, sPar_ev, parC_ev, setAll_nil, setAll_cons, olNil_ev, olCons_ev, olC_ev, olC2_ev, sAsg_ev, asgC_ev, sIf_ev, sifC_t, sifC_f, sFor_ev, forC_ev, sDrop_ev, dropC_ev, sRet_ev, retC_ev, sRetN_ev, retnC_va, retnC_li, liOf_li, eMt1_ev, mt1C_ev, mt1C2_ev, mt1C3_ev, mt1C4_ev, eMt0_ev, mt0C_ev, sSub_ev, subC_ev, subC1_ev, subC2_ev, subC3_ev, subC4_ev, sAug_ev, augC_ev, augC2_ev, augC3_ev, mkF_ev, mkC_rt, mkC_nx, keepE_nil, keepE_va, keepE_ow', dTru_bool, dTru_int, dTru_none, dTru_list, dTru_tuple, dAdd_int, dAdd_tup, dAdd_lst, dIadd_int, dSub_int, dMul_int, dDiv_int, dMod_int, dNeg_int, dMin2_int, dMax2_int, dLtA_int, dLe_int, dLt_int, dGt_int, dGe_int, shaped_int, shaped_bool, shaped_none, eqv_int, eqv_bool, dEq_int, dNe_int, dEq_bool, dIs_none, dIsN_none, isNon_none, isNon_int, isNon_tup, isNon_bool, dLen_tup, dLen_lst, dIx_tup, dIx_lst, at0, at1, at2, at3, gExtend_lst, dTuple_lst, dTuple_tup, dList_lst, dList_tup, dInt_int, dSl_tup, dSl_lst, isTup, isLst, isBool, isIntB, isStr, beq_self_eq_true, decide_true, decide_false, isi_tup, isi_lst, isi_int, isi_bool, isi_str, isi_none, sz0, sz1, sz2, sz3, sz4, sz5, sz6, sz7, sz8, sz9, sz10, sz11, sz12, isOw_no, isOw_va, isOw_li, isOw_di, isOw_dt, isOw_ow, isOw_none, isOw_sl,
  Option.bind_some, Option.map_some, Option.bind_none, Option.map_none, Option.getD_some, Option.getD_none, List.getElem?_cons_zero, List.getElem?_cons_succ, List.set_cons_zero, List.set_cons_succ, List.map_cons, List.map_nil, List.headD_cons, List.headD_nil, List.tail_cons, List.tail_nil, List.isEmpty_nil, List.isEmpty_cons, List.length_nil, List.length_cons, List.nil_append, List.cons_append, List.replicate_succ, List.replicate_zero, Nat.reduceSub, Nat.reduceAdd, Bool.false_eq_true, if_false, if_true, reduceIte, Bool.not_true, Bool.not_false, and_true, true_and, and_self, Int.toNat_natCast, Int.zero_add, *])
def fitsI (n : Nat) (ds : List Door) (os : List Int) (sg : Sg) (room : Int) : List Int := (fits n ds os sg room).map fun k => ((k : Nat) : Int)
theorem lled_right {n : Nat} {ds : List Door} {os : List Int} {sg : Sg} (wh : WH n ds os) (ws : WS n ds sg) (hR : rightB n ds os sg = true) {s : Int} (hs : 0 ≤ s ∧ s < n) :
    F__law_led [.va (hD n ds os), .va (sD sg), .va (.int s)] = some (.va (.tuple [.str wOut, .tuple (iL (pathS n ds os sg s))]), [.no, .no, .no]) := by
  obtain ⟨p, hp⟩ := right_iff wh hR hs
  obtain ⟨w, rooms, k1, k2⟩ := lled_ok wh ws hs
  rcases k2 with ⟨rfl, k2⟩ | ⟨_, k2⟩
  · unfold pathS
    rw [k2]; exact k1
  · rw [k2] at hp; cases hp
theorem fit_comp {n : Nat} {ds : List Door} {os : List Int} {sg : Sg} (wh : WH n ds os) (ws : WS n ds sg) (hR : rightB n ds os sg = true) (room : Int) (hr : 0 ≤ room ∧ room < n) (t : OT) (s2 s4 s6 s7 s9 s10 s11 s12 s13 s14 : Sl) (h12 : isOw (some s12) = false) :
    compC (gNm 12) T3_law K4_law [12] (rngD 0 ds.length, [.no, .ow t, s2, .va (hD n ds os), s4, .va (sD sg), s6, s7, .va (.int room), s9, s10, s11, s12, s13, s14]) = some (.li (iL (fitsI n ds os sg room)), [.no, .ow t, s2, .va (hD n ds os), s4, .va (sD sg), s6, s7, .va (.int room), s9, s10, s11, s12, s13, s14]) := by
  have hd15 := wh.d15
  rw [compC_ev _ _ _ _ _ _ (by rw [rngD_len]; exact small1Me (by omega)) (by show (!isOw (some s12) && true) = true; rw [h12]; rfl)]
  rw [show wipeE [.no, .ow t, s2, .va (hD n ds os), s4, .va (sD sg), s6, s7, .va (.int room), s9, s10, s11, s12, s13, s14] [12] = [.no, .ow t, s2, .va (hD n ds os), s4, .va (sD sg), s6, s7, .va (.int room), s9, s10, s11, .no, s13, s14] from rfl]
  unfold rngD
  rw [compL_map (fun i : Nat => PyData.int (0 + (i : Nat))) (fitB n ds os sg room) (fun k : Nat => PyData.int (k : Nat)) _ (List.range ds.length) fun k hk => by
    have hk' : k < ds.length := List.mem_range.mp hk
    have hdk : ds[k]? = some ds[k] := List.getElem?_eq_getElem hk'
    have hat := ds_at hdk
    have hrg := wh.rng ds[k] (List.getElem_mem hk')
    generalize ds[k] = d at hdk hat hrg
    refine ⟨[.no, .ow t, s2, .va (hD n ds os), s4, .va (sD sg), s6, s7, .va (.int room), s9, s10, s11, .va (.int (0 + (k : Nat))), s13, s14], [.no, .ow t, s2, .va (hD n ds os), s4, .va (sD sg), s6, s7, .va (.int room), s9, s10, s11, .va (.int (0 + (k : Nat))), s13, s14], [.no, .ow t, s2, .va (hD n ds os), s4, .va (sD sg), s6, s7, .va (.int room), s9, s10, s11, .va (.int (0 + (k : Nat))), s13, s14], rfl, ?_, fun _ => ⟨?_, rfl⟩, fun _ => rfl⟩
    · have hfit : fitB n ds os sg room k = ((d.1 == room) && (!(sg.getD room.toNat none == some (k : Int)) && !(decide (room ∈ pathS n ds os sg d.2.1)))) := by unfold fitB; rw [hdk]
      have hled := lled_right wh ws hR hrg.2
      have hsg := sg_at ws hr
      rw [hfit, Int.zero_add]
      unfold T3_law
      rw [show sD sg = .tuple (sg.map oD) from rfl] at hled ⊢
      rw [show hD n ds os = .tuple [.int n, .tuple (ds.map doorD), .tuple (iL os)] from rfl] at hled ⊢
      cases c1 : d.1 == room with
      | false =>
        repeat (first | walk_at "ev" | simp only [doorD, hat, c1, Bool.false_and, reduceIte])
      | true =>
        cases c2 : sg.getD room.toNat none == some (k : Int) with
        | true =>
          repeat (first | walk_at "ev" | simp only [doorD, hat, c1, c2, hsg, dNe_oD, Bool.true_and, Bool.not_true, Bool.false_and, reduceIte])
        | false =>
          cases c3 : decide (room ∈ pathS n ds os sg d.2.1) <;>
          repeat (first | walk_at "ev" | simp only [doorD, hat, c1, c2, c3, hsg, dNe_oD, hled, ninB_tup, Bool.true_and, Bool.not_true, Bool.not_false, Bool.and_true, Bool.and_false, reduceIte])
    · rw [Int.zero_add]
      unfold K4_law
      walk_at "ev"]
  unfold fitsI fits iL
  rw [List.map_map]; rfl
/-! the law's own due and bare -/
def baresI (n : Nat) (ds : List Door) (os : List Int) (sg : Sg) (j : Nat) : List Int := ((List.range j).filter (bareB n ds os sg)).map fun k => ((k : Nat) : Int)
theorem due_for {n : Nat} {ds : List Door} {os : List Int} {sg : Sg} (wh : WH n ds os) (ws : WS n ds sg) (hR : rightB n ds os sg = true) (t : OT) (s2 s4 s8 s9 s10 s11 s12 s13 s14 : Sl) (h8 : isOw (some s8) = false) (h9 : isOw (some s9) = false) (h12 : isOw (some s12) = false) :
    ∃ t8 t9, forL (gNm 8) L5_law (rngD 0 n) [.no, .ow t, s2, .va (hD n ds os), s4, .va (sD sg), .li [], .li [], s8, s9, s10, s11, s12, s13, s14] = some (.nx [.no, .ow t, s2, .va (hD n ds os), s4, .va (sD sg), .li ((dues n ds os sg).map oD), .li (iL (baresI n ds os sg n)), t8, t9, s10, s11, s12, s13, s14]) ∧ isOw (some t8) = false ∧ isOw (some t9) = false := by
  have hn6 := wh.n6
  have hd15 := wh.d15
  obtain ⟨⟨t8, t9⟩, h1, h2, h3⟩ := forL_at (t := gNm 8) (b := L5_law) (ds := rngD 0 n) (A := Sl × Sl) (fun j a => [.no, .ow t, s2, .va (hD n ds os), s4, .va (sD sg), .li (((List.range j).map (dueO n ds os sg)).map oD), .li (iL (baresI n ds os sg j)), a.1, a.2, s10, s11, s12, s13, s14]) (fun _ a => isOw (some a.1) = false ∧ isOw (some a.2) = false) (fun j ⟨s8, s9⟩ it hit ⟨h8, h9⟩ => by
    have h8 : isOw (some s8) = false := h8
    have h9 : isOw (some s9) = false := h9
    have hjn : j < n := by
      have := (List.getElem?_eq_some_iff.mp hit).1
      rwa [rngD_len] at this
    rw [rngD_get hjn, Int.zero_add] at hit
    cases hit
    have hc := fit_comp wh ws hR (j : Int) ⟨by omega, by omega⟩ t s2 s4 (.li (((List.range j).map (dueO n ds os sg)).map oD)) (.li (iL (baresI n ds os sg j))) s9 s10 s11 s12 s13 s14 h12
    have hrg : Rg (ds.length : Int) := rg_of (by omega) (by omega)
    have hfl : (fitsI n ds os sg j).length ≤ 15 := by
      unfold fitsI fits
      rw [List.length_map]
      exact Nat.le_trans (List.length_filter_le _ _) (by rw [List.length_range]; exact hd15)
    have hq : dEq (.list (iL (fitsI n ds os sg j))) (.list []) = some (.bool (iL (fitsI n ds os sg j)).isEmpty) := dEq_nil (n := 1) (plain_intsL (by omega)) (by decide)
    have hie : (iL (fitsI n ds os sg j)).isEmpty = (fits n ds os sg j).isEmpty := by unfold fitsI; cases fits n ds os sg j <;> rfl
    rw [hie] at hq
    have hdue : ∀ v, dueO n ds os sg j = v → gAppend (((List.range j).map (dueO n ds os sg)).map oD) (oD v) = some (.none, ((List.range (j + 1)).map (dueO n ds os sg)).map oD) := fun v hv => by
      rw [range_map_succ, List.map_append, hv]
      exact gAppend_ok (by rw [List.length_map, List.length_map, List.length_range]; omega)
    have hbl : (baresI n ds os sg j).length ≤ j := by
      unfold baresI
      rw [List.length_map]
      exact Nat.le_trans (List.length_filter_le _ _) (by rw [List.length_range]; exact Nat.le_refl _)
    refine ⟨(.va (.int j), .va (.list (iL (fitsI n ds os sg j)))), ?_, rfl, rfl⟩
    by_cases ho : (j : Int) ∈ os
    · have d1 : decide ((j : Int) ∈ os) = true := decide_eq_true ho
      have ha := hdue none (if_pos ho)
      have ha' : gAppend (((List.range j).map (dueO n ds os sg)).map oD) .none = _ := ha
      have hb : baresI n ds os sg (j + 1) = baresI n ds os sg j := by unfold baresI; rw [range_filter_succ, show bareB n ds os sg j = false by unfold bareB; rw [d1]; rfl]; simp
      rw [hb]
      unfold L5_law
      rw [show hD n ds os = .tuple [.int n, .tuple (ds.map doorD), .tuple (iL os)] from rfl] at hc ⊢
      repeat (first | walk_at "ev" | simp only [gNm_ev, h8, h9, h12, List.length_map, hrg, hc, inB_tup, ninB_tup, d1, ha', reduceIte])
    · have d1 : decide ((j : Int) ∈ os) = false := decide_eq_false ho
      cases hf : fits n ds os sg j with
      | nil =>
        rw [hf] at hq
        have ha := hdue none (by unfold dueO; rw [if_neg ho, hf]; rfl)
        have ha' : gAppend (((List.range j).map (dueO n ds os sg)).map oD) .none = _ := ha
        have hb : baresI n ds os sg (j + 1) = baresI n ds os sg j ++ [(j : Int)] := by unfold baresI; rw [range_filter_succ, show bareB n ds os sg j = true by unfold bareB; rw [d1, hf]; rfl]; simp
        have hbq : gAppend (iL (baresI n ds os sg j)) (.int j) = some (.none, iL (baresI n ds os sg (j + 1))) := by rw [hb, iL_cat]; exact gAppend_ok (by rw [iL_len]; omega)
        unfold L5_law
        rw [show hD n ds os = .tuple [.int n, .tuple (ds.map doorD), .tuple (iL os)] from rfl] at hc ⊢
        repeat (first | walk_at "ev" | simp only [gNm_ev, h8, h9, h12, List.length_map, hrg, hc, inB_tup, ninB_tup, d1, ha', hq, hbq, reduceIte])
      | cons k r =>
        rw [hf] at hq
        have ha := hdue (some (k : Int)) (by unfold dueO; rw [if_neg ho, hf]; rfl)
        have ha' : gAppend (((List.range j).map (dueO n ds os sg)).map oD) (.int (k : Int)) = _ := ha
        have h0 : atI (iL (fitsI n ds os sg j)) 0 = some (.int (k : Int)) := by unfold fitsI; rw [hf]; exact at0 _ _
        have hb : baresI n ds os sg (j + 1) = baresI n ds os sg j := by unfold baresI; rw [range_filter_succ, show bareB n ds os sg j = false by unfold bareB; rw [d1, hf]; rfl]; simp
        rw [hb]
        unfold L5_law
        rw [show hD n ds os = .tuple [.int n, .tuple (ds.map doorD), .tuple (iL os)] from rfl] at hc ⊢
        repeat (first | walk_at "ev" | simp only [gNm_ev, h8, h9, h12, List.length_map, hrg, hc, inB_tup, ninB_tup, d1, h0, ha', hq, reduceIte])) (s8, s9) ⟨h8, h9⟩
  rw [rngD_len] at h1
  exact ⟨t8, t9, h1, h2, h3⟩
end Fl

set_option Elab.async false
set_option linter.all false
set_option maxRecDepth 100000
set_option maxHeartbeats 4000000
set_option autoImplicit false
namespace Fl
open PySem PySem.Spec PyProof.Rows L2
local macro_rules | `(tactic| walk_at "ev") => `(tactic| simp -implicitDefEqProofs only [prE_ev, eVar_ev, varC_ev, eNm_ev, nmC_va, nmC_li, eC_ev, vw_va, vw_li, eOwn_ev, eIxO_ev, ixoC_ev, ixoC2_ev, ixoC3_ev, eOp_ev, opC_ev, opC2_ev, eUn_ev, unC_ev, bE_ev, bEC_ev, bB_ev, bBC_ev, bNot_ev, notC_ev, bAnd_ev, andC_t, andC_f, bOr_ev, orC_t, orC_f, bYes_ev, eAnd_ev, eandC_t, eandC_f, eOr_ev, eorC_t, eorC_f, eNot_ev, enotC_ev, eIf_ev, ifC_t, ifC_f, eTup_ev, tupC_ev, aNil_ev, aCons_ev, aconsC_ev, aconsC2_ev, oLst_ev, lstC_ev, oE_ev, oEC_ev, eFz_ev, fzC_va, fzC_li, oUn_ev, ounC_ev, prL_ev, eSl_ev, slC_ev, slC2_ev, slC3_ev, eSlO_ev, sloC_ev, sloC2_ev, sloC3_ev, sloC4_ev, lEnum_ev, enC_tup, enC_lst, pNo_ev, pSo_ev, psoC_ev, lOf_ev, lofC_tup, lofC_lst, lRng1_ev, rng1C_ev, lRng2_ev, rng2C_ev, rng2C2_ev, oRep_ev, repC_ev, repC2_ev, oCall_ev, callC_0, callC_1, callC_2, callC_3, callC_4, callC_5, callC_rv, callC_rv4, arSl_vl, arSl_rf, callC2_ev, arBack_nil, arBack_vl, arBack_rf, rNil_ev, rVal_ev, rvC_ev, rvC2_ev, rRef_ev, rrC_ev, oComp_ev, compC2_ev, wipeE_nil, wipeE_cons, backE_nil, backE_cons, gNm_ev, gTupF_ev, gsNil_ev, gsCons_ev, sNext_ev, sBreak_ev, sCont_ev, sSeq_ev, seqC_nx, seqC_bk, seqC_ct, seqC_rt, sSet_ev, setC_ev, sPar_ev, parC_ev, setAll_nil, setAll_cons, olNil_ev, olCons_ev, olC_ev, olC2_ev, sAsg_ev, asgC_ev, sIf_ev, sifC_t, sifC_f, sFor_ev, forC_ev, sDrop_ev, dropC_ev, sRet_ev, retC_ev, sRetN_ev, retnC_va, retnC_li, liOf_li, eMt1_ev, mt1C_ev, mt1C2_ev, mt1C3_ev, mt1C4_ev, eMt0_ev, mt0C_ev, sSub_ev, subC_ev, subC1_ev, subC2_ev, subC3_ev, subC4_ev, sAug_ev, augC_ev, augC2_ev, augC3_ev, mkF_ev, mkC_rt, mkC_nx, keepE_nil, keepE_va, keepE_ow', dTru_bool, dTru_int, dTru_none, dTru_list, dTru_tuple, dAdd_int, dAdd_tup, dAdd_lst, dIadd_int, dSub_int, dMul_int, dDiv_int, dMod_int, dNeg_int, dMin2_int, dMax2_int, dLtA_int, dLe_int, dLt_int, dGt_int, dGe_int, shaped_int, shaped_bool, shaped_none, eqv_int, eqv_bool, dEq_int, dNe_int, dEq_bool, dIs_none, dIsN_none, isNon_none, isNon_int, isNon_tup, isNon_bool, dLen_tup, dLen_lst, dIx_tup, dIx_lst, at0, at1, at2, at3, gExtend_lst, dTuple_lst, dTuple_tup, dList_lst, dList_tup, dInt_int, dSl_tup, dSl_lst, isTup, isLst, isBool, isIntB, isStr, beq_self_eq_true, decide_true, decide_false, isi_tup, isi_lst, isi_int, isi_bool, isi_str, isi_none, sz0, sz1, sz2, sz3, sz4, sz5, sz6, sz7, sz8, sz9, sz10, sz11, sz12, isOw_no, isOw_va, isOw_li, isOw_di, isOw_dt, isOw_ow, isOw_none, isOw_sl,
  Option.bind_some, Option.map_some, Option.bind_none, Option.map_none, Option.getD_some, Option.getD_none, List.getElem?_cons_zero, List.getElem?_cons_succ, List.set_cons_zero, List.set_cons_succ, List.map_cons, List.map_nil, List.headD_cons, List.headD_nil, List.tail_cons, List.tail_nil, List.isEmpty_nil, List.isEmpty_cons, List.length_nil, List.length_cons, List.nil_append, List.cons_append, List.replicate_succ, List.replicate_zero, Nat.reduceSub, Nat.reduceAdd, Bool.false_eq_true, if_false, if_true, reduceIte, Bool.not_true, Bool.not_false, and_true, true_and, and_self, Int.toNat_natCast, Int.zero_add])
local macro_rules | `(tactic| walk_at "evh") => `(tactic| simp -implicitDefEqProofs only [prE_ev, eVar_ev, varC_ev, eNm_ev, nmC_va, nmC_li, eC_ev, vw_va, vw_li, eOwn_ev, eIxO_ev, ixoC_ev, ixoC2_ev, ixoC3_ev, eOp_ev, opC_ev, opC2_ev, eUn_ev, unC_ev, bE_ev, bEC_ev, bB_ev, bBC_ev, bNot_ev, notC_ev, bAnd_ev, andC_t, andC_f, bOr_ev, orC_t, orC_f, bYes_ev, eAnd_ev, eandC_t, eandC_f, eOr_ev, eorC_t, eorC_f, eNot_ev, enotC_ev, eIf_ev, ifC_t, ifC_f, eTup_ev, tupC_ev, aNil_ev, aCons_ev, aconsC_ev, aconsC2_ev, oLst_ev, lstC_ev, oE_ev, oEC_ev, eFz_ev, fzC_va, fzC_li, oUn_ev, ounC_ev, prL_ev, eSl_ev, slC_ev, slC2_ev, slC3_ev, eSlO_ev, sloC_ev, sloC2_ev, sloC3_ev, sloC4_ev, lEnum_ev, enC_tup, enC_lst, pNo_ev, pSo_ev, psoC_ev, lOf_ev, lofC_tup, lofC_lst, lRng1_ev, rng1C_ev, lRng2_ev, rng2C_ev, rng2C2_ev, oRep_ev, repC_ev, repC2_ev, oCall_ev, callC_0, callC_1, callC_2, callC_3, callC_4, callC_5, callC_rv, callC_rv4, arSl_vl, arSl_rf, callC2_ev, arBack_nil, arBack_vl, arBack_rf, rNil_ev, rVal_ev, rvC_ev, rvC2_ev, rRef_ev, rrC_ev, oComp_ev, compC2_ev, wipeE_nil, wipeE_cons, backE_nil, backE_cons, gNm_ev, gTupF_ev, gsNil_ev, gsCons_ev, sNext_ev, sBreak_ev, sCont_ev, sSeq_ev, seqC_nx, seqC_bk, seqC_ct, seqC_rt, sSet_ev, setC_ev, sPar_ev, parC_ev, setAll_nil, setAll_cons, olNil_ev, olCons_ev, olC_ev, olC2_ev, sAsg_ev, asgC_ev, sIf_ev, sifC_t, sifC_f, sFor_ev, forC_ev, sDrop_ev, dropC_ev, sRet_ev, retC_ev, sRetN_ev, retnC_va, retnC_li, liOf_li, eMt1_ev, mt1C_ev, mt1C2_ev, mt1C3_ev, mt1C4_ev, eMt0_ev, mt0C_ev, sSub_ev, subC_ev, subC1_ev, subC2_ev, subC3_ev, subC4_ev, sAug_ev, augC_ev, augC2_ev, augC3_ev, mkF_ev, mkC_rt, mkC_nx, keepE_nil, keepE_va, keepE_ow', dTru_bool, dTru_int, dTru_none, dTru_list, dTru_tuple, dAdd_int, dAdd_tup, dAdd_lst, dIadd_int, dSub_int, dMul_int, dDiv_int, dMod_int, dNeg_int, dMin2_int, dMax2_int, dLtA_int, dLe_int, dLt_int, dGt_int, dGe_int, shaped_int, shaped_bool, shaped_none, eqv_int, eqv_bool, dEq_int, dNe_int, dEq_bool, dIs_none, dIsN_none, isNon_none, isNon_int, isNon_tup, isNon_bool, dLen_tup, dLen_lst, dIx_tup, dIx_lst, at0, at1, at2, at3, gExtend_lst, dTuple_lst, dTuple_tup, dList_lst, dList_tup, dInt_int, dSl_tup, dSl_lst, isTup, isLst, isBool, isIntB, isStr, beq_self_eq_true, decide_true, decide_false, isi_tup, isi_lst, isi_int, isi_bool, isi_str, isi_none, sz0, sz1, sz2, sz3, sz4, sz5, sz6, sz7, sz8, sz9, sz10, sz11, sz12, isOw_no, isOw_va, isOw_li, isOw_di, isOw_dt, isOw_ow, isOw_none, isOw_sl,
  Option.bind_some, Option.map_some, Option.bind_none, Option.map_none, Option.getD_some, Option.getD_none, List.getElem?_cons_zero, List.getElem?_cons_succ, List.set_cons_zero, List.set_cons_succ, List.map_cons, List.map_nil, List.headD_cons, List.headD_nil, List.tail_cons, List.tail_nil, List.isEmpty_nil, List.isEmpty_cons, List.length_nil, List.length_cons, List.nil_append, List.cons_append, List.replicate_succ, List.replicate_zero, Nat.reduceSub, Nat.reduceAdd, Bool.false_eq_true, if_false, if_true, reduceIte, Bool.not_true, Bool.not_false, and_true, true_and, and_self, Int.toNat_natCast, Int.zero_add, *])
theorem set_cut (sg : Sg) (j : Nat) (h : j < sg.length) (o : Option Int) : (sg.map oD).take j ++ [oD o] ++ (sg.map oD).drop (j + 1) = (sg.set j o).map oD := by
  rw [List.set_eq_take_append_cons_drop, if_pos h, List.map_append, List.map_cons, List.map_take, List.map_drop, List.append_assoc]; rfl
theorem ws_set {n : Nat} {ds : List Door} {sg : Sg} (ws : WS n ds sg) (j : Nat) (o : Option Int) (ho : OkK ds o) : WS n ds (sg.set j o) := by
  refine ⟨by rw [List.length_set]; exact ws.len, fun k hk => ?_⟩
  rcases List.mem_or_eq_of_mem_set hk with h | h
  · exact ws.ok k h
  · exact ho k h.symm
theorem nf_set_ne (ds : List Door) (sg : Sg) (j : Nat) (o : Option Int) (x : Int) (hx : x ≠ (j : Int)) : nfS ds (sg.set j o) x = nfS ds sg x := by
  unfold nfS
  split
  · rename_i h0
    have hne : j ≠ x.toNat := by omega
    rw [List.getD_eq_getElem?_getD, List.getD_eq_getElem?_getD, List.getElem?_set_ne hne]
  · rfl
theorem nf_set_eq {ds : List Door} {sg : Sg} {j k : Nat} {d : Door} (hj : j < sg.length) (hk : ds[k]? = some d) : nfS ds (sg.set j (some (k : Int))) (j : Int) = some d.2.1 := by
  unfold nfS
  rw [if_pos (by omega), Int.toNat_natCast, List.getD_eq_getElem?_getD, List.getElem?_set_self hj]
  show (ds[((k : Int)).toNat]?).map _ = _
  rw [Int.toNat_natCast, hk]; rfl
theorem set_right {n : Nat} {ds : List Door} {os : List Int} {sg : Sg} (wh : WH n ds os) (ws : WS n ds sg) (hR : rightB n ds os sg = true) {j k : Nat} (hj : j < n) (ho : (j : Int) ∉ os) {d : Door} (hk : ds[k]? = some d) (hp : (j : Int) ∉ pathS n ds os sg d.2.1) : rightB n ds os (sg.set j (some (k : Int))) = true := by
  have hrg := wh.rng d (List.mem_of_getElem? hk)
  obtain ⟨p, hb⟩ := right_iff wh hR hrg.2
  have hps : pathS n ds os sg d.2.1 = p := by unfold pathS; rw [hb]; rfl
  rw [hps] at hp
  refine right_of wh fun s hs => ?_
  obtain ⟨q, hq⟩ := right_iff wh hR hs
  exact turn_right (fun x hx => nf_set_ne ds sg j (some (k : Int)) x hx) (nf_set_eq (sg := sg) (j := j) (k := k) (by rw [ws.len]; exact hj) hk) ho hb hp hq
theorem set_ring {n : Nat} {ds : List Door} {os : List Int} {sg : Sg} (wh : WH n ds os) (ws : WS n ds sg) (hR : rightB n ds os sg = true) {j k : Nat} (hj : j < n) (ho : (j : Int) ∉ os) {d : Door} (hk : ds[k]? = some d) (hp : (j : Int) ∈ pathS n ds os sg d.2.1) : rightB n ds os (sg.set j (some (k : Int))) = false := by
  have hrg := wh.rng d (List.mem_of_getElem? hk)
  obtain ⟨p, hb⟩ := right_iff wh hR hrg.2
  have hps : pathS n ds os sg d.2.1 = p := by unfold pathS; rw [hb]; rfl
  rw [hps] at hp
  have := turn_ring (fun x hx => nf_set_ne ds sg j (some (k : Int)) x hx) (nf_set_eq (sg := sg) (j := j) (k := k) (by rw [ws.len]; exact hj) hk) ho hb hp (n + 1)
  cases hb2 : rightB n ds os (sg.set j (some (k : Int))) with
  | false => rfl
  | true =>
    obtain ⟨q, hq⟩ := right_iff wh hb2 (s := (j : Int)) ⟨by omega, by omega⟩
    rw [this] at hq; cases hq
/-! none bare: each turned sign leads -/
theorem turned_for {n : Nat} {ds : List Door} {os : List Int} {sg : Sg} (wh : WH n ds os) (ws : WS n ds sg) (hR : rightB n ds os sg = true) (hB : bares n ds os sg = []) (t : OT) (s2 s4 s7 s8 s9 s10 s11 s12 s13 s14 : Sl) (h8 : isOw (some s8) = false) (h11 : isOw (some s11) = false) :
    ∃ t8 t11, forL (gNm 8) L6_law (rngD 0 n) [.no, .ow t, s2, .va (hD n ds os), s4, .va (sD sg), .li ((dues n ds os sg).map oD), s7, s8, s9, s10, s11, s12, s13, s14] = some (.nx [.no, .ow t, s2, .va (hD n ds os), s4, .va (sD sg), .li ((dues n ds os sg).map oD), s7, t8, s9, s10, t11, s12, s13, s14]) ∧ isOw (some t8) = false ∧ isOw (some t11) = false := by
  have hn6 := wh.n6
  obtain ⟨⟨t8, t11⟩, h1, h2, h3⟩ := forL_at (t := gNm 8) (b := L6_law) (ds := rngD 0 n) (A := Sl × Sl) (fun j a => [.no, .ow t, s2, .va (hD n ds os), s4, .va (sD sg), .li ((dues n ds os sg).map oD), s7, a.1, s9, s10, a.2, s12, s13, s14]) (fun _ a => isOw (some a.1) = false ∧ isOw (some a.2) = false) (fun j ⟨s8, s11⟩ it hit ⟨h8, h11⟩ => by
    have h8 : isOw (some s8) = false := h8
    have h11 : isOw (some s11) = false := h11
    have hjn : j < n := by
      have := (List.getElem?_eq_some_iff.mp hit).1
      rwa [rngD_len] at this
    rw [rngD_get hjn, Int.zero_add] at hit
    cases hit
    by_cases ho : (j : Int) ∈ os
    · have d1 : decide ((j : Int) ∈ os) = true := decide_eq_true ho
      refine ⟨(.va (.int j), s11), ?_, rfl, h11⟩
      unfold L6_law hD
      repeat (first | walk_at "ev" | simp only [gNm_ev, h8, ninB_tup, d1, reduceIte])
    · have d1 : decide ((j : Int) ∈ os) = false := decide_eq_false ho
      cases hf : fits n ds os sg j with
      | nil =>
        have hb : bareB n ds os sg j = true := by unfold bareB; rw [d1, hf]; rfl
        have : j ∈ bares n ds os sg := List.mem_filter.mpr ⟨List.mem_range.mpr hjn, hb⟩
        rw [hB] at this; cases this
      | cons k r =>
        have hkm : k ∈ fits n ds os sg j := by rw [hf]; exact List.mem_cons_self
        obtain ⟨hk1, hk2⟩ := List.mem_filter.mp hkm
        have hkl : k < ds.length := List.mem_range.mp hk1
        have hdk : ds[k]? = some ds[k] := List.getElem?_eq_getElem hkl
        have hdue : dueO n ds os sg j = some (k : Int) := by unfold dueO; rw [if_neg ho, hf]; rfl
        have hat : atI ((dues n ds os sg).map oD) (j : Int) = some (.int (k : Int)) := atI_nat (by unfold dues; rw [List.getElem?_map, List.getElem?_map, List.getElem?_range hjn]; show some (oD (dueO n ds os sg j)) = _; rw [hdue]; rfl)
        have hp : (j : Int) ∉ pathS n ds os sg (ds[k]).2.1 := by
          unfold fitB at hk2
          rw [hdk] at hk2
          simp only [Bool.and_eq_true, Bool.not_eq_true', decide_eq_false_iff_not] at hk2
          exact hk2.2.2
        have hsr := set_right wh ws hR hjn ho hdk hp
        have hws := ws_set ws j (some (k : Int)) fun k' e => by cases e; exact ⟨by omega, by rw [Int.toNat_natCast]; exact hkl⟩
        have hro := right_ok wh hws
        rw [hsr] at hro
        have hset := set_cut sg j (by rw [ws.len]; exact hjn) (some (k : Int))
        have c1 : cutD (sg.map oD) none (some (j : Int)) = (sg.map oD).take j := cutD_to _ _
        have c2 : cutD (sg.map oD) (some ((j : Int) + 1)) none = (sg.map oD).drop (j + 1) := by rw [show (j : Int) + 1 = ((j + 1 : Nat) : Int) by omega]; exact cutD_from _ _
        have l1 : ((sg.map oD).take j).length + 1 ≤ sizeLine := small1Me (by rw [List.length_take, List.length_map, ws.len]; omega)
        have l2 : ((sg.map oD).take j ++ [PyData.int (k : Int)]).length + ((sg.map oD).drop (j + 1)).length ≤ sizeLine := small1Me (by rw [List.length_append, List.length_take, List.length_drop, List.length_map, ws.len]; show min j n + 1 + (n - (j + 1)) ≤ _; omega)
        have hro' : F__law_right [.va (hD n ds os), .va (.tuple ((sg.map oD).take j ++ [PyData.int (k : Int)] ++ (sg.map oD).drop (j + 1)))] = some (.va (.bool true), [.no, .no]) := by
          rw [show ((sg.map oD).take j ++ [PyData.int (k : Int)] ++ (sg.map oD).drop (j + 1)) = (sg.set j (some (k : Int))).map oD from hset]
          exact hro
        refine ⟨(.va (.int j), .va (.tuple ((sg.map oD).take j ++ [PyData.int (k : Int)] ++ (sg.map oD).drop (j + 1)))), ?_, rfl, rfl⟩
        generalize (sg.map oD).drop (j + 1) = Z at c2 l2 hro' ⊢
        generalize (sg.map oD).take j = Y at c1 l1 l2 hro' ⊢
        unfold L6_law sD
        rw [show hD n ds os = .tuple [.int n, .tuple (ds.map doorD), .tuple (iL os)] from rfl] at hro' ⊢
        repeat (first | walk_at "ev" | simp only [gNm_ev, h8, h11, ninB_tup, d1, hat, c1, c2, l1, l2, hro', reduceIte])) (s8, s11) ⟨h8, h11⟩
  exact ⟨t8, t11, h1, h2, h3⟩
/-! the bare: no turned sign leads -/
def othK (ds : List Door) (sg : Sg) (room : Int) : List Nat := (List.range ds.length).filter fun k => match ds[k]? with
  | some d => (d.1 == room) && !(sg.getD room.toNat none == some (k : Int))
  | none => false
theorem oth_comp {n : Nat} {ds : List Door} {os : List Int} {sg : Sg} (wh : WH n ds os) (ws : WS n ds sg) (room : Int) (hr : 0 ≤ room ∧ room < n) (t : OT) (s2 s4 s6 s7 s9 s10 s11 s12 s13 s14 : Sl) (h14 : isOw (some s14) = false) :
    compC (gNm 14) T7_law K8_law [14] (rngD 0 ds.length, [.no, .ow t, s2, .va (hD n ds os), s4, .va (sD sg), s6, s7, .va (.int room), s9, s10, s11, s12, s13, s14]) = some (.li ((othK ds sg room).map fun k => PyData.int ((k : Nat) : Int)), [.no, .ow t, s2, .va (hD n ds os), s4, .va (sD sg), s6, s7, .va (.int room), s9, s10, s11, s12, s13, s14]) := by
  have hd15 := wh.d15
  rw [compC_ev _ _ _ _ _ _ (by rw [rngD_len]; exact small1Me (by omega)) (by show (!isOw (some s14) && true) = true; rw [h14]; rfl)]
  rw [show wipeE [.no, .ow t, s2, .va (hD n ds os), s4, .va (sD sg), s6, s7, .va (.int room), s9, s10, s11, s12, s13, s14] [14] = [.no, .ow t, s2, .va (hD n ds os), s4, .va (sD sg), s6, s7, .va (.int room), s9, s10, s11, s12, s13, .no] from rfl]
  unfold rngD
  rw [compL_map (fun i : Nat => PyData.int (0 + (i : Nat))) (fun k => match ds[k]? with
    | some d => (d.1 == room) && !(sg.getD room.toNat none == some (k : Int))
    | none => false) (fun k : Nat => PyData.int (k : Nat)) _ (List.range ds.length) fun k hk => by
    have hk' : k < ds.length := List.mem_range.mp hk
    have hdk : ds[k]? = some ds[k] := List.getElem?_eq_getElem hk'
    have hat := ds_at hdk
    generalize ds[k] = d at hdk hat
    refine ⟨[.no, .ow t, s2, .va (hD n ds os), s4, .va (sD sg), s6, s7, .va (.int room), s9, s10, s11, s12, s13, .va (.int (0 + (k : Nat)))], [.no, .ow t, s2, .va (hD n ds os), s4, .va (sD sg), s6, s7, .va (.int room), s9, s10, s11, s12, s13, .va (.int (0 + (k : Nat)))], [.no, .ow t, s2, .va (hD n ds os), s4, .va (sD sg), s6, s7, .va (.int room), s9, s10, s11, s12, s13, .va (.int (0 + (k : Nat)))], rfl, ?_, fun _ => ⟨?_, rfl⟩, fun _ => rfl⟩
    · have hsg := sg_at ws hr
      rw [hdk, Int.zero_add]
      unfold T7_law hD sD
      cases c1 : d.1 == room with
      | false => repeat (first | walk_at "ev" | simp only [doorD, hat, c1, Bool.false_and, reduceIte])
      | true => repeat (first | walk_at "ev" | simp only [doorD, hat, c1, hsg, dNe_oD, Bool.true_and, reduceIte])
    · rw [Int.zero_add]
      unfold K8_law
      walk_at "ev"]
  rfl
theorem bare_in {n : Nat} {ds : List Door} {os : List Int} {sg : Sg} (wh : WH n ds os) (ws : WS n ds sg) (hR : rightB n ds os sg = true) {j : Nat} (hjn : j < n) (hb : bareB n ds os sg j = true) (t : OT) (s2 s4 s6 s7 s9 s10 s11 s12 s13 s14 : Sl) (h12 : isOw (some s12) = false) :
    ∃ t12, forL (gNm 12) L9_law ((othK ds sg j).map fun k => PyData.int ((k : Nat) : Int)) [.no, .ow t, s2, .va (hD n ds os), s4, .va (sD sg), s6, s7, .va (.int j), s9, s10, s11, s12, s13, s14] = some (.nx [.no, .ow t, s2, .va (hD n ds os), s4, .va (sD sg), s6, s7, .va (.int j), s9, s10, s11, t12, s13, s14]) ∧ isOw (some t12) = false := by
  have hn6 := wh.n6
  unfold bareB at hb
  rw [Bool.and_eq_true] at hb
  have ho : (j : Int) ∉ os := of_decide_eq_false (by simpa using hb.1)
  have hf : fits n ds os sg j = [] := List.isEmpty_iff.mp hb.2
  obtain ⟨t12, h1, h2⟩ := forL_at (t := gNm 12) (b := L9_law) (ds := (othK ds sg j).map fun k => PyData.int ((k : Nat) : Int)) (A := Sl) (fun _ a => [.no, .ow t, s2, .va (hD n ds os), s4, .va (sD sg), s6, s7, .va (.int j), s9, s10, s11, a, s13, s14]) (fun _ a => isOw (some a) = false) (fun i s12 it hit h12 => by
    have h12 : isOw (some s12) = false := h12
    have hil : i < (othK ds sg j).length := by
      have := (List.getElem?_eq_some_iff.mp hit).1
      rwa [List.length_map] at this
    rw [List.getElem?_map, List.getElem?_eq_getElem hil] at hit
    have hkm := List.getElem_mem hil
    generalize (othK ds sg j)[i] = k at hit hkm
    cases hit
    obtain ⟨hk1, hk2⟩ := List.mem_filter.mp hkm
    have hkl : k < ds.length := List.mem_range.mp hk1
    have hdk : ds[k]? = some ds[k] := List.getElem?_eq_getElem hkl
    have hp : (j : Int) ∈ pathS n ds os sg (ds[k]).2.1 := by
      by_cases hc : (j : Int) ∈ pathS n ds os sg (ds[k]).2.1
      · exact hc
      · have hfk : fitB n ds os sg j k = true := by
          unfold fitB
          rw [hdk] at hk2 ⊢
          simp only [Bool.and_eq_true] at hk2 ⊢
          exact ⟨hk2.1, hk2.2, by rw [decide_eq_false hc]; rfl⟩
        have : k ∈ fits n ds os sg j := List.mem_filter.mpr ⟨hk1, hfk⟩
        rw [hf] at this; cases this
    have hsr := set_ring wh ws hR hjn ho hdk hp
    have hws := ws_set ws j (some (k : Int)) fun k' e => by cases e; exact ⟨by omega, by rw [Int.toNat_natCast]; exact hkl⟩
    have hro := right_ok wh hws
    rw [hsr] at hro
    have hset := set_cut sg j (by rw [ws.len]; exact hjn) (some (k : Int))
    have c1 : cutD (sg.map oD) none (some (j : Int)) = (sg.map oD).take j := cutD_to _ _
    have c2 : cutD (sg.map oD) (some ((j : Int) + 1)) none = (sg.map oD).drop (j + 1) := by rw [show (j : Int) + 1 = ((j + 1 : Nat) : Int) by omega]; exact cutD_from _ _
    have l1 : ((sg.map oD).take j).length + 1 ≤ sizeLine := small1Me (by rw [List.length_take, List.length_map, ws.len]; omega)
    have l2 : ((sg.map oD).take j ++ [PyData.int (k : Int)]).length + ((sg.map oD).drop (j + 1)).length ≤ sizeLine := small1Me (by rw [List.length_append, List.length_take, List.length_drop, List.length_map, ws.len]; show min j n + 1 + (n - (j + 1)) ≤ _; omega)
    have hro' : F__law_right [.va (hD n ds os), .va (.tuple ((sg.map oD).take j ++ [PyData.int (k : Int)] ++ (sg.map oD).drop (j + 1)))] = some (.va (.bool false), [.no, .no]) := by
      rw [show ((sg.map oD).take j ++ [PyData.int (k : Int)] ++ (sg.map oD).drop (j + 1)) = (sg.set j (some (k : Int))).map oD from hset]
      exact hro
    refine ⟨.va (.int (k : Int)), ?_, rfl⟩
    generalize (sg.map oD).drop (j + 1) = Z at c2 l2 hro' ⊢
    generalize (sg.map oD).take j = Y at c1 l1 l2 hro' ⊢
    unfold L9_law sD
    repeat (first | walk_at "ev" | simp only [gNm_ev, h12, c1, c2, l1, l2, hro', reduceIte])) s12 h12
  exact ⟨t12, h1, h2⟩
end Fl

set_option Elab.async false
set_option linter.all false
set_option maxRecDepth 100000
set_option maxHeartbeats 4000000
set_option autoImplicit false
namespace Fl
open PySem PySem.Spec PyProof.Rows L2
local macro_rules | `(tactic| walk_at "ev") => `(tactic| simp -implicitDefEqProofs only [prE_ev, eVar_ev, varC_ev, eNm_ev, nmC_va, nmC_li, eC_ev, vw_va, vw_li, eOwn_ev, eIxO_ev, ixoC_ev, ixoC2_ev, ixoC3_ev, eOp_ev, opC_ev, opC2_ev, eUn_ev, unC_ev, bE_ev, bEC_ev, bB_ev, bBC_ev, bNot_ev, notC_ev, bAnd_ev, andC_t, andC_f, bOr_ev, orC_t, orC_f, bYes_ev, eAnd_ev, eandC_t, eandC_f, eOr_ev, eorC_t, eorC_f, eNot_ev, enotC_ev, eIf_ev, ifC_t, ifC_f, eTup_ev, tupC_ev, aNil_ev, aCons_ev, aconsC_ev, aconsC2_ev, oLst_ev, lstC_ev, oE_ev, oEC_ev, eFz_ev, fzC_va, fzC_li, oUn_ev, ounC_ev, prL_ev, eSl_ev, slC_ev, slC2_ev, slC3_ev, eSlO_ev, sloC_ev, sloC2_ev, sloC3_ev, sloC4_ev, lEnum_ev, enC_tup, enC_lst, pNo_ev, pSo_ev, psoC_ev, lOf_ev, lofC_tup, lofC_lst, lRng1_ev, rng1C_ev, lRng2_ev, rng2C_ev, rng2C2_ev, oRep_ev, repC_ev, repC2_ev, oCall_ev, callC_0, callC_1, callC_2, callC_3, callC_4, callC_5, callC_rv, callC_rv4, arSl_vl, arSl_rf, callC2_ev, arBack_nil, arBack_vl, arBack_rf, rNil_ev, rVal_ev, rvC_ev, rvC2_ev, rRef_ev, rrC_ev, oComp_ev, compC2_ev, wipeE_nil, wipeE_cons, backE_nil, backE_cons, gNm_ev, gTupF_ev, gsNil_ev, gsCons_ev, sNext_ev, sBreak_ev, sCont_ev, sSeq_ev, seqC_nx, seqC_bk, seqC_ct, seqC_rt, sSet_ev, setC_ev, sPar_ev, parC_ev, setAll_nil, setAll_cons, olNil_ev, olCons_ev, olC_ev, olC2_ev, sAsg_ev, asgC_ev, sIf_ev, sifC_t, sifC_f, sFor_ev, forC_ev, sDrop_ev, dropC_ev, sRet_ev, retC_ev, sRetN_ev, retnC_va, retnC_li, liOf_li, eMt1_ev, mt1C_ev, mt1C2_ev, mt1C3_ev, mt1C4_ev, eMt0_ev, mt0C_ev, sSub_ev, subC_ev, subC1_ev, subC2_ev, subC3_ev, subC4_ev, sAug_ev, augC_ev, augC2_ev, augC3_ev, mkF_ev, mkC_rt, mkC_nx, keepE_nil, keepE_va, keepE_ow', dTru_bool, dTru_int, dTru_none, dTru_list, dTru_tuple, dAdd_int, dAdd_tup, dAdd_lst, dIadd_int, dSub_int, dMul_int, dDiv_int, dMod_int, dNeg_int, dMin2_int, dMax2_int, dLtA_int, dLe_int, dLt_int, dGt_int, dGe_int, shaped_int, shaped_bool, shaped_none, eqv_int, eqv_bool, dEq_int, dNe_int, dEq_bool, dIs_none, dIsN_none, isNon_none, isNon_int, isNon_tup, isNon_bool, dLen_tup, dLen_lst, dIx_tup, dIx_lst, at0, at1, at2, at3, gExtend_lst, dTuple_lst, dTuple_tup, dList_lst, dList_tup, dInt_int, dSl_tup, dSl_lst, isTup, isLst, isBool, isIntB, isStr, beq_self_eq_true, decide_true, decide_false, isi_tup, isi_lst, isi_int, isi_bool, isi_str, isi_none, sz0, sz1, sz2, sz3, sz4, sz5, sz6, sz7, sz8, sz9, sz10, sz11, sz12, isOw_no, isOw_va, isOw_li, isOw_di, isOw_dt, isOw_ow, isOw_none, isOw_sl,
  Option.bind_some, Option.map_some, Option.bind_none, Option.map_none, Option.getD_some, Option.getD_none, List.getElem?_cons_zero, List.getElem?_cons_succ, List.set_cons_zero, List.set_cons_succ, List.map_cons, List.map_nil, List.headD_cons, List.headD_nil, List.tail_cons, List.tail_nil, List.isEmpty_nil, List.isEmpty_cons, List.length_nil, List.length_cons, List.nil_append, List.cons_append, List.replicate_succ, List.replicate_zero, Nat.reduceSub, Nat.reduceAdd, Bool.false_eq_true, if_false, if_true, reduceIte, Bool.not_true, Bool.not_false, and_true, true_and, and_self, Int.toNat_natCast, Int.zero_add])
local macro_rules | `(tactic| walk_at "evh") => `(tactic| simp -implicitDefEqProofs only [prE_ev, eVar_ev, varC_ev, eNm_ev, nmC_va, nmC_li, eC_ev, vw_va, vw_li, eOwn_ev, eIxO_ev, ixoC_ev, ixoC2_ev, ixoC3_ev, eOp_ev, opC_ev, opC2_ev, eUn_ev, unC_ev, bE_ev, bEC_ev, bB_ev, bBC_ev, bNot_ev, notC_ev, bAnd_ev, andC_t, andC_f, bOr_ev, orC_t, orC_f, bYes_ev, eAnd_ev, eandC_t, eandC_f, eOr_ev, eorC_t, eorC_f, eNot_ev, enotC_ev, eIf_ev, ifC_t, ifC_f, eTup_ev, tupC_ev, aNil_ev, aCons_ev, aconsC_ev, aconsC2_ev, oLst_ev, lstC_ev, oE_ev, oEC_ev, eFz_ev, fzC_va, fzC_li, oUn_ev, ounC_ev, prL_ev, eSl_ev, slC_ev, slC2_ev, slC3_ev, eSlO_ev, sloC_ev, sloC2_ev, sloC3_ev, sloC4_ev, lEnum_ev, enC_tup, enC_lst, pNo_ev, pSo_ev, psoC_ev, lOf_ev, lofC_tup, lofC_lst, lRng1_ev, rng1C_ev, lRng2_ev, rng2C_ev, rng2C2_ev, oRep_ev, repC_ev, repC2_ev, oCall_ev, callC_0, callC_1, callC_2, callC_3, callC_4, callC_5, callC_rv, callC_rv4, arSl_vl, arSl_rf, callC2_ev, arBack_nil, arBack_vl, arBack_rf, rNil_ev, rVal_ev, rvC_ev, rvC2_ev, rRef_ev, rrC_ev, oComp_ev, compC2_ev, wipeE_nil, wipeE_cons, backE_nil, backE_cons, gNm_ev, gTupF_ev, gsNil_ev, gsCons_ev, sNext_ev, sBreak_ev, sCont_ev, sSeq_ev, seqC_nx, seqC_bk, seqC_ct, seqC_rt, sSet_ev, setC_ev, sPar_ev, parC_ev, setAll_nil, setAll_cons, olNil_ev, olCons_ev, olC_ev, olC2_ev, sAsg_ev, asgC_ev, sIf_ev, sifC_t, sifC_f, sFor_ev, forC_ev, sDrop_ev, dropC_ev, sRet_ev, retC_ev, sRetN_ev, retnC_va, retnC_li, liOf_li, eMt1_ev, mt1C_ev, mt1C2_ev, mt1C3_ev, mt1C4_ev, eMt0_ev, mt0C_ev, sSub_ev, subC_ev, subC1_ev, subC2_ev, subC3_ev, subC4_ev, sAug_ev, augC_ev, augC2_ev, augC3_ev, mkF_ev, mkC_rt, mkC_nx, keepE_nil, keepE_va, keepE_ow', dTru_bool, dTru_int, dTru_none, dTru_list, dTru_tuple, dAdd_int, dAdd_tup, dAdd_lst, dIadd_int, dSub_int, dMul_int, dDiv_int, dMod_int, dNeg_int, dMin2_int, dMax2_int, dLtA_int, dLe_int, dLt_int, dGt_int, dGe_int, shaped_int, shaped_bool, shaped_none, eqv_int, eqv_bool, dEq_int, dNe_int, dEq_bool, dIs_none, dIsN_none, isNon_none, isNon_int, isNon_tup, isNon_bool, dLen_tup, dLen_lst, dIx_tup, dIx_lst, at0, at1, at2, at3, gExtend_lst, dTuple_lst, dTuple_tup, dList_lst, dList_tup, dInt_int, dSl_tup, dSl_lst, isTup, isLst, isBool, isIntB, isStr, beq_self_eq_true, decide_true, decide_false, isi_tup, isi_lst, isi_int, isi_bool, isi_str, isi_none, sz0, sz1, sz2, sz3, sz4, sz5, sz6, sz7, sz8, sz9, sz10, sz11, sz12, isOw_no, isOw_va, isOw_li, isOw_di, isOw_dt, isOw_ow, isOw_none, isOw_sl,
  Option.bind_some, Option.map_some, Option.bind_none, Option.map_none, Option.getD_some, Option.getD_none, List.getElem?_cons_zero, List.getElem?_cons_succ, List.set_cons_zero, List.set_cons_succ, List.map_cons, List.map_nil, List.headD_cons, List.headD_nil, List.tail_cons, List.tail_nil, List.isEmpty_nil, List.isEmpty_cons, List.length_nil, List.length_cons, List.nil_append, List.cons_append, List.replicate_succ, List.replicate_zero, Nat.reduceSub, Nat.reduceAdd, Bool.false_eq_true, if_false, if_true, reduceIte, Bool.not_true, Bool.not_false, and_true, true_and, and_self, Int.toNat_natCast, Int.zero_add, *])
theorem rsame40 : ∀ n, R__law_same n = R_same n
  | 0 => rfl
  | n + 1 => by
    show mkF 3 (B__law_same (R__law_same n)) = mkF 3 (B_same (R_same n))
    rw [rsame40 n]; rfl
theorem same40 {x : D} (h : Plain 19 x) : F__law_same [.va x, .va x] = some (.va (.bool true), [.no, .no]) := by
  show R__law_same 20 _ = _
  rw [rsame40]
  exact same_refl 19 x h
theorem plain_oD (n : Nat) (o : Option Int) : Plain n (oD o) := by cases o <;> cases n <;> trivial
theorem plain_sD {n : Nat} {sg : Sg} (h : sg.length ≤ 1000000) : Plain (n + 1) (.tuple (sg.map oD)) := ⟨by rw [List.length_map]; exact h, fun d hd => by
  obtain ⟨o, _, rfl⟩ := List.mem_map.mp hd
  exact plain_oD n o⟩
theorem plain_told {n : Nat} {ds : List Door} {os : List Int} {sg : Sg} (hn : n ≤ 6) : Plain 19 (toldD n ds os sg) := by
  have sh : ∀ s : Str, SeqAt.shaped (.str s) = true → Plain 18 (.str s) := fun s h => h
  unfold toldD
  split
  · refine ⟨Nat.le_of_ble_eq_true rfl, fun d hd => ?_⟩
    rcases List.mem_cons.mp hd with rfl | hd
    · exact sh _ (by decide +kernel)
    · rw [List.mem_singleton.mp hd]; trivial
  · refine ⟨Nat.le_of_ble_eq_true rfl, fun d hd => ?_⟩
    rcases List.mem_cons.mp hd with rfl | hd
    · exact sh _ (by decide +kernel)
    · rw [List.mem_singleton.mp hd]
      exact plain_sD (by unfold dues; rw [List.length_map, List.length_range]; omega)
theorem bares_for {n : Nat} {ds : List Door} {os : List Int} {sg : Sg} (wh : WH n ds os) (ws : WS n ds sg) (hR : rightB n ds os sg = true) (t : OT) (s2 s4 s6 s7 s8 s9 s10 s11 s12 s13 s14 : Sl) (h8 : isOw (some s8) = false) (h12 : isOw (some s12) = false) (h14 : isOw (some s14) = false) :
    ∃ t8 t12, forL (gNm 8) L10_law (iL (baresI n ds os sg n)) [.no, .ow t, s2, .va (hD n ds os), s4, .va (sD sg), s6, s7, s8, s9, s10, s11, s12, s13, s14] = some (.nx [.no, .ow t, s2, .va (hD n ds os), s4, .va (sD sg), s6, s7, t8, s9, s10, s11, t12, s13, s14]) ∧ isOw (some t8) = false ∧ isOw (some t12) = false := by
  have hn6 := wh.n6
  have hd15 := wh.d15
  obtain ⟨⟨t8, t12⟩, h1, h2, h3⟩ := forL_at (t := gNm 8) (b := L10_law) (ds := iL (baresI n ds os sg n)) (A := Sl × Sl) (fun _ a => [.no, .ow t, s2, .va (hD n ds os), s4, .va (sD sg), s6, s7, a.1, s9, s10, s11, a.2, s13, s14]) (fun _ a => isOw (some a.1) = false ∧ isOw (some a.2) = false) (fun i ⟨s8, s12⟩ it hit ⟨h8, h12⟩ => by
    have h8 : isOw (some s8) = false := h8
    have h12 : isOw (some s12) = false := h12
    have hm := List.mem_of_getElem? hit
    obtain ⟨v, hv, rfl⟩ := List.mem_map.mp hm
    obtain ⟨j, hj, rfl⟩ := List.mem_map.mp hv
    obtain ⟨hj1, hj2⟩ := List.mem_filter.mp hj
    have hjn : j < n := List.mem_range.mp hj1
    have hc := oth_comp wh ws (j : Int) ⟨by omega, by omega⟩ t s2 s4 s6 s7 s9 s10 s11 s12 s13 s14 h14
    obtain ⟨t12, i1, i2⟩ := bare_in wh ws hR hjn hj2 t s2 s4 s6 s7 s9 s10 s11 s12 s13 s14 h12
    have hrg : Rg (ds.length : Int) := rg_of (by omega) (by omega)
    refine ⟨(.va (.int j), t12), ?_, rfl, i2⟩
    unfold L10_law
    rw [show hD n ds os = .tuple [.int n, .tuple (ds.map doorD), .tuple (iL os)] from rfl] at hc i1 ⊢
    repeat (first | walk_at "ev" | simp only [gNm_ev, h8, List.length_map, hrg, hc, i1, reduceIte])) (s8, s12) ⟨h8, h12⟩
  exact ⟨t8, t12, h1, h2, h3⟩
theorem rows_comp {n : Nat} {ds : List Door} {os : List Int} (wh : WH n ds os) (rows : List Sg) (hr : ∀ r ∈ rows, WS n ds r) (hl : rows.length ≤ 400) (t : OT) (s2 s4 s5 s6 s7 s8 s9 s10 s11 s12 s13 s14 : Sl) (h13 : isOw (some s13) = false) :
    compC (gNm 13) T1_law K2_law [13] (rows.map sD, [.no, .ow t, s2, .va (hD n ds os), s4, s5, s6, s7, s8, s9, s10, s11, s12, s13, s14]) = some (.li ((rows.filter (rightB n ds os)).map sD), [.no, .ow t, s2, .va (hD n ds os), s4, s5, s6, s7, s8, s9, s10, s11, s12, s13, s14]) := by
  rw [compC_ev _ _ _ _ _ _ (by rw [List.length_map]; exact small1Me (by omega)) (by show (!isOw (some s13) && true) = true; rw [h13]; rfl)]
  rw [show wipeE [.no, .ow t, s2, .va (hD n ds os), s4, s5, s6, s7, s8, s9, s10, s11, s12, s13, s14] [13] = [.no, .ow t, s2, .va (hD n ds os), s4, s5, s6, s7, s8, s9, s10, s11, s12, .no, s14] from rfl]
  rw [compL_map sD (rightB n ds os) sD _ rows fun r hrm => ⟨[.no, .ow t, s2, .va (hD n ds os), s4, s5, s6, s7, s8, s9, s10, s11, s12, .va (sD r), s14], [.no, .ow t, s2, .va (hD n ds os), s4, s5, s6, s7, s8, s9, s10, s11, s12, .va (sD r), s14], [.no, .ow t, s2, .va (hD n ds os), s4, s5, s6, s7, s8, s9, s10, s11, s12, .va (sD r), s14], rfl, by
    have := right_ok wh (hr r hrm)
    unfold T1_law
    repeat (first | walk_at "ev" | simp only [this]), fun _ => ⟨by unfold K2_law; walk_at "ev", rfl⟩, fun _ => rfl⟩]
  rfl
/-- slots that hold no tape -/
def NoOw (ss : List Sl) : Prop := ∀ s ∈ ss, isOw (some s) = false
theorem turn40 (b : Tp) (s2 s3 s4 s5 s6 s7 s8 s9 s10 s11 s12 s13 s14 : Sl) (h3 : isOw (some s3) = false) (h4 : isOw (some s4) = false) (h5 : isOw (some s5) = false) (h6 : isOw (some s6) = false) (h7 : isOw (some s7) = false) (h8 : isOw (some s8) = false) (h9 : isOw (some s9) = false) (h10 : isOw (some s10) = false) (h11 : isOw (some s11) = false) (h12 : isOw (some s12) = false) (h13 : isOw (some s13) = false) (h14 : isOw (some s14) = false) :
    ∃ (b' : Tp) (t3 t4 t5 t6 t7 t8 t9 t10 t11 t12 : Sl), (L11_law [.no, .ow b.ot, s2, s3, s4, s5, s6, s7, s8, s9, s10, s11, s12, s13, s14] = some (.nx [.no, .ow b'.ot, s2, t3, t4, t5, t6, t7, t8, t9, t10, t11, t12, s13, s14]) ∨ L11_law [.no, .ow b.ot, s2, s3, s4, s5, s6, s7, s8, s9, s10, s11, s12, s13, s14] = some (.ct [.no, .ow b'.ot, s2, t3, t4, t5, t6, t7, t8, t9, t10, t11, t12, s13, s14])) ∧ isOw (some t3) = false ∧ isOw (some t4) = false ∧ isOw (some t5) = false ∧ isOw (some t6) = false ∧ isOw (some t7) = false ∧ isOw (some t8) = false ∧ isOw (some t9) = false ∧ isOw (some t10) = false ∧ isOw (some t11) = false ∧ isOw (some t12) = false := by
  obtain ⟨n, ds, os, b1, e1, wh⟩ := house_ok b
  obtain ⟨rows, e2, hrow⟩ := rows_ok wh
  have hn6 := wh.n6
  have hws : ∀ r ∈ rows, WS n ds r := fun r hr => ⟨(hrow r hr).1, fun k hk => (hrow r hr).2 _ hk k rfl⟩
  have hcut : cutD (rows.map sD) none (some 400) = (rows.take 400).map sD := by rw [show (some (400 : Int)) = some ((400 : Nat) : Int) from rfl, cutD_to, ← List.map_take]
  have hc1 := rows_comp wh (rows.take 400) (fun r hr => hws r (List.mem_of_mem_take hr)) (by rw [List.length_take]; omega) b1.ot s2 s4 s5 s6 s7 s8 s9 s10 s11 s12 s13 s14 h13
  have hgl : ((rows.take 400).filter (rightB n ds os)).length ≤ 400 := Nat.le_trans (List.length_filter_le _ _) (by rw [List.length_take]; omega)
  have hgm : ∀ r ∈ (rows.take 400).filter (rightB n ds os), WS n ds r ∧ rightB n ds os r = true := fun r hr => ⟨hws r (List.mem_of_mem_take (List.mem_filter.mp hr).1), (List.mem_filter.mp hr).2⟩
  generalize (rows.take 400).filter (rightB n ds os) = good at hc1 hgl hgm
  have hgp : Plain 2 (.list (good.map sD)) := ⟨by rw [List.length_map]; omega, fun d hd => by
    obtain ⟨r, hr, rfl⟩ := List.mem_map.mp hd
    exact plain_sD (n := 0) (by rw [(hgm r hr).1.len]; omega)⟩
  have hq := dEq_nil hgp (by decide)
  rcases nilCons good with rfl | ⟨g0, gr, hg⟩
  · have hq' : dEq (.list []) (.list []) = some (.bool true) := hq
    refine ⟨b1, .va (hD n ds os), .va (.list []), s5, s6, s7, s8, s9, s10, s11, s12, .inr ?_, rfl, rfl, h5, h6, h7, h8, h9, h10, h11, h12⟩
    unfold L11_law
    repeat (first | walk_at "ev" | simp only [e1, e2, hcut, hc1, h3, h4, hq', reduceIte])
  · have hgl0 : 0 < good.length := by rw [hg]; exact Nat.succ_pos _
    have hemp : (good.map sD).isEmpty = false := by rw [hg]; rfl
    rw [hemp] at hq
    obtain ⟨d, b2, e3, d0, d1⟩ := tk40 b1 (m := (good.length : Int)) (by omega) (by omega)
    obtain ⟨i, rfl⟩ : ∃ i : Nat, d = (i : Int) := ⟨d.toNat, by omega⟩
    have hi : i < good.length := by omega
    have hat : atI (good.map sD) (i : Int) = some (sD good[i]) := atI_nat (by rw [List.getElem?_map, List.getElem?_eq_getElem hi]; rfl)
    obtain ⟨ws, hR⟩ := hgm good[i] (List.getElem_mem hi)
    generalize good[i] = sg at hat ws hR
    obtain ⟨t8, t9, f1, f2, f3⟩ := due_for wh ws hR b2.ot s2 (.va (.list (good.map sD))) s8 s9 s10 s11 s12 s13 s14 h8 h9 h12
    have told := sss_ok wh ws hR
    have sm := same40 (plain_told (ds := ds) (os := os) (sg := sg) hn6)
    have hrg : Rg (n : Int) := rg_of (by omega) (by omega)
    have hbl : (baresI n ds os sg n).length ≤ 1000000 := by
      unfold baresI
      rw [List.length_map]
      exact Nat.le_trans (List.length_filter_le _ _) (by rw [List.length_range]; omega)
    have hbq := dEq_nil (n := 1) (plain_intsL hbl) (by decide)
    have hbn := dNe_nil (n := 1) (plain_intsL hbl) (by decide)
    have hbI : baresI n ds os sg n = (bares n ds os sg).map fun k => ((k : Nat) : Int) := rfl
    rcases nilCons (bares n ds os sg) with hB | ⟨r0, br, hB⟩
    · have hBI : baresI n ds os sg n = [] := by rw [hbI, hB]; rfl
      have htd : toldD n ds os sg = .tuple [.str "signs", .tuple ((dues n ds os sg).map oD)] := by unfold toldD; rw [hB]; rfl
      rw [htd] at told sm
      rw [hBI] at f1 hbq hbn
      have hbq' : dEq (.list []) (.list []) = some (.bool true) := hbq
      have hbn' : dNe (.list []) (.list []) = some (.bool false) := hbn
      have f1' : forL (gNm 8) L5_law (rngD 0 n) [.no, .ow b2.ot, s2, .va (hD n ds os), .va (.list (good.map sD)), .va (sD sg), .li [], .li [], s8, s9, s10, s11, s12, s13, s14] = some (.nx [.no, .ow b2.ot, s2, .va (hD n ds os), .va (.list (good.map sD)), .va (sD sg), .li ((dues n ds os sg).map oD), .li [], t8, t9, s10, s11, s12, s13, s14]) := f1
      obtain ⟨u8, u11, k1, k2, k3⟩ := turned_for wh ws hR hB b2.ot s2 (.va (.list (good.map sD))) (.va (.list [])) t8 t9 (.va (.tuple [.str "signs", .tuple ((dues n ds os sg).map oD)])) s11 s12 s13 s14 f2 h11
      refine ⟨b2, .va (hD n ds os), .va (.list (good.map sD)), .va (sD sg), .li ((dues n ds os sg).map oD), .va (.list []), u8, t9, .va (.tuple [.str "signs", .tuple ((dues n ds os sg).map oD)]), u11, s12, .inl ?_, rfl, rfl, rfl, rfl, rfl, k2, f3, rfl, k3, h12⟩
      unfold L11_law
      rw [show hD n ds os = .tuple [.int n, .tuple (ds.map doorD), .tuple (iL os)] from rfl] at *
      repeat (first | walk_at "ev" | simp only [e1, e2, e3, hcut, hc1, h3, h4, h5, h6, h7, h10, hq, hat, List.length_map, hrg, f1', told, hbq', hbn', sm, k1, forL_nil, reduceIte])
    · have hBI : baresI n ds os sg n = (r0 : Int) :: br.map fun k => ((k : Nat) : Int) := by rw [hbI, hB]; rfl
      have htd : toldD n ds os sg = .tuple [.str "none", .int r0] := by unfold toldD; rw [hB]; rfl
      rw [htd] at told sm
      have hne : (iL (baresI n ds os sg n)).isEmpty = false := by rw [hBI]; rfl
      have hb0 : atI (iL (baresI n ds os sg n)) 0 = some (.int (r0 : Int)) := by rw [hBI]; exact at0 _ _
      rw [hne] at hbq hbn
      obtain ⟨u8, u12, k1, k2, k3⟩ := bares_for wh ws hR b2.ot s2 (.va (.list (good.map sD))) (.li ((dues n ds os sg).map oD)) (.va (.list (iL (baresI n ds os sg n)))) t8 t9 (.va (.tuple [.str "none", .int r0])) s11 s12 s13 s14 f2 h12 h14
      refine ⟨b2, .va (hD n ds os), .va (.list (good.map sD)), .va (sD sg), .li ((dues n ds os sg).map oD), .va (.list (iL (baresI n ds os sg n))), u8, t9, .va (.tuple [.str "none", .int r0]), s11, u12, .inl ?_, rfl, rfl, rfl, rfl, rfl, k2, f3, rfl, h11, k3⟩
      generalize iL (baresI n ds os sg n) = BI at *
      unfold L11_law
      rw [show hD n ds os = .tuple [.int n, .tuple (ds.map doorD), .tuple (iL os)] from rfl] at *
      repeat (first | walk_at "ev" | simp only [e1, e2, e3, hcut, hc1, h3, h4, h5, h6, h7, h10, hq, hat, List.length_map, hrg, f1, told, hbq, hbn, hb0, sm, k1, reduceIte])
theorem law_true : ∀ ns : List Int, ns.length ≤ 63 → ∃ e', F_law (.no :: .ow (tp0 ns).ot :: List.replicate 13 .no) = some (.rt (.va (.bool true)) e') := by
  intro ns _
  obtain ⟨e', h1, _⟩ := forL_atC (t := gNm 2) (b := L11_law) (fun e => ∃ (b : Tp) (s2 s3 s4 s5 s6 s7 s8 s9 s10 s11 s12 s13 s14 : Sl), e = [.no, .ow b.ot, s2, s3, s4, s5, s6, s7, s8, s9, s10, s11, s12, s13, s14] ∧ isOw (some s2) = false ∧ isOw (some s3) = false ∧ isOw (some s4) = false ∧ isOw (some s5) = false ∧ isOw (some s6) = false ∧ isOw (some s7) = false ∧ isOw (some s8) = false ∧ isOw (some s9) = false ∧ isOw (some s10) = false ∧ isOw (some s11) = false ∧ isOw (some s12) = false ∧ isOw (some s13) = false ∧ isOw (some s14) = false) (fun d e ⟨b, s2, s3, s4, s5, s6, s7, s8, s9, s10, s11, s12, s13, s14, he, h2, h3, h4, h5, h6, h7, h8, h9, h10, h11, h12, h13, h14⟩ => by
    subst he
    obtain ⟨b', t3, t4, t5, t6, t7, t8, t9, t10, t11, t12, k1, k3, k4, k5, k6, k7, k8, k9, k10, k11, k12⟩ := turn40 b (.va d) s3 s4 s5 s6 s7 s8 s9 s10 s11 s12 s13 s14 h3 h4 h5 h6 h7 h8 h9 h10 h11 h12 h13 h14
    have hg : gNm 2 d [.no, .ow b.ot, s2, s3, s4, s5, s6, s7, s8, s9, s10, s11, s12, s13, s14] = some [.no, .ow b.ot, .va d, s3, s4, s5, s6, s7, s8, s9, s10, s11, s12, s13, s14] := by
      repeat (first | walk_at "ev" | simp only [gNm_ev, h2, reduceIte])
    refine ⟨_, ?_, b', .va d, t3, t4, t5, t6, t7, t8, t9, t10, t11, t12, s13, s14, rfl, rfl, k3, k4, k5, k6, k7, k8, k9, k10, k11, k12, h13, h14⟩
    rw [hg, Option.bind_some]
    exact k1) (rngD 0 4) [.no, .ow (tp0 ns).ot, .no, .no, .no, .no, .no, .no, .no, .no, .no, .no, .no, .no, .no] ⟨tp0 ns, .no, .no, .no, .no, .no, .no, .no, .no, .no, .no, .no, .no, .no, rfl, rfl, rfl, rfl, rfl, rfl, rfl, rfl, rfl, rfl, rfl, rfl, rfl, rfl⟩
  refine ⟨e', ?_⟩
  have hr : Rg 4 := rg_of (by omega) (by omega)
  have h4 : (4 : Int).toNat = 4 := rfl
  show F_law [.no, .ow (tp0 ns).ot, .no, .no, .no, .no, .no, .no, .no, .no, .no, .no, .no, .no, .no] = _
  unfold F_law
  repeat (first | walk_at "ev" | simp only [hr, h4, h1, reduceIte])
end Fl

set_option Elab.async false
set_option linter.all false
set_option maxRecDepth 100000
set_option maxHeartbeats 4000000
namespace Fl
open PySem PySem.Spec PyProof.Rows L2
section
variable {P : Program} {w : World} {K : Frg} {mg : Str → Option Value} {base : Heap}
theorem all_ok {f : Addr} {fd : FuncData} (F : Fun K "law" "law" s_law f fd) (B : Bt mg) (T__law_tape : Ft K mg "_law_tape" s__law_tape ["script"]) (T__law_mix : Ft K mg "_law_mix" s__law_mix ["number"]) (T__law_take : Ft K mg "_law_take" s__law_take ["tape", "many"]) (T_led : Ft K mg "led" s_led ["house", "signs", "room"]) (T_second_sign : Ft K mg "second_sign" s_second_sign ["house", "signs", "room"]) (T_second_signs : Ft K mg "second_signs" s_second_signs ["house", "signs"]) (T__law_same : Ft K mg "_law_same" s__law_same ["a", "b"]) (T__law_house : Ft K mg "_law_house" s__law_house ["tape", "most", "many", "wide", "long"]) (T__law_led : Ft K mg "_law_led" s__law_led ["house", "signs", "room"]) (T__law_right : Ft K mg "_law_right" s__law_right ["house", "signs"]) (T__law_all_signs : Ft K mg "_law_all_signs" s__law_all_signs ["house"]) : FnOk P w K mg base CX0 21 f fd ["script"] (spLaw K) := by
  obtain ⟨f1, fd1, F1, b1, g1⟩ := T__law_tape
  obtain ⟨f2, fd2, F2, b2, g2⟩ := T__law_mix
  have D__law_take : Dk P w K mg base "_law_take" 2 2 F__law_take := dk_of T__law_take fun f fd F => take_ok (ok_take F F2 b2 g2 B.len B.int)
  have D_led : Dk P w K mg base "led" 1 3 F_led := dk_of T_led fun f fd F => ok_led F B 
  have D_second_sign : Dk P w K mg base "second_sign" 2 3 F_second_sign := dk_of T_second_sign fun f fd F => ok_second_sign F B D_led
  have D_second_signs : Dk P w K mg base "second_signs" 3 2 F_second_signs := dk_of T_second_signs fun f fd F => ok_second_signs F B D_second_sign
  have D__law_same : Dk P w K mg base "_law_same" 20 2 F__law_same := dk_rec (l := 0) (R := R__law_same) T__law_same rfl (fun f fd k F D hk => st__law_same F B  D hk) 20
  have D__law_house : Dk P w K mg base "_law_house" 3 5 F__law_house := dk_of T__law_house fun f fd F => ok__law_house F B D__law_take
  have D__law_led : Dk P w K mg base "_law_led" 1 3 F__law_led := dk_of T__law_led fun f fd F => ok__law_led F B 
  have D__law_right : Dk P w K mg base "_law_right" 2 2 F__law_right := dk_of T__law_right fun f fd F => ok__law_right F B D__law_led
  have D__law_all_signs : Dk P w K mg base "_law_all_signs" 1 1 F__law_all_signs := dk_of T__law_all_signs fun f fd F => ok__law_all_signs F B 
  exact law_okT (k := 19) F sc_law (by decide) (ok_tape (k := 0) F1 B.len B.list) b1 g1 F1.kp (fun cdv A outer s H E hr => ⟨_, ps_set (i := 1) sc_law.nd rfl (by first | exact .inl rfl | exact .inr rfl) (pe_call (ok_tape (k := 0) F1 B.len B.list) (hr.mono (by decide)) (by rfl) g1 F1.kp b1 .nil pass0 (pa_cons (pv 0) pa_nil)), fun _ _ _ h => h⟩) rfl (fun cdv A outer s H E hr => ok_law_rest B D__law_house D__law_all_signs D__law_right D__law_take D__law_led D_second_signs D__law_same cdv A outer s H E hr) law_true
end
theorem all_mk {l : PySem.W.OpenLaw} {w : World} {K : PySem.W.Frag} {h : Heap} {mg : Str → Option Value} {fa fL : Addr} (X : K.In h) (G : h.Ns mainGlobals mg) (hfa : mg "law" = some (.ref fa))
    {f_0 f_1 f_2 f_3 f_4 f_5 f_6 f_7 f_8 f_9 f_10 : Addr} {odL anL od0 an0 od1 an1 od2 an2 od3 an3 od4 an4 od5 an5 od6 an6 od7 an7 od8 an8 od9 an9 od10 an10 : Option Addr} {slL sl0 sl1 sl2 sl3 sl4 sl5 sl6 sl7 sl8 sl9 sl10 : Array (Option Value)} {ocL kVL dcL pmL cdL ctL oc0 kV0 dc0 pm0 cd0 ct0 oc1 kV1 dc1 pm1 cd1 ct1 oc2 kV2 dc2 pm2 cd2 ct2 oc3 kV3 dc3 pm3 cd3 ct3 oc4 kV4 dc4 pm4 cd4 ct4 oc5 kV5 dc5 pm5 cd5 ct5 oc6 kV6 dc6 pm6 cd6 ct6 oc7 kV7 dc7 pm7 cd7 ct7 oc8 kV8 dc8 pm8 cd8 ct8 oc9 kV9 dc9 pm9 cd9 ct9 oc10 kV10 dc10 pm10 cd10 ct10 : Value}
    (a0 : PySem.W.nsIn K mainGlobals "_law_tape" = some (some (.ref f_0))) (l0 : K.lookup f_0 = some ⟨oc0, od0, .func (PySem.W.fnOf "_law_tape" "_law_tape" (defArgs s__law_tape) (defBody s__law_tape) (defScope s__law_tape) .none kV0 dc0 pm0 an0 cd0 ct0), sl0⟩) (c0 : PySem.W.codeIn K cd0 "_law_tape" = true) (k0 : PySem.W.keepIn K (.ref f_0) = true)
    (a1 : PySem.W.nsIn K mainGlobals "_law_mix" = some (some (.ref f_1))) (l1 : K.lookup f_1 = some ⟨oc1, od1, .func (PySem.W.fnOf "_law_mix" "_law_mix" (defArgs s__law_mix) (defBody s__law_mix) (defScope s__law_mix) .none kV1 dc1 pm1 an1 cd1 ct1), sl1⟩) (c1 : PySem.W.codeIn K cd1 "_law_mix" = true) (k1 : PySem.W.keepIn K (.ref f_1) = true)
    (a2 : PySem.W.nsIn K mainGlobals "_law_take" = some (some (.ref f_2))) (l2 : K.lookup f_2 = some ⟨oc2, od2, .func (PySem.W.fnOf "_law_take" "_law_take" (defArgs s__law_take) (defBody s__law_take) (defScope s__law_take) .none kV2 dc2 pm2 an2 cd2 ct2), sl2⟩) (c2 : PySem.W.codeIn K cd2 "_law_take" = true) (k2 : PySem.W.keepIn K (.ref f_2) = true)
    (a3 : PySem.W.nsIn K mainGlobals "led" = some (some (.ref f_3))) (l3 : K.lookup f_3 = some ⟨oc3, od3, .func (PySem.W.fnOf "led" "led" (defArgs s_led) (defBody s_led) (defScope s_led) .none kV3 dc3 pm3 an3 cd3 ct3), sl3⟩) (c3 : PySem.W.codeIn K cd3 "led" = true) (k3 : PySem.W.keepIn K (.ref f_3) = true)
    (a4 : PySem.W.nsIn K mainGlobals "second_sign" = some (some (.ref f_4))) (l4 : K.lookup f_4 = some ⟨oc4, od4, .func (PySem.W.fnOf "second_sign" "second_sign" (defArgs s_second_sign) (defBody s_second_sign) (defScope s_second_sign) .none kV4 dc4 pm4 an4 cd4 ct4), sl4⟩) (c4 : PySem.W.codeIn K cd4 "second_sign" = true) (k4 : PySem.W.keepIn K (.ref f_4) = true)
    (a5 : PySem.W.nsIn K mainGlobals "second_signs" = some (some (.ref f_5))) (l5 : K.lookup f_5 = some ⟨oc5, od5, .func (PySem.W.fnOf "second_signs" "second_signs" (defArgs s_second_signs) (defBody s_second_signs) (defScope s_second_signs) .none kV5 dc5 pm5 an5 cd5 ct5), sl5⟩) (c5 : PySem.W.codeIn K cd5 "second_signs" = true) (k5 : PySem.W.keepIn K (.ref f_5) = true)
    (a6 : PySem.W.nsIn K mainGlobals "_law_same" = some (some (.ref f_6))) (l6 : K.lookup f_6 = some ⟨oc6, od6, .func (PySem.W.fnOf "_law_same" "_law_same" (defArgs s__law_same) (defBody s__law_same) (defScope s__law_same) .none kV6 dc6 pm6 an6 cd6 ct6), sl6⟩) (c6 : PySem.W.codeIn K cd6 "_law_same" = true) (k6 : PySem.W.keepIn K (.ref f_6) = true)
    (a7 : PySem.W.nsIn K mainGlobals "_law_house" = some (some (.ref f_7))) (l7 : K.lookup f_7 = some ⟨oc7, od7, .func (PySem.W.fnOf "_law_house" "_law_house" (defArgs s__law_house) (defBody s__law_house) (defScope s__law_house) .none kV7 dc7 pm7 an7 cd7 ct7), sl7⟩) (c7 : PySem.W.codeIn K cd7 "_law_house" = true) (k7 : PySem.W.keepIn K (.ref f_7) = true)
    (a8 : PySem.W.nsIn K mainGlobals "_law_led" = some (some (.ref f_8))) (l8 : K.lookup f_8 = some ⟨oc8, od8, .func (PySem.W.fnOf "_law_led" "_law_led" (defArgs s__law_led) (defBody s__law_led) (defScope s__law_led) .none kV8 dc8 pm8 an8 cd8 ct8), sl8⟩) (c8 : PySem.W.codeIn K cd8 "_law_led" = true) (k8 : PySem.W.keepIn K (.ref f_8) = true)
    (a9 : PySem.W.nsIn K mainGlobals "_law_right" = some (some (.ref f_9))) (l9 : K.lookup f_9 = some ⟨oc9, od9, .func (PySem.W.fnOf "_law_right" "_law_right" (defArgs s__law_right) (defBody s__law_right) (defScope s__law_right) .none kV9 dc9 pm9 an9 cd9 ct9), sl9⟩) (c9 : PySem.W.codeIn K cd9 "_law_right" = true) (k9 : PySem.W.keepIn K (.ref f_9) = true)
    (a10 : PySem.W.nsIn K mainGlobals "_law_all_signs" = some (some (.ref f_10))) (l10 : K.lookup f_10 = some ⟨oc10, od10, .func (PySem.W.fnOf "_law_all_signs" "_law_all_signs" (defArgs s__law_all_signs) (defBody s__law_all_signs) (defScope s__law_all_signs) .none kV10 dc10 pm10 an10 cd10 ct10), sl10⟩) (c10 : PySem.W.codeIn K cd10 "_law_all_signs" = true) (k10 : PySem.W.keepIn K (.ref f_10) = true)
    (aL : PySem.W.nsIn K mainGlobals "law" = some (some (.ref fL))) (lL : K.lookup fL = some ⟨ocL, odL, .func (PySem.W.fnOf "law" "law" (defArgs s_law) (defBody s_law) (defScope s_law) .none kVL dcL pmL anL cdL ctL), slL⟩) (cL : PySem.W.codeIn K cdL "law" = true) (kL : PySem.W.keepIn K (.ref fL) = true)
    (z_len : PySem.W.nsIn K mainGlobals "len" = some none)
    (z_range : PySem.W.nsIn K mainGlobals "range" = some none)
    (z_tuple : PySem.W.nsIn K mainGlobals "tuple" = some none)
    (z_list : PySem.W.nsIn K mainGlobals "list" = some none)
    (z_int : PySem.W.nsIn K mainGlobals "int" = some none)
    (z_bool : PySem.W.nsIn K mainGlobals "bool" = some none)
    (z_str : PySem.W.nsIn K mainGlobals "str" = some none)
    (z_all : PySem.W.nsIn K mainGlobals "all" = some none)
    (z_any : PySem.W.nsIn K mainGlobals "any" = some none)
    (z_sum : PySem.W.nsIn K mainGlobals "sum" = some none)
    (z_min : PySem.W.nsIn K mainGlobals "min" = some none)
    (z_max : PySem.W.nsIn K mainGlobals "max" = some none)
    (z_abs : PySem.W.nsIn K mainGlobals "abs" = some none)
    (z_sorted : PySem.W.nsIn K mainGlobals "sorted" = some none)
    (z_isinstance : PySem.W.nsIn K mainGlobals "isinstance" = some none)
    (z_enumerate : PySem.W.nsIn K mainGlobals "enumerate" = some none)
    (z_zip : PySem.W.nsIn K mainGlobals "zip" = some none)
    (z_set : PySem.W.nsIn K mainGlobals "set" = some none)
    (z_dict : PySem.W.nsIn K mainGlobals "dict" = some none)
    (z_reversed : PySem.W.nsIn K mainGlobals "reversed" = some none)
    : ∃ fd : FuncData, (∀ (s : Shared) (v : Value), BindsTo s fd ⟨[v], []⟩ [("script", v)]) ∧ ∀ base : Heap, K.In base → base.Ns mainGlobals mg → FnOk l.prog w K mg base CX0 21 fa fd ["script"] (spLaw K) := by
  have e := hfa.symm.trans (PySem.W.mg_of X G aL)
  cases e
  have FL := fun_mk (st := s_law) lL cL kL
  have B : Bt mg := ⟨PySem.W.mg_none_of X G z_len, PySem.W.mg_none_of X G z_range, PySem.W.mg_none_of X G z_tuple, PySem.W.mg_none_of X G z_list, PySem.W.mg_none_of X G z_int, PySem.W.mg_none_of X G z_bool, PySem.W.mg_none_of X G z_str, PySem.W.mg_none_of X G z_all, PySem.W.mg_none_of X G z_any, PySem.W.mg_none_of X G z_sum, PySem.W.mg_none_of X G z_min, PySem.W.mg_none_of X G z_max, PySem.W.mg_none_of X G z_abs, PySem.W.mg_none_of X G z_sorted, PySem.W.mg_none_of X G z_isinstance, PySem.W.mg_none_of X G z_enumerate, PySem.W.mg_none_of X G z_zip, PySem.W.mg_none_of X G z_set, PySem.W.mg_none_of X G z_dict, PySem.W.mg_none_of X G z_reversed⟩
  have T0 : Ft K mg "_law_tape" s__law_tape ["script"] := ft_mk X G a0 l0 c0 k0 fun _ _ _ _ _ _ us hl => match us, hl with | [_], _ => rfl
  have T1 : Ft K mg "_law_mix" s__law_mix ["number"] := ft_mk X G a1 l1 c1 k1 fun _ _ _ _ _ _ us hl => match us, hl with | [_], _ => rfl
  have T2 : Ft K mg "_law_take" s__law_take ["tape", "many"] := ft_mk X G a2 l2 c2 k2 fun _ _ _ _ _ _ us hl => match us, hl with | [_, _], _ => rfl
  have T3 : Ft K mg "led" s_led ["house", "signs", "room"] := ft_mk X G a3 l3 c3 k3 fun _ _ _ _ _ _ us hl => match us, hl with | [_, _, _], _ => rfl
  have T4 : Ft K mg "second_sign" s_second_sign ["house", "signs", "room"] := ft_mk X G a4 l4 c4 k4 fun _ _ _ _ _ _ us hl => match us, hl with | [_, _, _], _ => rfl
  have T5 : Ft K mg "second_signs" s_second_signs ["house", "signs"] := ft_mk X G a5 l5 c5 k5 fun _ _ _ _ _ _ us hl => match us, hl with | [_, _], _ => rfl
  have T6 : Ft K mg "_law_same" s__law_same ["a", "b"] := ft_mk X G a6 l6 c6 k6 fun _ _ _ _ _ _ us hl => match us, hl with | [_, _], _ => rfl
  have T7 : Ft K mg "_law_house" s__law_house ["tape", "most", "many", "wide", "long"] := ft_mk X G a7 l7 c7 k7 fun _ _ _ _ _ _ us hl => match us, hl with | [_, _, _, _, _], _ => rfl
  have T8 : Ft K mg "_law_led" s__law_led ["house", "signs", "room"] := ft_mk X G a8 l8 c8 k8 fun _ _ _ _ _ _ us hl => match us, hl with | [_, _, _], _ => rfl
  have T9 : Ft K mg "_law_right" s__law_right ["house", "signs"] := ft_mk X G a9 l9 c9 k9 fun _ _ _ _ _ _ us hl => match us, hl with | [_, _], _ => rfl
  have T10 : Ft K mg "_law_all_signs" s__law_all_signs ["house"] := ft_mk X G a10 l10 c10 k10 fun _ _ _ _ _ _ us hl => match us, hl with | [_], _ => rfl
  exact ⟨_, fun s v => .of_eq rfl, fun base _ _ => all_ok FL B T0 T1 T2 T3 T4 T5 T6 T7 T8 T9 T10⟩
end Fl
open PySem PySem.W PyProof.Rows
set_option maxHeartbeats 0 in
theorem PySem.Challenge.cw_roomsemptied_k40_whole_second_signs_holds : PySem.Challenge.rw_roomsemptied_k40_whole_second_signs.Holds := by
  w_on; o_law; k_head; (case hw => w_witness2)
  k_fill
  refine L2.walk_of (l := PySem.Challenge.rw_roomsemptied_k40_whole_second_signs) (n := 63) (k := 21) (x := "script") (CX := fun _ => L2.CX0) (sp := fun w => Fl.spLaw _) rfl (by decide) rfl ⟨rfl, by decide, by decide⟩ (fun w h Y => PySem.W.kIn_of Y) ?F (fun _ _ a ns hl _ hS => ⟨a, ns, rfl, hS, hl, fun _ => rfl⟩) (fun _ _ _ _ _ h => h)
  case F =>
    intro w mg fa h KX G hmg
    refine' Fl.all_mk KX G hmg ?a0 ?l0 ?c0 ?k0 ?a1 ?l1 ?c1 ?k1 ?a2 ?l2 ?c2 ?k2 ?a3 ?l3 ?c3 ?k3 ?a4 ?l4 ?c4 ?k4 ?a5 ?l5 ?c5 ?k5 ?a6 ?l6 ?c6 ?k6 ?a7 ?l7 ?c7 ?k7 ?a8 ?l8 ?c8 ?k8 ?a9 ?l9 ?c9 ?k9 ?a10 ?l10 ?c10 ?k10 ?aL ?lL ?cL ?kL ?z_len ?z_range ?z_tuple ?z_list ?z_int ?z_bool ?z_str ?z_all ?z_any ?z_sum ?z_min ?z_max ?z_abs ?z_sorted ?z_isinstance ?z_enumerate ?z_zip ?z_set ?z_dict ?z_reversed
    (case a0 => k_is); (case l0 => k_is); (case c0 => k_is); (case k0 => k_is); (case a1 => k_is); (case l1 => k_is); (case c1 => k_is); (case k1 => k_is)
    (case a2 => k_is); (case l2 => k_is); (case c2 => k_is); (case k2 => k_is); (case a3 => k_is); (case l3 => k_is); (case c3 => k_is); (case k3 => k_is)
    (case a4 => k_is); (case l4 => k_is); (case c4 => k_is); (case k4 => k_is); (case a5 => k_is); (case l5 => k_is); (case c5 => k_is); (case k5 => k_is)
    (case a6 => k_is); (case l6 => k_is); (case c6 => k_is); (case k6 => k_is); (case a7 => k_is); (case l7 => k_is); (case c7 => k_is); (case k7 => k_is)
    (case a8 => k_is); (case l8 => k_is); (case c8 => k_is); (case k8 => k_is); (case a9 => k_is); (case l9 => k_is); (case c9 => k_is); (case k9 => k_is)
    (case a10 => k_is); (case l10 => k_is); (case c10 => k_is); (case k10 => k_is); (case aL => k_is); (case lL => k_is); (case cL => k_is); (case kL => k_is)
    (case z_len => k_is); (case z_range => k_is); (case z_tuple => k_is); (case z_list => k_is); (case z_int => k_is); (case z_bool => k_is); (case z_str => k_is); (case z_all => k_is)
    (case z_any => k_is); (case z_sum => k_is); (case z_min => k_is); (case z_max => k_is); (case z_abs => k_is); (case z_sorted => k_is); (case z_isinstance => k_is); (case z_enumerate => k_is)
    (case z_zip => k_is); (case z_set => k_is); (case z_dict => k_is); (case z_reversed => k_is)
