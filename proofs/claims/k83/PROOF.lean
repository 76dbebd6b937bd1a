import PyProof.Rows.All
import Wide.All
import OpenK.AllK
import Wide.FinOn
import HandS.ForMost
import HandS.Walk
import HandS.TupAny
import HandS.IsInst
import HandS.SortInts
import HandS.Flow
import PyProof.WalksMore
import PyProof.WalkInts
import PyProof.Rows.SumAny
import PyProof.Rows.TupIter
import HandS.Zip
import HandS.Rev
import HandS.Conv
import HandS.More
import HandS.SetFor
import HandS.Style
import KE.GoesEnum
import HandS.Wide
import HandS.TupMul
import HandS.Deep
import PySem.Challenge.RW_roomsemptied_k83_whole_safe_loans
set_option Elab.async false
set_option linter.all false
set_option maxRecDepth 100000
set_option maxHeartbeats 1000000
set_option autoImplicit false
/-! FnCore: plain values, environments of slots, what the heap bears of them; judgements by plain functions. -/
namespace Fl
open PySem PySem.Spec PyProof.Rows L2
abbrev D := PyData
abbrev Frg := PySem.W.Frag
/-- an own thing that others may change by reference: a leaf, a list, a tuple -/
inductive OT where
  | leaf (d : D)
  | node (ts : List OT)
  | ntup (ts : List OT)
/-- what a slot holds -/
inductive Sl where
  | no
  | va (d : D)
  | li (xs : List D)
  | di (kvs : List (Key × D))
  | dt (kvs : List (List Key × D))
  | ow (t : OT)
abbrev Ev := List Sl
/-! ### plain values on a heap -/
mutual
inductive Dv (K : Frg) (G : Hp) : V → D → Prop
  | non : Dv K G .non .none
  | bl (b : Bool) : Dv K G (.bl b) (.bool b)
  | int (i : Int) : Dv K G (.int i) (.int i)
  | str (x : Str) : Dv K G (.str x) (.str x)
  | lst {a : Addr} {xs : List V} {ds : List D} : G a = some (.lst xs) → DvAll K G xs ds → Dv K G (.ref a) (.list ds)
  | tup {a : Addr} {xs : List V} {ds : List D} : SqT K G a xs → DvAll K G xs ds → Dv K G (.ref a) (.tuple ds)
inductive DvAll (K : Frg) (G : Hp) : List V → List D → Prop
  | nil : DvAll K G [] []
  | cons {v : V} {vs : List V} {d : D} {ds : List D} : Dv K G v d → DvAll K G vs ds → DvAll K G (v :: vs) (d :: ds)
end
mutual
theorem Dv.dp {K : Frg} {G : Hp} : ∀ (d : D) (v : V), Dv K G v d → Dp K G v d
  | .none, _, h => by cases h; exact .non
  | .bool b, _, h => by cases h; exact .bl b
  | .int i, _, h => by cases h; exact .int i
  | .str x, _, h => by cases h; exact .str x
  | .list ds, _, h => by
    cases h with
    | lst hs ha => exact .lst (SqL.of hs) (DvAll.dp ds _ ha)
  | .tuple ds, _, h => by
    cases h with
    | tup hs ha => exact .tup hs (DvAll.dp ds _ ha)
  | .dict _, _, h => by cases h
theorem DvAll.dp {K : Frg} {G : Hp} : ∀ (ds : List D) (vs : List V), DvAll K G vs ds → DpAll K G vs ds
  | [], _, h => by cases h; exact .nil
  | d :: ds, _, h => by
    cases h with
    | cons h1 h2 => exact .cons (Dv.dp d _ h1) (DvAll.dp ds _ h2)
end
theorem dv_tup {K : Frg} {G : Hp} {a : Addr} {vs : List V} {ds : List D} (h : G a = some (.tup vs)) (k : DvAll K G vs ds) : Dv K G (.ref a) (.tuple ds) := .tup (SqT.of h) k
theorem seqT {K : Frg} {H H' : Hp} {a : Addr} {xs : List V} (e : Same H H') (h : SqT K H a xs) : SqT K H' a xs := by
  rcases h with h | h
  · rcases h with h | ⟨o, h⟩
    · exact .inl (.inl (e _ _ h))
    · exact .inl (.inr ⟨o, e _ _ h⟩)
  · exact .inr h
mutual
theorem dvMono {K : Frg} {H H' : Hp} (e : Same H H') : ∀ (d : D) (v : V), Dv K H v d → Dv K H' v d
  | .none, _, h => by cases h; exact .non
  | .bool b, _, h => by cases h; exact .bl b
  | .int i, _, h => by cases h; exact .int i
  | .str x, _, h => by cases h; exact .str x
  | .list ds, _, h => by
    cases h with
    | lst hs ha => exact .lst (e _ _ hs) (dvMonoAll e ds _ ha)
  | .tuple ds, _, h => by
    cases h with
    | tup hs ha => exact .tup (seqT e hs) (dvMonoAll e ds _ ha)
  | .dict _, _, h => by cases h
theorem dvMonoAll {K : Frg} {H H' : Hp} (e : Same H H') : ∀ (ds : List D) (vs : List V), DvAll K H vs ds → DvAll K H' vs ds
  | [], _, h => by cases h; exact .nil
  | d :: ds, _, h => by
    cases h with
    | cons h1 h2 => exact .cons (dvMono e d _ h1) (dvMonoAll e ds _ h2)
end
theorem dvAll_len {K : Frg} {H : Hp} : ∀ {vs : List V} {ds : List D}, DvAll K H vs ds → vs.length = ds.length
  | _, [], h => by cases h; rfl
  | _, d :: ds, h => by
    cases h with
    | cons h1 h2 => rw [List.length_cons, List.length_cons, dvAll_len h2]
theorem dvAll_get {K : Frg} {H : Hp} : ∀ {vs : List V} {ds : List D} {i : Nat} {d : D}, DvAll K H vs ds → ds[i]? = some d → ∃ v, vs[i]? = some v ∧ Dv K H v d
  | _, [], i, d, h, e => by simp at e
  | _, d' :: ds, 0, d, h, e => by
    cases h with
    | cons h1 h2 => simp at e; subst e; exact ⟨_, rfl, h1⟩
  | _, d' :: ds, i + 1, d, h, e => by
    cases h with
    | cons h1 h2 =>
      obtain ⟨v, e1, e2⟩ := dvAll_get (i := i) h2 (by simpa using e)
      exact ⟨v, by simpa using e1, e2⟩
theorem dvAll_getV {K : Frg} {H : Hp} : ∀ {vs : List V} {ds : List D} {i : Nat} {v : V}, DvAll K H vs ds → vs[i]? = some v → ∃ d, ds[i]? = some d ∧ Dv K H v d
  | _, [], i, v, h, e => by cases h; simp at e
  | _, d' :: ds, 0, v, h, e => by
    cases h with
    | cons h1 h2 => simp at e; subst e; exact ⟨_, rfl, h1⟩
  | _, d' :: ds, i + 1, v, h, e => by
    cases h with
    | cons h1 h2 =>
      obtain ⟨d, e1, e2⟩ := dvAll_getV (i := i) h2 (by simpa using e)
      exact ⟨d, by simpa using e1, e2⟩
theorem dvAll_app {K : Frg} {H : Hp} : ∀ {vs ws : List V} {ds es : List D}, DvAll K H vs ds → DvAll K H ws es → DvAll K H (vs ++ ws) (ds ++ es)
  | _, _, [], _, h, k => by cases h; exact k
  | _, _, d :: ds, _, h, k => by
    cases h with
    | cons h1 h2 => exact .cons h1 (dvAll_app h2 k)
theorem dvAll_one {K : Frg} {H : Hp} {v : V} {d : D} (h : Dv K H v d) : DvAll K H [v] [d] := .cons h .nil
theorem dvAll_set {K : Frg} {H : Hp} {v : V} {d : D} (k : Dv K H v d) : ∀ {vs : List V} {ds : List D} (i : Nat), DvAll K H vs ds → DvAll K H (vs.set i v) (ds.set i d)
  | _, [], _, h => by cases h; exact .nil
  | _, d' :: ds, 0, h => by
    cases h with
    | cons h1 h2 => exact .cons k h2
  | _, d' :: ds, i + 1, h => by
    cases h with
    | cons h1 h2 => exact .cons h1 (dvAll_set k i h2)
theorem dvAll_take {K : Frg} {H : Hp} : ∀ {vs : List V} {ds : List D} (i : Nat), DvAll K H vs ds → DvAll K H (vs.take i) (ds.take i)
  | _, _, 0, h => by simp; exact .nil
  | _, [], _ + 1, h => by cases h; exact .nil
  | _, d' :: ds, i + 1, h => by
    cases h with
    | cons h1 h2 => exact .cons h1 (dvAll_take i h2)
theorem dvAll_drop {K : Frg} {H : Hp} : ∀ {vs : List V} {ds : List D} (i : Nat), DvAll K H vs ds → DvAll K H (vs.drop i) (ds.drop i)
  | _, _, 0, h => h
  | _, [], _ + 1, h => by cases h; exact .nil
  | _, d' :: ds, i + 1, h => by
    cases h with
    | cons h1 h2 => exact dvAll_drop i h2
theorem dvAll_erase {K : Frg} {H : Hp} : ∀ {vs : List V} {ds : List D} (i : Nat), DvAll K H vs ds → DvAll K H (vs.eraseIdx i) (ds.eraseIdx i)
  | _, [], _, h => by cases h; exact .nil
  | _, d' :: ds, 0, h => by
    cases h with
    | cons h1 h2 => exact h2
  | _, d' :: ds, i + 1, h => by
    cases h with
    | cons h1 h2 => exact .cons h1 (dvAll_erase i h2)
theorem dvAll_rev {K : Frg} {H : Hp} : ∀ {vs : List V} {ds : List D}, DvAll K H vs ds → DvAll K H vs.reverse ds.reverse
  | _, [], h => by cases h; exact .nil
  | _, d' :: ds, h => by
    cases h with
    | cons h1 h2 =>
      rw [List.reverse_cons, List.reverse_cons]
      exact dvAll_app (dvAll_rev h2) (dvAll_one h1)
theorem dvAll_of {K : Frg} {H : Hp} : ∀ {vs : List V} {ds : List D}, vs.length = ds.length → (∀ (i : Nat) v d, vs[i]? = some v → ds[i]? = some d → Dv K H v d) → DvAll K H vs ds
  | [], [], _, _ => .nil
  | [], d :: ds, h, _ => by simp at h
  | v :: vs, [], h, _ => by simp at h
  | v :: vs, d :: ds, h, k => .cons (k 0 v d rfl rfl) (dvAll_of (by simpa using h) fun i v' d' e1 e2 => k (i + 1) v' d' (by simpa using e1) (by simpa using e2))
/-- dicts by their pairs -/
inductive KvOk {κ : Type} (K : Frg) (H : Hp) : List (κ × V) → List (κ × D) → Prop
  | nil : KvOk K H [] []
  | cons {k : κ} {v : V} {d : D} {r : List (κ × V)} {s : List (κ × D)} : Dv K H v d → KvOk K H r s → KvOk K H ((k, v) :: r) ((k, d) :: s)
theorem kvMono {κ : Type} {K : Frg} {H H' : Hp} (e : Same H H') : ∀ {r : List (κ × V)} {s : List (κ × D)}, KvOk K H r s → KvOk K H' r s
  | _, _, .nil => .nil
  | _, _, .cons h t => .cons (dvMono e _ _ h) (kvMono e t)
theorem kvLen {κ : Type} {K : Frg} {H : Hp} : ∀ {r : List (κ × V)} {s : List (κ × D)}, KvOk K H r s → r.length = s.length
  | _, _, .nil => rfl
  | _, _, .cons _ t => by rw [List.length_cons, List.length_cons, kvLen t]
theorem memNe {p a : Addr} {F : List Addr} (hf : p ∉ F) (ha : a ∈ F) : a ≠ p := fun q => hf (by rw [← q]; exact ha)
/-! ### own trees -/
mutual
inductive OtOk (K : Frg) (G H : Hp) : V → OT → List Addr → Prop
  | leaf {v : V} {d : D} : Dv K G v d → OtOk K G H v (.leaf d) []
  | node {a : Addr} {vs : List V} {ts : List OT} {F : List Addr} : G a = none → H a = some (.lst vs) → OtsOk K G H vs ts F → a ∉ F → OtOk K G H (.ref a) (.node ts) (a :: F)
  | ntup {a : Addr} {vs : List V} {ts : List OT} {F : List Addr} : G a = none → H a = some (.tup vs) → OtsOk K G H vs ts F → a ∉ F → OtOk K G H (.ref a) (.ntup ts) (a :: F)
inductive OtsOk (K : Frg) (G H : Hp) : List V → List OT → List Addr → Prop
  | nil : OtsOk K G H [] [] []
  | cons {v : V} {vs : List V} {t : OT} {ts : List OT} {F1 F2 : List Addr} : OtOk K G H v t F1 → OtsOk K G H vs ts F2 → (∀ a ∈ F1, a ∉ F2) → OtsOk K G H (v :: vs) (t :: ts) (F1 ++ F2)
end
mutual
theorem otFrame {K : Frg} {G H G' H' : Hp} (e : Same G G') : ∀ (t : OT) (v : V) (F : List Addr), OtOk K G H v t F → (∀ a ∈ F, H' a = H a) → (∀ a ∈ F, G' a = none) → OtOk K G' H' v t F
  | .leaf d, _, _, h, _, _ => by
    cases h with
    | leaf h => exact .leaf (dvMono e _ _ h)
  | .node ts, _, _, h, k, g => by
    cases h with
    | node h1 h2 h3 h4 =>
      exact .node (g _ List.mem_cons_self) ((k _ List.mem_cons_self).trans h2) (otsFrame e ts _ _ h3 (fun a ha => k a (List.mem_cons_of_mem _ ha)) fun a ha => g a (List.mem_cons_of_mem _ ha)) h4
  | .ntup ts, _, _, h, k, g => by
    cases h with
    | ntup h1 h2 h3 h4 =>
      exact .ntup (g _ List.mem_cons_self) ((k _ List.mem_cons_self).trans h2) (otsFrame e ts _ _ h3 (fun a ha => k a (List.mem_cons_of_mem _ ha)) fun a ha => g a (List.mem_cons_of_mem _ ha)) h4
theorem otsFrame {K : Frg} {G H G' H' : Hp} (e : Same G G') : ∀ (ts : List OT) (vs : List V) (F : List Addr), OtsOk K G H vs ts F → (∀ a ∈ F, H' a = H a) → (∀ a ∈ F, G' a = none) → OtsOk K G' H' vs ts F
  | [], _, _, h, _, _ => by cases h; exact .nil
  | t :: ts, _, _, h, k, g => by
    cases h with
    | cons h1 h2 h3 =>
      exact .cons (otFrame e t _ _ h1 (fun a ha => k a (List.mem_append_left _ ha)) fun a ha => g a (List.mem_append_left _ ha))
        (otsFrame e ts _ _ h2 (fun a ha => k a (List.mem_append_right _ ha)) fun a ha => g a (List.mem_append_right _ ha)) h3
end
mutual
theorem otLive {K : Frg} {G H : Hp} : ∀ (t : OT) (v : V) (F : List Addr), OtOk K G H v t F → ∀ a ∈ F, G a = none ∧ H a ≠ none
  | .leaf d, _, _, h, a, ha => by cases h; cases ha
  | .node ts, _, _, h, a, ha => by
    cases h with
    | node h1 h2 h3 h4 =>
      rcases List.mem_cons.mp ha with rfl | ha
      · exact ⟨h1, by rw [h2]; exact nofun⟩
      · exact otsLive ts _ _ h3 a ha
  | .ntup ts, _, _, h, a, ha => by
    cases h with
    | ntup h1 h2 h3 h4 =>
      rcases List.mem_cons.mp ha with rfl | ha
      · exact ⟨h1, by rw [h2]; exact nofun⟩
      · exact otsLive ts _ _ h3 a ha
theorem otsLive {K : Frg} {G H : Hp} : ∀ (ts : List OT) (vs : List V) (F : List Addr), OtsOk K G H vs ts F → ∀ a ∈ F, G a = none ∧ H a ≠ none
  | [], _, _, h, a, ha => by cases h; cases ha
  | t :: ts, _, _, h, a, ha => by
    cases h with
    | cons h1 h2 h3 =>
      rcases List.mem_append.mp ha with ha | ha
      · exact otLive t _ _ h1 a ha
      · exact otsLive ts _ _ h2 a ha
end
/-! ### slots -/
def SlOk (K : Frg) (G H : Hp) (v : Option V) (F : List Addr) : Sl → Prop
  | .no => F = []
  | .va d => F = [] ∧ ∃ x, v = some x ∧ Dv K G x d
  | .li xs => ∃ a vs, v = some (.ref a) ∧ F = [a] ∧ G a = none ∧ H a = some (.lst vs) ∧ DvAll K G vs xs
  | .di kvs => ∃ a r, v = some (.ref a) ∧ F = [a] ∧ G a = none ∧ H a = some (.dK r) ∧ KvOk K G r kvs
  | .dt kvs => ∃ a r, v = some (.ref a) ∧ F = [a] ∧ G a = none ∧ H a = some (.dT r) ∧ KvOk K G r kvs
  | .ow t => ∃ x, v = some x ∧ OtOk K G H x t F
theorem slFrame {K : Frg} {G H G' H' : Hp} {v : Option V} {F : List Addr} {s : Sl} (h : SlOk K G H v F s) (e : Same G G') (k : ∀ a ∈ F, H' a = H a) (g : ∀ a ∈ F, G' a = none) : SlOk K G' H' v F s := by
  cases s with
  | no => exact h
  | va d => obtain ⟨h1, x, h2, h3⟩ := h; exact ⟨h1, x, h2, dvMono e _ _ h3⟩
  | li xs => obtain ⟨a, vs, h1, rfl, h3, h4, h5⟩ := h; exact ⟨a, vs, h1, rfl, g a (by simp), (k a (by simp)).trans h4, dvMonoAll e _ _ h5⟩
  | di xs => obtain ⟨a, vs, h1, rfl, h3, h4, h5⟩ := h; exact ⟨a, vs, h1, rfl, g a (by simp), (k a (by simp)).trans h4, kvMono e h5⟩
  | dt xs => obtain ⟨a, vs, h1, rfl, h3, h4, h5⟩ := h; exact ⟨a, vs, h1, rfl, g a (by simp), (k a (by simp)).trans h4, kvMono e h5⟩
  | ow t => obtain ⟨x, h1, h2⟩ := h; exact ⟨x, h1, otFrame e _ _ _ h2 k g⟩
theorem slLive {K : Frg} {G H : Hp} {v : Option V} {F : List Addr} {s : Sl} (h : SlOk K G H v F s) : ∀ a ∈ F, G a = none ∧ H a ≠ none := by
  intro a ha
  cases s with
  | no => rw [show F = [] from h] at ha; cases ha
  | va d => rw [h.1] at ha; cases ha
  | li xs => obtain ⟨b, vs, h1, rfl, h3, h4, h5⟩ := h; rw [List.mem_singleton.mp ha]; exact ⟨h3, by rw [h4]; exact nofun⟩
  | di xs => obtain ⟨b, vs, h1, rfl, h3, h4, h5⟩ := h; rw [List.mem_singleton.mp ha]; exact ⟨h3, by rw [h4]; exact nofun⟩
  | dt xs => obtain ⟨b, vs, h1, rfl, h3, h4, h5⟩ := h; rw [List.mem_singleton.mp ha]; exact ⟨h3, by rw [h4]; exact nofun⟩
  | ow t => obtain ⟨x, h1, h2⟩ := h; exact otLive _ _ _ h2 a ha
/-- a state: what stands still (G), the heap, slots, what they hold, whose addresses are whose -/
structure Z where
  G : Hp
  H : Hp
  s : L2.St
  e : Ev
  F : Nat → List Addr
structure Rp (K : Frg) (z : Z) : Prop where
  same : Same z.G z.H
  len : z.s.length = z.e.length
  ok : ∀ (i : Nat) s, z.e[i]? = some s → SlOk K z.G z.H (z.s[i]?).join (z.F i) s
  out : ∀ i, z.e.length ≤ i → z.F i = []
  sep : ∀ i j a, i ≠ j → a ∈ z.F i → a ∉ z.F j
def isOw : Option Sl → Bool
  | some (.ow _) => true
  | _ => false
/-- from a state to a later one: all that is not owned here stands as before -/
structure Mv (z y : Z) : Prop where
  out : ∀ a o, z.H a = some o → (∀ i, a ∉ z.F i) → y.H a = some o
  dom : ∀ a, z.H a ≠ none → y.H a ≠ none
  g : Same z.G y.G
  gn : ∀ a, z.H a ≠ none → (∀ i, a ∉ z.F i) → y.G a = z.G a
  fn : ∀ i a, a ∈ y.F i → a ∈ z.F i ∨ z.H a = none
  kp : ∀ (i : Nat), isOw z.e[i]? = true → isOw y.e[i]? = true ∧ y.s[i]? = z.s[i]?
  ln : y.e.length = z.e.length
theorem Mv.refl (z : Z) : Mv z z := ⟨fun _ _ h _ => h, fun _ h => h, Same.refl _, fun _ _ _ => rfl, fun _ _ h => .inl h, fun _ h => ⟨h, rfl⟩, rfl⟩
theorem Mv.trans {z y x : Z} (a : Mv z y) (b : Mv y x) : Mv z x where
  out p o h k := b.out p o (a.out p o h k) fun i hi => by
    rcases a.fn i p hi with hj | hn
    · exact k i hj
    · rw [h] at hn; cases hn
  dom p h := b.dom p (a.dom p h)
  g := a.g.trans b.g
  gn p h k := (b.gn p (a.dom p h) fun i hi => by
    rcases a.fn i p hi with hj | hn
    · exact k i hj
    · exact h hn).trans (a.gn p h k)
  fn i p h := by
    rcases b.fn i p h with hj | hn
    · exact a.fn i p hj
    · by_cases q : z.H p = none
      · exact .inr q
      · exact absurd hn (a.dom p q)
  kp i h := ⟨(b.kp i (a.kp i h).1).1, (b.kp i (a.kp i h).1).2.trans (a.kp i h).2⟩
  ln := b.ln.trans a.ln
theorem Rp.live {K : Frg} {z : Z} (r : Rp K z) {i : Nat} {a : Addr} (h : a ∈ z.F i) : z.G a = none ∧ z.H a ≠ none := by
  by_cases q : i < z.e.length
  · exact slLive (r.ok i z.e[i] (List.getElem?_eq_getElem q)) a h
  · rw [r.out i (by omega)] at h; cases h
theorem Rp.fresh {K : Frg} {z : Z} (r : Rp K z) {p : Addr} (h : z.H p = none) : z.G p = none ∧ ∀ i, p ∉ z.F i :=
  ⟨r.same.free h, fun i hi => (r.live hi).2 h⟩
/-- a new object that stands still from now on -/
def Z.add (z : Z) (p : Addr) (o : HO) : Z := { z with G := upd z.G p o, H := upd z.H p o }
/-- a new object on the heap alone -/
def Z.new (z : Z) (p : Addr) (o : HO) : Z := { z with H := upd z.H p o }
theorem upd_none {H : Hp} {p a : Addr} {o : HO} (h : H a ≠ none) : upd H p o a ≠ none := by
  by_cases e : a = p
  · subst e; rw [upd_same]; exact nofun
  · rw [upd_ne e]; exact h
theorem sameUpd {H : Hp} {p : Addr} {o : HO} (h : H p = none) : Same H (upd H p o) := fun b x e => by
  rw [upd_ne (ne_of_none e h)]; exact e
theorem Rp.add {K : Frg} {z : Z} (r : Rp K z) {p : Addr} {o : HO} (h : z.H p = none) : Rp K (z.add p o) ∧ Mv z (z.add p o) := by
  obtain ⟨hg, hf⟩ := r.fresh h
  refine ⟨⟨?_, r.len, ?_, r.out, r.sep⟩, ⟨?_, ?_, ?_, ?_, fun i a ha => .inl ha, fun i hi => ⟨hi, rfl⟩, rfl⟩⟩
  · intro b x e
    show upd z.H p o b = some x
    have e' : upd z.G p o b = some x := e
    by_cases q : b = p
    · subst q; rw [upd_same] at e' ⊢; exact e'
    · rw [upd_ne q] at e' ⊢; exact r.same _ _ e'
  · intro i s e
    refine slFrame (r.ok i s e) (sameUpd hg) (fun a ha => upd_ne (memNe (hf i) ha)) fun a ha => ?_
    show upd z.G p o a = none
    rw [upd_ne (memNe (hf i) ha)]
    exact (r.live ha).1
  · intro a u e _
    show upd z.H p o a = some u
    rw [upd_ne (ne_of_none e h)]; exact e
  · exact fun a ha => upd_none ha
  · exact sameUpd hg
  · intro a ha _
    show upd z.G p o a = z.G a
    exact upd_ne fun q => ha (by rw [q]; exact h)
theorem Rp.new {K : Frg} {z : Z} (r : Rp K z) {p : Addr} {o : HO} (h : z.H p = none) : Rp K (z.new p o) ∧ Mv z (z.new p o) := by
  obtain ⟨hg, hf⟩ := r.fresh h
  refine ⟨⟨?_, r.len, ?_, r.out, r.sep⟩, ⟨?_, ?_, Same.refl _, fun _ _ _ => rfl, fun i a ha => .inl ha, fun i hi => ⟨hi, rfl⟩, rfl⟩⟩
  · exact r.same.trans (sameUpd h)
  · intro i s e
    exact slFrame (r.ok i s e) (Same.refl _) (fun a ha => upd_ne (memNe (hf i) ha)) fun a ha => (r.live ha).1
  · intro a u e _
    show upd z.H p o a = some u
    rw [upd_ne (ne_of_none e h)]; exact e
  · exact fun a ha => upd_none ha

/-! ### judgements -/
theorem PE.imp {X : Cx} {e : Expr} {t t' : TE} (h : PE X e t) (k : ∀ σ H Q, t' σ H Q → t σ H Q) : PE X e t' := ⟨fun pins s σ H Q I q => h.run pins s σ H Q I (k _ _ _ q)⟩
theorem PT.imp {X : Cx} {e : Expr} {t t' : TT} (h : PT X e t) (k : ∀ σ H Q, t' σ H Q → t σ H Q) : PT X e t' := ⟨fun pins s σ H Q I q => h.run pins s σ H Q I (k _ _ _ q)⟩
theorem PA.imp {X : Cx} {e : List Expr} {t t' : TA} (h : PA X e t) (k : ∀ σ H Q, t' σ H Q → t σ H Q) : PA X e t' := ⟨fun pos pins s σ H Q I q => h.run pos pins s σ H Q I (k _ _ _ q)⟩
theorem PS.imp {X : Cx} {e : Stmt} {t t' : TS} (h : PS X e t) (k : ∀ D σ H, t' D σ H → t D σ H) : PS X e t' := ⟨fun pins s σ H D I q => h.run pins s σ H D I (k _ _ _ q)⟩
theorem PSs.imp {X : Cx} {e : List Stmt} {t t' : TS} (h : PSs X e t) (k : ∀ D σ H, t' D σ H → t D σ H) : PSs X e t' := ⟨fun pins s σ H D I q => h.run pins s σ H D I (k _ _ _ q)⟩
abbrev EF := Ev → Option (D × Ev)
abbrev BF := Ev → Option (Bool × Ev)
abbrev LF := Ev → Option (List D × Ev)
/-- an expression's value is f of the slots -/
def tE (K : Frg) (f : EF) : TE := fun σ H Q => ∃ z d e', Rp K z ∧ z.s = σ ∧ z.H = H ∧ f z.e = some (d, e') ∧ ∀ v y, Mv z y → Rp K y → y.s = σ → y.e = e' → Dv K y.G v d → Q v y.H
def tT (K : Frg) (f : BF) : TT := fun σ H Q => ∃ z d e', Rp K z ∧ z.s = σ ∧ z.H = H ∧ f z.e = some (d, e') ∧ ∀ y, Mv z y → Rp K y → y.s = σ → y.e = e' → Q d y.H
def tA (K : Frg) (f : LF) : TA := fun σ H Q => ∃ z d e', Rp K z ∧ z.s = σ ∧ z.H = H ∧ f z.e = some (d, e') ∧ ∀ v y, Mv z y → Rp K y → y.s = σ → y.e = e' → DvAll K y.G v d → Q v y.H
structure FE (X : Cx) (e : Expr) (f : EF) : Prop where
  pe : PE X e (tE X.K f)
structure FT (X : Cx) (e : Expr) (f : BF) : Prop where
  pt : PT X e (tT X.K f)
structure FA (X : Cx) (e : List Expr) (f : LF) : Prop where
  pa : PA X e (tA X.K f)
/-- a def's body: what leaves nothing but an end -/
inductive O where
  | nx (e : Ev)
  | bk (e : Ev)
  | ct (e : Ev)
  | rt (r : Sl) (e : Ev)
abbrev SF := Ev → Option O
def tS (K : Frg) (f : SF) : TS := fun D σ H => ∃ z o, Rp K z ∧ z.s = σ ∧ z.H = H ∧ f z.e = some o ∧ match o with
  | .nx e' => ∀ y, Mv z y → Rp K y → y.e = e' → D.nx y.s y.H
  | .bk e' => ∀ y, Mv z y → Rp K y → y.e = e' → D.bk y.s y.H
  | .ct e' => ∀ y, Mv z y → Rp K y → y.e = e' → D.ct y.s y.H
  | .rt r e' => ∀ v y Fr, Mv z y → Rp K y → y.e = e' → SlOk K y.G y.H (some v) Fr r → (∀ a ∈ Fr, ∀ i, a ∉ y.F i) → (∀ a ∈ Fr, (∃ j : Nat, isOw z.e[j]? = false ∧ a ∈ z.F j) ∨ z.H a = none) → D.rt v y.H
structure FS (X : Cx) (s : Stmt) (f : SF) : Prop where
  ps : PS X s (tS X.K f)
structure FSs (X : Cx) (s : List Stmt) (f : SF) : Prop where
  ps : PSs X s (tS X.K f)
/-- an expression that makes a thing of its own, or gives a value -/
abbrev OF := Ev → Option (Sl × Ev)
def tO (K : Frg) (f : OF) : TE := fun σ H Q => ∃ z r e', Rp K z ∧ z.s = σ ∧ z.H = H ∧ f z.e = some (r, e') ∧ ∀ v y Fr, Mv z y → Rp K y → y.s = σ → y.e = e' → SlOk K y.G y.H (some v) Fr r → (∀ a ∈ Fr, z.H a = none ∧ ∀ i, a ∉ y.F i) → Q v y.H
structure FO (X : Cx) (e : Expr) (f : OF) : Prop where
  po : PE X e (tO X.K f)
/-- a made thing stands still from now on -/
def fz : Sl → Option D
  | .va d => some d
  | .li xs => some (.list xs)
  | _ => none
def eFz (f : OF) : EF := fun e => (f e).bind fun p => (fz p.1).map fun d => (d, p.2)
def oE (f : EF) : OF := fun e => (f e).map fun p => (.va p.1, p.2)
theorem Rp.freeze {K : Frg} {z : Z} (r : Rp K z) {a : Addr} {o : HO} (h : z.H a = some o) (hg : z.G a = none) (hf : ∀ i, a ∉ z.F i) : Rp K { z with G := upd z.G a o } := by
  refine ⟨?_, r.len, ?_, r.out, r.sep⟩
  · intro b x e
    have e' : upd z.G a o b = some x := e
    show z.H b = some x
    by_cases q : b = a
    · subst q; rw [upd_same] at e'; rw [h]; exact e'
    · rw [upd_ne q] at e'; exact r.same _ _ e'
  · intro i s e
    refine slFrame (r.ok i s e) (sameUpd hg) (fun _ _ => rfl) fun b hb => ?_
    show upd z.G a o b = none
    rw [upd_ne (memNe (hf i) hb)]
    exact (r.live hb).1
section
variable {X : Cx} {e : Expr}
theorem fo_fe {f : EF} (h : FE X e f) : FO X e (oE f) := ⟨PE.imp h.pe fun σ H Q ⟨z, r, e', rp, hs, hH, hf, q⟩ => by
  obtain ⟨⟨d, e1⟩, h1, h2⟩ := Option.map_eq_some_iff.mp hf
  cases h2
  exact ⟨z, d, e1, rp, hs, hH, h1, fun v y m r2 s2 ee p => q v y [] m r2 s2 ee ⟨rfl, v, rfl, p⟩ fun _ ha => nomatch ha⟩⟩
theorem fe_fo {f : OF} (h : FO X e f) : FE X e (eFz f) := ⟨PE.imp h.po fun σ H Q ⟨z, d, e', rp, hs, hH, hf, q⟩ => by
  obtain ⟨⟨r, e1⟩, h1, hf⟩ := Option.bind_eq_some_iff.mp hf
  obtain ⟨d', h3, hf⟩ := Option.map_eq_some_iff.mp hf
  cases hf
  refine ⟨z, r, _, rp, hs, hH, h1, fun v y Fr m r2 s2 ee so fr => ?_⟩
  cases r with
  | va d0 =>
    cases h3
    obtain ⟨_, x, hx, p⟩ := so
    cases hx
    exact q _ y m r2 s2 ee p
  | li xs =>
    cases h3
    obtain ⟨a, vs, hv, rfl, hg, hH', hd⟩ := so
    cases hv
    obtain ⟨f1, f2⟩ := fr a (by simp)
    refine q _ { y with G := upd y.G a (.lst vs) } ⟨m.out, m.dom, m.g.trans (sameUpd hg), fun b hb hk => ?_, m.fn, m.kp, m.ln⟩ (r2.freeze hH' hg f2) s2 ee (.lst upd_same (dvMonoAll (sameUpd hg) _ _ hd))
    show upd y.G a (.lst vs) b = z.G b
    rw [upd_ne (fun z' => hb (by rw [z']; exact f1))]
    exact m.gn b hb hk
  | no => cases h3
  | di _ => cases h3
  | dt _ => cases h3
  | ow _ => cases h3⟩
end
end Fl

set_option Elab.async false
set_option linter.all false
set_option maxRecDepth 100000
set_option maxHeartbeats 1000000
set_option autoImplicit false
/-! FnExp: expressions by plain functions. -/
namespace Fl
open PySem PySem.Spec PyProof.Rows L2
/-- what a rule may lean on -/
structure Cc (X : Cx) (k : Nat) : Prop where
  calm : X.calm = true
  nd : X.N.Nodup
  room : Room k X.A
/-! ### names, constants -/
def eVar (i : Nat) : EF := fun e => match e[i]? with
  | some (.va d) => some (d, e)
  | _ => none
def eC (d : D) : EF := fun e => some (d, e)
/-- a value, or an own list as it stands -/
def vw : Sl → Option D
  | .va d => some d
  | .li xs => some (.list xs)
  | _ => none
def eOwn (i : Nat) : EF := fun e => (e[i]?.bind vw).map fun d => (d, e)
/-- a value read on the heap as it stands: it stands still, or it is an own list -/
def Vw (K : Frg) (G H : Hp) (v : V) (d : D) : Prop := Dv K G v d ∨ ∃ a vs xs, v = .ref a ∧ d = .list xs ∧ H a = some (.lst vs) ∧ DvAll K G vs xs
/-- an expression read at once -/
def tB (K : Frg) (f : EF) : TE := fun σ H Q => ∃ z d e', Rp K z ∧ z.s = σ ∧ z.H = H ∧ f z.e = some (d, e') ∧ ∀ v y, Mv z y → Rp K y → y.s = σ → y.e = e' → Vw K y.G y.H v d → Q v y.H
structure FB (X : Cx) (e : Expr) (f : EF) : Prop where
  pb : PE X e (tB X.K f)
section
variable {X : Cx} {pos : Pos}
theorem joinSome {α : Type} {o : Option (Option α)} {x : α} (h : o.join = some x) : o = some (some x) := by
  cases o with
  | none => cases h
  | some u => cases u with
    | none => cases h
    | some w => exact congrArg (fun z => some z) h
theorem Rp.var {K : Frg} {z : Z} (r : Rp K z) {i : Nat} {d : D} (h : z.e[i]? = some (.va d)) : ∃ v, z.s[i]? = some (some v) ∧ Dv K z.G v d := by
  obtain ⟨_, x, h1, h2⟩ := r.ok i _ h
  exact ⟨x, joinSome h1, h2⟩
theorem Rp.own {K : Frg} {z : Z} (r : Rp K z) {i : Nat} {xs : List D} (h : z.e[i]? = some (.li xs)) : ∃ a vs, z.s[i]? = some (some (.ref a)) ∧ z.F i = [a] ∧ z.G a = none ∧ z.H a = some (.lst vs) ∧ DvAll K z.G vs xs := by
  obtain ⟨a, vs, h1, h2, h3, h4, h5⟩ := r.ok i _ h
  exact ⟨a, vs, joinSome h1, h2, h3, h4, h5⟩
theorem fe_var {i : Nat} {x : Str} (hN : X.N[i]? = some x) (hv : Vis X.env.scope x) (hd : (x == ("__debug__" : Str)) = false := by decide) (hcd : (x == ("__classdict__" : Str)) = false := by decide) : FE X (.Name x pos) (eVar i) :=
  ⟨PE.imp (pe_var hN hv hd hcd) fun σ H Q ⟨z, d, e', r, hs, hH, hf, q⟩ => by
    subst hs hH
    unfold eVar at hf
    split at hf
    · rename_i d' h
      cases hf
      obtain ⟨v, h1, h2⟩ := r.var h
      exact ⟨v, h1, q v z (Mv.refl z) r rfl rfl h2⟩
    · cases hf⟩
theorem fb_own {i : Nat} {x : Str} (hN : X.N[i]? = some x) (hv : Vis X.env.scope x) (hd : (x == ("__debug__" : Str)) = false := by decide) (hcd : (x == ("__classdict__" : Str)) = false := by decide) : FB X (.Name x pos) (eOwn i) :=
  ⟨PE.imp (pe_var hN hv hd hcd) fun σ H Q ⟨z, d, e', r, hs, hH, hf, q⟩ => by
    subst hs hH
    obtain ⟨d', h1, h2⟩ := Option.map_eq_some_iff.mp hf
    cases h2
    obtain ⟨s, h2, h3⟩ := Option.bind_eq_some_iff.mp h1
    cases s with
    | va d => cases h3; obtain ⟨v, k1, k2⟩ := r.var h2; exact ⟨v, k1, q v z (Mv.refl z) r rfl rfl (.inl k2)⟩
    | li xs =>
      cases h3
      obtain ⟨a, vs, k1, k2, k3, k4, k5⟩ := r.own h2
      exact ⟨.ref a, k1, q _ z (Mv.refl z) r rfl rfl (.inr ⟨a, vs, xs, rfl, rfl, k4, k5⟩)⟩
    | no => cases h3
    | di _ => cases h3
    | dt _ => cases h3
    | ow _ => cases h3⟩
theorem fb_fe {e : Expr} {f : EF} (h : FE X e f) : FB X e f := ⟨PE.imp h.pe fun σ H Q ⟨z, d, e', r, hs, hH, hf, q⟩ => ⟨z, d, e', r, hs, hH, hf, fun v y m r2 s2 e2 p => q v y m r2 s2 e2 (.inl p)⟩⟩
theorem fe_c {e : Expr} {v : V} {d : D} (h : PE X e (tC v)) (k : ∀ G : Hp, Dv X.K G v d) : FE X e (eC d) :=
  ⟨PE.imp h fun σ H Q ⟨z, d, e', r, hs, hH, hf, q⟩ => by
    subst hs hH
    cases hf
    exact q v z (Mv.refl z) r rfl rfl (k _)⟩
theorem fe_int {i j} : FE X (.Constant (.int i) j pos) (eC (.int i)) := fe_c pe_int fun _ => .int i
theorem fe_bl {b j} : FE X (.Constant (.bool b) j pos) (eC (.bool b)) := fe_c pe_bl fun _ => .bl b
theorem fe_non {j} : FE X (.Constant .none j pos) (eC .none) := fe_c pe_non fun _ => .non
theorem fe_str {x j} : FE X (.Constant (.str x) j pos) (eC (.str x)) := fe_c pe_str fun _ => .str x
/-- a module's constant -/
theorem fe_glob {x : Str} {v : V} {u : Value} {d : D} (hg : Gl X x) (hm : X.mg x = some u) (r : RelV v u) (k : ∀ G : Hp, Dv X.K G v d) (hd : (x == ("__debug__" : Str)) = false := by decide) : FE X (.Name x pos) (eC d) := fe_c (pe_glob hg hm r hd) k
end
/-! ### operators -/
/-- two values in a row, and a third of them -/
def eOp (g : D → D → Option D) (fa fb : EF) : EF := fun e => (fa e).bind fun p => (fb p.2).bind fun q => (g p.1 q.1).map fun d => (d, q.2)
def eUn (g : D → Option D) (fa : EF) : EF := fun e => (fa e).bind fun p => (g p.1).map fun d => (d, p.2)
/-- a value rule: g by values, the heap as it is, or with a new object -/
def Op2 (K : Frg) (r : R2) (g : D → D → Option D) : Prop := ∀ x y d G H vx vy (Q : VK), g x y = some d → Same G H → Dv K G vx x → Vw K G H vy y → (∀ v, Dv K G v d → Q v H) → (∀ v p o, H p = none → Dv K (upd G p o) v d → Q v (upd H p o)) → r vx vy H Q
def Un1 (K : Frg) (r : V → Hp → VK → Prop) (g : D → Option D) : Prop := ∀ x d G H vx (Q : VK), g x = some d → Same G H → Vw K G H vx x → (∀ v, Dv K G v d → Q v H) → (∀ v p o, H p = none → Dv K (upd G p o) v d → Q v (upd H p o)) → r vx H Q
section
variable {X : Cx} {pos : Pos}
theorem op_run {K : Frg} {r : R2} {g : D → D → Option D} (h : Op2 K r g) {fa fb : EF} {σ : L2.St} {H : Hp} {Q : VK} (q : tE K (eOp g fa fb) σ H Q) : tOp r (tE K fa) (tB K fb) σ H Q := by
  obtain ⟨z, d, e', rp, hs, hH, hf, q⟩ := q
  subst hs hH
  obtain ⟨⟨x, e1⟩, h1, hf⟩ := Option.bind_eq_some_iff.mp hf
  obtain ⟨⟨y, e2⟩, h2, hf⟩ := Option.bind_eq_some_iff.mp hf
  obtain ⟨d', h3, hf⟩ := Option.map_eq_some_iff.mp hf
  cases hf
  refine ⟨z, x, e1, rp, rfl, rfl, h1, fun vx z1 m1 r1 s1 ee1 p1 => ⟨z1, y, e2, r1, s1, rfl, ?_, fun vy z2 m2 r2 s2 ee2 p2 => ?_⟩⟩
  · rw [ee1]; exact h2
  · refine h x y d z2.G z2.H vx vy Q h3 r2.same (dvMono m2.g _ _ p1) p2 (fun v p => q v z2 (m1.trans m2) r2 s2 ee2 p) fun v p o hn hp => ?_
    obtain ⟨r3, m3⟩ := r2.add (o := o) hn
    exact q v (z2.add p o) ((m1.trans m2).trans m3) r3 s2 ee2 hp
theorem un_run {K : Frg} {r : V → Hp → VK → Prop} {g : D → Option D} (h : Un1 K r g) {fa : EF} {σ : L2.St} {H : Hp} {Q : VK} (q : tE K (eUn g fa) σ H Q) : tUn r (tB K fa) σ H Q := by
  obtain ⟨z, d, e', rp, hs, hH, hf, q⟩ := q
  subst hs hH
  obtain ⟨⟨x, e1⟩, h1, hf⟩ := Option.bind_eq_some_iff.mp hf
  obtain ⟨d', h3, hf⟩ := Option.map_eq_some_iff.mp hf
  cases hf
  refine ⟨z, x, e1, rp, rfl, rfl, h1, fun vx z1 m1 r1 s1 ee1 p1 => ?_⟩
  refine h x d z1.G z1.H vx Q h3 r1.same p1 (fun v p => q v z1 m1 r1 s1 ee1 p) fun v p o hn hp => ?_
  obtain ⟨r3, m3⟩ := r1.add (o := o) hn
  exact q v (z1.add p o) (m1.trans m3) r3 s1 ee1 hp
theorem fe_op {a b : Expr} {op : Operator} {r : R2} {g : D → D → Option D} {fa fb : EF} (ho : OpR X (binaryOp op) r) (hg : Op2 X.K r g) (ha : FE X a fa) (hb : FB X b fb) : FE X (.BinOp a op b pos) (eOp g fa fb) :=
  ⟨PE.imp (pe_op ho ha.pe hb.pb) fun _ _ _ q => op_run hg q⟩
theorem fe_cmp {a b : Expr} {op : CmpOp} {r : R2} {g : D → D → Option D} {fa fb : EF} (ho : OpR X (compareOp op) r) (hg : Op2 X.K r g) (ha : FE X a fa) (hb : FB X b fb) (hm : behindInMarks op b = false) : FE X (.Compare a [op] [b] pos) (eOp g fa fb) :=
  ⟨PE.imp (pe_cmpR ho ha.pe hb.pb hm) fun _ _ _ q => op_run hg q⟩
theorem fe_un {a : Expr} {op : UnaryOp} {r : V → Hp → VK → Prop} {g : D → Option D} {fa : EF} (ho : UnR X (unaryOp op) r) (hg : Un1 X.K r g) (ha : FB X a fa) : FE X (.UnaryOp op a pos) (eUn g fa) :=
  ⟨PE.imp (pe_un ho ha.pb) fun _ _ _ q => un_run hg q⟩
/-- ints -/
def dI (g : Int → Int → D) : D → D → Option D
  | .int i, .int j => some (g i j)
  | _, _ => none
/-- ints under a condition -/
def dIC (C : Int → Int → Prop) [∀ i j, Decidable (C i j)] (g : Int → Int → D) : D → D → Option D
  | .int i, .int j => if C i j then some (g i j) else none
  | _, _ => none
theorem vwInt {K : Frg} {G H : Hp} {v : V} {i : Int} (h : Vw K G H v (.int i)) : v = .int i := by
  rcases h with h | ⟨_, _, _, _, h, _⟩
  · cases h; rfl
  · cases h
theorem vwBl {K : Frg} {G H : Hp} {v : V} {i : Bool} (h : Vw K G H v (.bool i)) : v = .bl i := by
  rcases h with h | ⟨_, _, _, _, h, _⟩
  · cases h; rfl
  · cases h
theorem vwNon {K : Frg} {G H : Hp} {v : V} (h : Vw K G H v .none) : v = .non := by
  rcases h with h | ⟨_, _, _, _, h, _⟩
  · cases h; rfl
  · cases h
theorem vwStr {K : Frg} {G H : Hp} {v : V} {i : Str} (h : Vw K G H v (.str i)) : v = .str i := by
  rcases h with h | ⟨_, _, _, _, h, _⟩
  · cases h; rfl
  · cases h
theorem vwTup {K : Frg} {G H : Hp} {v : V} {ds : List D} (h : Vw K G H v (.tuple ds)) : ∃ a vs, v = .ref a ∧ SqT K G a vs ∧ DvAll K G vs ds := by
  rcases h with h | ⟨_, _, _, _, h, _⟩
  · cases h with
    | tup h1 h2 => exact ⟨_, _, rfl, h1, h2⟩
  · cases h
theorem vwLst {K : Frg} {G H : Hp} (s : Same G H) {v : V} {ds : List D} (h : Vw K G H v (.list ds)) : ∃ a vs, v = .ref a ∧ H a = some (.lst vs) ∧ DvAll K G vs ds := by
  rcases h with h | ⟨a, vs, xs, h1, h2, h3, h4⟩
  · cases h with
    | lst h1 h2 => exact ⟨_, _, rfl, s _ _ h1, h2⟩
  · cases h2; exact ⟨a, vs, h1, h3, h4⟩
theorem vwDict {K : Frg} {G H : Hp} {v : V} {r} (h : Vw K G H v (.dict r)) : False := by
  rcases h with h | ⟨_, _, _, _, h, _⟩
  · cases h
  · cases h
theorem vwAny {K : Frg} {G H : Hp} (s : Same G H) {v : V} {d : D} (h : Vw K G H v d) : Dp K H v d := by
  rcases h with h | ⟨a, vs, xs, h1, h2, h3, h4⟩
  · exact Dv.dp _ _ (dvMono s _ _ h)
  · subst h1 h2
    exact .lst (SqL.of h3) (DvAll.dp _ _ (dvMonoAll s _ _ h4))
theorem op_dI {K : Frg} {g : Int → Int → D} {gv : Int → Int → V} (k : ∀ i j G, Dv K G (gv i j) (g i j)) : Op2 K (rI0 gv) (dI g) := fun x y d G H vx vy Q e s a b q _ => by
  unfold dI at e
  split at e
  · cases e; cases a; rw [vwInt b]
    exact ⟨_, _, rfl, rfl, q _ (k _ _ _)⟩
  · cases e
theorem op_dIC {K : Frg} {C : Int → Int → Prop} [∀ i j, Decidable (C i j)] {g : Int → Int → D} {gv : Int → Int → V} (k : ∀ i j G, Dv K G (gv i j) (g i j)) : Op2 K (rI C gv) (dIC C g) := fun x y d G H vx vy Q e s a b q _ => by
  unfold dIC at e
  split at e
  · split at e
    · rename_i hc
      cases e; cases a; rw [vwInt b]
      exact ⟨_, _, rfl, rfl, hc, q _ (k _ _ _)⟩
    · cases e
  · cases e
/-- + -/
def dAdd : D → D → Option D
  | .int i, .int j => some (.int (i + j))
  | .str i, .str j => if i.length + j.length ≤ sizeLine then some (.str (i ++ j)) else none
  | .tuple xs, .tuple ys => if xs.length + ys.length ≤ sizeLine then some (.tuple (xs ++ ys)) else none
  | .list xs, .list ys => if xs.length + ys.length ≤ sizeLine then some (.list (xs ++ ys)) else none
  | _, _ => none
def rAddA (K : Frg) : R2 := fun x y H Q => rI0 (fun i j => .int (i + j)) x y H Q ∨ (∃ i j, x = .str i ∧ y = .str j ∧ i.length + j.length ≤ sizeLine ∧ Q (.str (i ++ j)) H) ∨ rCatA K x y H Q ∨ rCat x y H Q
theorem or_addA : OpR X (binaryOp .Add) (rAddA X.K) := op_add.or (op_add_str.or (op_catA.or op_cat))
theorem nilOf {K : Frg} {G : Hp} {vs : List V} {ds : List D} (h : DvAll K G vs ds) : vs = [] ↔ ds = [] := by
  cases h with
  | nil => simp
  | cons _ _ => simp
theorem op2_add {K : Frg} : Op2 K (rAddA K) dAdd := fun x y d G H vx vy Q e s a b q qn => by
  unfold dAdd at e
  split at e
  · cases e; cases a; rw [vwInt b]
    exact .inl ⟨_, _, rfl, rfl, q _ (.int _)⟩
  · split at e
    · rename_i hc
      cases e; cases a; rw [vwStr b]
      exact .inr (.inl ⟨_, _, rfl, rfl, hc, q _ (.str _)⟩)
    · cases e
  · split at e
    · rename_i xs ys hc
      cases e
      cases a with
      | tup a1 a2 =>
      obtain ⟨b', ws, rfl, b1, b2⟩ := vwTup b
      have l1 := dvAll_len a2
      have l2 := dvAll_len b2
      refine .inr (.inr (.inl ⟨_, _, _, _, rfl, rfl, seqT s a1, seqT s b1, by omega, fun z => ?_, fun _ z => ?_, fun _ _ p hp => ?_⟩))
      · have e1 := (nilOf a2).mp z
        subst e1
        exact q _ (.tup b1 b2)
      · have e1 := (nilOf b2).mp z
        subst e1
        refine q _ ?_
        rw [List.append_nil]
        exact .tup a1 a2
      ·exact qn _ p _ hp (.tup (SqT.of upd_same) (dvAll_app (dvMonoAll (sameUpd (s.free hp)) _ _ a2) (dvMonoAll (sameUpd (s.free hp)) _ _ b2)))
    · cases e
  · split at e
    · rename_i xs ys hc
      cases e
      cases a with
      | lst a1 a2 =>
      obtain ⟨b', ws, rfl, b1, b2⟩ := vwLst s b
      have l1 := dvAll_len a2
      have l2 := dvAll_len b2
      refine .inr (.inr (.inr ⟨_, _, _, _, rfl, rfl, s _ _ a1, b1, by omega, fun p hp => ?_⟩))
      exact qn _ p _ hp (.lst upd_same (dvAll_app (dvMonoAll (sameUpd (s.free hp)) _ _ a2) (dvMonoAll (sameUpd (s.free hp)) _ _ b2)))
    · cases e
  · cases e
theorem fe_add {a b : Expr} {fa fb : EF} (ha : FE X a fa) (hb : FB X b fb) : FE X (.BinOp a .Add b pos) (eOp dAdd fa fb) := fe_op or_addA op2_add ha hb
def dSub := dI fun i j => .int (i - j)
theorem fe_sub {a b : Expr} {fa fb : EF} (ha : FE X a fa) (hb : FB X b fb) : FE X (.BinOp a .Sub b pos) (eOp dSub fa fb) := fe_op op_sub (op_dI fun _ _ _ => .int _) ha hb
instance : ∀ i j, Decidable (CMul i j) := fun i j => by unfold CMul; infer_instance
instance : ∀ i j, Decidable (CDiv i j) := fun i j => by unfold CDiv; infer_instance
instance : ∀ i j, Decidable (CPow i j) := fun i j => by unfold CPow; infer_instance
def dMul := dIC CMul fun i j => .int (i * j)
theorem fe_mul {a b : Expr} {fa fb : EF} (ha : FE X a fa) (hb : FB X b fb) : FE X (.BinOp a .Mult b pos) (eOp dMul fa fb) := fe_op op_mul (op_dIC fun _ _ _ => .int _) ha hb
def dDiv := dIC CDiv fun i j => .int (i / j)
theorem fe_div {a b : Expr} {fa fb : EF} (ha : FE X a fa) (hb : FB X b fb) : FE X (.BinOp a .FloorDiv b pos) (eOp dDiv fa fb) := fe_op op_fdiv (op_dIC fun _ _ _ => .int _) ha hb
def dMod := dIC (fun _ j => 0 < j) fun i j => .int (i % j)
theorem fe_mod {a b : Expr} {fa fb : EF} (ha : FE X a fa) (hb : FB X b fb) : FE X (.BinOp a .Mod b pos) (eOp dMod fa fb) := fe_op op_mod (op_dIC fun _ _ _ => .int _) ha hb
def dPow := dIC CPow fun i j => .int (i ^ j.toNat)
theorem fe_pow {a b : Expr} {fa fb : EF} (ha : FE X a fa) (hb : FB X b fb) : FE X (.BinOp a .Pow b pos) (eOp dPow fa fb) := fe_op op_pow (op_dIC fun _ _ _ => .int _) ha hb
def dXor := dI fun i j => .int (Builtin.bitXor i j)
theorem fe_xor {a b : Expr} {fa fb : EF} (ha : FE X a fa) (hb : FB X b fb) : FE X (.BinOp a .BitXor b pos) (eOp dXor fa fb) := fe_op op_xor (op_dI fun _ _ _ => .int _) ha hb
def dNeg : D → Option D
  | .int i => some (.int (-i))
  | _ => none
theorem fe_neg {a : Expr} {fa : EF} (ha : FB X a fa) : FE X (.UnaryOp .USub a pos) (eUn dNeg fa) := fe_un un_neg (fun x d G H vx Q e s a q _ => by
  unfold dNeg at e
  split at e
  · cases e; rw [vwInt a]; exact ⟨_, rfl, q _ (.int _)⟩
  · cases e) ha
/-! ### comparisons -/
def dEq : D → D → Option D := fun x y => if SeqAt.shaped x = true ∧ SeqAt.shaped y = true then some (.bool (PyData.eqv x y)) else none
def dNe : D → D → Option D := fun x y => if SeqAt.shaped x = true ∧ SeqAt.shaped y = true then some (.bool (!PyData.eqv x y)) else none
theorem fe_eq {k : Nat} {a b : Expr} {fa fb : EF} (c : Cc X k) (ha : FE X a fa) (hb : FB X b fb) : FE X (.Compare a [.Eq] [b] pos) (eOp dEq fa fb) := fe_cmp (op_eqD c.room.units) (fun x y d G H vx vy Q e s a b q _ => by
  unfold dEq at e
  split at e
  · rename_i hc
    cases e
    exact ⟨x, y, Dv.dp _ _ (dvMono s _ _ a), vwAny s b, hc.1, hc.2, q _ (.bl _)⟩
  · cases e) ha hb (nomark _)
theorem fe_ne {k : Nat} {a b : Expr} {fa fb : EF} (c : Cc X k) (ha : FE X a fa) (hb : FB X b fb) : FE X (.Compare a [.NotEq] [b] pos) (eOp dNe fa fb) := fe_cmp (op_neD c.room.units) (fun x y d G H vx vy Q e s a b q _ => by
  unfold dNe at e
  split at e
  · rename_i hc
    cases e
    exact ⟨x, y, Dv.dp _ _ (dvMono s _ _ a), vwAny s b, hc.1, hc.2, q _ (.bl _)⟩
  · cases e) ha hb (nomark _)
/-- == where the left one is an own list's name -/
def eOpL (g : D → D → Option D) (i : Nat) (fb : EF) : EF := fun e => (fb e).bind fun q => (q.2[i]?.bind vw).bind fun x => (g x q.1).map fun d => (d, q.2)
def dLt := dI fun i j => .bool (decide (i < j))
def dLe := dI fun i j => .bool (decide (i ≤ j))
def dGt := dI fun i j => .bool (decide (j < i))
def dGe := dI fun i j => .bool (decide (j ≤ i))
theorem fe_lt {a b : Expr} {fa fb : EF} (ha : FE X a fa) (hb : FB X b fb) : FE X (.Compare a [.Lt] [b] pos) (eOp dLt fa fb) := fe_cmp op_lt (op_dI fun _ _ _ => .bl _) ha hb (nomark _)
theorem fe_le {a b : Expr} {fa fb : EF} (ha : FE X a fa) (hb : FB X b fb) : FE X (.Compare a [.LtE] [b] pos) (eOp dLe fa fb) := fe_cmp op_le (op_dI fun _ _ _ => .bl _) ha hb (nomark _)
theorem fe_gt {a b : Expr} {fa fb : EF} (ha : FE X a fa) (hb : FB X b fb) : FE X (.Compare a [.Gt] [b] pos) (eOp dGt fa fb) := fe_cmp op_gt (op_dI fun _ _ _ => .bl _) ha hb (nomark _)
theorem fe_ge {a b : Expr} {fa fb : EF} (ha : FE X a fa) (hb : FB X b fb) : FE X (.Compare a [.GtE] [b] pos) (eOp dGe fa fb) := fe_cmp op_ge (op_dI fun _ _ _ => .bl _) ha hb (nomark _)
def isNon : D → Bool
  | .none => true
  | _ => false
theorem isNon_iff {K : Frg} {G : Hp} {v : V} {d : D} (h : Dv K G v d) : decide (v = .non) = isNon d := by cases h <;> rfl
def dIs : D → D → Option D := fun x y => if isNon y then some (.bool (isNon x)) else none
def dIsN : D → D → Option D := fun x y => if isNon y then some (.bool (!isNon x)) else none
theorem vwIsNon {K : Frg} {G H : Hp} {v : V} {d : D} (h : Vw K G H v d) (n : isNon d = true) : v = .non := by
  cases d with
  | none => exact vwNon h
  | bool _ => cases n
  | int _ => cases n
  | str _ => cases n
  | list _ => cases n
  | tuple _ => cases n
  | dict _ => cases n
theorem fe_is {a b : Expr} {fa fb : EF} (ha : FE X a fa) (hb : FB X b fb) : FE X (.Compare a [.Is] [b] pos) (eOp dIs fa fb) := fe_cmp op_isN (fun x y d G H vx vy Q e s a b q _ => by
  unfold dIs at e
  split at e
  · rename_i hc
    cases e
    exact ⟨vwIsNon b hc, by rw [isNon_iff a]; exact q _ (.bl _)⟩
  · cases e) ha hb (nomark _)
theorem fe_isn {a b : Expr} {fa fb : EF} (ha : FE X a fa) (hb : FB X b fb) : FE X (.Compare a [.IsNot] [b] pos) (eOp dIsN fa fb) := fe_cmp op_notN (fun x y d G H vx vy Q e s a b q _ => by
  unfold dIsN at e
  split at e
  · rename_i hc
    cases e
    exact ⟨vwIsNon b hc, by rw [isNon_iff a]; exact q _ (.bl _)⟩
  · cases e) ha hb (nomark _)
/-! ### truth, tests -/
def dTru : D → Option Bool
  | .none => some false
  | .bool b => some b
  | .int i => some (i != 0)
  | .str x => if x.length ≤ sizeLine then some ((x.length : Int) != 0) else none
  | .list xs => some (!xs.isEmpty)
  | .tuple xs => some (!xs.isEmpty)
  | .dict _ => none
theorem emptyOf {K : Frg} {G : Hp} {vs : List V} {ds : List D} (h : DvAll K G vs ds) : vs.isEmpty = ds.isEmpty := by cases h <;> rfl
theorem tru_of {K : Frg} {G H : Hp} (s : Same G H) {v : V} {d : D} {b : Bool} (h : Vw K G H v d) (e : dTru d = some b) : TruV K v H b := by
  unfold dTru at e
  split at e
  · cases e; rw [vwNon h]; rfl
  · cases e; rw [vwBl h]; rfl
  · cases e; rw [vwInt h]; rfl
  · split at e
    · rename_i hc; cases e; rw [vwStr h]; exact ⟨hc, rfl⟩
    · cases e
  · cases e
    obtain ⟨a, vs, rfl, h1, h2⟩ := vwLst s h
    exact .inl ⟨vs, SqL.of h1, by rw [emptyOf h2]⟩
  · cases e
    obtain ⟨a, vs, rfl, h1, h2⟩ := vwTup h
    exact .inr (.inl ⟨vs, seqT s h1, by rw [emptyOf h2]⟩)
  · cases e
def bE (f : EF) : BF := fun e => (f e).bind fun p => (dTru p.1).map fun b => (b, p.2)
theorem bE_run {K : Frg} {f : EF} {σ : L2.St} {H : Hp} {Q : Bool → Hp → Prop} (h : tT K (bE f) σ H Q) : tB K f σ H fun v H1 => ∃ k, TruV K v H1 k ∧ Q k H1 := by
  obtain ⟨z, d, e', rp, hs, hH, hf, q⟩ := h
  subst hs hH
  obtain ⟨⟨x, e1⟩, h1, hf⟩ := Option.bind_eq_some_iff.mp hf
  obtain ⟨b, h2, hf⟩ := Option.map_eq_some_iff.mp hf
  cases hf
  exact ⟨z, x, e1, rp, rfl, rfl, h1, fun v y m r s2 ee p => ⟨_, tru_of r.same p h2, q y m r s2 ee⟩⟩
/-- any expression's truth -/
theorem ft_e {a : Expr} {f : EF} (h : FB X a f) (he : ∀ whole, isTrue a X.env whole = (do let v ← whole; standAt a.pos; holding [v] (truthy v))) : FT X a (bE f) :=
  ⟨PT.imp (pt_truth h.pb he) fun _ _ _ q => bE_run q⟩
/-- a comparison as a test: its value is a bool -/
def bB (f : EF) : BF := fun e => (f e).bind fun p => match p.1 with
  | .bool b => some (b, p.2)
  | _ => none
theorem bB_run {K : Frg} {f : EF} {σ : L2.St} {H : Hp} {Q : Bool → Hp → Prop} (h : tT K (bB f) σ H Q) : tE K f σ H fun v H1 => ∃ k, v = .bl k ∧ Q k H1 := by
  obtain ⟨z, d, e', rp, hs, hH, hf, q⟩ := h
  subst hs hH
  obtain ⟨⟨x, e1⟩, h1, hf⟩ := Option.bind_eq_some_iff.mp hf
  split at hf
  · rename_i b hx
    cases hf
    obtain rfl : x = _ := hx
    refine ⟨z, _, e1, rp, rfl, rfl, h1, fun v y m r s2 ee p => ?_⟩
    cases p
    exact ⟨_, rfl, q y m r s2 ee⟩
  · cases hf
theorem ft_cmp {a b : Expr} {op : CmpOp} {r : R2} {g : D → D → Option D} {fa fb : EF} (ho : OpR X (compareOp op) r) (hg : Op2 X.K r g) (ha : FE X a fa) (hb : FB X b fb) (hm : behindInMarks op b = false) : FT X (.Compare a [op] [b] pos) (bB (eOp g fa fb)) :=
  ⟨PT.imp (pt_cmpR ho ha.pe hb.pb hm) fun σ H Q q => by
    obtain ⟨z, d, e', rp, hs, hH, hf, q⟩ := bB_run q
    exact op_run hg ⟨z, d, e', rp, hs, hH, hf, q⟩⟩
def bNot (f : BF) : BF := fun e => (f e).map fun p => (!p.1, p.2)
theorem ft_not {a : Expr} {f : BF} (h : FT X a f) : FT X (.UnaryOp .Not a pos) (bNot f) := ⟨PT.imp (pt_not h.pt) fun σ H Q ⟨z, d, e', rp, hs, hH, hf, q⟩ => by
  obtain ⟨⟨b, e1⟩, h1, h2⟩ := Option.map_eq_some_iff.mp hf
  cases h2
  exact ⟨z, b, _, rp, hs, hH, h1, fun y m r s2 ee => q y m r s2 ee⟩⟩
def bAnd (f g : BF) : BF := fun e => (f e).bind fun p => if p.1 = true then g p.2 else some (false, p.2)
def bOr (f g : BF) : BF := fun e => (f e).bind fun p => if p.1 = true then some (true, p.2) else g p.2
/-- a chain of and, or -/
structure FW (X : Cx) (e : Expr) (f : BF) : Prop where
  pw : PW X e (tT X.K f)
theorem PW.imp {e : Expr} {t t' : TT} (h : PW X e t) (k : ∀ σ H Q, t' σ H Q → t σ H Q) : PW X e t' := ⟨fun wh pins s σ H Q I q => h.run wh pins s σ H Q I (k _ _ _ q)⟩
theorem FW.ft {e : Expr} {f : BF} (h : FW X e f) : FT X e f := ⟨h.pw.pt⟩
theorem fw_and1 {a : Expr} {f : BF} (h : FT X a f) : FW X (.BoolOp .And [a] pos) f := ⟨pw_and1 h.pt⟩
theorem fw_or1 {a : Expr} {f : BF} (h : FT X a f) : FW X (.BoolOp .Or [a] pos) f := ⟨pw_or1 h.pt⟩
theorem fw_and {a b : Expr} {rest : List Expr} {f g : BF} (h : FT X a f) (k : FW X (.BoolOp .And (b :: rest) pos) g) : FW X (.BoolOp .And (a :: b :: rest) pos) (bAnd f g) :=
  ⟨PW.imp (pw_and h.pt k.pw) fun σ H Q ⟨z, d, e', rp, hs, hH, hf, q⟩ => by
    subst hs hH
    obtain ⟨⟨b, e1⟩, h1, h2⟩ := Option.bind_eq_some_iff.mp hf
    refine ⟨z, b, e1, rp, rfl, rfl, h1, fun y m r s2 ee => ?_⟩
    cases b with
    | true => exact iteT ⟨y, d, e', r, s2, rfl, by rw [ee]; exact h2, fun y2 m2 r2 s3 ee2 => q y2 (m.trans m2) r2 s3 ee2⟩
    | false =>
      cases h2
      exact iteF (q y m r s2 ee)⟩
theorem fw_or {a b : Expr} {rest : List Expr} {f g : BF} (h : FT X a f) (k : FW X (.BoolOp .Or (b :: rest) pos) g) : FW X (.BoolOp .Or (a :: b :: rest) pos) (bOr f g) :=
  ⟨PW.imp (pw_or h.pt k.pw) fun σ H Q ⟨z, d, e', rp, hs, hH, hf, q⟩ => by
    subst hs hH
    obtain ⟨⟨b, e1⟩, h1, h2⟩ := Option.bind_eq_some_iff.mp hf
    refine ⟨z, b, e1, rp, rfl, rfl, h1, fun y m r s2 ee => ?_⟩
    cases b with
    | false => exact iteF ⟨y, d, e', r, s2, rfl, by rw [ee]; exact h2, fun y2 m2 r2 s3 ee2 => q y2 (m.trans m2) r2 s3 ee2⟩
    | true =>
      cases h2
      exact iteT (q y m r s2 ee)⟩
/-- and, or, not as values, all but the last bools -/
def eAnd (f g : EF) : EF := fun e => (f e).bind fun p => match p.1 with
  | .bool true => g p.2
  | .bool false => some (.bool false, p.2)
  | _ => none
def eOr (f g : EF) : EF := fun e => (f e).bind fun p => match p.1 with
  | .bool true => some (.bool true, p.2)
  | .bool false => g p.2
  | _ => none
def eNot (f : EF) : EF := fun e => (f e).bind fun p => match p.1 with
  | .bool b => some (.bool (!b), p.2)
  | _ => none
theorem fe_one {op} {a : Expr} {f : EF} (h : FE X a f) : FE X (.BoolOp op [a] pos) f := ⟨pe_one h.pe⟩
theorem fe_and {a b : Expr} {rest : List Expr} {f g : EF} (h : FE X a f) (k : FE X (.BoolOp .And (b :: rest) pos) g) : FE X (.BoolOp .And (a :: b :: rest) pos) (eAnd f g) :=
  ⟨PE.imp (pe_and h.pe k.pe) fun σ H Q ⟨z, d, e', rp, hs, hH, hf, q⟩ => by
    subst hs hH
    obtain ⟨⟨b, e1⟩, h1, h2⟩ := Option.bind_eq_some_iff.mp hf
    refine ⟨z, b, e1, rp, rfl, rfl, h1, fun v y m r s2 ee p => ?_⟩
    split at h2
    · rename_i hb
      have hb' : b = .bool true := hb
      subst hb'
      cases p
      exact ⟨true, rfl, iteT ⟨y, d, e', r, s2, rfl, by rw [ee]; exact h2, fun v y2 m2 r2 s3 ee2 p2 => q v y2 (m.trans m2) r2 s3 ee2 p2⟩⟩
    · rename_i hb
      have hb' : b = .bool false := hb
      subst hb'
      cases p
      cases h2
      exact ⟨false, rfl, iteF (q _ y m r s2 ee (.bl _))⟩
    · cases h2⟩
theorem fe_or {a b : Expr} {rest : List Expr} {f g : EF} (h : FE X a f) (k : FE X (.BoolOp .Or (b :: rest) pos) g) : FE X (.BoolOp .Or (a :: b :: rest) pos) (eOr f g) :=
  ⟨PE.imp (pe_or h.pe k.pe) fun σ H Q ⟨z, d, e', rp, hs, hH, hf, q⟩ => by
    subst hs hH
    obtain ⟨⟨b, e1⟩, h1, h2⟩ := Option.bind_eq_some_iff.mp hf
    refine ⟨z, b, e1, rp, rfl, rfl, h1, fun v y m r s2 ee p => ?_⟩
    split at h2
    · rename_i hb
      have hb' : b = .bool true := hb
      subst hb'
      cases p
      cases h2
      exact ⟨true, rfl, iteT (q _ y m r s2 ee (.bl _))⟩
    · rename_i hb
      have hb' : b = .bool false := hb
      subst hb'
      cases p
      exact ⟨false, rfl, iteF ⟨y, d, e', r, s2, rfl, by rw [ee]; exact h2, fun v y2 m2 r2 s3 ee2 p2 => q v y2 (m.trans m2) r2 s3 ee2 p2⟩⟩
    · cases h2⟩
theorem fe_not {a : Expr} {f : EF} (h : FE X a f) : FE X (.UnaryOp .Not a pos) (eNot f) := ⟨PE.imp (pe_not h.pe) fun σ H Q ⟨z, d, e', rp, hs, hH, hf, q⟩ => by
  subst hs hH
  obtain ⟨⟨b, e1⟩, h1, h2⟩ := Option.bind_eq_some_iff.mp hf
  refine ⟨z, b, e1, rp, rfl, rfl, h1, fun v y m r s2 ee p => ?_⟩
  split at h2
  · rename_i b' hb
    have hb' : b = .bool b' := hb
    subst hb'
    cases p
    cases h2
    exact ⟨_, rfl, q _ y m r s2 ee (.bl _)⟩
  · cases h2⟩
def eIf (c : BF) (f g : EF) : EF := fun e => (c e).bind fun p => if p.1 = true then f p.2 else g p.2
theorem fe_if {c a b : Expr} {h : BF} {f g : EF} (hc : FT X c h) (ha : FE X a f) (hb : FE X b g) : FE X (.IfExp c a b pos) (eIf h f g) :=
  ⟨PE.imp (pe_ifExp hc.pt ha.pe hb.pe) fun σ H Q ⟨z, d, e', rp, hs, hH, hf, q⟩ => by
    subst hs hH
    obtain ⟨⟨b, e1⟩, h1, h2⟩ := Option.bind_eq_some_iff.mp hf
    refine ⟨z, b, e1, rp, rfl, rfl, h1, fun y m r s2 ee => ?_⟩
    cases b with
    | true => exact iteT ⟨y, d, e', r, s2, rfl, by rw [ee]; exact h2, fun v y2 m2 r2 s3 ee2 p2 => q v y2 (m.trans m2) r2 s3 ee2 p2⟩
    | false => exact iteF ⟨y, d, e', r, s2, rfl, by rw [ee]; exact h2, fun v y2 m2 r2 s3 ee2 p2 => q v y2 (m.trans m2) r2 s3 ee2 p2⟩⟩
end
end Fl

set_option Elab.async false
set_option linter.all false
set_option maxRecDepth 100000
set_option maxHeartbeats 1000000
set_option autoImplicit false
/-! FnLib: sum, max, min of tuples of ints. -/
namespace Fl
open PySem PySem.Spec PyProof.Rows L2
section
variable {prog : Program} {w : World} {A : Around} {E : Value → Shared → Prop} {s : Shared} {l : Addr}
theorem iterTup {items : Array Value} {Q : Value → Shared → Prop} (hl : s.heap.IsTuple l items)
    (h : ∀ s₂ : Shared, s₂ = { s with heap := s.heap.push { cls := .type "tuple_iterator", data := .fields #[.ref l, .int 0 0] } } →
      (s₂.heap.IsTupleIter s.heap.objs.size l 0 ∧ s₂.heap.IsTuple l items) → (∀ b ∈ [s.heap.objs.size, l], b < s₂.heap.objs.size) → l ≠ s.heap.objs.size → Q (.ref s.heap.objs.size) s₂) : wpAny (model prog w) A (pyIter (.ref l)) Q E s := by
  have hlt : l < s.heap.objs.size := by obtain ⟨_, e, _⟩ := hl; exact Heap.lt_size e
  refine PyProof.Rows.iter_tuple (show IsTup s.heap l items from hl) (h _ rfl ⟨⟨_, Heap.get?_push_size _ rfl, rfl, rfl⟩, ?_⟩ (fun b hb => ?_) (Nat.ne_of_lt hlt))
  · exact hl.at fun o e => Heap.get?_push_of_some _ e
  · show b < (s.heap.push _).objs.size
    rw [show (s.heap.push { cls := .type "tuple_iterator", data := .fields #[.ref l, .int 0 0] }).objs.size = s.heap.objs.size + 1 by simp [Heap.push]]
    rcases List.mem_cons.mp hb with rfl | hb
    · omega
    · rw [List.mem_singleton.mp hb]; exact Nat.lt_succ_of_lt hlt
theorem oldKept {s : Shared} {l : Addr} {h' : Heap} (hk : ∀ b o, b ∉ [s.heap.objs.size] → (s.heap.push { cls := .type "tuple_iterator", data := .fields #[.ref l, .int 0 0] }).get? b = some o → h'.get? b = some o) : ∀ b o, s.heap.get? b = some o → h'.get? b = some o := fun b o e =>
  hk b o (fun z => by rw [List.mem_singleton.mp z] at e; exact absurd (Heap.lt_size e) (Nat.lt_irrefl _)) (Heap.get?_push_of_some _ e)
theorem sum_tup {its : List Value} {ns : List Int} {Q : Value → Shared → Prop} (hh : A.handled = none) (hl : s.heap.IsTuple l its.toArray) (hi : IntsAre its ns)
    (h : ∀ h' tk t', (∀ b o, s.heap.get? b = some o → h'.get? b = some o) → Q (.int ns.sum t') { s with heap := h', toks := tk }) : wpAny (model prog w) A (call (.builtin "sum") [.ref l]) Q E s := by
  obtain ⟨xs, e⟩ := hi.allInts.items
  have hn : numsOf (intItems xs).toList = ns := by rw [← e]; exact hi.numsOf
  rw [nums_intItems] at hn
  rw [e] at hl
  refine call_sum_walkG (iterTup hl fun s₂ e2 st hfp hlI => ?_)
  subst e2
  refine ⟨_, _, _, _, _, _, numAt xs, rfl, Walks.tuple (A := A.in1) hh _ l hlI (intItems xs), st, hfp, (fun _ _ => intItems_at), fun h' tk t' hk => ?_⟩
  have q := h h' tk t' (oldKept hk)
  rw [show (intItems xs).size = xs.size by simp [intItems], preSum_eq, List.take_of_length_le (by simp), hn]
  exact q
theorem max_tup {its : List Value} {ns : List Int} {Q : Value → Shared → Prop} (hh : A.handled = none) (hl : s.heap.IsTuple l its.toArray) (hi : IntsAre its ns) (hne : 0 < ns.length)
    (h : ∀ h' tk M t', (∀ b o, s.heap.get? b = some o → h'.get? b = some o) → M ∈ ns → (∀ a, a ∈ ns → a ≤ M) → Q (.int M t') { s with heap := h', toks := tk }) : wpAny (model prog w) A (call (.builtin "max") [.ref l]) Q E s := by
  obtain ⟨xs, e⟩ := hi.allInts.items
  have hn : numsOf (intItems xs).toList = ns := by rw [← e]; exact hi.numsOf
  rw [nums_intItems] at hn
  subst hn
  rw [e] at hl
  have hsz : 0 < xs.size := by simpa using hne
  refine call_max_walk (iterTup hl fun s₂ e2 st hfp hlI => ?_)
  subst e2
  refine ⟨_, _, _, _, _, _, _, rfl, Walks.tuple (A := A.in1) hh _ l hlI (intItems xs), st, hfp, by simpa [intItems] using hsz, CmpOf.ints_gt (numAt xs) (fun _ _ => intItems_at), fun v h' tk hP hk => ?_⟩
  have hP' : (intItems xs)[argBest (fun i j => decide (numAt xs i > numAt xs j)) (xs.size - 1)]? = some v := by simpa [intItems] using hP
  obtain ⟨t, rfl⟩ := intItems_at hP'
  obtain ⟨h1, h2⟩ := argBest_gt (numAt xs) (xs.size - 1)
  refine h h' tk _ t (oldKept hk) ?_ fun a ha => ?_
  · rw [numAt_eq]; exact PySem.getD_mem (by rw [List.length_map, Array.length_toList]; omega)
  · obtain ⟨j, hj, rfl⟩ := mem_getD ha
    rw [List.length_map, Array.length_toList] at hj
    rw [← numAt_eq]; exact h2 j (by omega)
theorem min_tup {its : List Value} {ns : List Int} {Q : Value → Shared → Prop} (hh : A.handled = none) (hl : s.heap.IsTuple l its.toArray) (hi : IntsAre its ns) (hne : 0 < ns.length)
    (h : ∀ h' tk M t', (∀ b o, s.heap.get? b = some o → h'.get? b = some o) → M ∈ ns → (∀ a, a ∈ ns → M ≤ a) → Q (.int M t') { s with heap := h', toks := tk }) : wpAny (model prog w) A (call (.builtin "min") [.ref l]) Q E s := by
  obtain ⟨xs, e⟩ := hi.allInts.items
  have hn : numsOf (intItems xs).toList = ns := by rw [← e]; exact hi.numsOf
  rw [nums_intItems] at hn
  subst hn
  rw [e] at hl
  have hsz : 0 < xs.size := by simpa using hne
  refine call_min_walk (iterTup hl fun s₂ e2 st hfp hlI => ?_)
  subst e2
  refine ⟨_, _, _, _, _, _, _, rfl, Walks.tuple (A := A.in1) hh _ l hlI (intItems xs), st, hfp, by simpa [intItems] using hsz, CmpOf.ints_lt (numAt xs) (fun _ _ => intItems_at), fun v h' tk hP hk => ?_⟩
  have hP' : (intItems xs)[argBest (fun i j => decide (numAt xs i < numAt xs j)) (xs.size - 1)]? = some v := by simpa [intItems] using hP
  obtain ⟨t, rfl⟩ := intItems_at hP'
  obtain ⟨h1, h2⟩ := argBest_lt (numAt xs) (xs.size - 1)
  refine h h' tk _ t (oldKept hk) ?_ fun a ha => ?_
  · rw [numAt_eq]; exact PySem.getD_mem (by rw [List.length_map, Array.length_toList]; omega)
  · obtain ⟨j, hj, rfl⟩ := mem_getD ha
    rw [List.length_map, Array.length_toList] at hj
    rw [← numAt_eq]; exact h2 j (by omega)
end
/-- sum, max, min: a list or a tuple of ints -/
def rSumA (K : Frg) : List V → Hp → VK → Prop := fun vs H Q => ∃ (a : Addr) (ns : List Int), vs = [V.ref a] ∧ (SqL K H a (ns.map V.int) ∨ SqT K H a (ns.map V.int)) ∧ Q (.int ns.sum) H
def rMaxA (K : Frg) : List V → Hp → VK → Prop := fun vs H Q => ∃ (a : Addr) (ns : List Int), vs = [V.ref a] ∧ (SqL K H a (ns.map V.int) ∨ SqT K H a (ns.map V.int)) ∧ 0 < ns.length ∧ ∀ m, m ∈ ns → (∀ y, y ∈ ns → y ≤ m) → Q (.int m) H
def rMinA (K : Frg) : List V → Hp → VK → Prop := fun vs H Q => ∃ (a : Addr) (ns : List Int), vs = [V.ref a] ∧ (SqL K H a (ns.map V.int) ∨ SqT K H a (ns.map V.int)) ∧ 0 < ns.length ∧ ∀ m, m ∈ ns → (∀ y, y ∈ ns → m ≤ y) → Q (.int m) H
section
variable {X : Cx}
theorem cr_sumA (hc : X.calm = true) : CallR X (.builtin "sum") (rSumA X.K) := by
  intro pins s σ H vs us Q I r h
  obtain ⟨a, ns, rfl, hs | hs, q⟩ := h
  · exact cr_sum hc pins s σ H _ us Q I r ⟨a, ns, rfl, hs, q⟩
  · obtain ⟨its, rv, hl, _⟩ := I.tuple hs
    rw [Vals.ref1 r]
    exact sum_tup (I.ok.hd hc) hl rv.ints fun h' tk t' hk => ⟨.int _, H, I.kept hk, ⟨_, rfl⟩, q⟩
theorem cr_maxA (hc : X.calm = true) : CallR X (.builtin "max") (rMaxA X.K) := by
  intro pins s σ H vs us Q I r h
  obtain ⟨a, ns, rfl, hs | hs, hne, q⟩ := h
  · exact cr_max hc pins s σ H _ us Q I r ⟨a, ns, rfl, hs, hne, q⟩
  · obtain ⟨its, rv, hl, _⟩ := I.tuple hs
    rw [Vals.ref1 r]
    exact max_tup (I.ok.hd hc) hl rv.ints hne fun h' tk m t' hk h1 h2 => ⟨.int _, H, I.kept hk, ⟨_, rfl⟩, q m h1 h2⟩
theorem cr_minA (hc : X.calm = true) : CallR X (.builtin "min") (rMinA X.K) := by
  intro pins s σ H vs us Q I r h
  obtain ⟨a, ns, rfl, hs | hs, hne, q⟩ := h
  · exact cr_min hc pins s σ H _ us Q I r ⟨a, ns, rfl, hs, hne, q⟩
  · obtain ⟨its, rv, hl, _⟩ := I.tuple hs
    rw [Vals.ref1 r]
    exact min_tup (I.ok.hd hc) hl rv.ints hne fun h' tk m t' hk h1 h2 => ⟨.int _, H, I.kept hk, ⟨_, rfl⟩, q m h1 h2⟩
end
end Fl

set_option Elab.async false
set_option linter.all false
set_option maxRecDepth 100000
set_option maxHeartbeats 1000000
set_option autoImplicit false
/-! FnSeq: arguments, displays, built-in calls, subscripts, slices, what is walked, comprehensions. -/
namespace Fl
open PySem PySem.Spec PyProof.Rows L2
section
variable {X : Cx} {pos : Pos}
/-! ### arguments, displays -/
def aNil : LF := fun e => some ([], e)
def aCons (f : EF) (g : LF) : LF := fun e => (f e).bind fun p => (g p.2).map fun q => (p.1 :: q.1, q.2)
theorem fa_nil : FA X [] aNil := ⟨PA.imp pa_nil fun σ H Q ⟨z, d, e', rp, hs, hH, hf, q⟩ => by
  subst hs hH
  cases hf
  exact q [] z (Mv.refl z) rp rfl rfl .nil⟩
theorem fa_cons {a : Expr} {es : List Expr} {f : EF} {g : LF} (ha : FE X a f) (hr : FA X es g) (hs : starEach (a :: es) X.env = (false, eval a X.env) :: starEach es X.env := by rfl) : FA X (a :: es) (aCons f g) :=
  ⟨PA.imp (pa_cons ha.pe hr.pa hs) fun σ H Q ⟨z, d, e', rp, hs, hH, hf, q⟩ => by
    subst hs hH
    obtain ⟨⟨x, e1⟩, h1, hf⟩ := Option.bind_eq_some_iff.mp hf
    obtain ⟨⟨xs, e2⟩, h2, h3⟩ := Option.map_eq_some_iff.mp hf
    cases h3
    refine ⟨z, x, e1, rp, rfl, rfl, h1, fun v1 y1 m1 r1 s1 ee1 p1 => ⟨y1, xs, e2, r1, s1, rfl, by rw [ee1]; exact h2, fun v2 y2 m2 r2 s2 ee2 p2 => ?_⟩⟩
    exact q (v1 :: v2) y2 (m1.trans m2) r2 s2 ee2 (.cons (dvMono m2.g _ _ p1) p2)⟩
def eTup (g : LF) : EF := fun e => (g e).bind fun p => if p.1.length ≤ sizeLine then some (.tuple p.1, p.2) else none
theorem fe_tup {es : List Expr} {k : Nat} {g : LF} (h : FA X es g) : FE X (.Tuple es k pos) (eTup g) := ⟨PE.imp (pe_tup h.pa) fun σ H Q ⟨z, d, e', rp, hs, hH, hf, q⟩ => by
  subst hs hH
  obtain ⟨⟨xs, e1⟩, h1, hf⟩ := Option.bind_eq_some_iff.mp hf
  split at hf
  · rename_i hl
    cases hf
    refine ⟨z, xs, _, rp, rfl, rfl, h1, fun vs y m r s2 ee p => ⟨by rw [dvAll_len p]; exact hl, fun pa hn => ?_⟩⟩
    obtain ⟨r3, m3⟩ := r.add (o := .tup vs) hn
    exact q _ (y.add pa (.tup vs)) (m.trans m3) r3 s2 ee (.tup (SqT.of upd_same) (dvMonoAll (sameUpd (r.same.free hn)) _ _ p))
  · cases hf⟩
def oLst (g : LF) : OF := fun e => (g e).bind fun p => if p.1.length ≤ sizeLine then some (.li p.1, p.2) else none
/-- a new list on the heap, one's own -/
theorem Rp.newLi {K : Frg} {z : Z} (r : Rp K z) {p : Addr} {vs : List V} {ds : List D} (hn : z.H p = none) (hd : DvAll K z.G vs ds) :
    Rp K (z.new p (.lst vs)) ∧ Mv z (z.new p (.lst vs)) ∧ SlOk K (z.new p (.lst vs)).G (z.new p (.lst vs)).H (some (.ref p)) [p] (.li ds) ∧ ∀ i, p ∉ (z.new p (.lst vs)).F i := by
  obtain ⟨r3, m3⟩ := r.new (o := .lst vs) hn
  exact ⟨r3, m3, ⟨p, vs, rfl, rfl, (r.fresh hn).1, upd_same, hd⟩, (r.fresh hn).2⟩
theorem fo_lst {es : List Expr} {g : LF} (h : FA X es g) : FO X (.List es pos) (oLst g) := ⟨PE.imp (pe_lst h.pa) fun σ H Q ⟨z, d, e', rp, hs, hH, hf, q⟩ => by
  subst hs hH
  obtain ⟨⟨xs, e1⟩, h1, hf⟩ := Option.bind_eq_some_iff.mp hf
  split at hf
  · rename_i hl
    cases hf
    refine ⟨z, xs, _, rp, rfl, rfl, h1, fun vs y m r s2 ee p => ⟨by rw [dvAll_len p]; exact hl, fun pa hn => ?_⟩⟩
    obtain ⟨r3, m3, k, nf⟩ := r.newLi hn p
    refine q _ _ [pa] (m.trans m3) r3 s2 ee k fun a ha => ?_
    rw [List.mem_singleton.mp ha]
    refine ⟨?_, nf⟩
    by_cases hz : z.H pa = none
    · exact hz
    · exact absurd hn (m.dom pa hz)
  · cases hf⟩
/-! ### calls of built-ins -/
section
variable {x : Str} {id : String} {p : Pos} {r : List V → Hp → VK → Prop} {a b : Expr}
theorem fe_call1 {g : D → Option D} {f : EF} (hc : CallR X (.builtin id) r) (hu : Un1 X.K (fun v => r [v]) g) (hg : Gl X x) (hm : X.mg x = none) (hv : bootBuiltins x = some (.builtin id)) (ha : FB X a f) (hn : x ≠ "__name__" := by decide) (hdb : (x == ("__debug__" : Str)) = false := by decide)
    (he : starEach [a] X.env = (false, eval a X.env) :: starEach [] X.env := by rfl) : FE X (.Call (.Name x p) [a] [] pos) (eUn g f) :=
  ⟨PE.imp (pe_callB hc hg hm hv (pa_cons ha.pb pa_nil he) hn hdb he rfl) fun σ H Q h => un_run (r := fun v => r [v]) hu h⟩
theorem fe_callT1 {g : D → Option D} {f : EF} (hc : CallR X (.type id) r) (hu : Un1 X.K (fun v => r [v]) g) (hg : Gl X x) (hm : X.mg x = none) (hv : bootBuiltins x = some (.type id)) (ha : FB X a f) (hn : x ≠ "__name__" := by decide) (hdb : (x == ("__debug__" : Str)) = false := by decide)
    (he : starEach [a] X.env = (false, eval a X.env) :: starEach [] X.env := by rfl) : FE X (.Call (.Name x p) [a] [] pos) (eUn g f) :=
  ⟨PE.imp (pe_callTy hc hg hm hv (pa_cons ha.pb pa_nil he) hn hdb he rfl) fun σ H Q h => un_run (r := fun v => r [v]) hu h⟩
theorem fe_call2 {g : D → D → Option D} {f f2 : EF} (hc : CallR X (.builtin id) r) (hu : Op2 X.K (fun v w => r [v, w]) g) (hg : Gl X x) (hm : X.mg x = none) (hv : bootBuiltins x = some (.builtin id)) (ha : FE X a f) (hb : FB X b f2) (hn : x ≠ "__name__" := by decide) (hdb : (x == ("__debug__" : Str)) = false := by decide)
    (he : starEach [a, b] X.env = (false, eval a X.env) :: starEach [b] X.env := by rfl) (he2 : starEach [b] X.env = (false, eval b X.env) :: starEach [] X.env := by rfl) (hpl : (backTo pos (starEach [b] X.env)).any (·.1) = false := by rfl) : FE X (.Call (.Name x p) [a, b] [] pos) (eOp g f f2) :=
  ⟨PE.imp (pe_callB hc hg hm hv (pa_cons ha.pe (pa_cons hb.pb pa_nil he2) he) hn hdb he hpl) fun σ H Q h => op_run (r := fun v w => r [v, w]) hu h⟩
/-- an own list of a one-place call: g tells its items -/
def oUn (g : D → Option (List D)) (f : EF) : OF := fun e => (f e).bind fun p => (g p.1).map fun d => (.li d, p.2)
def Un1L (K : Frg) (r : V → Hp → VK → Prop) (g : D → Option (List D)) : Prop := ∀ x ds G H vx (Q : VK), g x = some ds → Same G H → Vw K G H vx x → (∀ p vs, H p = none → DvAll K G vs ds → Q (.ref p) (upd H p (.lst vs))) → r vx H Q
theorem unL_run {K : Frg} {r : V → Hp → VK → Prop} {g : D → Option (List D)} (h : Un1L K r g) {fa : EF} {σ : L2.St} {H : Hp} {Q : VK} (q : tO K (oUn g fa) σ H Q) : tUn r (tB K fa) σ H Q := by
  obtain ⟨z, d, e', rp, hs, hH, hf, q⟩ := q
  subst hs hH
  obtain ⟨⟨x, e1⟩, h1, hf⟩ := Option.bind_eq_some_iff.mp hf
  obtain ⟨d', h3, hf⟩ := Option.map_eq_some_iff.mp hf
  cases hf
  refine ⟨z, x, _, rp, rfl, rfl, h1, fun vx z1 m1 r1 s1 ee1 p1 => ?_⟩
  refine h x d' z1.G z1.H vx Q h3 r1.same p1 fun p vs hn hp => ?_
  obtain ⟨r3, m3, k, nf⟩ := r1.newLi hn hp
  refine q _ _ [p] (m1.trans m3) r3 s1 ee1 k fun a ha => ?_
  rw [List.mem_singleton.mp ha]
  refine ⟨?_, nf⟩
  by_cases hz : z.H p = none
  · exact hz
  · exact absurd hn (m1.dom p hz)
theorem fo_call1 {g : D → Option (List D)} {f : EF} (hc : CallR X (.builtin id) r) (hu : Un1L X.K (fun v => r [v]) g) (hg : Gl X x) (hm : X.mg x = none) (hv : bootBuiltins x = some (.builtin id)) (ha : FB X a f) (hn : x ≠ "__name__" := by decide) (hdb : (x == ("__debug__" : Str)) = false := by decide)
    (he : starEach [a] X.env = (false, eval a X.env) :: starEach [] X.env := by rfl) : FO X (.Call (.Name x p) [a] [] pos) (oUn g f) :=
  ⟨PE.imp (pe_callB hc hg hm hv (pa_cons ha.pb pa_nil he) hn hdb he rfl) fun σ H Q h => unL_run (r := fun v => r [v]) hu h⟩
theorem fo_callT1 {g : D → Option (List D)} {f : EF} (hc : CallR X (.type id) r) (hu : Un1L X.K (fun v => r [v]) g) (hg : Gl X x) (hm : X.mg x = none) (hv : bootBuiltins x = some (.type id)) (ha : FB X a f) (hn : x ≠ "__name__" := by decide) (hdb : (x == ("__debug__" : Str)) = false := by decide)
    (he : starEach [a] X.env = (false, eval a X.env) :: starEach [] X.env := by rfl) : FO X (.Call (.Name x p) [a] [] pos) (oUn g f) :=
  ⟨PE.imp (pe_callTy hc hg hm hv (pa_cons ha.pb pa_nil he) hn hdb he rfl) fun σ H Q h => unL_run (r := fun v => r [v]) hu h⟩
def dLen : D → Option D
  | .list xs => some (.int xs.length)
  | .tuple xs => some (.int xs.length)
  | .str z => if z.length ≤ sizeLine then some (.int z.length) else none
  | _ => none
theorem fe_len {f : EF} (ha : FB X a f) (hm : X.mg "len" = none) (hg : Gl X "len" := by rfl) (he : starEach [a] X.env = (false, eval a X.env) :: starEach [] X.env := by rfl) : FE X (.Call (.Name "len" p) [a] [] pos) (eUn dLen f) :=
  fe_call1 call_len (fun x d G H vx Q e s h q _ => by
    unfold dLen at e
    split at e
    · cases e
      obtain ⟨b, vs, rfl, h1, h2⟩ := vwLst s h
      exact ⟨_, _, rfl, .inl ⟨vs, SqL.of h1, rfl⟩, by rw [dvAll_len h2]; exact q _ (.int _)⟩
    · cases e
      obtain ⟨b, vs, rfl, h1, h2⟩ := vwTup h
      exact ⟨_, _, rfl, .inr ⟨vs, seqT s h1, rfl⟩, by rw [dvAll_len h2]; exact q _ (.int _)⟩
    · split at e
      · rename_i hl; cases e; rw [vwStr h]; exact ⟨_, _, rfl, ⟨hl, rfl⟩, q _ (.int _)⟩
      · cases e
    · cases e) hg hm boot_len ha (by decide) (by decide) he
def asInts : List D → Option (List Int)
  | [] => some []
  | .int i :: r => (asInts r).map (i :: ·)
  | _ :: _ => none
theorem asInts_ok {K : Frg} {G : Hp} : ∀ {ds : List D} {vs : List V} {ns : List Int}, asInts ds = some ns → DvAll K G vs ds → vs = ns.map V.int ∧ ds = ns.map PyData.int
  | [], _, _, e, h => by cases e; cases h; exact ⟨rfl, rfl⟩
  | .int i :: r, _, _, e, h => by
    obtain ⟨ms, h1, h2⟩ := Option.map_eq_some_iff.mp e
    subst h2
    cases h with
    | cons k1 k2 =>
      cases k1
      obtain ⟨e1, e2⟩ := asInts_ok h1 k2
      rw [e1, e2]
      exact ⟨rfl, rfl⟩
  | .none :: _, _, _, e, _ => nomatch e
  | .bool _ :: _, _, _, e, _ => nomatch e
  | .str _ :: _, _, _, e, _ => nomatch e
  | .list _ :: _, _, _, e, _ => nomatch e
  | .tuple _ :: _, _, _, e, _ => nomatch e
  | .dict _ :: _, _, _, e, _ => nomatch e
theorem asInts_map : ∀ ns : List Int, asInts (ns.map PyData.int) = some ns
  | [] => rfl
  | n :: r => by rw [List.map_cons]; unfold asInts; rw [asInts_map r]; rfl
/-- the ints of a list or tuple -/
def intsOf : D → Option (List Int)
  | .list xs => asInts xs
  | .tuple xs => asInts xs
  | _ => none
theorem intsOf_ok {K : Frg} {G H : Hp} (s : Same G H) {v : V} {d : D} {ns : List Int} (e : intsOf d = some ns) (h : Vw K G H v d) : ∃ a, v = .ref a ∧ (SqL K H a (ns.map V.int) ∨ SqT K H a (ns.map V.int)) := by
  unfold intsOf at e
  split at e
  · obtain ⟨b, vs, rfl, h1, h2⟩ := vwLst s h
    rw [(asInts_ok e h2).1] at h1
    exact ⟨b, rfl, .inl (SqL.of h1)⟩
  · obtain ⟨b, vs, rfl, h1, h2⟩ := vwTup h
    rw [(asInts_ok e h2).1] at h1
    exact ⟨b, rfl, .inr (seqT s h1)⟩
  · cases e
def dSum : D → Option D := fun x => (intsOf x).map fun ns => .int ns.sum
theorem fe_sum {k : Nat} {f : EF} (c : Cc X k) (ha : FB X a f) (hm : X.mg "sum" = none) (hg : Gl X "sum" := by rfl) (he : starEach [a] X.env = (false, eval a X.env) :: starEach [] X.env := by rfl) : FE X (.Call (.Name "sum" p) [a] [] pos) (eUn dSum f) :=
  fe_call1 (cr_sumA c.calm) (fun x d G H vx Q e s h q _ => by
    obtain ⟨ns, h1, h2⟩ := Option.map_eq_some_iff.mp e
    subst h2
    obtain ⟨b, rfl, h3⟩ := intsOf_ok s h1 h
    exact ⟨b, ns, rfl, h3, q _ (.int _)⟩) hg hm (by decide +kernel) ha (by decide) (by decide) he
/-- the greatest, the least -/
def maxI : Int → List Int → Int
  | m, [] => m
  | m, x :: r => maxI (if x > m then x else m) r
def minI : Int → List Int → Int
  | m, [] => m
  | m, x :: r => minI (if x < m then x else m) r
theorem maxI_spec : ∀ (r : List Int) (m : Int), (maxI m r = m ∨ maxI m r ∈ r) ∧ m ≤ maxI m r ∧ ∀ y ∈ r, y ≤ maxI m r
  | [], m => ⟨.inl rfl, Int.le_refl _, fun _ h => nomatch h⟩
  | x :: r, m => by
    obtain ⟨h1, h2, h3⟩ := maxI_spec r (if x > m then x else m)
    show (maxI (if x > m then x else m) r = m ∨ maxI (if x > m then x else m) r ∈ x :: r) ∧ m ≤ maxI (if x > m then x else m) r ∧ ∀ y ∈ x :: r, y ≤ maxI (if x > m then x else m) r
    generalize maxI (if x > m then x else m) r = M at h1 h2 h3 ⊢
    refine ⟨?_, ?_, fun y hy => ?_⟩
    · rcases h1 with h1 | h1
      · split at h1
        · exact .inr (by rw [h1]; exact List.mem_cons_self)
        · exact .inl h1
      · exact .inr (List.mem_cons_of_mem _ h1)
    · split at h2 <;> omega
    · rcases List.mem_cons.mp hy with rfl | hy
      · split at h2 <;> omega
      · exact h3 y hy
theorem minI_spec : ∀ (r : List Int) (m : Int), (minI m r = m ∨ minI m r ∈ r) ∧ minI m r ≤ m ∧ ∀ y ∈ r, minI m r ≤ y
  | [], m => ⟨.inl rfl, Int.le_refl _, fun _ h => nomatch h⟩
  | x :: r, m => by
    obtain ⟨h1, h2, h3⟩ := minI_spec r (if x < m then x else m)
    show (minI (if x < m then x else m) r = m ∨ minI (if x < m then x else m) r ∈ x :: r) ∧ minI (if x < m then x else m) r ≤ m ∧ ∀ y ∈ x :: r, minI (if x < m then x else m) r ≤ y
    generalize minI (if x < m then x else m) r = M at h1 h2 h3 ⊢
    refine ⟨?_, ?_, fun y hy => ?_⟩
    · rcases h1 with h1 | h1
      · split at h1
        · exact .inr (by rw [h1]; exact List.mem_cons_self)
        · exact .inl h1
      · exact .inr (List.mem_cons_of_mem _ h1)
    · split at h2 <;> omega
    · rcases List.mem_cons.mp hy with rfl | hy
      · split at h2 <;> omega
      · exact h3 y hy
def dMax : D → Option D := fun x => (intsOf x).bind fun
  | [] => none
  | n :: r => some (.int (maxI n r))
def dMin : D → Option D := fun x => (intsOf x).bind fun
  | [] => none
  | n :: r => some (.int (minI n r))
theorem fe_max1 {k : Nat} {f : EF} (c : Cc X k) (ha : FB X a f) (hm : X.mg "max" = none) (hg : Gl X "max" := by rfl) (he : starEach [a] X.env = (false, eval a X.env) :: starEach [] X.env := by rfl) : FE X (.Call (.Name "max" p) [a] [] pos) (eUn dMax f) :=
  fe_call1 (cr_maxA c.calm) (fun x d G H vx Q e s h q _ => by
    obtain ⟨ns, h1, h2⟩ := Option.bind_eq_some_iff.mp e
    obtain ⟨b, rfl, h3⟩ := intsOf_ok s h1 h
    split at h2
    · cases h2
    · rename_i n r
      cases h2
      refine ⟨b, n :: r, rfl, h3, Nat.succ_pos _, fun m hm1 hm2 => ?_⟩
      obtain ⟨k1, k2, k3⟩ := maxI_spec r n
      have e1 : m = maxI n r := by
        have a1 : maxI n r ≤ m := by
          rcases k1 with k1 | k1
          · rw [k1]; exact hm2 n List.mem_cons_self
          · exact hm2 _ (List.mem_cons_of_mem _ k1)
        have a2 : m ≤ maxI n r := by
          rcases List.mem_cons.mp hm1 with e | e
          · rw [e]; exact k2
          · exact k3 m e
        omega
      rw [e1]
      exact q _ (.int _)) hg hm (by decide +kernel) ha (by decide) (by decide) he
theorem fe_min1 {k : Nat} {f : EF} (c : Cc X k) (ha : FB X a f) (hm : X.mg "min" = none) (hg : Gl X "min" := by rfl) (he : starEach [a] X.env = (false, eval a X.env) :: starEach [] X.env := by rfl) : FE X (.Call (.Name "min" p) [a] [] pos) (eUn dMin f) :=
  fe_call1 (cr_minA c.calm) (fun x d G H vx Q e s h q _ => by
    obtain ⟨ns, h1, h2⟩ := Option.bind_eq_some_iff.mp e
    obtain ⟨b, rfl, h3⟩ := intsOf_ok s h1 h
    split at h2
    · cases h2
    · rename_i n r
      cases h2
      refine ⟨b, n :: r, rfl, h3, Nat.succ_pos _, fun m hm1 hm2 => ?_⟩
      obtain ⟨k1, k2, k3⟩ := minI_spec r n
      have e1 : m = minI n r := by
        have a1 : m ≤ minI n r := by
          rcases k1 with k1 | k1
          · rw [k1]; exact hm2 n List.mem_cons_self
          · exact hm2 _ (List.mem_cons_of_mem _ k1)
        have a2 : minI n r ≤ m := by
          rcases List.mem_cons.mp hm1 with e | e
          · rw [e]; exact k2
          · exact k3 m e
        omega
      rw [e1]
      exact q _ (.int _)) hg hm (by decide +kernel) ha (by decide) (by decide) he
def dMax2 := dI fun i j => .int (if j > i then j else i)
def dMin2 := dI fun i j => .int (if j < i then j else i)
theorem fe_max2 {k : Nat} {f f2 : EF} (c : Cc X k) (ha : FE X a f) (hb : FB X b f2) (hm : X.mg "max" = none) (hg : Gl X "max" := by rfl) (he : starEach [a, b] X.env = (false, eval a X.env) :: starEach [b] X.env := by rfl) (he2 : starEach [b] X.env = (false, eval b X.env) :: starEach [] X.env := by rfl) (hpl : (backTo pos (starEach [b] X.env)).any (·.1) = false := by rfl) : FE X (.Call (.Name "max" p) [a, b] [] pos) (eOp dMax2 f f2) :=
  fe_call2 (call_max2 c.calm) (fun x y d G H vx vy Q e s h1 h2 q _ => by
    unfold dMax2 dI at e
    split at e
    · cases e; cases h1; rw [vwInt h2]; exact ⟨_, _, rfl, q _ (.int _)⟩
    · cases e) hg hm (by decide +kernel) ha hb (by decide) (by decide) he he2 hpl
theorem fe_min2 {k : Nat} {f f2 : EF} (c : Cc X k) (ha : FE X a f) (hb : FB X b f2) (hm : X.mg "min" = none) (hg : Gl X "min" := by rfl) (he : starEach [a, b] X.env = (false, eval a X.env) :: starEach [b] X.env := by rfl) (he2 : starEach [b] X.env = (false, eval b X.env) :: starEach [] X.env := by rfl) (hpl : (backTo pos (starEach [b] X.env)).any (·.1) = false := by rfl) : FE X (.Call (.Name "min" p) [a, b] [] pos) (eOp dMin2 f f2) :=
  fe_call2 (call_min2 c.calm) (fun x y d G H vx vy Q e s h1 h2 q _ => by
    unfold dMin2 dI at e
    split at e
    · cases e; cases h1; rw [vwInt h2]; exact ⟨_, _, rfl, q _ (.int _)⟩
    · cases e) hg hm (by decide +kernel) ha hb (by decide) (by decide) he he2 hpl
def asBools : List D → Option (List Bool)
  | [] => some []
  | .bool i :: r => (asBools r).map (i :: ·)
  | _ :: _ => none
theorem asBools_ok {K : Frg} {G : Hp} : ∀ {ds : List D} {vs : List V} {ns : List Bool}, asBools ds = some ns → DvAll K G vs ds → vs = ns.map V.bl
  | [], _, _, e, h => by cases e; cases h; rfl
  | .bool i :: r, _, _, e, h => by
    obtain ⟨ms, h1, h2⟩ := Option.map_eq_some_iff.mp e
    subst h2
    cases h with
    | cons k1 k2 =>
      cases k1
      rw [asBools_ok h1 k2]
      rfl
  | .none :: _, _, _, e, _ => nomatch e
  | .int _ :: _, _, _, e, _ => nomatch e
  | .str _ :: _, _, _, e, _ => nomatch e
  | .list _ :: _, _, _, e, _ => nomatch e
  | .tuple _ :: _, _, _, e, _ => nomatch e
  | .dict _ :: _, _, _, e, _ => nomatch e
theorem asBools_map : ∀ ns : List Bool, asBools (ns.map PyData.bool) = some ns
  | [] => rfl
  | n :: r => by rw [List.map_cons]; unfold asBools; rw [asBools_map r]; rfl
def boolsOf : D → Option (List Bool)
  | .list xs => asBools xs
  | _ => none
theorem boolsOf_ok {K : Frg} {G H : Hp} (s : Same G H) {v : V} {d : D} {ns : List Bool} (e : boolsOf d = some ns) (h : Vw K G H v d) : ∃ a, v = .ref a ∧ SqL K H a (ns.map V.bl) := by
  unfold boolsOf at e
  split at e
  · obtain ⟨b, vs, rfl, h1, h2⟩ := vwLst s h
    rw [asBools_ok e h2] at h1
    exact ⟨b, rfl, SqL.of h1⟩
  · cases e
def dAll : D → Option D := fun x => (boolsOf x).map fun ns => .bool (ns.all fun b => b)
def dAny : D → Option D := fun x => (boolsOf x).map fun ns => .bool (ns.any fun b => b)
theorem fe_all {k : Nat} {f : EF} (c : Cc X k) (ha : FB X a f) (hm : X.mg "all" = none) (hg : Gl X "all" := by rfl) (he : starEach [a] X.env = (false, eval a X.env) :: starEach [] X.env := by rfl) : FE X (.Call (.Name "all" p) [a] [] pos) (eUn dAll f) :=
  fe_call1 (cr_all c.calm) (fun x d G H vx Q e s h q _ => by
    obtain ⟨ns, h1, h2⟩ := Option.map_eq_some_iff.mp e
    subst h2
    obtain ⟨b, rfl, h3⟩ := boolsOf_ok s h1 h
    exact ⟨b, ns, rfl, h3, q _ (.bl _)⟩) hg hm (by decide +kernel) ha (by decide) (by decide) he
theorem fe_any {k : Nat} {f : EF} (c : Cc X k) (ha : FB X a f) (hm : X.mg "any" = none) (hg : Gl X "any" := by rfl) (he : starEach [a] X.env = (false, eval a X.env) :: starEach [] X.env := by rfl) : FE X (.Call (.Name "any" p) [a] [] pos) (eUn dAny f) :=
  fe_call1 (cr_any c.calm) (fun x d G H vx Q e s h q _ => by
    obtain ⟨ns, h1, h2⟩ := Option.map_eq_some_iff.mp e
    subst h2
    obtain ⟨b, rfl, h3⟩ := boolsOf_ok s h1 h
    exact ⟨b, ns, rfl, h3, q _ (.bl _)⟩) hg hm (by decide +kernel) ha (by decide) (by decide) he
def dTuple : D → Option D
  | .list xs => some (.tuple xs)
  | .tuple xs => some (.tuple xs)
  | _ => none
theorem fe_tuple {f : EF} (ha : FB X a f) (hm : X.mg "tuple" = none) (hg : Gl X "tuple" := by rfl) (he : starEach [a] X.env = (false, eval a X.env) :: starEach [] X.env := by rfl) : FE X (.Call (.Name "tuple" p) [a] [] pos) (eUn dTuple f) :=
  fe_callT1 call_tuple_of (fun x d G H vx Q e s h q qn => by
    unfold dTuple at e
    split at e
    · cases e
      obtain ⟨b, vs, rfl, h1, h2⟩ := vwLst s h
      exact ⟨b, vs, rfl, .inl ⟨SqL.of h1, fun l hn => qn _ l _ hn (.tup (SqT.of upd_same) (dvMonoAll (sameUpd (s.free hn)) _ _ h2))⟩⟩
    · cases e
      obtain ⟨b, vs, rfl, h1, h2⟩ := vwTup h
      exact ⟨b, vs, rfl, .inr ⟨seqT s h1, q _ (.tup h1 h2)⟩⟩
    · cases e) hg hm (by decide +kernel) ha (by decide) (by decide) he
def dList : D → Option (List D)
  | .list xs => some xs
  | .tuple xs => some xs
  | _ => none
theorem fo_list {f : EF} (ha : FB X a f) (hm : X.mg "list" = none) (hg : Gl X "list" := by rfl) (he : starEach [a] X.env = (false, eval a X.env) :: starEach [] X.env := by rfl) : FO X (.Call (.Name "list" p) [a] [] pos) (oUn dList f) :=
  fo_callT1 call_list_of (fun x ds G H vx Q e s h qn => by
    unfold dList at e
    split at e
    · cases e
      obtain ⟨b, vs, rfl, h1, h2⟩ := vwLst s h
      exact ⟨b, vs, rfl, .inl (SqL.of h1), fun l hn => qn l vs hn h2⟩
    · cases e
      obtain ⟨b, vs, rfl, h1, h2⟩ := vwTup h
      exact ⟨b, vs, rfl, .inr (seqT s h1), fun l hn => qn l vs hn h2⟩
    · cases e) hg hm (by decide +kernel) ha (by decide) (by decide) he
def dInt : D → Option D
  | .int i => some (.int i)
  | .bool b => some (.int (if b then 1 else 0))
  | _ => none
theorem fe_intc {f : EF} (ha : FB X a f) (hm : X.mg "int" = none) (hg : Gl X "int" := by rfl) (he : starEach [a] X.env = (false, eval a X.env) :: starEach [] X.env := by rfl) : FE X (.Call (.Name "int" p) [a] [] pos) (eUn dInt f) :=
  fe_callT1 call_int1 (fun x d G H vx Q e s h q qn => by
    unfold dInt at e
    split at e
    · cases e; rw [vwInt h]; exact .inl ⟨_, rfl, q _ (.int _)⟩
    · cases e; rw [vwBl h]; exact .inr ⟨_, rfl, q _ (.int _)⟩
    · cases e) hg hm (by decide +kernel) ha (by decide) (by decide) he
def dAbs : D → Option D
  | .int i => some (.int (if i < 0 then -i else i))
  | _ => none
theorem fe_abs {f : EF} (ha : FB X a f) (hm : X.mg "abs" = none) (hg : Gl X "abs" := by rfl) (he : starEach [a] X.env = (false, eval a X.env) :: starEach [] X.env := by rfl) : FE X (.Call (.Name "abs" p) [a] [] pos) (eUn dAbs f) :=
  fe_call1 call_abs (fun x d G H vx Q e s h q qn => by
    unfold dAbs at e
    split at e
    · cases e; rw [vwInt h]; exact ⟨_, rfl, q _ (.int _)⟩
    · cases e) hg hm (by decide +kernel) ha (by decide) (by decide) he
/-! ### isinstance of a value and a written built-in type -/
def tyOf : D → Option String
  | .none => some "NoneType"
  | .bool _ => some "bool"
  | .int _ => some "int"
  | .str _ => some "str"
  | .list _ => some "list"
  | .tuple _ => some "tuple"
  | .dict _ => none
theorem tyOf_ok {K : Frg} {G H : Hp} (s : Same G H) {v : V} {d : D} {n : String} (e : tyOf d = some n) (h : Vw K G H v d) : TyX K H v (.type n) := by
  unfold tyOf at e
  split at e
  · cases e; rw [vwNon h]; exact .base .non
  · cases e; rw [vwBl h]; exact .base (.bl _)
  · cases e; rw [vwInt h]; exact .base (.int _)
  · cases e; rw [vwStr h]; exact .base (.str _)
  · cases e
    obtain ⟨b, vs, rfl, h1, h2⟩ := vwLst s h
    exact .base (.lst h1)
  · cases e
    obtain ⟨b, vs, rfl, h1, h2⟩ := vwTup h
    rcases seqT s h1 with (h1 | ⟨o, h1⟩) | ⟨o, its, n, h1, h3, _⟩
    · exact .base (.tup h1)
    · exact .fTuple h1
    · exact .kTuple h1 h3
  · cases e
/-- the type's name, and its answer for each kind -/
def dIsi (g : D → Bool) : D → Option D := fun d => match d with
  | .dict _ => none
  | d => some (.bool (g d))
def isTup : D → Bool
  | .tuple _ => true
  | _ => false
def isLst : D → Bool
  | .list _ => true
  | _ => false
def isIntB : D → Bool
  | .int _ => true
  | .bool _ => true
  | _ => false
def isBool : D → Bool
  | .bool _ => true
  | _ => false
def isStr : D → Bool
  | .str _ => true
  | _ => false
theorem fe_isi {g : D → Bool} {n : Str} {N : String} {f : EF} {p2 : Pos} (hk : ∀ d t, tyOf d = some t → kitB t N = some (g d)) (ha : FE X a f) (hm : X.mg "isinstance" = none) (hm2 : X.mg n = none) (hv2 : bootBuiltins n = some (.type N)) (hg : Gl X "isinstance" := by rfl) (hg2 : Gl X n := by rfl)
    (hn : n ≠ "__name__" := by decide) (hdb : (n == ("__debug__" : Str)) = false := by decide)
    (he : starEach [a, .Name n p2] X.env = (false, eval a X.env) :: starEach [.Name n p2] X.env := by rfl) (he2 : starEach [.Name n p2] X.env = (false, eval (.Name n p2) X.env) :: starEach [] X.env := by rfl) (hpl : (backTo pos (starEach [.Name n p2] X.env)).any (·.1) = false := by rfl) : FE X (.Call (.Name "isinstance" p) [a, .Name n p2] [] pos) (eUn (dIsi g) f) :=
  ⟨PE.imp (pe_callB call_isi hg hm (by decide +kernel) (pa_cons ha.pe (pa_cons (pe_bltn (v := .ty N) hg2 hm2 hv2 rfl hn hdb) pa_nil he2) he) (by decide) (by decide) he hpl) fun σ H Q ⟨z, d, e', rp, hs, hH, hf, q⟩ => by
    subst hs hH
    obtain ⟨⟨x, e1⟩, h1, hf⟩ := Option.bind_eq_some_iff.mp hf
    obtain ⟨d', h3, hf⟩ := Option.map_eq_some_iff.mp hf
    cases hf
    refine ⟨z, x, _, rp, rfl, rfl, h1, fun vx z1 m1 r1 s1 ee1 p1 => ?_⟩
    show rIsi X.K [vx, .ty N] z1.H Q
    have key : ∀ t, tyOf x = some t → d = .bool (g x) → rIsi X.K [vx, .ty N] z1.H Q := fun t ht hd => by
      subst hd
      exact ⟨vx, .ty N, .type t, .type N, g x, rfl, .ty N, tyOf_ok r1.same ht (.inl p1), kit_ty (hk x t ht), q _ z1 m1 r1 s1 ee1 (.bl _)⟩
    cases x with
    | dict _ => cases h3
    | none => exact key _ rfl (Option.some.inj h3).symm
    | bool _ => exact key _ rfl (Option.some.inj h3).symm
    | int _ => exact key _ rfl (Option.some.inj h3).symm
    | str _ => exact key _ rfl (Option.some.inj h3).symm
    | list _ => exact key _ rfl (Option.some.inj h3).symm
    | tuple _ => exact key _ rfl (Option.some.inj h3).symm⟩
theorem kit_tup : ∀ d t, tyOf d = some t → kitB t "tuple" = some (isTup d) := fun d t h => by
  cases d <;> first | (cases h; show kitB _ _ = some true; decide +kernel) | (cases h; show kitB _ _ = some false; decide +kernel) | cases h
theorem kit_lst : ∀ d t, tyOf d = some t → kitB t "list" = some (isLst d) := fun d t h => by
  cases d <;> first | (cases h; show kitB _ _ = some true; decide +kernel) | (cases h; show kitB _ _ = some false; decide +kernel) | cases h
theorem kit_int : ∀ d t, tyOf d = some t → kitB t "int" = some (isIntB d) := fun d t h => by
  cases d <;> first | (cases h; show kitB _ _ = some true; decide +kernel) | (cases h; show kitB _ _ = some false; decide +kernel) | cases h
theorem kit_bool : ∀ d t, tyOf d = some t → kitB t "bool" = some (isBool d) := fun d t h => by
  cases d <;> first | (cases h; show kitB _ _ = some true; decide +kernel) | (cases h; show kitB _ _ = some false; decide +kernel) | cases h
theorem kit_str : ∀ d t, tyOf d = some t → kitB t "str" = some (isStr d) := fun d t h => by
  cases d <;> first | (cases h; show kitB _ _ = some true; decide +kernel) | (cases h; show kitB _ _ = some false; decide +kernel) | cases h
end
end
end Fl

set_option Elab.async false
set_option linter.all false
set_option maxRecDepth 100000
set_option maxHeartbeats 1000000
set_option autoImplicit false
/-! FnIter: subscripts, slices, what is walked, targets, comprehensions. -/
namespace Fl
open PySem PySem.Spec PyProof.Rows L2
section
variable {X : Cx} {pos : Pos}
/-! ### subscripts -/
def dIx : D → D → Option D
  | .list xs, .int i => atI xs i
  | .tuple xs, .int i => atI xs i
  | .str z, .int i => if z.length ≤ sizeLine then (atI z.cps.toList i).map fun c => .str ⟨#[c]⟩ else none
  | _, _ => none
theorem atI_all {K : Frg} {G : Hp} {vs : List V} {ds : List D} {i : Int} {d : D} (h : DvAll K G vs ds) (e : atI ds i = some d) : ∃ v, atI vs i = some v ∧ Dv K G v d := by
  unfold atI at e ⊢
  obtain ⟨j, h1, h2⟩ := Option.bind_eq_some_iff.mp e
  rw [dvAll_len h, h1]
  exact dvAll_get h h2
theorem ix_run {K : Frg} {x y d : D} {G H : Hp} {vx vy : V} {Q : VK} (e : dIx x y = some d) (s : Same G H) (h1 : Vw K G H vx x) (h2 : Vw K G H vy y) (q : ∀ v, Dv K G v d → Q v H) : rIx K vx vy H Q := by
  unfold dIx at e
  split at e
  · obtain ⟨a, vs, rfl, k1, k2⟩ := vwLst s h1
    obtain ⟨v, e1, e2⟩ := atI_all k2 e
    exact .inl ⟨_, _, _, v, rfl, vwInt h2, SqL.of k1, e1, q v e2⟩
  · obtain ⟨a, vs, rfl, k1, k2⟩ := vwTup h1
    obtain ⟨v, e1, e2⟩ := atI_all k2 e
    exact .inr (.inl ⟨_, _, _, v, rfl, vwInt h2, seqT s k1, e1, q v e2⟩)
  · split at e
    · rename_i hz
      obtain ⟨c, e1, e2⟩ := Option.map_eq_some_iff.mp e
      subst e2
      exact .inr (.inr ⟨_, _, c, vwStr h1, vwInt h2, hz, e1, q _ (.str _)⟩)
    · cases e
  · cases e
theorem fe_ix {a b : Expr} {fa fb : EF} (ha : FE X a fa) (hb : FE X b fb) (hs : PlainIx b := by intro _ _; rfl) : FE X (.Subscript a b pos) (eOp dIx fa fb) :=
  ⟨PE.imp (pe_ix ix_seq ha.pe (fb_fe hb).pb hs) fun σ H Q h => op_run (r := rIx X.K) (fun x y d G H vx vy Q e s h1 h2 q _ => ix_run e s (.inl h1) h2 q) h⟩
theorem vwSl {K : Frg} {G H : Hp} {v : V} {F : List Addr} {sl : Sl} {d : D} (h : SlOk K G H (some v) F sl) (e : vw sl = some d) : Vw K G H v d := by
  cases sl with
  | va dd => cases e; obtain ⟨_, w, e2, pw⟩ := h; cases e2; exact .inl pw
  | li xs => cases e; obtain ⟨a, vs, e2, k2, k3, k4, k5⟩ := h; cases e2; exact .inr ⟨a, vs, xs, rfl, rfl, k4, k5⟩
  | no => cases e
  | di _ => cases e
  | dt _ => cases e
  | ow _ => cases e
theorem slHas {K : Frg} {G H : Hp} {v : Option V} {F : List Addr} {sl : Sl} {d : D} (h : SlOk K G H v F sl) (e : vw sl = some d) : ∃ w, v = some w := by
  cases sl with
  | va dd => obtain ⟨_, w, e2, _⟩ := h; exact ⟨w, e2⟩
  | li xs => obtain ⟨a, vs, e2, _⟩ := h; exact ⟨_, e2⟩
  | no => cases e
  | di _ => cases e
  | dt _ => cases e
  | ow _ => cases e
/-- a name's value now, and what is to be read at it later in the same expression -/
theorem Rp.has {K : Frg} {z : Z} (r : Rp K z) {i : Nat} {x : D} (h : z.e[i]?.bind vw = some x) : ∃ v, z.s[i]? = some (some v) ∧ Vw K z.G z.H v x := by
  obtain ⟨sl, h4, h5⟩ := Option.bind_eq_some_iff.mp h
  have so := r.ok i sl h4
  obtain ⟨w, hw⟩ := slHas so h5
  rw [hw] at so
  exact ⟨w, joinSome hw, vwSl so h5⟩
/-- an own list's (or any name's) item: the index first, then what stands there -/
def eIxO (i : Nat) (fb : EF) : EF := fun e => (e[i]?.bind vw).bind fun _ => (fb e).bind fun q => (q.2[i]?.bind vw).bind fun x => (dIx x q.1).map fun d => (d, q.2)
theorem fe_ixo {i : Nat} {x : Str} {p : Pos} {b : Expr} {fb : EF} (hN : X.N[i]? = some x) (hv : Vis X.env.scope x) (hb : FE X b fb) (hs : PlainIx b := by intro _ _; rfl) (hd : (x == ("__debug__" : Str)) = false := by decide) (hcd : (x == ("__classdict__" : Str)) = false := by decide) : FE X (.Subscript (.Name x p) b pos) (eIxO i fb) :=
  ⟨PE.imp (pe_ix ix_seq (pe_var hN hv hd hcd) hb.pe hs) fun σ H Q ⟨z, d, e', r, hs, hH, hf, q⟩ => by
    subst hs hH
    obtain ⟨_, h0, hf⟩ := Option.bind_eq_some_iff.mp hf
    obtain ⟨⟨k, e1⟩, h1, hf⟩ := Option.bind_eq_some_iff.mp hf
    obtain ⟨xd, h2, hf⟩ := Option.bind_eq_some_iff.mp hf
    obtain ⟨d', h3, hf⟩ := Option.map_eq_some_iff.mp hf
    cases hf
    obtain ⟨v, hv, _⟩ := r.has h0
    refine ⟨v, hv, z, k, _, r, rfl, rfl, h1, fun vk y m r2 s2 ee p => ?_⟩
    obtain ⟨v', hv', pv⟩ := r2.has (i := i) (x := xd) (by rw [ee]; exact h2)
    rw [s2, hv] at hv'
    cases hv'
    exact ix_run h3 r2.same pv (.inl p) fun w pw => q w y m r2 s2 ee pw⟩
/-! ### slices -/
abbrev PF := Ev → Option (Option Int × Ev)
def tP (K : Frg) (f : PF) : TO := fun σ H Q => ∃ z d e', Rp K z ∧ z.s = σ ∧ z.H = H ∧ f z.e = some (d, e') ∧ ∀ y, Mv z y → Rp K y → y.s = σ → y.e = e' → Q d y.H
structure FP (X : Cx) (e : Option Expr) (f : PF) : Prop where
  po : PO X e (tP X.K f)
theorem PO.imp {e : Option Expr} {t t' : TO} (h : PO X e t) (k : ∀ σ H Q, t' σ H Q → t σ H Q) : PO X e t' := ⟨fun pins s σ H Q I q => h.run pins s σ H Q I (k _ _ _ q)⟩
def pNo : PF := fun e => some (none, e)
def pSo (f : EF) : PF := fun e => (f e).bind fun p => match p.1 with
  | .int i => some (some i, p.2)
  | _ => none
theorem fp_no : FP X none pNo := ⟨PO.imp po_none fun σ H Q ⟨z, d, e', rp, hs, hH, hf, q⟩ => by
  subst hs hH
  cases hf
  exact q z (Mv.refl z) rp rfl rfl⟩
theorem fp_so {a : Expr} {f : EF} (h : FE X a f) : FP X (some a) (pSo f) := ⟨PO.imp (po_some h.pe) fun σ H Q ⟨z, d, e', rp, hs, hH, hf, q⟩ => by
  subst hs hH
  obtain ⟨⟨x, e1⟩, h1, hf⟩ := Option.bind_eq_some_iff.mp hf
  split at hf
  · rename_i i hx
    obtain rfl : x = _ := hx
    cases hf
    refine ⟨z, _, _, rp, rfl, rfl, h1, fun v y m r s2 ee p => ?_⟩
    cases p
    exact ⟨_, rfl, q y m r s2 ee⟩
  · cases hf⟩
/-- the items of xs[lo:hi] -/
def cutD {α : Type} (xs : List α) (lo hi : Option Int) : List α := (xs.drop (HT.sIx xs.length 0 lo)).take (HT.sIx xs.length xs.length hi - HT.sIx xs.length 0 lo)
theorem dvAll_cut {K : Frg} {G : Hp} {vs : List V} {ds : List D} (h : DvAll K G vs ds) (lo hi : Option Int) : DvAll K G (cutV vs lo hi) (cutD ds lo hi) := by
  unfold cutV cutD
  rw [dvAll_len h]
  exact dvAll_take _ (dvAll_drop _ h)
def dSl (lo hi : Option Int) : D → Option D
  | .list xs => some (.list (cutD xs lo hi))
  | .tuple xs => some (.tuple (cutD xs lo hi))
  | .str z => if z.length ≤ sizeLine then some (.str (cutS z lo hi)) else none
  | _ => none
def eSl (f : EF) (g h : PF) : EF := fun e => (f e).bind fun p => (g p.2).bind fun q => (h q.2).bind fun r => (dSl q.1 r.1 p.1).map fun d => (d, r.2)
theorem cut_all {α : Type} {xs : List α} {lo hi : Option Int} (h : HT.sIx xs.length 0 lo = 0 ∧ HT.sIx xs.length xs.length hi = xs.length) : cutD xs lo hi = xs := by
  unfold cutD
  rw [h.1, h.2]
  simp
theorem fe_sl {a : Expr} {lo hi : Option Expr} {p2 : Pos} {f : EF} {g h : PF} (ha : FE X a f) (hl : FP X lo g) (hh : FP X hi h) : FE X (.Subscript a (.Slice lo hi none p2) pos) (eSl f g h) :=
  ⟨PE.imp (pe_slice ((sl_list.or sl_tupA).or sl_str) ha.pe hl.po hh.po) fun σ H Q ⟨z, d, e', rp, hs, hH, hf, q⟩ => by
    subst hs hH
    obtain ⟨⟨x, e1⟩, h1, hf⟩ := Option.bind_eq_some_iff.mp hf
    obtain ⟨⟨l, e2⟩, h2, hf⟩ := Option.bind_eq_some_iff.mp hf
    obtain ⟨⟨u, e3⟩, h3, hf⟩ := Option.bind_eq_some_iff.mp hf
    obtain ⟨d', h4, hf⟩ := Option.map_eq_some_iff.mp hf
    cases hf
    refine ⟨z, x, e1, rp, rfl, rfl, h1, fun v y m r s2 ee p => ⟨y, l, e2, r, s2, rfl, by rw [ee]; exact h2, fun y2 m2 r2 s3 ee2 => ⟨y2, u, _, r2, s3, rfl, by rw [ee2]; exact h3, fun y3 m3 r3 s4 ee3 => ?_⟩⟩⟩
    have p3 := dvMono (m2.trans m3).g _ _ p
    have mm := (m.trans m2).trans m3
    have fin : ∀ v, Dv X.K y3.G v d → Q v y3.H := fun v pv => q v y3 mm r3 s4 ee3 pv
    have finN : ∀ v p o, y3.H p = none → Dv X.K (upd y3.G p o) v d → Q v (upd y3.H p o) := fun v p o hn pv => by
      obtain ⟨r5, m5⟩ := r3.add (o := o) hn
      exact q v (y3.add p o) (mm.trans m5) r5 s4 ee3 pv
    cases x with
    | list xs =>
      cases h4
      obtain ⟨a, vs, rfl, k1, k2⟩ := vwLst (H := y3.H) r3.same (.inl p3)
      exact .inl (.inl ⟨_, _, rfl, SqL.of k1, fun p hn => finN _ p _ hn (.lst upd_same (dvMonoAll (sameUpd (r3.same.free hn)) _ _ (dvAll_cut k2 _ _)))⟩)
    | tuple xs =>
      cases h4
      obtain ⟨a, vs, rfl, k1, k2⟩ := vwTup (H := y3.H) (.inl p3)
      refine .inl (.inr ⟨a, vs, rfl, seqT r3.same k1, fun hw => ?_, fun hw p hn => finN _ p _ hn (.tup (SqT.of upd_same) (dvMonoAll (sameUpd (r3.same.free hn)) _ _ (dvAll_cut k2 _ _)))⟩)
      refine fin _ ?_
      rw [dvAll_len k2] at hw
      rw [cut_all hw]
      exact .tup k1 k2
    | str z =>
      have h4' : (if z.length ≤ sizeLine then some (PyData.str (cutS z l u)) else none) = some d := h4
      split at h4'
      · rename_i hz
        cases h4'
        exact .inr ⟨_, vwStr (H := y3.H) (.inl p3), hz, fin _ (.str _)⟩
      · cases h4'
    | none => cases h4
    | bool _ => cases h4
    | int _ => cases h4
    | dict _ => cases h4⟩
end
end Fl

set_option Elab.async false
set_option linter.all false
set_option maxRecDepth 100000
set_option maxHeartbeats 1000000
set_option autoImplicit false
/-! FnComp: targets, what is walked, comprehensions. -/
namespace Fl
open PySem PySem.Spec PyProof.Rows L2
/-! ### targets -/
abbrev GF := D → Ev → Option Ev
/-- a target stores a value; ws: the slots it writes -/
def tG (K : Frg) (t : GF) (ws : List Nat) : TG := fun v σ H Q => ∃ z d e', Rp K z ∧ z.s = σ ∧ z.H = H ∧ Dv K z.G v d ∧ t d z.e = some e' ∧ ∀ y, Mv z y → Rp K y → y.e = e' → y.H = z.H → y.G = z.G → (∀ j : Nat, j ∉ ws → y.s[j]? = z.s[j]?) → Q y.s y.H
def tGs (K : Frg) (t : List D → Ev → Option Ev) (ws : List Nat) : TGs := fun vs σ H Q => ∃ z ds e', Rp K z ∧ z.s = σ ∧ z.H = H ∧ DvAll K z.G vs ds ∧ t ds z.e = some e' ∧ ∀ y, Mv z y → Rp K y → y.e = e' → y.H = z.H → y.G = z.G → (∀ j : Nat, j ∉ ws → y.s[j]? = z.s[j]?) → Q y.s y.H
structure FG (X : Cx) (e : Expr) (t : GF) (ws : List Nat) : Prop where
  pg : PG X e (tG X.K t ws)
structure FGs (X : Cx) (es : List Expr) (t : List D → Ev → Option Ev) (ws : List Nat) : Prop where
  pgs : PGs X es (tGs X.K t ws)
theorem PG.imp {X : Cx} {e : Expr} {t t' : TG} (h : PG X e t) (k : ∀ v σ H Q, t' v σ H Q → t v σ H Q) : PG X e t' := ⟨fun pins s σ H v u Q I r q => h.run pins s σ H v u Q I r (k _ _ _ _ q)⟩
theorem PGs.imp {X : Cx} {e : List Expr} {t t' : TGs} (h : PGs X e t) (k : ∀ v σ H Q, t' v σ H Q → t v σ H Q) : PGs X e t' := ⟨fun pins s σ H v u Q I r q => h.run pins s σ H v u Q I r (k _ _ _ _ q)⟩
/-- a slot gets a new content: σ gets v, e gets sl, whose footprint is Fr -/
def Z.put (z : Z) (i : Nat) (v : V) (sl : Sl) (Fr : List Addr) : Z := { z with s := z.s.set i (some v), e := z.e.set i sl, F := fun j => if j = i then (if i < z.e.length then Fr else []) else z.F j }
theorem Rp.put {K : Frg} {z : Z} (r : Rp K z) {i : Nat} {v : V} {sl : Sl} {Fr : List Addr} (ok : SlOk K z.G z.H (some v) Fr sl) (fr : ∀ a ∈ Fr, ∀ j, j ≠ i → a ∉ z.F j) : Rp K (z.put i v sl Fr) := by
  refine ⟨r.same, ?_, fun j s h => ?_, fun j h => ?_, fun j k a hjk hj hk => ?_⟩
  · show (z.s.set i (some v)).length = (z.e.set i sl).length
    rw [List.length_set, List.length_set]; exact r.len
  · have h' : (z.e.set i sl)[j]? = some s := h
    show SlOk K z.G z.H (((z.s.set i (some v))[j]?).join) (if j = i then (if i < z.e.length then Fr else []) else z.F j) s
    by_cases hji : j = i
    · subst hji
      have hl : j < z.e.length := by
        have := (List.getElem?_eq_some_iff.mp h').1
        rw [List.length_set] at this; exact this
      rw [List.getElem?_set_self hl] at h'
      cases h'
      rw [if_pos rfl, if_pos hl, List.getElem?_set_self (by rw [r.len]; exact hl)]
      exact ok
    · rw [if_neg hji, List.getElem?_set_ne (Ne.symm hji)]
      rw [List.getElem?_set_ne (Ne.symm hji)] at h'
      exact r.ok j s h'
  · have h' : z.e.length ≤ j := by
      have : (z.e.set i sl).length ≤ j := h
      rw [List.length_set] at this; exact this
    show (if j = i then (if i < z.e.length then Fr else []) else z.F j) = []
    by_cases hji : j = i
    · subst hji; rw [if_pos rfl, if_neg (by omega)]
    · rw [if_neg hji]; exact r.out j h'
  · have hj' : a ∈ (if j = i then (if i < z.e.length then Fr else []) else z.F j) := hj
    have hk' : a ∈ (if k = i then (if i < z.e.length then Fr else []) else z.F k) := hk
    by_cases h1 : j = i
    · rw [if_pos h1] at hj'
      rw [if_neg (fun h2 => hjk (h1.trans h2.symm))] at hk'
      split at hj'
      · exact fr a hj' k (fun h2 => hjk (h1.trans h2.symm)) hk'
      · cases hj'
    · rw [if_neg h1] at hj'
      by_cases h2 : k = i
      · rw [if_pos h2] at hk'
        split at hk'
        · exact fr a hk' j h1 hj'
        · cases hk'
      · rw [if_neg h2] at hk'
        exact r.sep j k a hjk hj' hk'
/-- .. seen from an earlier state, where the new footprint is fresh -/
theorem Mv.put {z0 z : Z} (m : Mv z0 z) {i : Nat} {v : V} {sl : Sl} {Fr : List Addr} (no : isOw z.e[i]? = false) (fr : ∀ a ∈ Fr, a ∈ z0.F i ∨ z0.H a = none) : Mv z0 (z.put i v sl Fr) := by
  refine ⟨m.out, m.dom, m.g, m.gn, fun j a h => ?_, fun j h => ?_, (List.length_set ..).trans m.ln⟩
  · have h' : a ∈ (if j = i then (if i < z.e.length then Fr else []) else z.F j) := h
    by_cases hji : j = i
    · rw [if_pos hji] at h'
      split at h'
      · rw [hji]; exact fr a h'
      · cases h'
    · rw [if_neg hji] at h'
      exact m.fn j a h'
  · obtain ⟨h1, h2⟩ := m.kp j h
    have hji : j ≠ i := fun e => by rw [e, no] at h1; cases h1
    show isOw (z.e.set i sl)[j]? = true ∧ (z.s.set i (some v))[j]? = z0.s[j]?
    rw [List.getElem?_set_ne (Ne.symm hji), List.getElem?_set_ne (Ne.symm hji)]
    exact ⟨h1, h2⟩
def gNm (i : Nat) : GF := fun d e => if isOw e[i]? then none else some (e.set i (.va d))
theorem fg_name {X : Cx} {pos : Pos} {i : Nat} {x : Str} (hN : X.N.Nodup) (hi : X.N[i]? = some x) (hx : Loc X.env.scope x) (hf : X.fn x = true ∨ X.env.scope.names.lookup x = some .local := by first | exact .inl rfl | exact .inr rfl | assumption) : FG X (.Name x pos) (gNm i) [i] :=
  ⟨PG.imp (pg_name hN hi hx hf) fun v σ H Q ⟨z, d, e', rp, hs, hH, hd, ht, q⟩ => by
    subst hs hH
    unfold gNm at ht
    split at ht
    · cases ht
    · rename_i no
      cases ht
      refine q (z.put i v (.va d) []) ((Mv.refl z).put (by simpa using no) fun _ h => nomatch h) (rp.put ⟨rfl, v, rfl, hd⟩ fun _ h => nomatch h) rfl rfl rfl fun j hj => ?_
      show (z.s.set i (some v))[j]? = z.s[j]?
      exact List.getElem?_set_ne (fun e => hj (by simp [e]))⟩
def gsNil : List D → Ev → Option Ev := fun ds e => match ds with
  | [] => some e
  | _ :: _ => none
def gsCons (t : GF) (u : List D → Ev → Option Ev) : List D → Ev → Option Ev := fun ds e => match ds with
  | [] => none
  | d :: r => (t d e).bind fun e1 => u r e1
section
variable {X : Cx} {pos : Pos}
theorem fgs_nil : FGs X [] gsNil [] := ⟨PGs.imp pgs_nil fun vs σ H Q ⟨z, ds, e', rp, hs, hH, hd, ht, q⟩ => by
  subst hs hH
  cases hd with
  | nil => cases ht; exact ⟨rfl, q z (Mv.refl z) rp rfl rfl rfl fun _ _ => rfl⟩
  | cons _ _ => cases ht⟩
theorem fgs_cons {a : Expr} {es : List Expr} {t : GF} {u : List D → Ev → Option Ev} {w1 w2 : List Nat} (h1 : FG X a t w1) (h2 : FGs X es u w2)
    (hs : (assignEach (a :: es) X.env).map (·.2) = assign a X.env :: (assignEach es X.env).map (·.2) := by rfl) : FGs X (a :: es) (gsCons t u) (w1 ++ w2) :=
  ⟨PGs.imp (pgs_cons h1.pg h2.pgs hs) fun vs σ H Q ⟨z, ds, e', rp, hs, hH, hd, ht, q⟩ => by
    subst hs hH
    cases hd with
    | nil => cases ht
    | cons k1 k2 =>
      obtain ⟨e1, t1, t2⟩ := Option.bind_eq_some_iff.mp ht
      refine ⟨_, _, rfl, z, _, e1, rp, rfl, rfl, k1, t1, fun y m r ee eH eG es => ?_⟩
      refine ⟨y, _, e', r, rfl, rfl, by rw [eG]; exact k2, by rw [ee]; exact t2, fun y2 m2 r2 ee2 eH2 eG2 es2 => ?_⟩
      refine q y2 (m.trans m2) r2 ee2 (eH2.trans eH) (eG2.trans eG) fun j hj => ?_
      rw [es2 j fun h => hj (List.mem_append_right _ h), es j fun h => hj (List.mem_append_left _ h)]⟩
def gTupF (t : List D → Ev → Option Ev) (n : Nat) : GF := fun d e => match d with
  | .tuple ds => if ds.length = n then t ds e else none
  | _ => none
theorem fg_tup {es : List Expr} {k n : Nat} {t : List D → Ev → Option Ev} {ws : List Nat} (hc : X.calm = true) (h : FGs X es t ws) (hn : (assignEach es X.env).length = n := by rfl) (hst : (assignEach es X.env).findIdx? (·.1) = none := by rfl) : FG X (.Tuple es k pos) (gTupF t n) ws :=
  ⟨PG.imp (pg_tup hc h.pgs hn hst) fun v σ H Q ⟨z, d, e', rp, hs, hH, hd, ht, q⟩ => by
    subst hs hH
    unfold gTupF at ht
    cases d with
    | tuple ds =>
      have ht' : (if ds.length = n then t ds z.e else none) = some e' := ht
      split at ht'
      · rename_i hl
        cases hd with
        | tup k1 k2 =>
          exact ⟨_, _, rfl, seqT rp.same k1, (dvAll_len k2).trans hl, z, ds, e', rp, rfl, rfl, k2, ht', q⟩
      · cases ht'
    | none => cases ht
    | bool _ => cases ht
    | int _ => cases ht
    | str _ => cases ht
    | list _ => cases ht
    | dict _ => cases ht⟩
end
/-! ### what is walked -/
/-- it gives the items ds one by one as long as G stands -/
def Itr (K : Frg) (J : It) (G : Hp) (ds : List D) : Prop := ∃ Gd Y, Walk J ds.length Gd Y ∧ (∀ H, Same G H → Gd H) ∧ ∀ i H x H', i < ds.length → Same G H → Y i H x H' →
  (H' = H ∧ ∃ d, ds[i]? = some d ∧ Dv K G x d) ∨ (∃ T vs es, x = .ref T ∧ H T = none ∧ H' = upd H T (.tup vs) ∧ ds[i]? = some (.tuple es) ∧ DvAll K G vs es)
def tI (K : Frg) (g : LF) : TI := fun σ H R => ∃ z ds e', Rp K z ∧ z.s = σ ∧ z.H = H ∧ g z.e = some (ds, e') ∧ ∀ J y, Mv z y → Rp K y → y.s = σ → y.e = e' → Itr K J y.G ds → R J y.H
structure FI (X : Cx) (tg it : Expr) (g : LF) : Prop where
  pi : PI X tg it (tI X.K g)
theorem PI.imp {X : Cx} {tg it : Expr} {t t' : TI} (h : PI X tg it t) (k : ∀ σ H R, t' σ H R → t σ H R) : PI X tg it t' := ⟨fun pins s σ H R I q => h.run pins s σ H R I (k _ _ _ q)⟩
theorem Itr.mono {K : Frg} {J : It} {G G' : Hp} {ds : List D} (h : Itr K J G ds) (s : Same G G') : Itr K J G' ds := by
  obtain ⟨Gd, Y, w, h1, h2⟩ := h
  refine ⟨Gd, Y, w, fun H k => h1 H (s.trans k), fun i H x H' hi k y => ?_⟩
  rcases h2 i H x H' hi (s.trans k) y with ⟨e, d, h3, h4⟩ | ⟨T, vs, es, h3, h4, h5, h6, h7⟩
  · exact .inl ⟨e, d, h3, dvMono s _ _ h4⟩
  · exact .inr ⟨T, vs, es, h3, h4, h5, h6, dvMonoAll s _ _ h7⟩
theorem itr_list {K : Frg} {G : Hp} {a : Addr} {vs : List V} {ds : List D} (h : G a = some (.lst vs)) (hd : DvAll K G vs ds) : Itr K (Itl K a) G ds := by
  refine ⟨_, _, by rw [← dvAll_len hd]; exact walk_list (K := K) (a := a) (xs := vs), fun H k => SqL.of (k _ _ h), fun i H x H' hi k y => ?_⟩
  obtain ⟨e, q⟩ := y
  obtain ⟨d, h1, h2⟩ := dvAll_getV hd q
  exact .inl ⟨e, d, h1, h2⟩
theorem itr_tup {K : Frg} {G : Hp} {a : Addr} {vs : List V} {ds : List D} (h : SqT K G a vs) (hd : DvAll K G vs ds) : Itr K (Itt K a) G ds := by
  refine ⟨_, _, by rw [← dvAll_len hd]; exact walk_tup (K := K) (a := a) (xs := vs), fun H k => seqT k h, fun i H x H' hi k y => ?_⟩
  obtain ⟨e, q⟩ := y
  obtain ⟨d, h1, h2⟩ := dvAll_getV hd q
  exact .inl ⟨e, d, h1, h2⟩
/-- lo, lo + 1, .. (n of them) -/
def rngD (lo : Int) (n : Nat) : List D := (List.range n).map fun i => .int (lo + (i : Nat))
theorem rngD_get {lo : Int} {n i : Nat} (h : i < n) : (rngD lo n)[i]? = some (.int (lo + (i : Nat))) := by
  unfold rngD; rw [List.getElem?_map, List.getElem?_range h]; rfl
theorem rngD_len (lo : Int) (n : Nat) : (rngD lo n).length = n := by unfold rngD; rw [List.length_map, List.length_range]
theorem itr_rng {K : Frg} {G : Hp} {lo : Int} {n : Nat} : Itr K (L2.Itr lo n) G (rngD lo n) := by
  refine ⟨_, _, by rw [rngD_len]; exact walk_range, fun _ _ => trivial, fun i H x H' hi k y => ?_⟩
  obtain ⟨e, q⟩ := y
  rw [rngD_len] at hi
  refine .inl ⟨e, _, rngD_get hi, ?_⟩
  rw [q]
  exact .int _
section
variable {X : Cx} {pos : Pos} {tg : Expr}
/-- a list's items (an expression that gives a list), a tuple's -/
def lOfL (f : EF) : LF := fun e => (f e).bind fun p => match p.1 with
  | .list xs => some (xs, p.2)
  | _ => none
def lOfT (f : EF) : LF := fun e => (f e).bind fun p => match p.1 with
  | .tuple xs => some (xs, p.2)
  | _ => none
theorem fi_list {a : Expr} {f : EF} (h : FE X a f) : FI X tg a (lOfL f) := ⟨PI.imp (pi_list h.pe) fun σ H R ⟨z, ds, e', rp, hs, hH, hf, q⟩ => by
  subst hs hH
  obtain ⟨⟨x, e1⟩, h1, hf⟩ := Option.bind_eq_some_iff.mp hf
  split at hf
  · rename_i xs hx
    obtain rfl : x = _ := hx
    cases hf
    refine ⟨z, _, _, rp, rfl, rfl, h1, fun v y m r s2 ee p => ?_⟩
    cases p with
    | lst k1 k2 => exact ⟨_, rfl, ⟨_, SqL.of (r.same _ _ k1)⟩, q _ y m r s2 ee (itr_list k1 k2)⟩
  · cases hf⟩
theorem fi_tup {a : Expr} {f : EF} (h : FE X a f) : FI X tg a (lOfT f) := ⟨PI.imp (pi_tup h.pe) fun σ H R ⟨z, ds, e', rp, hs, hH, hf, q⟩ => by
  subst hs hH
  obtain ⟨⟨x, e1⟩, h1, hf⟩ := Option.bind_eq_some_iff.mp hf
  split at hf
  · rename_i xs hx
    obtain rfl : x = _ := hx
    cases hf
    refine ⟨z, _, _, rp, rfl, rfl, h1, fun v y m r s2 ee p => ?_⟩
    cases p with
    | tup k1 k2 => exact ⟨_, rfl, ⟨_, seqT r.same k1⟩, q _ y m r s2 ee (itr_tup k1 k2)⟩
  · cases hf⟩
theorem iter_or {a : Expr} {t1 t2 : TI} (h1 : PI X tg a t1) (h2 : PI X tg a t2) : PI X tg a (fun σ H R => t1 σ H R ∨ t2 σ H R) := ⟨fun pins s σ H R I q => q.elim (h1.run pins s σ H R I) (h2.run pins s σ H R I)⟩
/-- .. of either; which one must be known ahead: by the function's value -/
def lOf (f : EF) : LF := fun e => (f e).bind fun p => match p.1 with
  | .tuple xs => some (xs, p.2)
  | .list xs => some (xs, p.2)
  | _ => none
theorem fi_seq {a : Expr} {f : EF} (h : FE X a f) : FI X tg a (lOf f) := ⟨PI.imp (iter_or (fi_list (tg := tg) h).pi (fi_tup (tg := tg) h).pi) fun σ H R ⟨z, ds, e', rp, hs, hH, hf, q⟩ => by
  subst hs hH
  obtain ⟨⟨x, e1⟩, h1, hf⟩ := Option.bind_eq_some_iff.mp hf
  cases x with
  | tuple xs =>
    have e2 : some (xs, e1) = some (ds, e') := hf
    cases e2
    exact .inr ⟨z, _, _, rp, rfl, rfl, by unfold lOfT; rw [h1]; rfl, q⟩
  | list xs =>
    have e2 : some (xs, e1) = some (ds, e') := hf
    cases e2
    exact .inl ⟨z, _, _, rp, rfl, rfl, by unfold lOfL; rw [h1]; rfl, q⟩
  | none => cases hf
  | bool _ => cases hf
  | int _ => cases hf
  | str _ => cases hf
  | dict _ => cases hf⟩
def lRng1 (f : EF) : LF := fun e => (f e).bind fun p => match p.1 with
  | .int j => if -(2 ^ 62) ≤ j ∧ j < 2 ^ 62 then some (rngD 0 j.toNat, p.2) else none
  | _ => none
theorem fi_rng1 {a : Expr} {f : EF} {p : Pos} (h : FE X a f) (hm : X.mg "range" = none) (hg : Gl X "range" := by rfl) (hs : starEach [a] X.env = [(false, eval a X.env)] := by rfl) (hs2 : starEach [a] X.env = (false, eval a X.env) :: starEach [] X.env := by rfl) : FI X tg (.Call (.Name "range" p) [a] [] pos) (lRng1 f) :=
  ⟨PI.imp (pi_range1 hg hm (pa_cons h.pe pa_nil hs2) hs) fun σ H R ⟨z, ds, e', rp, hz, hH, hf, q⟩ => by
    subst hz hH
    obtain ⟨⟨x, e1⟩, h1, hf⟩ := Option.bind_eq_some_iff.mp hf
    cases x with
    | int j =>
      have hf' : (if -(2 ^ 62) ≤ j ∧ j < 2 ^ 62 then some (rngD 0 j.toNat, e1) else none) = some (ds, e') := hf
      split at hf'
      · rename_i hc
        cases hf'
        refine ⟨z, _, _, rp, rfl, rfl, h1, fun v y m r s2 ee p => ?_⟩
        cases p
        exact ⟨j, rfl, hc.1, hc.2, q _ y m r s2 ee itr_rng⟩
      · cases hf'
    | tuple _ => cases hf
    | list _ => cases hf
    | none => cases hf
    | bool _ => cases hf
    | str _ => cases hf
    | dict _ => cases hf⟩
def lRng2 (f g : EF) : LF := fun e => (f e).bind fun p => (g p.2).bind fun q => match p.1, q.1 with
  | .int i, .int j => if (-(2 ^ 62) ≤ i ∧ i < 2 ^ 62) ∧ -(2 ^ 62) ≤ j ∧ j < 2 ^ 62 then some (rngD i (j - i).toNat, q.2) else none
  | _, _ => none
theorem fi_rng2 {a b : Expr} {f g : EF} {p : Pos} (h : FE X a f) (k : FE X b g) (hm : X.mg "range" = none) (hg : Gl X "range" := by rfl) (hs : starEach [a, b] X.env = [(false, eval a X.env), (false, eval b X.env)] := by rfl) (hs2 : starEach [b] X.env = [(false, eval b X.env)] := by rfl) (hs3 : starEach [a, b] X.env = (false, eval a X.env) :: starEach [b] X.env := by rfl) (hs4 : starEach [b] X.env = (false, eval b X.env) :: starEach [] X.env := by rfl) : FI X tg (.Call (.Name "range" p) [a, b] [] pos) (lRng2 f g) :=
  ⟨PI.imp (pi_range2 hg hm (pa_cons h.pe (pa_cons k.pe pa_nil hs4) hs3) hs hs2) fun σ H R ⟨z, ds, e', rp, hz, hH, hf, q⟩ => by
    subst hz hH
    obtain ⟨⟨x, e1⟩, h1, hf⟩ := Option.bind_eq_some_iff.mp hf
    obtain ⟨⟨x2, e2⟩, h2, hf⟩ := Option.bind_eq_some_iff.mp hf
    split at hf
    · rename_i i j hx hx2
      obtain rfl : x = _ := hx
      obtain rfl : x2 = _ := hx2
      split at hf
      · rename_i hc
        cases hf
        refine ⟨z, _, _, rp, rfl, rfl, h1, fun v y m r s2 ee p => ⟨y, _, _, r, s2, rfl, by rw [ee]; exact h2, fun v2 y2 m2 r2 s3 ee2 p2 => ?_⟩⟩
        cases p; cases p2
        exact ⟨i, j, rfl, ⟨hc.1.1, hc.1.2, hc.2.1, hc.2.2⟩, q _ y2 (m.trans m2) r2 s3 ee2 itr_rng⟩
      · cases hf
    · cases hf⟩
end
end Fl

set_option Elab.async false
set_option linter.all false
set_option maxRecDepth 100000
set_option maxHeartbeats 1000000
set_option autoImplicit false
/-! FnLc: list comprehensions. -/
namespace Fl
open PySem PySem.Spec PyProof.Rows L2
/-- slots forgotten -/
def wipeE (e : Ev) : List Nat → Ev
  | [] => e
  | v :: vs => (wipeE e vs).set v .no
theorem wipeE_len (e : Ev) : ∀ vs : List Nat, (wipeE e vs).length = e.length
  | [] => rfl
  | v :: vs => by unfold wipeE; rw [List.length_set, wipeE_len e vs]
theorem wipeE_get (e : Ev) : ∀ (vs : List Nat) (i : Nat), (wipeE e vs)[i]? = if i ∈ vs ∧ i < e.length then some .no else e[i]?
  | [], i => by rw [if_neg (fun h => nomatch h.1)]; rfl
  | v :: vs, i => by
    unfold wipeE
    by_cases hv : v = i
    · subst hv
      by_cases hl : v < e.length
      · rw [List.getElem?_set_self (by rw [wipeE_len]; exact hl), if_pos ⟨List.mem_cons_self, hl⟩]
      · rw [if_neg (fun h => hl h.2), List.getElem?_eq_none (by rw [List.length_set, wipeE_len]; omega), List.getElem?_eq_none (by omega)]
    · rw [List.getElem?_set_ne hv, wipeE_get e vs i]
      by_cases h : i ∈ vs ∧ i < e.length
      · rw [if_pos h, if_pos ⟨List.mem_cons_of_mem _ h.1, h.2⟩]
      · rw [if_neg h, if_neg (fun q => h ⟨(List.mem_cons.mp q.1).elim (fun z => absurd z.symm hv) (fun z => z), q.2⟩)]
theorem wipe_get (σ : L2.St) : ∀ (vs : List Nat) (i : Nat), (wipe σ vs)[i]? = if i ∈ vs ∧ i < σ.length then some none else σ[i]?
  | [], i => by rw [if_neg (fun h => nomatch h.1)]; rfl
  | v :: vs, i => by
    unfold wipe
    by_cases hv : v = i
    · subst hv
      by_cases hl : v < σ.length
      · rw [List.getElem?_set_self (by rw [wipe_length]; exact hl), if_pos ⟨List.mem_cons_self, hl⟩]
      · rw [if_neg (fun h => hl h.2), List.getElem?_eq_none (by rw [List.length_set, wipe_length]; omega), List.getElem?_eq_none (by omega)]
    · rw [List.getElem?_set_ne hv, wipe_get σ vs i]
      by_cases h : i ∈ vs ∧ i < σ.length
      · rw [if_pos h, if_pos ⟨List.mem_cons_of_mem _ h.1, h.2⟩]
      · rw [if_neg h, if_neg (fun q => h ⟨(List.mem_cons.mp q.1).elim (fun z => absurd z.symm hv) (fun z => z), q.2⟩)]
def Z.wipe (z : Z) (vs : List Nat) : Z := { z with s := L2.wipe z.s vs, e := wipeE z.e vs, F := fun i => if i ∈ vs then [] else z.F i }
theorem Rp.wipe {K : Frg} {z : Z} (r : Rp K z) (vs : List Nat) : Rp K (z.wipe vs) := by
  refine ⟨r.same, ?_, fun i s h => ?_, fun i h => ?_, fun i j a hij hi hj => ?_⟩
  · show (L2.wipe z.s vs).length = (wipeE z.e vs).length
    rw [wipe_length, wipeE_len]; exact r.len
  · have h' : (wipeE z.e vs)[i]? = some s := h
    show SlOk K z.G z.H (((L2.wipe z.s vs)[i]?).join) (if i ∈ vs then [] else z.F i) s
    rw [wipeE_get] at h'
    rw [wipe_get]
    by_cases hv : i ∈ vs
    · rw [if_pos hv]
      by_cases hl : i < z.e.length
      · rw [if_pos ⟨hv, hl⟩] at h'
        cases h'
        rfl
      · rw [if_neg (fun q => hl q.2), List.getElem?_eq_none (by omega)] at h'
        cases h'
    · rw [if_neg hv]
      rw [if_neg (fun q => hv q.1)] at h' ⊢
      exact r.ok i s h'
  · have h' : (wipeE z.e vs).length ≤ i := h
    rw [wipeE_len] at h'
    show (if i ∈ vs then [] else z.F i) = []
    split
    · rfl
    · exact r.out i h'
  · have hi' : a ∈ (if i ∈ vs then [] else z.F i) := hi
    have hj' : a ∈ (if j ∈ vs then [] else z.F j) := hj
    split at hi'
    · cases hi'
    · split at hj'
      · cases hj'
      · exact r.sep i j a hij hi' hj'
/-- forgetting, seen from an earlier state that has no pinned thing in these slots -/
theorem Mv.wipe {z0 z : Z} (m : Mv z0 z) {vs : List Nat} (no : ∀ i ∈ vs, isOw z0.e[i]? = false) : Mv z0 (z.wipe vs) := by
  refine ⟨m.out, m.dom, m.g, m.gn, fun i a h => ?_, fun i h => ?_, (wipeE_len _ _).trans m.ln⟩
  · have h' : a ∈ (if i ∈ vs then [] else z.F i) := h
    split at h'
    · cases h'
    · exact m.fn i a h'
  · have hv : i ∉ vs := fun q => by rw [no i q] at h; cases h
    obtain ⟨h1, h2⟩ := m.kp i h
    show isOw (wipeE z.e vs)[i]? = true ∧ (L2.wipe z.s vs)[i]? = z0.s[i]?
    rw [wipeE_get, wipe_get, if_neg (fun q => hv q.1), if_neg (fun q => hv q.1)]
    exact ⟨h1, h2⟩
/-- slots as they were before -/
def backE (b e : Ev) : List Nat → Ev
  | [] => e
  | v :: vs => (backE b e vs).set v ((b[v]?).getD .no)
theorem backE_len (b e : Ev) : ∀ vs : List Nat, (backE b e vs).length = e.length
  | [] => rfl
  | v :: vs => by unfold backE; rw [List.length_set, backE_len b e vs]
theorem backE_get (b e : Ev) : ∀ (vs : List Nat) (i : Nat), (backE b e vs)[i]? = if i ∈ vs ∧ i < e.length then some ((b[i]?).getD .no) else e[i]?
  | [], i => by rw [if_neg (fun h => nomatch h.1)]; rfl
  | v :: vs, i => by
    unfold backE
    by_cases hv : v = i
    · subst hv
      by_cases hl : v < e.length
      · rw [List.getElem?_set_self (by rw [backE_len]; exact hl), if_pos ⟨List.mem_cons_self, hl⟩]
      · rw [if_neg (fun h => hl h.2), List.getElem?_eq_none (by rw [List.length_set, backE_len]; omega), List.getElem?_eq_none (by omega)]
    · rw [List.getElem?_set_ne hv, backE_get b e vs i]
      by_cases h : i ∈ vs ∧ i < e.length
      · rw [if_pos h, if_pos ⟨List.mem_cons_of_mem _ h.1, h.2⟩]
      · rw [if_neg h, if_neg (fun q => h ⟨(List.mem_cons.mp q.1).elim (fun z => absurd z.symm hv) (fun z => z), q.2⟩)]
/-- one clause: the items one by one -/
def compL (t : GF) (c : BF) (f : EF) (vs : List Nat) : List D → Ev → Option (List D × Ev)
  | [], e => some ([], e)
  | d :: ds, e => (t d e).bind fun e1 => (c e1).bind fun p => if p.1 = true then (f p.2).bind fun q => (compL t c f vs ds (wipeE q.2 vs)).map fun r => (q.1 :: r.1, r.2) else compL t c f vs ds (wipeE p.2 vs)
def oComp (g : LF) (t : GF) (c : BF) (f : EF) (vs : List Nat) : OF := fun e => (g e).bind fun p => if p.1.length ≤ sizeLine ∧ (vs.all fun i => !isOw p.2[i]?) = true then (compL t c f vs p.1 (wipeE p.2 vs)).map fun r => (.li r.1, backE p.2 r.2 vs) else none
def bYes : BF := fun e => some (true, e)
/-- a clause's tests -/
structure FTs (X : Cx) (ifs : List Expr) (c : BF) : Prop where
  pts : PTs X ifs (tT X.K c)
theorem PTs.imp {X : Cx} {e : List Expr} {t t' : TT} (h : PTs X e t) (k : ∀ σ H Q, t' σ H Q → t σ H Q) : PTs X e t' := ⟨fun pins s σ H Q I q => h.run pins s σ H Q I (k _ _ _ q)⟩
theorem fts_nil {X : Cx} : FTs X [] bYes := ⟨PTs.imp pts_nil fun σ H Q ⟨z, d, e', rp, hs, hH, hf, q⟩ => by
  subst hs hH
  cases hf
  exact q z (Mv.refl z) rp rfl rfl⟩
theorem fts_one {X : Cx} {a : Expr} {c : BF} (h : FT X a c) : FTs X [a] c := ⟨pts_one h.pt⟩
theorem wipe_eq {σ σ' : L2.St} {vs ws : List Nat} (hl : σ'.length = σ.length) (h : ∀ j : Nat, j ∉ ws → σ'[j]? = σ[j]?) (hw : ∀ j ∈ ws, j ∈ vs) : L2.wipe σ' vs = L2.wipe σ vs := by
  apply List.ext_getElem?
  intro i
  rw [wipe_get, wipe_get, hl]
  by_cases hv : i ∈ vs
  · by_cases hi : i < σ.length
    · rw [if_pos ⟨hv, hi⟩, if_pos ⟨hv, hi⟩]
    · rw [if_neg (fun q => hi q.2), if_neg (fun q => hi q.2), List.getElem?_eq_none (by omega), List.getElem?_eq_none (by omega)]
  · rw [if_neg (fun q => hv q.1), if_neg (fun q => hv q.1)]
    exact h i fun q => hv (hw i q)
theorem wipe_wipe (σ : L2.St) (vs : List Nat) : L2.wipe (L2.wipe σ vs) vs = L2.wipe σ vs := wipe_eq (ws := vs) (wipe_length _ _) (fun j hj => by rw [wipe_get, if_neg (fun q => hj q.1)]) fun _ h => h
/-- a list of the heap alone is written -/
theorem Rp.write {K : Frg} {z y : Z} (r : Rp K y) {a : Addr} {o o' : HO} (h1 : y.H a = some o') (h2 : y.G a = none) (h3 : ∀ j, a ∉ y.F j) (m : Mv z y) (hn : z.H a = none) : Rp K { y with H := upd y.H a o } ∧ Mv z { y with H := upd y.H a o } := by
  refine ⟨⟨fun b x e => ?_, r.len, fun i s e => slFrame (r.ok i s e) (Same.refl _) (fun b hb => upd_ne (memNe (h3 i) hb)) fun b hb => (r.live hb).1, r.out, r.sep⟩, ⟨fun b u e hf => ?_, fun b hb => upd_none (m.dom b hb), m.g, m.gn, m.fn, m.kp, m.ln⟩⟩
  · show upd y.H a o b = some x
    rw [upd_ne (ne_of_none e h2)]; exact r.same _ _ e
  · show upd y.H a o b = some u
    rw [upd_ne (ne_of_none e hn)]; exact m.out b u e hf
section
variable {X : Cx} {pos : Pos}
theorem lc_run {K : Frg} {J : It} {y0 : Z} {ds : List D} {t : GF} {ws vs : List Nat} {c : BF} {f : EF} {xs : List D} {eN : Ev} {D0 : Addr} {Qd : Hp → Prop} {σ : L2.St}
    (r0 : Rp K y0) (hσ : L2.wipe σ vs = y0.s) (he : ∀ i ∈ vs, i < y0.e.length → y0.e[i]? = some .no) (hJ : Itr K J y0.G ds) (hws : ∀ j ∈ ws, j ∈ vs) (hlen : ds.length ≤ sizeLine) (hD : y0.H D0 = none)
    (hc : compL t c f vs ds y0.e = some (xs, eN))
    (hd : ∀ y ws', Mv y0 y → Rp K y → y.s = y0.s → y.e = eN → y.H D0 = some (.lst ws') → y.G D0 = none → (∀ j, D0 ∉ y.F j) → DvAll K y.G ws' xs → (∀ i ∈ vs, i < y.e.length → y.e[i]? = some .no) → Qd y.H) :
    ∃ W : Nat → Nat → Hp → Prop, (∃ m, W 0 m (upd y0.H D0 (.lst []))) ∧ ∀ i m H, W i m H →
      (J.stop i H ∧ Qd H) ∨ (J.go i H ∧ ∃ Nx : Hp → Prop, (∀ H', Nx H' → ∃ m', m' < m ∧ W (i + 1) m' H') ∧ ∀ x H', J.yld i H x H' → tG K t ws x (L2.wipe σ vs) H' fun σ2 H2 => L2.wipe σ2 vs = L2.wipe σ vs ∧ tT K c σ2 H2 fun b H3 =>
        if b = true then tE K f σ2 H3 fun y H4 => ∃ acc, H4 D0 = some (.lst acc) ∧ acc.length < sizeLine ∧ Nx (upd H4 D0 (.lst (acc ++ [y]))) else Nx H3) := by
  obtain ⟨Gd, Y, w, hG1, hG2⟩ := hJ
  obtain ⟨rn, mn⟩ := r0.new (o := .lst []) hD
  have hvs : ∀ i ∈ vs, isOw y0.e[i]? = false := fun i hi => by
    by_cases hl : i < y0.e.length
    · rw [he i hi hl]; rfl
    · rw [List.getElem?_eq_none (by omega)]; rfl
  refine lc_it w (fun i H => ∃ y acc don, y.H = H ∧ Rp K y ∧ y.s = y0.s ∧ Mv y0 y ∧ y.H D0 = some (.lst acc) ∧ y.G D0 = none ∧ (∀ j, D0 ∉ y.F j) ∧ DvAll K y.G acc don ∧ acc.length ≤ i ∧
    (∀ i ∈ vs, i < y.e.length → y.e[i]? = some .no) ∧ ∃ xs', compL t c f vs (ds.drop i) y.e = some (xs', eN) ∧ don ++ xs' = xs) ?_ ?_ ?_ ?_
  · exact ⟨y0.new D0 (.lst []), [], [], rfl, rn, rfl, mn, upd_same, (r0.fresh hD).1, (r0.fresh hD).2, .nil, Nat.le_refl _, he, xs, hc, rfl⟩
  · rintro i H hi ⟨y, acc, don, rfl, r, _, m, _⟩
    exact hG1 _ (m.g.trans r.same)
  · rintro i x H H' hi ⟨y, acc, don, rfl, r, hs, m, hD1, hD2, hD3, hA, hl, hno, xs', hcl, hxs⟩ hy
    have hsm : Same y0.G y.H := m.g.trans r.same
    -- the state with the item
    obtain ⟨y1, d, r1, m1, s1, e1, hH1, hdi, hdv, hD1', hD2', hD3', hA'⟩ : ∃ (y1 : Z) (d : D), Rp K y1 ∧ Mv y y1 ∧ y1.s = y.s ∧ y1.e = y.e ∧ y1.H = H' ∧ ds[i]? = some d ∧ Dv K y1.G x d ∧ y1.H D0 = some (.lst acc) ∧ y1.G D0 = none ∧ (∀ j, D0 ∉ y1.F j) ∧ DvAll K y1.G acc don := by
      rcases hG2 i y.H x H' hi hsm hy with ⟨e, d, h3, h4⟩ | ⟨T, tv, es, h3, h4, h5, h6, h7⟩
      · exact ⟨y, d, r, Mv.refl y, rfl, rfl, e.symm, h3, dvMono m.g _ _ h4, hD1, hD2, hD3, hA⟩
      · obtain ⟨ra, ma⟩ := r.add (o := .tup tv) h4
        have hne : D0 ≠ T := ne_of_none hD1 h4
        refine ⟨y.add T (.tup tv), .tuple es, ra, ma, rfl, rfl, h5.symm, h6, ?_, ?_, ?_, hD3, dvMonoAll ma.g _ _ hA⟩
        · rw [h3]
          exact .tup (SqT.of upd_same) (dvMonoAll (m.g.trans ma.g) _ _ h7)
        · show upd y.H T (.tup tv) D0 = _
          rw [upd_ne hne]; exact hD1
        · show upd y.G T (.tup tv) D0 = none
          rw [upd_ne hne]; exact hD2
    have hdrop : ds.drop i = d :: ds.drop (i + 1) := by
      obtain ⟨h1, h2⟩ := List.getElem?_eq_some_iff.mp hdi
      rw [← h2, List.drop_eq_getElem_cons h1]
    rw [hdrop] at hcl
    unfold compL at hcl
    obtain ⟨ea, ht, hcl⟩ := Option.bind_eq_some_iff.mp hcl
    obtain ⟨⟨b, eb⟩, hcc, hcl⟩ := Option.bind_eq_some_iff.mp hcl
    refine ⟨y1, d, ea, r1, by rw [s1, hs, hσ], hH1, hdv, by rw [e1]; exact ht, fun y2 m2 r2 e2 eH2 eG2 es2 => ⟨?_, ?_⟩⟩
    · rw [wipe_eq (σ := y1.s) (ws := ws) (by rw [r2.len, r1.len, m2.ln]) es2 hws, s1, hs, ← hσ, wipe_wipe]
    · have mm := (m.trans m1).trans m2
      refine ⟨y2, b, eb, r2, rfl, rfl, by rw [e2]; exact hcc, fun y3 m3 r3 s3 e3 => ?_⟩
      have keep : ∀ {p q : Z}, Mv p q → p.H D0 = some (.lst acc) → p.G D0 = none → (∀ j, D0 ∉ p.F j) → q.H D0 = some (.lst acc) ∧ q.G D0 = none ∧ (∀ j, D0 ∉ q.F j) := fun {p q} mv h1 h2 h3 =>
        ⟨mv.out _ _ h1 h3, (mv.gn _ (by rw [h1]; exact nofun) h3).trans h2, fun j hj => (mv.fn j _ hj).elim (h3 j) fun z => by rw [h1] at z; cases z⟩
      obtain ⟨k1, k2, k3⟩ := keep m2 hD1' hD2' hD3'
      obtain ⟨k1, k2, k3⟩ := keep m3 k1 k2 k3
      have hs3 : L2.wipe y3.s vs = y0.s := by
        rw [s3, wipe_eq (σ := y1.s) (ws := ws) (by rw [r2.len, r1.len, m2.ln]) es2 hws, s1, hs, ← hσ, wipe_wipe]
      cases b with
      | false =>
        have hcl' : compL t c f vs (ds.drop (i + 1)) (wipeE eb vs) = some (xs', eN) := hcl
        refine iteF ⟨y3.wipe vs, acc, don, rfl, r3.wipe vs, hs3, (mm.trans m3).wipe hvs, k1, k2, fun j hj => ?_, dvMonoAll (m2.g.trans m3.g) _ _ hA', by omega, fun j hj hjl => ?_, xs', ?_, hxs⟩
        · have hj' : D0 ∈ (if j ∈ vs then [] else y3.F j) := hj
          split at hj'
          · cases hj'
          · exact k3 j hj'
        · show (wipeE y3.e vs)[j]? = some .no
          rw [wipeE_get, if_pos ⟨hj, by have : j < (wipeE y3.e vs).length := hjl
                                        rw [wipeE_len] at this; exact this⟩]
        · show compL t c f vs (ds.drop (i + 1)) (wipeE y3.e vs) = some (xs', eN)
          rw [e3]; exact hcl'
      | true =>
        obtain ⟨⟨dv, ef⟩, hff, hcl⟩ := Option.bind_eq_some_iff.mp (show ((f eb).bind fun q => (compL t c f vs (ds.drop (i + 1)) (wipeE q.2 vs)).map fun r => (q.1 :: r.1, r.2)) = some (xs', eN) from hcl)
        obtain ⟨⟨xr, er⟩, hcr, hcl⟩ := Option.map_eq_some_iff.mp hcl
        cases hcl
        refine iteT ⟨y3, dv, ef, r3, s3, rfl, by rw [e3]; exact hff, fun v y4 m4 r4 s4 e4 p4 => ?_⟩
        obtain ⟨k1, k2, k3⟩ := keep m4 k1 k2 k3
        refine ⟨acc, k1, by have := (List.getElem?_eq_some_iff.mp hdi).1; omega, ?_⟩
        -- the list grows
        obtain ⟨r5, m5⟩ := r4.write (o := .lst (acc ++ [v])) k1 k2 k3 ((mm.trans m3).trans m4) hD
        refine ⟨Z.wipe { y4 with H := upd y4.H D0 (.lst (acc ++ [v])) } vs, acc ++ [v], don ++ [dv], rfl, r5.wipe vs, ?_, m5.wipe hvs, upd_same, k2, fun j hj => ?_, dvAll_app (dvMonoAll ((m2.g.trans m3.g).trans m4.g) _ _ hA') (dvAll_one p4), by rw [List.length_append]; simp; omega, fun j hj hjl => ?_, xr, ?_, by rw [List.append_assoc]; exact hxs⟩
        · show L2.wipe y4.s vs = y0.s
          rw [s4, ← s3]; exact hs3
        · have hj' : D0 ∈ (if j ∈ vs then [] else y4.F j) := hj
          split at hj'
          · cases hj'
          · exact k3 j hj'
        · show (wipeE y4.e vs)[j]? = some .no
          rw [wipeE_get, if_pos ⟨hj, by have : j < (wipeE y4.e vs).length := hjl
                                        rw [wipeE_len] at this; exact this⟩]
        · show compL t c f vs (ds.drop (i + 1)) (wipeE y4.e vs) = some (xr, _)
          rw [e4]; exact hcr
  · rintro H ⟨y, acc, don, rfl, r, hs, m, hD1, hD2, hD3, hA, hl, hno, xs', hcl, hxs⟩
    rw [List.drop_length] at hcl
    unfold compL at hcl
    cases hcl
    rw [List.append_nil] at hxs
    subst hxs
    exact hd y acc m r hs rfl hD1 hD2 hD3 hA hno
/-- what tLc asks, by a plain function -/
theorem lc_tO {K : Frg} {wi : TI} {gl : LF} {t : GF} {ws vs : List Nat} {cf : BF} {f : EF} {σ : L2.St} {H : Hp} {Q : VK} (hwi : ∀ σ H R, tI K gl σ H R → wi σ H R) (hws : ∀ j ∈ ws, j ∈ vs) (q : tO K (oComp gl t cf f vs) σ H Q) : tLc wi (tG K t ws) (tT K cf) (tE K f) vs σ H Q := by
  obtain ⟨z, r0, e', rp, hs, hH, hf, q⟩ := q
  subst hs hH
  obtain ⟨⟨ds, e1'⟩, h1, hf⟩ := Option.bind_eq_some_iff.mp hf
  split at hf
  · rename_i hc
    obtain ⟨⟨xs, eN⟩, h2, hf⟩ := Option.map_eq_some_iff.mp hf
    cases hf
    refine hwi _ _ _ ⟨z, ds, e1', rp, rfl, rfl, h1, fun J y m r s2 ee it D0 hn => ?_⟩
    have hno : ∀ i ∈ vs, isOw y.e[i]? = false := fun i hi => by
      have := List.all_eq_true.mp hc.2 i hi
      rw [ee]
      simpa using this
    have h2' : compL t cf f vs ds (y.wipe vs).e = some (xs, eN) := by
      show compL t cf f vs ds (wipeE y.e vs) = some (xs, eN)
      rw [ee]; exact h2
    have := lc_run (y0 := y.wipe vs) (σ := z.s) (Qd := fun H => Q (.ref D0) H) (J := J) (D0 := D0) (r.wipe vs) (by show L2.wipe z.s vs = L2.wipe y.s vs; rw [s2]) (fun i hi hl => by
        have hl' : i < (wipeE y.e vs).length := hl
        rw [wipeE_len] at hl'
        show (wipeE y.e vs)[i]? = some .no
        rw [wipeE_get, if_pos ⟨hi, hl'⟩]) (show Itr K J y.G ds from it) hws hc.1 (show y.H D0 = none from hn) h2' (fun u wl mu ru su eu hu1 hu2 hu3 hu4 hu5 => ?_)
    · exact this
    · -- back at the slots as they were
      have e1 : ∀ i : Nat, i ∉ vs → u.s[i]? = z.s[i]? := fun i hi => by
        rw [su]
        show (L2.wipe y.s vs)[i]? = z.s[i]?
        rw [wipe_get, if_neg (fun q => hi q.1), s2]
      have hlen : u.e.length = y.e.length := by
        rw [mu.ln]
        show (wipeE y.e vs).length = y.e.length
        rw [wipeE_len]
      have uF : ∀ (i : Nat) (a : Addr), a ∈ u.F i → (i ∉ vs ∧ a ∈ y.F i) ∨ y.H a = none := fun i a ha => by
        rcases mu.fn i a ha with h | h
        · have h' : a ∈ (if i ∈ vs then [] else y.F i) := h
          split at h'
          · cases h'
          · rename_i hi; exact .inl ⟨hi, h'⟩
        · exact .inr h
      have yH : ∀ (i : Nat) (a : Addr), i ∈ vs → a ∈ y.F i → u.H a = y.H a ∧ u.G a = none := fun i a hi ha => by
        obtain ⟨l1, l2⟩ := r.live ha
        have nin : ∀ j, a ∉ (y.wipe vs).F j := fun j hj => by
          have hj' : a ∈ (if j ∈ vs then [] else y.F j) := hj
          split at hj'
          · cases hj'
          · rename_i hjv
            exact r.sep i j a (fun e => hjv (e ▸ hi)) ha hj'
        refine ⟨?_, (mu.gn a l2 nin).trans l1⟩
        cases hq : y.H a with
        | none => exact absurd hq l2
        | some o => exact mu.out a o hq nin
      have ru' : Rp K { u with s := z.s, e := backE y.e u.e vs, F := fun i => if i ∈ vs then y.F i else u.F i } := by
        refine ⟨ru.same, ?_, fun i s h => ?_, fun i h => ?_, fun i j a hij hi hj => ?_⟩
        · show z.s.length = (backE y.e u.e vs).length
          rw [backE_len, ← s2, r.len, hlen]
        · have h' : (backE y.e u.e vs)[i]? = some s := h
          show SlOk K u.G u.H ((z.s[i]?).join) (if i ∈ vs then y.F i else u.F i) s
          rw [backE_get] at h'
          by_cases hi : i ∈ vs
          · rw [if_pos hi]
            by_cases hl : i < u.e.length
            · rw [if_pos ⟨hi, hl⟩] at h'
              cases hq : y.e[i]? with
              | none => rw [List.getElem?_eq_none_iff] at hq; omega
              | some sl =>
                rw [hq] at h'
                cases h'
                rw [← s2]
                exact slFrame (r.ok i _ hq) mu.g (fun a ha => (yH i a hi ha).1) fun a ha => (yH i a hi ha).2
            · rw [if_neg (fun q => hl q.2), List.getElem?_eq_none (by omega)] at h'
              cases h'
          · rw [if_neg hi]
            rw [if_neg (fun q => hi q.1)] at h'
            rw [← e1 i hi]
            exact ru.ok i s h'
        · have h' : (backE y.e u.e vs).length ≤ i := h
          rw [backE_len] at h'
          show (if i ∈ vs then y.F i else u.F i) = []
          split
          · exact r.out i (by omega)
          · exact ru.out i h'
        · have hi' : a ∈ (if i ∈ vs then y.F i else u.F i) := hi
          have hj' : a ∈ (if j ∈ vs then y.F j else u.F j) := hj
          split at hi'
          · split at hj'
            · exact r.sep i j a hij hi' hj'
            · rcases uF j a hj' with ⟨_, h⟩ | h
              · exact r.sep i j a hij hi' h
              · exact (r.live hi').2 h
          · split at hj'
            · rcases uF i a hi' with ⟨_, h⟩ | h
              · exact r.sep i j a hij h hj'
              · exact (r.live hj').2 h
            · exact ru.sep i j a hij hi' hj'
      have mz : Mv z { u with s := z.s, e := backE y.e u.e vs, F := fun i => if i ∈ vs then y.F i else u.F i } := by
        refine ⟨fun a o ha hf => ?_, fun a ha => mu.dom a (m.dom a ha), m.g.trans mu.g, fun a ha hk => (mu.gn a (m.dom a ha) fun i hi => by
          have hi' : a ∈ (if i ∈ vs then [] else y.F i) := hi
          split at hi'
          · cases hi'
          · rcases m.fn i a hi' with h | h
            · exact hk i h
            · exact ha h).trans (m.gn a ha hk), fun i a ha => ?_, fun i hi => ?_, ?_⟩
        · refine mu.out a o (m.out a o ha hf) fun i hi => ?_
          have hi' : a ∈ (if i ∈ vs then [] else y.F i) := hi
          split at hi'
          · cases hi'
          · rcases m.fn i a hi' with h | h
            · exact hf i h
            · rw [ha] at h; cases h
        · have ha' : a ∈ (if i ∈ vs then y.F i else u.F i) := ha
          split at ha'
          · exact m.fn i a ha'
          · rcases uF i a ha' with ⟨_, h⟩ | h
            · exact m.fn i a h
            · by_cases hz : z.H a = none
              · exact .inr hz
              · exact absurd h (m.dom a hz)
        · obtain ⟨k1, k2⟩ := m.kp i hi
          have hiv : i ∉ vs := fun q => by rw [hno i q] at k1; cases k1
          have k3 : isOw (y.wipe vs).e[i]? = true := by
            show isOw (wipeE y.e vs)[i]? = true
            rw [wipeE_get, if_neg (fun q => hiv q.1)]; exact k1
          refine ⟨?_, rfl⟩
          show isOw (backE y.e u.e vs)[i]? = true
          rw [backE_get, if_neg (fun q => hiv q.1)]
          exact (mu.kp i k3).1
        · show (backE y.e u.e vs).length = z.e.length
          rw [backE_len, hlen, m.ln]
      refine q (.ref D0) { u with s := z.s, e := backE y.e u.e vs, F := fun i => if i ∈ vs then y.F i else u.F i } [D0] mz ru' rfl (by show backE y.e u.e vs = backE e1' eN vs; rw [eu, ee]) ⟨D0, wl, rfl, rfl, hu2, hu1, hu4⟩ fun a ha => ?_
      rw [List.mem_singleton.mp ha]
      refine ⟨?_, fun i hi => ?_⟩
      · by_cases hz : z.H D0 = none
        · exact hz
        · exact absurd hn (m.dom D0 hz)
      · have hi' : D0 ∈ (if i ∈ vs then y.F i else u.F i) := hi
        split at hi'
        · exact (r.live hi').2 hn
        · exact hu3 i hi'
  · cases hf
theorem fo_lc {k : Nat} {elt tg iter : Expr} {ifs : List Expr} {scope : Scope} {own : List (Str × Nat)} {gl : LF} {t : GF} {ws vs : List Nat} {cf : BF} {f : EF} (c : Cc X k) (hi : FI X tg iter gl) (ok : BlkOk X.N X.env.scope scope own)
    (hg : ∀ (s : Shared) (H : Hp) (C : Addr) (cl : List (Str × Addr)) (fp : List Addr), FG (X.blk s H scope (compEnvC scope cl C X.env) fp) tg t ws)
    (ht : ∀ (s : Shared) (H : Hp) (C : Addr) (cl : List (Str × Addr)) (fp : List Addr), FTs (X.blk s H scope (compEnvC scope cl C X.env) fp) ifs cf)
    (he : ∀ (s : Shared) (H : Hp) (C : Addr) (cl : List (Str × Addr)) (fp : List Addr), FE (X.blk s H scope (compEnvC scope cl C X.env) fp) elt f)
    (hvs : own.map (·.2) = vs := by rfl) (hws : ∀ j ∈ ws, j ∈ vs := by decide) (hs : ∀ x, foldedSetIterable iter X.env x = pure x := by intro _; rfl) :
    FO X (.ListComp elt [⟨tg, iter, ifs, 0⟩] scope pos) (oComp gl t cf f vs) := by
  subst hvs
  exact ⟨PE.imp (pe_lc c.calm c.nd hi.pi ok (fun s H C cl fp => (hg s H C cl fp).pg) (fun s H C cl fp => (ht s H C cl fp).pts) (fun s H C cl fp => (he s H C cl fp).pe) hs) fun σ H Q q => lc_tO (fun _ _ _ h => h) hws q⟩
end
end Fl

set_option Elab.async false
set_option linter.all false
set_option maxRecDepth 100000
set_option maxHeartbeats 1000000
set_option autoImplicit false
/-! FnSt: statements by plain functions. -/
namespace Fl
open PySem PySem.Spec PyProof.Rows L2
/-! ### small statements -/
def sNext : SF := fun e => some (.nx e)
def sBreak : SF := fun e => some (.bk e)
def sCont : SF := fun e => some (.ct e)
/-- code that is not reached -/
def sNever : SF := fun _ => none
def sSeq (f g : SF) : SF := fun e => (f e).bind fun o => match o with
  | .nx e1 => g e1
  | o => some o
/-- what is wanted at an outcome, seen from z -/
def Out (K : Frg) (z : Z) (D : Ends) : O → Prop
  | .nx e' => ∀ y, Mv z y → Rp K y → y.e = e' → D.nx y.s y.H
  | .bk e' => ∀ y, Mv z y → Rp K y → y.e = e' → D.bk y.s y.H
  | .ct e' => ∀ y, Mv z y → Rp K y → y.e = e' → D.ct y.s y.H
  | .rt r e' => ∀ v y Fr, Mv z y → Rp K y → y.e = e' → SlOk K y.G y.H (some v) Fr r → (∀ a ∈ Fr, ∀ i, a ∉ y.F i) → (∀ a ∈ Fr, (∃ j : Nat, isOw z.e[j]? = false ∧ a ∈ z.F j) ∨ z.H a = none) → D.rt v y.H
theorem tS_out {K : Frg} {f : SF} {D : Ends} {σ : L2.St} {H : Hp} : tS K f D σ H ↔ ∃ z o, Rp K z ∧ z.s = σ ∧ z.H = H ∧ f z.e = some o ∧ Out K z D o := by
  unfold tS Out
  constructor
  · rintro ⟨z, o, h1, h2, h3, h4, h5⟩
    refine ⟨z, o, h1, h2, h3, h4, ?_⟩
    cases o <;> exact h5
  · rintro ⟨z, o, h1, h2, h3, h4, h5⟩
    refine ⟨z, o, h1, h2, h3, h4, ?_⟩
    cases o <;> exact h5
theorem Out.mv {K : Frg} {z y : Z} {D : Ends} {o : O} (h : Out K z D o) (m : Mv z y) : Out K y D o := by
  cases o with
  | nx e' => exact fun x mx rx ee => h x (m.trans mx) rx ee
  | bk e' => exact fun x mx rx ee => h x (m.trans mx) rx ee
  | ct e' => exact fun x mx rx ee => h x (m.trans mx) rx ee
  | rt r e' =>
    refine fun v x Fr mx rx ee so hf hg => h v x Fr (m.trans mx) rx ee so hf fun a ha => ?_
    rcases hg a ha with ⟨j, h1, h2⟩ | h1
    · rcases m.fn j a h2 with h3 | h3
      · refine .inl ⟨j, ?_, h3⟩
        cases q : isOw z.e[j]? with
        | false => rfl
        | true => rw [(m.kp j q).1] at h1; cases h1
      · exact .inr h3
    · by_cases q : z.H a = none
      · exact .inr q
      · exact absurd h1 (m.dom a q)
section
variable {X : Cx} {pos : Pos}
theorem fs_of {st : Stmt} {t : TS} {f : SF} (h : PS X st t) (k : ∀ D z o, Rp X.K z → f z.e = some o → Out X.K z D o → t D z.s z.H) : FS X st f := ⟨PS.imp h fun D σ H q => by
  obtain ⟨z, o, h1, h2, h3, h4, h5⟩ := tS_out.mp q
  subst h2 h3
  exact k D z o h1 h4 h5⟩
theorem fss_of {st : List Stmt} {t : TS} {f : SF} (h : PSs X st t) (k : ∀ D z o, Rp X.K z → f z.e = some o → Out X.K z D o → t D z.s z.H) : FSs X st f := ⟨PSs.imp h fun D σ H q => by
  obtain ⟨z, o, h1, h2, h3, h4, h5⟩ := tS_out.mp q
  subst h2 h3
  exact k D z o h1 h4 h5⟩
theorem fss_nil : FSs X [] sNext := fss_of pss_nil fun D z o r h q => by
  cases h
  exact q z (Mv.refl z) r rfl
theorem fss_cons {st : Stmt} {rest : List Stmt} {f g : SF} (h1 : FS X st f) (h2 : FSs X rest g) : FSs X (st :: rest) (sSeq f g) := fss_of (pss_cons h1.ps h2.ps) fun D z o r h q => by
  obtain ⟨o1, k1, k2⟩ := Option.bind_eq_some_iff.mp h
  refine tS_out.mpr ⟨z, o1, r, rfl, rfl, k1, ?_⟩
  cases o1 with
  | nx e1 => exact fun y m ry ee => tS_out.mpr ⟨y, o, ry, rfl, rfl, by rw [ee]; exact k2, q.mv m⟩
  | bk e1 => cases k2; exact q
  | ct e1 => cases k2; exact q
  | rt r1 e1 => cases k2; exact q
theorem fss_one {st : Stmt} {f : SF} (h : FS X st f) : FSs X [st] f := ⟨pss_one h.ps⟩
theorem fs_pass : FS X (.Pass pos) sNext := fs_of ps_pass fun D z o r h q => by
  cases h
  exact q z (Mv.refl z) r rfl
theorem fs_break : FS X (.Break pos) sBreak := fs_of ps_break fun D z o r h q => by
  cases h
  exact q z (Mv.refl z) r rfl
theorem fs_cont : FS X (.Continue pos) sCont := fs_of ps_continue fun D z o r h q => by
  cases h
  exact q z (Mv.refl z) r rfl
theorem fs_never {st : Stmt} : FS X st sNever := ⟨⟨fun pins s σ H D I q => by
  obtain ⟨z, o, h1, h2, h3, h4, h5⟩ := tS_out.mp q
  cases h4⟩⟩
/-- a docstring -/
theorem fs_doc {x j pos'} : FS X (.Expr (.Constant (.str x) j pos) pos') sNext := fs_of ps_doc fun D z o r h q => by
  cases h
  exact q z (Mv.refl z) r rfl
def sDrop (f : EF) : SF := fun e => (f e).map fun p => .nx p.2
theorem fs_expr {a : Expr} {f : EF} (h : FE X a f) (hs : swapsWith a none pos.line X.env = pure false := by rfl) : FS X (.Expr a pos) (sDrop f) := fs_of (ps_expr h.pe hs) fun D z o r h q => by
  obtain ⟨⟨d, e1⟩, h1, h2⟩ := Option.map_eq_some_iff.mp h
  subst h2
  exact ⟨z, d, e1, r, rfl, rfl, h1, fun v y m r2 s2 ee p => by
    show D.nx z.s y.H
    rw [← s2]; exact q y m r2 ee⟩
def sRet (f : EF) : SF := fun e => (f e).map fun p => .rt (.va p.1) p.2
theorem fs_ret {a : Expr} {f : EF} (h : FE X a f) : FS X (.Return (some a) pos) (sRet f) := fs_of (ps_ret h.pe) fun D z o r h q => by
  obtain ⟨⟨d, e1⟩, h1, h2⟩ := Option.map_eq_some_iff.mp h
  subst h2
  exact ⟨z, d, e1, r, rfl, rfl, h1, fun v y m r2 s2 ee p => q v y [] m r2 ee ⟨rfl, v, rfl, p⟩ (fun _ h => nomatch h) fun _ h => nomatch h⟩
/-- a thing of its own is handed back -/
def sRetO (f : OF) : SF := fun e => (f e).map fun p => .rt p.1 p.2
theorem fs_retO {a : Expr} {f : OF} (h : FO X a f) : FS X (.Return (some a) pos) (sRetO f) := fs_of (ps_ret h.po) fun D z o r h q => by
  obtain ⟨⟨d, e1⟩, h1, h2⟩ := Option.map_eq_some_iff.mp h
  subst h2
  exact ⟨z, d, e1, r, rfl, rfl, h1, fun v y Fr m r2 s2 ee p hf => q v y Fr m r2 ee p (fun a ha => (hf a ha).2) fun a ha => .inr (hf a ha).1⟩
theorem fs_retNone : FS X (.Return none pos) (sRet (eC .none)) := fs_of ps_retN fun D z o r h q => by
  cases h
  exact q .non z [] (Mv.refl z) r rfl ⟨rfl, _, rfl, .non⟩ (fun _ h => nomatch h) fun _ h => nomatch h
/-- a name's own thing is handed back: the name has nothing behind it -/
def sRetN (i : Nat) : SF := fun e => e[i]?.bind fun s => match s with
  | .va d => some (.rt (.va d) e)
  | .li xs => some (.rt (.li xs) (e.set i .no))
  | .di xs => some (.rt (.di xs) (e.set i .no))
  | .dt xs => some (.rt (.dt xs) (e.set i .no))
  | _ => none
def Z.dropS (z : Z) (i : Nat) : Z := { z with e := z.e.set i .no, F := fun j => if j = i then [] else z.F j }
theorem Rp.drop {K : Frg} {z : Z} (r : Rp K z) (i : Nat) (no : isOw z.e[i]? = false) : Rp K (z.dropS i) ∧ Mv z (z.dropS i) := by
  refine ⟨⟨r.same, by show z.s.length = (z.e.set i .no).length; rw [List.length_set]; exact r.len, fun j s h => ?_, fun j h => ?_, fun j k a hjk hj hk => ?_⟩, ⟨fun _ _ h _ => h, fun _ h => h, Same.refl _, fun _ _ _ => rfl, fun j a h => ?_, fun j h => ?_, List.length_set ..⟩⟩
  · have h' : (z.e.set i .no)[j]? = some s := h
    show SlOk K z.G z.H (z.s[j]?).join (if j = i then [] else z.F j) s
    by_cases e : j = i
    · subst e
      have hl : j < z.e.length := by have := (List.getElem?_eq_some_iff.mp h').1; rw [List.length_set] at this; exact this
      rw [List.getElem?_set_self hl] at h'
      cases h'
      rw [if_pos rfl]; rfl
    · rw [List.getElem?_set_ne (Ne.symm e)] at h'
      rw [if_neg e]; exact r.ok j s h'
  · have h' : (z.e.set i .no).length ≤ j := h
    rw [List.length_set] at h'
    show (if j = i then [] else z.F j) = []
    split
    · rfl
    · exact r.out j h'
  · have hj' : a ∈ (if j = i then [] else z.F j) := hj
    have hk' : a ∈ (if k = i then [] else z.F k) := hk
    split at hj'
    · cases hj'
    · split at hk'
      · cases hk'
      · exact r.sep j k a hjk hj' hk'
  · have h' : a ∈ (if j = i then [] else z.F j) := h
    split at h'
    · cases h'
    · exact .inl h'
  · have e : i ≠ j := fun e => by rw [← e, no] at h; cases h
    show isOw (z.e.set i .no)[j]? = true ∧ z.s[j]? = z.s[j]?
    rw [List.getElem?_set_ne e]; exact ⟨h, rfl⟩
theorem fs_retN {i : Nat} {x : Str} {p : Pos} (hN : X.N[i]? = some x) (hv : Vis X.env.scope x) (hd : (x == ("__debug__" : Str)) = false := by decide) (hcd : (x == ("__classdict__" : Str)) = false := by decide) : FS X (.Return (some (.Name x p)) pos) (sRetN i) :=
  fs_of (ps_ret (pe_var hN hv hd hcd)) fun D z o r h q => by
    obtain ⟨s, h1, h2⟩ := Option.bind_eq_some_iff.mp h
    have so := r.ok i s h1
    cases s with
    | va d =>
      cases h2
      obtain ⟨v, k1, k2⟩ := r.var h1
      exact ⟨v, k1, q v z [] (Mv.refl z) r rfl ⟨rfl, v, rfl, k2⟩ (fun _ h => nomatch h) fun _ h => nomatch h⟩
    | li xs =>
      cases h2
      have no : isOw z.e[i]? = false := by rw [h1]; rfl
      obtain ⟨a, vs, e1, e2, e3, e4, e5⟩ := so
      obtain ⟨r2, m2⟩ := r.drop i no
      refine ⟨.ref a, joinSome e1, q (.ref a) (z.dropS i) [a] m2 r2 rfl ⟨a, vs, rfl, rfl, e3, e4, e5⟩ (fun b hb j hj => ?_) fun b hb => .inl ⟨i, no, by rw [e2]; exact hb⟩⟩
      have hj' : b ∈ (if j = i then [] else z.F j) := hj
      split at hj'
      · cases hj'
      · rename_i hji
        exact r.sep j i b hji hj' (by rw [e2]; exact hb)
    | di xs =>
      cases h2
      have no : isOw z.e[i]? = false := by rw [h1]; rfl
      obtain ⟨a, vs, e1, e2, e3, e4, e5⟩ := so
      obtain ⟨r2, m2⟩ := r.drop i no
      refine ⟨.ref a, joinSome e1, q (.ref a) (z.dropS i) [a] m2 r2 rfl ⟨a, vs, rfl, rfl, e3, e4, e5⟩ (fun b hb j hj => ?_) fun b hb => .inl ⟨i, no, by rw [e2]; exact hb⟩⟩
      have hj' : b ∈ (if j = i then [] else z.F j) := hj
      split at hj'
      · cases hj'
      · rename_i hji
        exact r.sep j i b hji hj' (by rw [e2]; exact hb)
    | dt xs =>
      cases h2
      have no : isOw z.e[i]? = false := by rw [h1]; rfl
      obtain ⟨a, vs, e1, e2, e3, e4, e5⟩ := so
      obtain ⟨r2, m2⟩ := r.drop i no
      refine ⟨.ref a, joinSome e1, q (.ref a) (z.dropS i) [a] m2 r2 rfl ⟨a, vs, rfl, rfl, e3, e4, e5⟩ (fun b hb j hj => ?_) fun b hb => .inl ⟨i, no, by rw [e2]; exact hb⟩⟩
      have hj' : b ∈ (if j = i then [] else z.F j) := hj
      split at hj'
      · cases hj'
      · rename_i hji
        exact r.sep j i b hji hj' (by rw [e2]; exact hb)
    | no => cases h2
    | ow _ => cases h2
/-! ### stores -/
/-- name = e: a value, or a thing of its own -/
def sSet (i : Nat) (f : OF) : SF := fun e => (f e).bind fun p => if isOw p.2[i]? then none else some (.nx (p.2.set i p.1))
theorem set_go {K : Frg} {z : Z} {D : Ends} {i : Nat} {f : OF} {o : O} (r : Rp K z) (h : sSet i f z.e = some o) (q : Out K z D o) : tAsg (tO K f) (gName i) D z.s z.H := by
  obtain ⟨⟨s, e1⟩, h1, h2⟩ := Option.bind_eq_some_iff.mp h
  split at h2
  · cases h2
  · rename_i no
    cases h2
    refine ⟨z, s, e1, r, rfl, rfl, h1, fun v y Fr m r2 s2 ee so hf => ?_⟩
    have no' : isOw y.e[i]? = false := by rw [ee]; simpa using no
    have := q (y.put i v s Fr) (m.put no' fun a ha => .inr (hf a ha).1) (r2.put so fun a ha j _ => (hf a ha).2 j) (by show y.e.set i s = e1.set i s; rw [ee])
    show D.nx (z.s.set i (some v)) y.H
    rw [← s2]; exact this
theorem fs_set {i : Nat} {x : Str} {a : Expr} {f : OF} {pos' : Pos} (hN : X.N.Nodup) (hi : X.N[i]? = some x) (hx : Loc X.env.scope x) (h : FO X a f) (hs : swapsWith a (some (.Name x pos')) pos.line X.env = pure false := by rfl) (hf : X.fn x = true ∨ X.env.scope.names.lookup x = some .local := by first | exact .inl rfl | exact .inr rfl | assumption) : FS X (.Assign [.Name x pos'] a pos) (sSet i f) :=
  fs_of (ps_set hN hi hx h.po hs hf) fun D z o r h q => set_go r h q
/-- name = [..] on one line, the name a plain local one -/
theorem fs_setLc {k i : Nat} {y : Str} {py : Pos} {elt tg iter : Expr} {ifs : List Expr} {scope : Scope} {own : List (Str × Nat)} {spos : Pos} {gl : LF} {t : GF} {ws vs : List Nat} {cf : BF} {f : EF} (c : Cc X k) (hy : X.N[i]? = some y) (hyl : X.env.scope.names.lookup y = some .local)
    (hsw : swapsWith (.ListComp elt [⟨tg, iter, ifs, 0⟩] scope pos) (some (.Name y py)) spos.line X.env = pure true) (hi : FI X tg iter gl) (ok : BlkOk X.N X.env.scope scope own)
    (hg : ∀ (s : Shared) (H : Hp) (C : Addr) (cl : List (Str × Addr)) (fp : List Addr), FG (X.blk s H scope (compEnvC scope cl C X.env) fp) tg t ws)
    (ht : ∀ (s : Shared) (H : Hp) (C : Addr) (cl : List (Str × Addr)) (fp : List Addr), FTs (X.blk s H scope (compEnvC scope cl C X.env) fp) ifs cf)
    (he : ∀ (s : Shared) (H : Hp) (C : Addr) (cl : List (Str × Addr)) (fp : List Addr), FE (X.blk s H scope (compEnvC scope cl C X.env) fp) elt f)
    (hvs : own.map (·.2) = vs := by rfl) (hws : ∀ j ∈ ws, j ∈ vs := by decide) (hs : ∀ x, foldedSetIterable iter X.env x = pure x := by intro _; rfl) :
    FS X (.Assign [.Name y py] (.ListComp elt [⟨tg, iter, ifs, 0⟩] scope pos) spos) (sSet i (oComp gl t cf f vs)) := by
  subst hvs
  exact fs_of (ps_setLc c.calm c.nd hy hyl hsw hi.pi ok (fun s H C cl fp => (hg s H C cl fp).pg) (fun s H C cl fp => (ht s H C cl fp).pts) (fun s H C cl fp => (he s H C cl fp).pe) hs) fun D z o r h q => lc_tO (fun _ _ _ h => h) hws (set_go (D := D) r h q)
/-- targets = a value -/
def sAsg (f : EF) (t : GF) : SF := fun e => (f e).bind fun p => (t p.1 p.2).map fun e2 => .nx e2
theorem fs_asg {tg a : Expr} {f : EF} {t : GF} {ws : List Nat} (h : FE X a f) (hg : FG X tg t ws) (hs : swapsWithSole [tg] a pos.line X.env = pure false := by rfl) (hw : swappedStores [tg] a X.env = pure none := by rfl) (h1 : (assignEach [tg] X.env).map (·.2) = [assign tg X.env] := by rfl) : FS X (.Assign [tg] a pos) (sAsg f t) :=
  fs_of (ps_asg h.pe hg.pg hs hw h1) fun D z o r h q => by
    obtain ⟨⟨d, e1⟩, h1, h2⟩ := Option.bind_eq_some_iff.mp h
    obtain ⟨e2, h3, h4⟩ := Option.map_eq_some_iff.mp h2
    subst h4
    refine ⟨z, d, e1, r, rfl, rfl, h1, fun v y m r2 s2 ee p => ⟨y, d, e2, r2, s2, rfl, p, by rw [ee]; exact h3, fun y2 m2 r3 ee2 _ _ _ => ?_⟩⟩
    exact q y2 (m.trans m2) r3 ee2
/-! ### if, for, while -/
def sIf (c : BF) (f g : SF) : SF := fun e => (c e).bind fun p => if p.1 = true then f p.2 else g p.2
theorem fs_if {c : Expr} {a b : List Stmt} {h : BF} {f g : SF} (hc : FT X c h) (ha : FSs X a f) (hb : FSs X b g) : FS X (.If c a b pos) (sIf h f g) := fs_of (ps_if hc.pt ha.ps hb.ps) fun D z o r h q => by
  obtain ⟨⟨b, e1⟩, h1, h2⟩ := Option.bind_eq_some_iff.mp h
  refine ⟨z, b, e1, r, rfl, rfl, h1, fun y m r2 s2 ee => ?_⟩
  cases b with
  | true => exact iteT (tS_out.mpr ⟨y, o, r2, s2, rfl, by rw [ee]; exact h2, q.mv m⟩)
  | false => exact iteF (tS_out.mpr ⟨y, o, r2, s2, rfl, by rw [ee]; exact h2, q.mv m⟩)
/-- a loop's turns -/
def forL (t : GF) (b : SF) : List D → Ev → Option O
  | [], e => some (.nx e)
  | d :: ds, e => (t d e).bind fun e1 => (b e1).bind fun o => match o with
    | .nx e2 => forL t b ds e2
    | .ct e2 => forL t b ds e2
    | .bk e2 => some (.nx e2)
    | .rt r e2 => some (.rt r e2)
def sFor (g : LF) (t : GF) (b : SF) : SF := fun e => (g e).bind fun p => forL t b p.1 p.2
theorem fs_for {tg iter : Expr} {body : List Stmt} {gl : LF} {t : GF} {ws : List Nat} {b : SF} (hp : PassesOwn (model X.prog X.w) X.A X.env X.xe) (hc : X.calm = true) (hi : FI X tg iter gl) (hg : FG X tg t ws) (hb : FSs X body b)
    (hs : ∀ x, foldedSetIterable iter X.env x = pure x := by intro _; rfl) : FS X (.For tg iter body [] pos) (sFor gl t b) := fs_of (ps_for hp hc hi.pi hg.pg hb.ps hs) fun D z o r h q => by
  obtain ⟨⟨ds, e1⟩, h1, h2⟩ := Option.bind_eq_some_iff.mp h
  refine ⟨z, ds, e1, r, rfl, rfl, h1, fun J y m r2 s2 ee it => ?_⟩
  obtain ⟨Gd, Y, w, hG1, hG2⟩ := it
  rw [← s2]
  refine for_it w (fun i σ H => ∃ u, u.s = σ ∧ u.H = H ∧ Rp X.K u ∧ Mv y u ∧ forL t b (ds.drop i) u.e = some o) ⟨y, rfl, rfl, r2, Mv.refl y, by rw [ee]; exact h2⟩ ?_ ?_ ?_
  · rintro i σ H hi ⟨u, rfl, rfl, ru, mu, _⟩
    exact hG1 _ (mu.g.trans ru.same)
  · rintro i x σ H H' hi ⟨u, rfl, rfl, ru, mu, hu⟩ hy
    obtain ⟨u1, d, r1, m1, s1, e1, hH1, hdi, hdv⟩ : ∃ (u1 : Z) (d : PyData), Rp X.K u1 ∧ Mv u u1 ∧ u1.s = u.s ∧ u1.e = u.e ∧ u1.H = H' ∧ ds[i]? = some d ∧ Dv X.K u1.G x d := by
      rcases hG2 i u.H x H' hi (mu.g.trans ru.same) hy with ⟨e, d, h3, h4⟩ | ⟨T, tv, es, h3, h4, h5, h6, h7⟩
      · exact ⟨u, d, ru, Mv.refl u, rfl, rfl, e.symm, h3, dvMono mu.g _ _ h4⟩
      · obtain ⟨ra, ma⟩ := ru.add (o := .tup tv) h4
        refine ⟨u.add T (.tup tv), .tuple es, ra, ma, rfl, rfl, h5.symm, h6, ?_⟩
        rw [h3]
        exact .tup (SqT.of upd_same) (dvMonoAll (mu.g.trans ma.g) _ _ h7)
    have hdrop : ds.drop i = d :: ds.drop (i + 1) := by
      obtain ⟨h1, h2⟩ := List.getElem?_eq_some_iff.mp hdi
      rw [← h2, List.drop_eq_getElem_cons h1]
    rw [hdrop] at hu
    unfold forL at hu
    obtain ⟨ea, ht, hu⟩ := Option.bind_eq_some_iff.mp hu
    obtain ⟨ob, hbb, hu⟩ := Option.bind_eq_some_iff.mp hu
    refine ⟨u1, d, ea, r1, s1, hH1, hdv, by rw [e1]; exact ht, fun u2 m2 ru2 e2 eH2 eG2 es2 => ?_⟩
    refine tS_out.mpr ⟨u2, ob, ru2, rfl, rfl, by rw [e2]; exact hbb, ?_⟩
    have mm := (mu.trans m1).trans m2
    cases ob with
    | nx e3 => exact fun u3 m3 r3 e3' => ⟨u3, rfl, rfl, r3, mm.trans m3, by rw [e3']; exact hu⟩
    | ct e3 => exact fun u3 m3 r3 e3' => ⟨u3, rfl, rfl, r3, mm.trans m3, by rw [e3']; exact hu⟩
    | bk e3 =>
      cases hu
      exact fun u3 m3 r3 e3' => q u3 ((m.trans mm).trans m3) r3 e3'
    | rt rr e3 =>
      cases hu
      exact q.mv (m.trans mm)
  · rintro σ H ⟨u, rfl, rfl, ru, mu, hu⟩
    rw [List.drop_length] at hu
    cases hu
    exact q u (m.trans mu) ru rfl
def whileN (c : BF) (b : SF) : Nat → Ev → Option O
  | 0, _ => none
  | n + 1, e => (c e).bind fun p => if p.1 = true then (b p.2).bind fun o => match o with
      | .nx e2 => whileN c b n e2
      | .ct e2 => whileN c b n e2
      | .bk e2 => some (.nx e2)
      | .rt r e2 => some (.rt r e2)
    else some (.nx p.2)
theorem whileN_succ (c : BF) (b : SF) : ∀ (n : Nat) (e : Ev) (o : O), whileN c b n e = some o → whileN c b (n + 1) e = some o
  | 0, _, _, h => nomatch h
  | n + 1, e, o, h => by
    unfold whileN at h ⊢
    obtain ⟨⟨k, e1⟩, h1, h⟩ := Option.bind_eq_some_iff.mp h
    rw [h1]
    cases k with
    | false => exact h
    | true =>
      obtain ⟨ob, h2, h⟩ := Option.bind_eq_some_iff.mp (show ((b e1).bind _) = some o from h)
      show ((b e1).bind _) = some o
      rw [h2]
      cases ob with
      | nx e2 => exact whileN_succ c b n e2 o h
      | ct e2 => exact whileN_succ c b n e2 o h
      | bk e2 => exact h
      | rt r e2 => exact h
theorem whileN_le {c : BF} {b : SF} {n m : Nat} {e : Ev} {o : O} (h : whileN c b n e = some o) (k : n ≤ m) : whileN c b m e = some o := by
  induction k with
  | refl => exact h
  | step _ ih => exact whileN_succ c b _ e o ih
open Classical in
/-- a while's end, if it comes to one -/
noncomputable def sWhile (c : BF) (b : SF) : SF := fun e => if h : ∃ o n, whileN c b n e = some o then some h.choose else none
theorem sWhile_of {c : BF} {b : SF} {n : Nat} {e : Ev} {o : O} (h : whileN c b n e = some o) : sWhile c b e = some o := by
  have hx : ∃ o n, whileN c b n e = some o := ⟨o, n, h⟩
  unfold sWhile
  rw [dif_pos hx]
  obtain ⟨m, hm⟩ := hx.choose_spec
  have h1 := whileN_le hm (Nat.le_max_left m n)
  have h2 := whileN_le h (Nat.le_max_right m n)
  rw [h1] at h2
  exact h2
theorem sWhile_to {c : BF} {b : SF} {e : Ev} {o : O} (h : sWhile c b e = some o) : ∃ n, whileN c b n e = some o := by
  unfold sWhile at h
  split at h
  · rename_i hx
    cases h
    exact hx.choose_spec
  · cases h
theorem sWhile_eq (c : BF) (b : SF) (e : Ev) : sWhile c b e = (c e).bind fun p => if p.1 = true then (b p.2).bind fun o => match o with
      | .nx e2 => sWhile c b e2
      | .ct e2 => sWhile c b e2
      | .bk e2 => some (.nx e2)
      | .rt r e2 => some (.rt r e2)
    else some (.nx p.2) := by
  apply Option.ext
  intro o
  constructor
  · intro h
    obtain ⟨n, hn⟩ := sWhile_to h
    cases n with
    | zero => cases hn
    | succ n =>
      unfold whileN at hn
      obtain ⟨⟨k, e1⟩, h1, hn⟩ := Option.bind_eq_some_iff.mp hn
      rw [h1]
      cases k with
      | false => exact hn
      | true =>
        obtain ⟨ob, h2, hn⟩ := Option.bind_eq_some_iff.mp (show ((b e1).bind _) = some o from hn)
        show ((b e1).bind _) = some o
        rw [h2]
        cases ob with
        | nx e2 => exact sWhile_of hn
        | ct e2 => exact sWhile_of hn
        | bk e2 => exact hn
        | rt r e2 => exact hn
  · intro h
    obtain ⟨⟨k, e1⟩, h1, h⟩ := Option.bind_eq_some_iff.mp h
    cases k with
    | false => exact sWhile_of (n := 1) (by unfold whileN; rw [h1]; exact h)
    | true =>
      obtain ⟨ob, h2, h⟩ := Option.bind_eq_some_iff.mp (show ((b e1).bind _) = some o from h)
      cases ob with
      | nx e2 =>
        obtain ⟨n, hn⟩ := sWhile_to (show sWhile c b e2 = some o from h)
        refine sWhile_of (n := n + 1) ?_
        unfold whileN
        rw [h1]
        show ((b e1).bind _) = some o
        rw [h2]
        exact hn
      | ct e2 =>
        obtain ⟨n, hn⟩ := sWhile_to (show sWhile c b e2 = some o from h)
        refine sWhile_of (n := n + 1) ?_
        unfold whileN
        rw [h1]
        show ((b e1).bind _) = some o
        rw [h2]
        exact hn
      | bk e2 =>
        refine sWhile_of (n := 1) ?_
        unfold whileN
        rw [h1]
        show ((b e1).bind _) = some o
        rw [h2]
        exact h
      | rt r e2 =>
        refine sWhile_of (n := 1) ?_
        unfold whileN
        rw [h1]
        show ((b e1).bind _) = some o
        rw [h2]
        exact h
theorem fs_while {c : Expr} {body : List Stmt} {cf : BF} {b : SF} (hp : PassesOwn (model X.prog X.w) X.A X.env X.xe) (hc : FT X c cf) (hb : FSs X body b) : FS X (.While c body [] pos) (sWhile cf b) := fs_of (ps_while hp hc.pt hb.ps) fun D z o r h q => by
  obtain ⟨n, hn⟩ := sWhile_to h
  refine ⟨fun m σ H => ∃ u, u.s = σ ∧ u.H = H ∧ Rp X.K u ∧ Mv z u ∧ whileN cf b m u.e = some o, ⟨n, z, rfl, rfl, r, Mv.refl z, hn⟩, ?_⟩
  rintro m σ H ⟨u, rfl, rfl, ru, mu, hu⟩
  cases m with
  | zero => cases hu
  | succ m =>
    unfold whileN at hu
    obtain ⟨⟨k, e1⟩, h1, hu⟩ := Option.bind_eq_some_iff.mp hu
    refine ⟨u, k, e1, ru, rfl, rfl, h1, fun y my ry sy ey => ?_⟩
    cases k with
    | false =>
      cases hu
      exact iteF (by rw [← sy]; exact q y (mu.trans my) ry ey)
    | true =>
      obtain ⟨ob, h2, hu⟩ := Option.bind_eq_some_iff.mp (show ((b e1).bind _) = some o from hu)
      refine iteT ⟨fun σ' H' => ∃ u', u'.s = σ' ∧ u'.H = H' ∧ Rp X.K u' ∧ Mv z u' ∧ whileN cf b m u'.e = some o, fun σ' H' hN => ⟨m, Nat.lt_succ_self m, hN⟩, ?_⟩
      refine tS_out.mpr ⟨y, ob, ry, sy, rfl, by rw [ey]; exact h2, ?_⟩
      have mm := mu.trans my
      cases ob with
      | nx e3 => exact fun u3 m3 r3 e3' => ⟨u3, rfl, rfl, r3, mm.trans m3, by rw [e3']; exact hu⟩
      | ct e3 => exact fun u3 m3 r3 e3' => ⟨u3, rfl, rfl, r3, mm.trans m3, by rw [e3']; exact hu⟩
      | bk e3 =>
        cases hu
        exact fun u3 m3 r3 e3' => q u3 (mm.trans m3) r3 e3'
      | rt rr e3 =>
        cases hu
        exact q.mv mm
end
end Fl

set_option Elab.async false
set_option linter.all false
set_option maxRecDepth 100000
set_option maxHeartbeats 1000000
set_option autoImplicit false
/-! FnCall: defs and their calls. -/
namespace Fl
open PySem PySem.Spec PyProof.Rows L2
abbrev Fnc := List Sl → Option (Sl × List Sl)
/-- of the arguments only pinned things are told of behind a call -/
def keepE : List Sl → Ev → List Sl
  | [], _ => []
  | .ow _ :: ss, e => e.headD .no :: keepE ss e.tail
  | _ :: ss, e => .no :: keepE ss e.tail
theorem keepE_len : ∀ (ss : List Sl) (e : Ev), (keepE ss e).length = ss.length
  | [], _ => rfl
  | .ow _ :: ss, e => by show (keepE ss e.tail).length + 1 = _; rw [keepE_len ss]; rfl
  | .no :: ss, e => by show (keepE ss e.tail).length + 1 = _; rw [keepE_len ss]; rfl
  | .va _ :: ss, e => by show (keepE ss e.tail).length + 1 = _; rw [keepE_len ss]; rfl
  | .li _ :: ss, e => by show (keepE ss e.tail).length + 1 = _; rw [keepE_len ss]; rfl
  | .di _ :: ss, e => by show (keepE ss e.tail).length + 1 = _; rw [keepE_len ss]; rfl
  | .dt _ :: ss, e => by show (keepE ss e.tail).length + 1 = _; rw [keepE_len ss]; rfl
theorem keepE_ow : ∀ (ss : List Sl) (e : Ev) (i : Nat), isOw ss[i]? = true → (keepE ss e)[i]? = some ((e[i]?).getD .no)
  | [], _, i, h => by simp [isOw] at h
  | .ow t :: ss, e, 0, h => by cases e <;> rfl
  | .no :: ss, e, 0, h => by cases h
  | .va _ :: ss, e, 0, h => by cases h
  | .li _ :: ss, e, 0, h => by cases h
  | .di _ :: ss, e, 0, h => by cases h
  | .dt _ :: ss, e, 0, h => by cases h
  | s :: ss, e, i + 1, h => by
    have h' : isOw ss[i]? = true := by simpa using h
    have ih := keepE_ow ss e.tail i h'
    have e1 : e.tail[i]? = e[i + 1]? := by cases e <;> simp
    rw [e1] at ih
    cases s <;> exact ih
theorem keepE_no : ∀ (ss : List Sl) (e : Ev) (i : Nat), i < ss.length → isOw ss[i]? = false → (keepE ss e)[i]? = some .no
  | [], _, i, hl, _ => by cases hl
  | .ow t :: ss, e, 0, _, h => by cases h
  | .no :: ss, e, 0, _, h => rfl
  | .va _ :: ss, e, 0, _, h => rfl
  | .li _ :: ss, e, 0, _, h => rfl
  | .di _ :: ss, e, 0, _, h => rfl
  | .dt _ :: ss, e, 0, _, h => rfl
  | s :: ss, e, i + 1, hl, h => by
    have h' : isOw ss[i]? = false := by simpa using h
    have ih := keepE_no ss e.tail i (by simpa using hl) h'
    cases s <;> exact ih
/-- a def with n slots -/
def mkF (n : Nat) (b : SF) : Fnc := fun ss => (b (ss ++ List.replicate (n - ss.length) Sl.no)).bind fun o => match o with
  | .rt r e => some (r, keepE ss e)
  | .nx e => some (.va .none, keepE ss e)
  | _ => none
/-- what a def of np parameters promises: g -/
def spF (K : Frg) (np : Nat) (g : Fnc) : Sp := fun vs H Q _ => vs.length = np ∧ ∃ z r ss', z.s = vs.map some ∧ z.H = H ∧ Rp K z ∧ (∀ i : Nat, isOw z.e[i]? = false → z.F i = []) ∧ g z.e = some (r, ss') ∧
  ∀ v y Fr, Mv z y → Rp K y → y.s = z.s → y.e = ss' → SlOk K y.G y.H (some v) Fr r → (∀ a ∈ Fr, z.H a = none ∧ ∀ i, a ∉ y.F i) → Q v y.H
def Z.ent (z : Z) (N : List Str) (vs : List V) : Z := { z with s := L2.start N vs, e := z.e ++ List.replicate (N.length - z.e.length) Sl.no }
def Z.ret (z y : Z) : Z := { y with s := z.s, e := keepE z.e y.e, F := fun i => if isOw z.e[i]? = true then y.F i else [] }
section
variable {P : Program} {w : World} {K : Frg} {mg : Str → Option Value} {base : Heap}
theorem def_ok {x qual : Str} {st : Stmt} {f : Addr} {fd : FuncData} {N ps : List Str} {k : Nat} {b : SF} (F : Fun K x qual st f fd) (S : FnScope N ps (defScope st)) (hnp : ps.length ≤ N.length)
    (hb : ∀ (cdv : Value) (A : Around) (outer : List Env) (s : Shared) (H : Hp) (E : XK), Room k (A.deeper (envOfC qual (defScope st) s.heap.objs.size f cdv)) →
      FSs (cxOf CX0 P w K mg base N qual (defScope st) f cdv A outer s H E).nox (defBody st) b) : FnOk P w K mg base CX0 (k + 1) f fd ps (spF K ps.length (mkF N.length b)) := by
  refine F.ok S (fun vs H Q E h => h.1) (fun cdv A outer s H vs Q E hr h => ?_)
  obtain ⟨hl, z, r, ss', hs, hH, rp, har, hg, q⟩ := h
  refine ⟨_, (hb cdv A outer s H E hr).ps, ?_⟩
  subst hH
  obtain ⟨o, h1, h2⟩ := Option.bind_eq_some_iff.mp hg
  have hel : z.e.length = vs.length := by rw [← rp.len, hs, List.length_map]
  -- the state at the entry
  have r0 : Rp K (z.ent N vs) := by
    refine ⟨rp.same, ?_, fun i s h => ?_, fun i h => ?_, rp.sep⟩
    · show (L2.start N vs).length = (z.e ++ List.replicate (N.length - z.e.length) Sl.no).length
      unfold L2.start
      simp [hel]
    · have h' : (z.e ++ List.replicate (N.length - z.e.length) Sl.no)[i]? = some s := h
      show SlOk K z.G z.H (((L2.start N vs)[i]?).join) (z.F i) s
      unfold L2.start
      by_cases hi : i < z.e.length
      · rw [List.getElem?_append_left hi] at h'
        rw [List.getElem?_append_left (by rw [List.length_map, ← hel]; exact hi), ← hs]
        exact rp.ok i s h'
      · rw [List.getElem?_append_right (by omega)] at h'
        have := List.getElem?_eq_some_iff.mp h'
        obtain ⟨h3, h4⟩ := this
        rw [List.getElem_replicate] at h4
        subst h4
        exact rp.out i (by omega)
    · have h' : (z.e ++ List.replicate (N.length - z.e.length) Sl.no).length ≤ i := h
      exact rp.out i (by rw [List.length_append] at h'; omega)
  refine tS_out.mpr ⟨(z.ent N vs), o, r0, rfl, rfl, h1, ?_⟩
  have back : ∀ (y : Z), Mv (z.ent N vs) y → Rp K y →
      Rp K (z.ret y) ∧ Mv z (z.ret y) := fun y m ry => by
    have ow : ∀ i : Nat, isOw z.e[i]? = true → i < z.e.length ∧ isOw y.e[i]? = true ∧ y.s[i]? = z.s[i]? := fun i hi => by
      have hl : i < z.e.length := by
        by_cases q : i < z.e.length
        · exact q
        · rw [List.getElem?_eq_none (by omega)] at hi; cases hi
      have := m.kp i (show isOw (z.e ++ List.replicate (N.length - z.e.length) Sl.no)[i]? = true by rw [List.getElem?_append_left hl]; exact hi)
      refine ⟨hl, this.1, this.2.trans ?_⟩
      show (L2.start N vs)[i]? = z.s[i]?
      unfold L2.start
      rw [List.getElem?_append_left (by rw [List.length_map, ← hel]; exact hl), hs]
    refine ⟨⟨ry.same, ?_, fun i s h => ?_, fun i h => ?_, fun i j a hij hi hj => ?_⟩, ⟨m.out, m.dom, m.g, m.gn, fun i a h => ?_, fun i h => ?_, keepE_len _ _⟩⟩
    · show z.s.length = (keepE z.e y.e).length
      rw [keepE_len]; exact rp.len
    · have h' : (keepE z.e y.e)[i]? = some s := h
      show SlOk K y.G y.H ((z.s[i]?).join) (if isOw z.e[i]? = true then y.F i else []) s
      cases hw : isOw z.e[i]? with
      | true =>
        obtain ⟨hl, h3, h4⟩ := ow i hw
        rw [if_pos rfl, ← h4]
        rw [keepE_ow _ _ _ hw] at h'
        cases hy : y.e[i]? with
        | none => rw [hy] at h3; cases h3
        | some u => rw [hy] at h'; cases h'; exact ry.ok i _ hy
      | false =>
        rw [if_neg (by simp)]
        have hl : i < z.e.length := by have := (List.getElem?_eq_some_iff.mp h').1; rw [keepE_len] at this; exact this
        rw [keepE_no _ _ _ hl hw] at h'
        cases h'
        rfl
    · have h' : (keepE z.e y.e).length ≤ i := h
      rw [keepE_len] at h'
      show (if isOw z.e[i]? = true then y.F i else []) = []
      rw [List.getElem?_eq_none (by omega)]; rfl
    · have hi' : a ∈ (if isOw z.e[i]? = true then y.F i else []) := hi
      have hj' : a ∈ (if isOw z.e[j]? = true then y.F j else []) := hj
      split at hi'
      · split at hj'
        · exact ry.sep i j a hij hi' hj'
        · cases hj'
      · cases hi'
    · have h' : a ∈ (if isOw z.e[i]? = true then y.F i else []) := h
      split at h'
      · exact m.fn i a h'
      · cases h'
    · obtain ⟨hl, h3, h4⟩ := ow i h
      refine ⟨?_, rfl⟩
      show isOw (keepE z.e y.e)[i]? = true
      rw [keepE_ow _ _ _ h]
      cases hy : y.e[i]? with
      | none => rw [hy] at h3; cases h3
      | some u => rw [hy] at h3; exact h3
  cases o with
  | nx e1 =>
    cases h2
    intro y m ry ee
    obtain ⟨b1, b2⟩ := back y m ry
    exact q .non (z.ret y) [] b2 b1 rfl (by show keepE z.e y.e = _; rw [ee]) ⟨rfl, _, rfl, .non⟩ fun _ h => nomatch h
  | rt r1 e1 =>
    cases h2
    intro v y Fr m ry ee so hf hg
    obtain ⟨b1, b2⟩ := back y m ry
    refine q v (z.ret y) Fr b2 b1 rfl (by show keepE z.e y.e = _; rw [ee]) so fun a ha => ⟨?_, fun i hi => ?_⟩
    · rcases hg a ha with ⟨j, h3, h4⟩ | h3
      · exfalso
        have h3' : isOw (z.e ++ List.replicate (N.length - z.e.length) Sl.no)[j]? = false := h3
        have h4' : a ∈ z.F j := h4
        by_cases hj : j < z.e.length
        · rw [List.getElem?_append_left hj] at h3'
          rw [har j h3'] at h4'; cases h4'
        · rw [rp.out j (by omega)] at h4'; cases h4'
      · exact h3
    · have hi' : a ∈ (if isOw z.e[i]? = true then y.F i else []) := hi
      split at hi'
      · exact hf a ha i hi'
      · cases hi'
  | bk _ => cases h2
  | ct _ => cases h2
end
/-! ### calls: the arguments are values, or names of pinned things -/
inductive Ar where
  | vl (d : D)
  | rf (i : Nat)
abbrev AF := Ev → Option (List Ar × Ev)
/-- an argument as it stands -/
def ArOk (K : Frg) (y : Z) (v : V) : Ar → Prop
  | .vl d => Dv K y.G v d
  | .rf i => y.s[i]? = some (some v)
inductive ArsOk (K : Frg) (y : Z) : List V → List Ar → Prop
  | nil : ArsOk K y [] []
  | cons {v : V} {vs : List V} {a : Ar} {as : List Ar} : ArOk K y v a → ArsOk K y vs as → ArsOk K y (v :: vs) (a :: as)
def tR (K : Frg) (f : AF) : TA := fun σ H Q => ∃ z as e', Rp K z ∧ z.s = σ ∧ z.H = H ∧ f z.e = some (as, e') ∧ ∀ vs y, Mv z y → Rp K y → y.s = σ → y.e = e' → ArsOk K y vs as → Q vs y.H
structure FR (X : Cx) (es : List Expr) (f : AF) : Prop where
  pa : PA X es (tR X.K f)
  ln : ∀ e p, f e = some p → p.1.length = es.length
def rNil : AF := fun e => some ([], e)
def rVal (f : EF) (g : AF) : AF := fun e => (f e).bind fun p => (g p.2).map fun q => (.vl p.1 :: q.1, q.2)
def rRef (i : Nat) (g : AF) : AF := fun e => if isOw e[i]? then (g e).map fun q => (.rf i :: q.1, q.2) else none
section
variable {X : Cx} {pos : Pos}
theorem fr_nil : FR X [] rNil := ⟨PA.imp pa_nil fun σ H Q ⟨z, d, e', rp, hs, hH, hf, q⟩ => by
  subst hs hH
  cases hf
  exact q [] z (Mv.refl z) rp rfl rfl .nil, fun e p h => by cases h; rfl⟩
theorem fr_val {a : Expr} {es : List Expr} {f : EF} {g : AF} (ha : FE X a f) (hr : FR X es g) (hs : starEach (a :: es) X.env = (false, eval a X.env) :: starEach es X.env := by rfl) : FR X (a :: es) (rVal f g) :=
  ⟨PA.imp (pa_cons ha.pe hr.pa hs) fun σ H Q ⟨z, d, e', rp, hs, hH, hf, q⟩ => by
    subst hs hH
    obtain ⟨⟨x, e1⟩, h1, hf⟩ := Option.bind_eq_some_iff.mp hf
    obtain ⟨⟨xs, e2⟩, h2, h3⟩ := Option.map_eq_some_iff.mp hf
    cases h3
    refine ⟨z, x, e1, rp, rfl, rfl, h1, fun v1 y1 m1 r1 s1 ee1 p1 => ⟨y1, xs, e2, r1, s1, rfl, by rw [ee1]; exact h2, fun v2 y2 m2 r2 s2 ee2 p2 => ?_⟩⟩
    exact q (v1 :: v2) y2 (m1.trans m2) r2 s2 ee2 (.cons (dvMono m2.g _ _ p1) p2), fun e p h => by
    obtain ⟨⟨x, e1⟩, h1, hf⟩ := Option.bind_eq_some_iff.mp h
    obtain ⟨⟨xs, e2⟩, h2, h3⟩ := Option.map_eq_some_iff.mp hf
    cases h3
    exact congrArg (· + 1) (hr.ln _ _ h2)⟩
theorem fr_ref {i : Nat} {x : Str} {p : Pos} {es : List Expr} {g : AF} (hN : X.N[i]? = some x) (hv : Vis X.env.scope x) (hr : FR X es g) (hs : starEach (.Name x p :: es) X.env = (false, eval (.Name x p) X.env) :: starEach es X.env := by rfl) (hd : (x == ("__debug__" : Str)) = false := by decide) (hcd : (x == ("__classdict__" : Str)) = false := by decide) : FR X (.Name x p :: es) (rRef i g) :=
  ⟨PA.imp (pa_cons (pe_var hN hv hd hcd) hr.pa hs) (fun σ H Q ⟨z, d, e', rp, hs, hH, hf, q⟩ => by
    subst hs hH
    unfold rRef at hf
    split at hf
    · rename_i hw
      obtain ⟨⟨xs, e2⟩, h2, h3⟩ := Option.map_eq_some_iff.mp hf
      cases h3
      cases hq : z.e[i]? with
      | none => rw [hq] at hw; cases hw
      | some s =>
        rw [hq] at hw
        have so := rp.ok i s hq
        cases s with
        | ow t =>
          obtain ⟨v, e1, _⟩ := so
          refine ⟨v, joinSome e1, z, xs, _, rp, rfl, rfl, h2, fun v2 y2 m2 r2 s2 ee2 p2 => q (v :: v2) y2 m2 r2 s2 ee2 (.cons ?_ p2)⟩
          show y2.s[i]? = some (some v)
          rw [s2]; exact joinSome e1
        | no => cases hw
        | va _ => cases hw
        | li _ => cases hw
        | di _ => cases hw
        | dt _ => cases hw
    · cases hf), fun e p h => by
    unfold rRef at h
    split at h
    · obtain ⟨⟨xs, e2⟩, h2, h3⟩ := Option.map_eq_some_iff.mp h
      cases h3
      exact congrArg (· + 1) (hr.ln _ _ h2)
    · cases h⟩
/-- what the callee is told -/
def arSl (e : Ev) : Ar → Sl
  | .vl d => .va d
  | .rf i => (e[i]?).getD .no
/-- what is told behind the call: the pinned things' new contents, slot by slot -/
def arBack : List Ar → List Sl → Ev → Ev
  | .rf i :: as, s :: ss, e => arBack as ss (e.set i s)
  | .vl _ :: as, _ :: ss, e => arBack as ss e
  | _, _, e => e
def refs : List Ar → List Nat
  | [] => []
  | .rf i :: as => i :: refs as
  | .vl _ :: as => refs as
def oCall (g : Fnc) (f : AF) : OF := fun e => (f e).bind fun p => if (refs p.1).Nodup ∧ ((refs p.1).all fun i => isOw p.2[i]?) = true then (g (p.1.map (arSl p.2))).map fun q => (q.1, arBack p.1 q.2 p.2) else none
def posOf : List Ar → Nat → Nat
  | [], _ => 0
  | .rf j :: as, i => if j = i then 0 else posOf as i + 1
  | .vl _ :: as, i => posOf as i + 1
theorem posOf_spec : ∀ {as : List Ar} {i : Nat}, i ∈ refs as → as[posOf as i]? = some (.rf i)
  | [], i, h => nomatch h
  | .rf j :: as, i, h => by
    unfold posOf
    by_cases e : j = i
    · rw [if_pos e, e]; rfl
    · rw [if_neg e]
      show as[posOf as i]? = _
      exact posOf_spec ((List.mem_cons.mp h).elim (fun z => absurd z.symm e) fun z => z)
  | .vl _ :: as, i, h => by
    show as[posOf as i]? = _
    exact posOf_spec h
theorem refs_mem : ∀ {as : List Ar} {k i : Nat}, as[k]? = some (.rf i) → i ∈ refs as
  | [], k, i, h => by simp at h
  | .rf j :: as, 0, i, h => by cases h; exact List.mem_cons_self
  | .vl _ :: as, 0, i, h => by cases h
  | .rf j :: as, k + 1, i, h => List.mem_cons_of_mem _ (refs_mem (k := k) (by simpa using h))
  | .vl _ :: as, k + 1, i, h => refs_mem (as := as) (k := k) (by simpa using h)
theorem refs_one : ∀ {as : List Ar} {k l i : Nat}, (refs as).Nodup → as[k]? = some (.rf i) → as[l]? = some (.rf i) → k = l
  | [], k, l, i, _, h, _ => by simp at h
  | .vl _ :: as, 0, l, i, _, h, _ => by cases h
  | .vl _ :: as, k + 1, 0, i, _, _, h => by cases h
  | .vl _ :: as, k + 1, l + 1, i, n, h, h' => congrArg (· + 1) (refs_one (as := as) n (by simpa using h) (by simpa using h'))
  | .rf j :: as, 0, 0, i, _, _, _ => rfl
  | .rf j :: as, 0, l + 1, i, n, h, h' => by
    cases h
    exact absurd (refs_mem (as := as) (k := l) (by simpa using h')) (List.nodup_cons.mp n).1
  | .rf j :: as, k + 1, 0, i, n, h', h => by
    cases h
    exact absurd (refs_mem (as := as) (k := k) (by simpa using h')) (List.nodup_cons.mp n).1
  | .rf j :: as, k + 1, l + 1, i, n, h, h' => congrArg (· + 1) (refs_one (as := as) (List.nodup_cons.mp n).2 (by simpa using h) (by simpa using h'))
theorem arBack_len : ∀ (as : List Ar) (ss : List Sl) (e : Ev), (arBack as ss e).length = e.length
  | [], _, _ => rfl
  | .rf i :: as, [], _ => rfl
  | .vl _ :: as, [], _ => rfl
  | .rf i :: as, s :: ss, e => by show (arBack as ss (e.set i s)).length = _; rw [arBack_len as ss, List.length_set]
  | .vl _ :: as, _ :: ss, e => arBack_len as ss e
theorem arBack_get : ∀ (as : List Ar) (ss : List Sl) (e : Ev) (i : Nat), ss.length = as.length → (refs as).Nodup → (arBack as ss e)[i]? = if i ∈ refs as ∧ i < e.length then ss[posOf as i]? else e[i]?
  | [], ss, e, i, _, _ => by
    rw [if_neg (fun h => nomatch h.1)]
    cases ss <;> rfl
  | .rf j :: as, [], e, i, h, _ => by cases h
  | .vl _ :: as, [], e, i, h, _ => by cases h
  | .vl _ :: as, s :: ss, e, i, h, n => by
    show (arBack as ss e)[i]? = if i ∈ refs as ∧ i < e.length then ss[posOf as i]? else e[i]?
    exact arBack_get as ss e i (by simpa using h) n
  | .rf j :: as, s :: ss, e, i, h, n => by
    obtain ⟨n1, n2⟩ := List.nodup_cons.mp n
    show (arBack as ss (e.set j s))[i]? = if i ∈ j :: refs as ∧ i < e.length then (s :: ss)[if j = i then 0 else posOf as i + 1]? else e[i]?
    rw [arBack_get as ss _ i (by simpa using h) n2, List.length_set]
    by_cases e1 : j = i
    · subst e1
      rw [if_neg (fun q => n1 q.1), if_pos rfl]
      by_cases hl : j < e.length
      · rw [if_pos ⟨List.mem_cons_self, hl⟩, List.getElem?_set_self hl]; rfl
      · rw [if_neg (fun q => hl q.2), List.getElem?_eq_none (by rw [List.length_set]; omega), List.getElem?_eq_none (by omega)]
    · rw [if_neg e1, List.getElem?_set_ne e1]
      by_cases h2 : i ∈ refs as ∧ i < e.length
      · rw [if_pos h2, if_pos ⟨List.mem_cons_of_mem _ h2.1, h2.2⟩]; rfl
      · rw [if_neg h2, if_neg (fun q => h2 ⟨(List.mem_cons.mp q.1).elim (fun z => absurd z.symm e1) fun z => z, q.2⟩)]
theorem arsOk_len {K : Frg} {y : Z} : ∀ {vs : List V} {as : List Ar}, ArsOk K y vs as → vs.length = as.length
  | _, _, .nil => rfl
  | _, _, .cons _ t => by rw [List.length_cons, List.length_cons, arsOk_len t]
theorem arsOk_get {K : Frg} {y : Z} : ∀ {vs : List V} {as : List Ar} {k : Nat} {a : Ar}, ArsOk K y vs as → as[k]? = some a → ∃ v, vs[k]? = some v ∧ ArOk K y v a
  | _, _, k, a, .nil, h => by simp at h
  | _, _, 0, a, .cons (v := v) h t, e => by simp at e; subst e; exact ⟨v, rfl, h⟩
  | _, _, k + 1, a, .cons h t, e => by
    obtain ⟨v, h1, h2⟩ := arsOk_get (k := k) t (by simpa using e)
    exact ⟨v, by simpa using h1, h2⟩
/-- the callee's state -/
def Z.cal (y : Z) (vs : List V) (as : List Ar) : Z := { y with s := vs.map some, e := as.map (arSl y.e), F := fun k => match as[k]? with
  | some (.rf i) => y.F i
  | _ => [] }
/-- the caller's state behind it -/
def Z.aft (y u : Z) (as : List Ar) : Z := { u with s := y.s, e := arBack as u.e y.e, F := fun i => if i ∈ refs as then u.F (posOf as i) else y.F i }
theorem call_in {K : Frg} {y : Z} (r : Rp K y) {vs : List V} {as : List Ar} (ok : ArsOk K y vs as) (nd : (refs as).Nodup) (ow : ((refs as).all fun i => isOw y.e[i]?) = true) : Rp K (y.cal vs as) ∧ ∀ i : Nat, isOw (y.cal vs as).e[i]? = false → (y.cal vs as).F i = [] := by
  have hl := arsOk_len ok
  have how : ∀ k i : Nat, as[k]? = some (.rf i) → isOw y.e[i]? = true := fun k i h => List.all_eq_true.mp ow i (refs_mem h)
  refine ⟨⟨r.same, ?_, fun k s h => ?_, fun k h => ?_, fun k l a hkl hk hl' => ?_⟩, fun k h => ?_⟩
  · show (vs.map some).length = (as.map (arSl y.e)).length
    rw [List.length_map, List.length_map]; exact hl
  · have h' : (as.map (arSl y.e))[k]? = some s := h
    rw [List.getElem?_map] at h'
    obtain ⟨a, h1, h2⟩ := Option.map_eq_some_iff.mp h'
    subst h2
    obtain ⟨v, h3, h4⟩ := arsOk_get ok h1
    show SlOk K y.G y.H (((vs.map some)[k]?).join) (match as[k]? with | some (.rf i) => y.F i | _ => []) (arSl y.e a)
    rw [List.getElem?_map, h3, h1]
    cases a with
    | vl d => exact ⟨rfl, v, rfl, h4⟩
    | rf i =>
      have hi := how k i h1
      cases hq : y.e[i]? with
      | none => rw [hq] at hi; cases hi
      | some u =>
        have so := r.ok i u hq
        have h4' : y.s[i]? = some (some v) := h4
        rw [h4'] at so
        show SlOk K y.G y.H (some v) (y.F i) ((y.e[i]?).getD .no)
        rw [hq]; exact so
  · have h' : (as.map (arSl y.e)).length ≤ k := h
    rw [List.length_map] at h'
    show (match as[k]? with | some (.rf i) => y.F i | _ => []) = []
    rw [List.getElem?_eq_none h']
  · have hk' : a ∈ (match as[k]? with | some (.rf i) => y.F i | _ => []) := hk
    have hl'' : a ∈ (match as[l]? with | some (.rf i) => y.F i | _ => []) := hl'
    split at hk'
    · rename_i i hi
      split at hl''
      · rename_i j hj
        refine r.sep i j a (fun e => hkl ?_) hk' hl''
        subst e
        exact refs_one nd hi hj
      · cases hl''
    · cases hk'
  · show (match as[k]? with | some (.rf i) => y.F i | _ => []) = []
    split
    · rename_i i hi
      have h' : isOw (as.map (arSl y.e))[k]? = false := h
      rw [List.getElem?_map, hi] at h'
      have h2 := how k i hi
      cases hq : y.e[i]? with
      | none => rw [hq] at h2; cases h2
      | some u =>
        have h3 : isOw (some ((y.e[i]?).getD .no)) = false := h'
        rw [hq] at h3 h2
        have h4 : isOw (some u) = false := h3
        rw [h4] at h2; cases h2
    · rfl
theorem call_out {K : Frg} {y u : Z} (r : Rp K y) {vs : List V} {as : List Ar} (ok : ArsOk K y vs as) (nd : (refs as).Nodup) (ow : ((refs as).all fun i => isOw y.e[i]?) = true) (m : Mv (y.cal vs as) u) (ru : Rp K u) (su : u.s = (y.cal vs as).s) : Rp K (y.aft u as) ∧ Mv y (y.aft u as) := by
  have hel : u.e.length = as.length := by rw [m.ln]; show (as.map (arSl y.e)).length = _; rw [List.length_map]
  have how : ∀ i : Nat, i ∈ refs as → isOw y.e[i]? = true := fun i h => List.all_eq_true.mp ow i h
  have hlt : ∀ i : Nat, i ∈ refs as → i < y.e.length := fun i h => by
    by_cases q : i < y.e.length
    · exact q
    · have := how i h
      rw [List.getElem?_eq_none (by omega)] at this; cases this
  have cF : ∀ i : Nat, i ∈ refs as → (y.cal vs as).F (posOf as i) = y.F i := fun i h => by
    show (match as[posOf as i]? with | some (.rf i) => y.F i | _ => []) = y.F i
    rw [posOf_spec h]
  have cF2 : ∀ (k : Nat) (a : Addr), a ∈ (y.cal vs as).F k → ∃ i, i ∈ refs as ∧ as[k]? = some (.rf i) ∧ a ∈ y.F i := fun k a h => by
    have h' : a ∈ (match as[k]? with | some (.rf i) => y.F i | _ => []) := h
    split at h'
    · rename_i i hi; exact ⟨i, refs_mem hi, hi, h'⟩
    · cases h'
  have hget : ∀ i : Nat, (arBack as u.e y.e)[i]? = if i ∈ refs as ∧ i < y.e.length then u.e[posOf as i]? else y.e[i]? := fun i => arBack_get as u.e y.e i hel nd
  have sref : ∀ i : Nat, i ∈ refs as → u.s[posOf as i]? = y.s[i]? := fun i h => by
    obtain ⟨v, h3, h4⟩ := arsOk_get ok (posOf_spec h)
    rw [su]
    show (vs.map some)[posOf as i]? = y.s[i]?
    rw [List.getElem?_map, h3]
    exact (show y.s[i]? = some (some v) from h4).symm
  refine ⟨⟨ru.same, ?_, fun i s h => ?_, fun i h => ?_, fun i j a hij hi hj => ?_⟩, ⟨fun a o h hf => ?_, m.dom, m.g, fun a h hf => m.gn a h fun k hk => by
      obtain ⟨j, _, _, hja⟩ := cF2 k a hk
      exact hf j hja, fun i a h => ?_, fun i h => ?_, arBack_len _ _ _⟩⟩
  · show y.s.length = (arBack as u.e y.e).length
    rw [arBack_len]; exact r.len
  · have h' : (arBack as u.e y.e)[i]? = some s := h
    rw [hget] at h'
    show SlOk K u.G u.H ((y.s[i]?).join) (if i ∈ refs as then u.F (posOf as i) else y.F i) s
    by_cases hi : i ∈ refs as
    · rw [if_pos ⟨hi, hlt i hi⟩] at h'
      rw [if_pos hi, ← sref i hi]
      exact ru.ok _ s h'
    · rw [if_neg (fun q => hi q.1)] at h'
      rw [if_neg hi]
      refine slFrame (r.ok i s h') m.g (fun a ha => ?_) fun a ha => ?_
      · have lv := (r.live ha).2
        cases hq : y.H a with
        | none => exact absurd hq lv
        | some o =>
          refine m.out a o hq fun k hk => ?_
          obtain ⟨j, hj, _, hja⟩ := cF2 k a hk
          exact r.sep j i a (fun e => hi (e ▸ hj)) hja ha
      · refine (m.gn a (r.live ha).2 fun k hk => ?_).trans (r.live ha).1
        obtain ⟨j, hj, _, hja⟩ := cF2 k a hk
        exact r.sep j i a (fun e => hi (e ▸ hj)) hja ha
  · have h' : (arBack as u.e y.e).length ≤ i := h
    rw [arBack_len] at h'
    show (if i ∈ refs as then u.F (posOf as i) else y.F i) = []
    rw [if_neg (fun q => by have := hlt i q; omega)]
    exact r.out i h'
  · have hi' : a ∈ (if i ∈ refs as then u.F (posOf as i) else y.F i) := hi
    have hj' : a ∈ (if j ∈ refs as then u.F (posOf as j) else y.F j) := hj
    have mix : ∀ i j : Nat, i ≠ j → i ∈ refs as → a ∈ u.F (posOf as i) → a ∈ y.F j → False := fun i j hij hi h1 h2 => by
      rcases m.fn _ a h1 with h3 | h3
      · rw [cF i hi] at h3
        exact r.sep i j a hij h3 h2
      · exact (r.live h2).2 h3
    by_cases h1 : i ∈ refs as
    · rw [if_pos h1] at hi'
      by_cases h2 : j ∈ refs as
      · rw [if_pos h2] at hj'
        refine ru.sep _ _ a (fun e => hij ?_) hi' hj'
        have e1 := posOf_spec h1
        have e2 := posOf_spec h2
        rw [e, e2] at e1
        cases e1; rfl
      · rw [if_neg h2] at hj'
        exact mix i j hij h1 hi' hj'
    · rw [if_neg h1] at hi'
      by_cases h2 : j ∈ refs as
      · rw [if_pos h2] at hj'
        exact mix j i (Ne.symm hij) h2 hj' hi'
      · rw [if_neg h2] at hj'
        exact r.sep i j a hij hi' hj'
  · refine m.out a o h fun k hk => ?_
    obtain ⟨j, _, _, hja⟩ := cF2 k a hk
    exact hf j hja
  · have h' : a ∈ (if i ∈ refs as then u.F (posOf as i) else y.F i) := h
    by_cases h1 : i ∈ refs as
    · rw [if_pos h1] at h'
      have := m.fn _ a h'
      rw [cF i h1] at this
      exact this
    · rw [if_neg h1] at h'
      exact .inl h'
  · refine ⟨?_, rfl⟩
    show isOw (arBack as u.e y.e)[i]? = true
    rw [hget]
    by_cases h1 : i ∈ refs as
    · rw [if_pos ⟨h1, hlt i h1⟩]
      refine (m.kp (posOf as i) ?_).1
      show isOw (as.map (arSl y.e))[posOf as i]? = true
      rw [List.getElem?_map, posOf_spec h1]
      show isOw (some ((y.e[i]?).getD .no)) = true
      cases hq : y.e[i]? with
      | none => rw [hq] at h; cases h
      | some s => rw [hq] at h; exact h
    · rw [if_neg (fun q => h1 q.1)]; exact h
theorem fo_call {k np : Nat} {f : Addr} {fd : FuncData} {ps : List Str} {g : Fnc} {x : Str} {p : Pos} {a : Expr} {es : List Expr} {af : AF} (F : FnOk X.prog X.w X.K X.mg X.base CX0 k f fd ps (spF X.K np g)) (hr : Room k X.A) (hm : X.mg x = some (.ref f)) (hk : PySem.W.keepIn X.K (.ref f) = true) (hb : Binds X.K fd ps []) (ha : FR X (a :: es) af) (hn : (a :: es).length = np)
    (hg : Gl X x := by rfl) (hdb : (x == ("__debug__" : Str)) = false := by decide) (he : starEach (a :: es) X.env = (false, eval a X.env) :: starEach es X.env := by rfl) (hpl : (backTo pos (starEach es X.env)).any (·.1) = false := by rfl) :
    FO X (.Call (.Name x p) (a :: es) [] pos) (oCall g af) :=
  ⟨PE.imp (pe_call F hr hg hm hk hb .nil pass0 ha.pa hdb he hpl) fun σ H Q ⟨z, r, e', rp, hs, hH, hf, q⟩ => by
    subst hs hH
    obtain ⟨⟨as, e1⟩, h1, hf⟩ := Option.bind_eq_some_iff.mp hf
    split at hf
    · rename_i hc
      obtain ⟨⟨r1, ss'⟩, h2, hf⟩ := Option.map_eq_some_iff.mp hf
      cases hf
      refine ⟨z, as, e1, rp, rfl, rfl, h1, fun vs y m ry sy ey ok => ?_⟩
      obtain ⟨hc1, hc2⟩ := hc
      have hc2' : ((refs as).all fun i => isOw y.e[i]?) = true := by rw [ey]; exact hc2
      obtain ⟨c1, c2⟩ := call_in ry ok hc1 hc2'
      rw [List.append_nil]
      refine ⟨by rw [arsOk_len ok, ← hn]; exact ha.ln _ _ h1, y.cal vs as, r1, ss', rfl, rfl, c1, c2, by show g (as.map (arSl y.e)) = _; rw [ey]; exact h2, fun v u Fr mu ru su eu so hf => ?_⟩
      obtain ⟨d1, d2⟩ := call_out ry ok hc1 hc2' mu ru su
      refine q v (y.aft u as) Fr (m.trans d2) d1 sy (by show arBack as u.e y.e = _; rw [eu, ey]) so fun b hb => ⟨?_, fun i hi => ?_⟩
      · by_cases hz : z.H b = none
        · exact hz
        · exact absurd (hf b hb).1 (m.dom b hz)
      · have hi' : b ∈ (if i ∈ refs as then u.F (posOf as i) else y.F i) := hi
        split at hi'
        · exact (hf b hb).2 _ hi'
        · exact (ry.live hi').2 (hf b hb).1
    · cases hf⟩
end
end Fl

set_option Elab.async false
set_option linter.all false
set_option maxRecDepth 100000
set_option maxHeartbeats 1000000
set_option autoImplicit false
/-! FnMeth: own lists changed; stores by place; operators in place; several targets. -/
namespace Fl
open PySem PySem.Spec PyProof.Rows L2
/-! ### an own list changed -/
def liOf : Option Sl → Option (List D)
  | some (.li xs) => some xs
  | _ => none
theorem liOf_some {o : Option Sl} {xs : List D} (h : liOf o = some xs) : o = some (.li xs) := by
  unfold liOf at h
  split at h
  · cases h; rfl
  · cases h
def Z.upLi (z : Z) (i : Nat) (a : Addr) (vs : List V) (ys : List D) : Z := { z with H := upd z.H a (.lst vs), e := z.e.set i (.li ys) }
theorem Rp.upLi {K : Frg} {z : Z} (r : Rp K z) {i : Nat} {xs ys : List D} {a : Addr} {ws : List V} (h : z.e[i]? = some (.li xs)) (hs : z.s[i]? = some (some (.ref a))) (hd : DvAll K z.G ws ys) : Rp K (z.upLi i a ws ys) ∧ Mv z (z.upLi i a ws ys) := by
  obtain ⟨a', vs, e1, e2, e3, e4, e5⟩ := r.own h
  rw [hs] at e1
  cases e1
  have hl := (List.getElem?_eq_some_iff.mp h).1
  have nf : ∀ j, j ≠ i → a ∉ z.F j := fun j hj => r.sep i j a (Ne.symm hj) (by rw [e2]; simp)
  refine ⟨⟨fun b x e => ?_, ?_, fun j s hj => ?_, fun j hj => ?_, r.sep⟩, ⟨fun b o hb hf => ?_, fun b hb => upd_none hb, Same.refl _, fun _ _ _ => rfl, fun _ _ h => .inl h, fun j hj => ?_, List.length_set ..⟩⟩
  · show upd z.H a (.lst ws) b = some x
    rw [upd_ne (ne_of_none (H := z.G) e e3)]; exact r.same _ _ e
  · show z.s.length = (z.e.set i (.li ys)).length
    rw [List.length_set]; exact r.len
  · have hj' : (z.e.set i (.li ys))[j]? = some s := hj
    show SlOk K z.G (upd z.H a (.lst ws)) ((z.s[j]?).join) (z.F j) s
    by_cases e : j = i
    · subst e
      rw [List.getElem?_set_self hl] at hj'
      cases hj'
      rw [hs]
      exact ⟨a, ws, rfl, e2, e3, upd_same, hd⟩
    · rw [List.getElem?_set_ne (Ne.symm e)] at hj'
      exact slFrame (r.ok j s hj') (Same.refl _) (fun b hb => upd_ne (memNe (nf j e) hb)) fun b hb => (r.live hb).1
  · have hj' : (z.e.set i (.li ys)).length ≤ j := hj
    rw [List.length_set] at hj'
    exact r.out j hj'
  · show upd z.H a (.lst ws) b = some o
    rw [upd_ne (fun e => hf i (by rw [e, e2]; simp))]; exact hb
  · have e : i ≠ j := fun e => by rw [← e, h] at hj; cases hj
    show isOw (z.e.set i (.li ys))[j]? = true ∧ z.s[j]? = z.s[j]?
    rw [List.getElem?_set_ne e]; exact ⟨hj, rfl⟩
section
variable {X : Cx} {pos : Pos}
/-- name.m(e) of an own list: g tells the value and the new list -/
def eMt1 (g : List D → D → Option (D × List D)) (i : Nat) (f : EF) : EF := fun e => (liOf e[i]?).bind fun _ => (f e).bind fun p => (liOf p.2[i]?).bind fun xs => (g xs p.1).map fun r => (r.1, p.2.set i (.li r.2))
def eMt0 (g : List D → Option (D × List D)) (i : Nat) : EF := fun e => (liOf e[i]?).bind fun xs => (g xs).map fun r => (r.1, e.set i (.li r.2))
def Mt1 (K : Frg) (r : V → List V → Hp → VK → Prop) (g : List D → D → Option (D × List D)) : Prop := ∀ a vs xs d vd rd ys G H (Q : VK), g xs d = some (rd, ys) → Same G H → H a = some (.lst vs) → DvAll K G vs xs → Dv K G vd d →
  (∀ rv ws, Dv K G rv rd → DvAll K G ws ys → Q rv (upd H a (.lst ws))) → r (.ref a) [vd] H Q
def Mt0 (K : Frg) (r : V → List V → Hp → VK → Prop) (g : List D → Option (D × List D)) : Prop := ∀ a vs xs rd ys G H (Q : VK), g xs = some (rd, ys) → Same G H → H a = some (.lst vs) → DvAll K G vs xs →
  (∀ rv ws, Dv K G rv rd → DvAll K G ws ys → Q rv (upd H a (.lst ws))) → r (.ref a) [] H Q
theorem fe_mt1 {i : Nat} {x : Str} {p apos : Pos} {name : Str} {id : String} {r : V → List V → Hp → VK → Prop} {g : List D → D → Option (D × List D)} {a : Expr} {f : EF} (slot : Slot "list" name id) (hty : typeOf (.builtin id) = pure (.type "method_descriptor")) (hm : MtR X id r) (hg : Mt1 X.K r g)
    (hN : X.N[i]? = some x) (hv : Vis X.env.scope x) (ha : FE X a f) (hbase : attributeBase (.Name x p) name X.env (eval (.Name x p) X.env) = eval (.Name x p) X.env := by rfl) (hfew : ((backTo pos (starEach [a] X.env)).all (fun x => !x.1) && (backToKw pos (keywordEach [] X.env)).all (fun x => x.1.isSome)
      && decide (([a]).length + ([] : List Keyword).length + (if ([] : List Keyword).isEmpty then 0 else 1) < 30)) = true := by rfl) (hline : (apos.endLine == pos.line) = true := by rfl)
    (he : starEach [a] X.env = (false, eval a X.env) :: starEach [] X.env := by rfl) (hpl : (backTo pos (starEach [] X.env)).any (·.1) = false := by rfl) (hd : (x == ("__debug__" : Str)) = false := by decide) (hcd : (x == ("__classdict__" : Str)) = false := by decide) : FE X (.Call (.Attribute (.Name x p) name apos) [a] [] pos) (eMt1 g i f) :=
  ⟨PE.imp (pe_bm PySem.F.plainAttrs_list slot hty hm (pe_var hN hv hd hcd) (pa_cons ha.pe pa_nil he) hbase hfew hline he hpl) fun σ H Q ⟨z, d, e', rp, hs, hH, hf, q⟩ => by
    subst hs hH
    obtain ⟨xs0, h0, hf⟩ := Option.bind_eq_some_iff.mp hf
    obtain ⟨⟨xd, e1⟩, h1, hf⟩ := Option.bind_eq_some_iff.mp hf
    obtain ⟨xs, h2, hf⟩ := Option.bind_eq_some_iff.mp hf
    obtain ⟨⟨rd, ys⟩, h3, hf⟩ := Option.map_eq_some_iff.mp hf
    cases hf
    obtain ⟨b, vs0, k1, k2, k3, k4, k5⟩ := rp.own (liOf_some h0)
    refine ⟨.ref b, k1, .inl ⟨rfl, _, SqL.of k4⟩, z, xd, e1, rp, rfl, rfl, h1, fun v y m ry sy ey pv => ?_⟩
    have hli : y.e[i]? = some (.li xs) := by rw [ey]; exact liOf_some h2
    obtain ⟨b', vs, l1, l2, l3, l4, l5⟩ := ry.own hli
    rw [sy, k1] at l1
    cases l1
    refine hg b vs xs xd v rd ys y.G y.H Q h3 ry.same l4 l5 pv fun rv ws p1 p2 => ?_
    obtain ⟨r5, m5⟩ := ry.upLi hli (by rw [sy]; exact k1) p2
    exact q rv (y.upLi i b ws ys) (m.trans m5) r5 sy (by show y.e.set i (.li ys) = _; rw [ey]) p1⟩
theorem fe_mt0 {i : Nat} {x : Str} {p apos : Pos} {name : Str} {id : String} {r : V → List V → Hp → VK → Prop} {g : List D → Option (D × List D)} (slot : Slot "list" name id) (hty : typeOf (.builtin id) = pure (.type "method_descriptor")) (hm : MtR X id r) (hg : Mt0 X.K r g)
    (hN : X.N[i]? = some x) (hv : Vis X.env.scope x) (hbase : attributeBase (.Name x p) name X.env (eval (.Name x p) X.env) = eval (.Name x p) X.env := by rfl) (hline : (apos.endLine == pos.line) = true := by rfl)
    (hd : (x == ("__debug__" : Str)) = false := by decide) (hcd : (x == ("__classdict__" : Str)) = false := by decide) : FE X (.Call (.Attribute (.Name x p) name apos) [] [] pos) (eMt0 g i) :=
  ⟨PE.imp (pe_bm0 PySem.F.plainAttrs_list slot hty hm (pe_var hN hv hd hcd) hbase hline) fun σ H Q ⟨z, d, e', rp, hs, hH, hf, q⟩ => by
    subst hs hH
    obtain ⟨xs, h0, hf⟩ := Option.bind_eq_some_iff.mp hf
    obtain ⟨⟨rd, ys⟩, h3, hf⟩ := Option.map_eq_some_iff.mp hf
    cases hf
    obtain ⟨b, vs, k1, k2, k3, k4, k5⟩ := rp.own (liOf_some h0)
    refine ⟨.ref b, k1, .inl ⟨rfl, _, SqL.of k4⟩, hg b vs xs rd ys z.G z.H Q h3 rp.same k4 k5 fun rv ws p1 p2 => ?_⟩
    obtain ⟨r5, m5⟩ := rp.upLi (liOf_some h0) k1 p2
    exact q rv (z.upLi i b ws ys) m5 r5 rfl rfl p1⟩
def gAppend (xs : List D) (d : D) : Option (D × List D) := if xs.length < sizeLine then some (.none, xs ++ [d]) else none
theorem mt1_append {K : Frg} : Mt1 K rAppend gAppend := fun a vs xs d vd rd ys G H Q e s ha hx hd q => by
  unfold gAppend at e
  split at e
  · rename_i hl
    cases e
    exact ⟨a, vs, vd, rfl, rfl, ha, by rw [dvAll_len hx]; exact hl, q .non _ .non (dvAll_app hx (dvAll_one hd))⟩
  · cases e
def gExtend (xs : List D) : D → Option (D × List D)
  | .list zs => if xs.length + zs.length ≤ sizeLine then some (.none, xs ++ zs) else none
  | _ => none
theorem mt1_extend {K : Frg} : Mt1 K rExtend gExtend := fun a vs xs d vd rd ys G H Q e s ha hx hd q => by
  unfold gExtend at e
  split at e
  · split at e
    · rename_i zs hl
      cases e
      obtain ⟨b, ws, rfl, k1, k2⟩ := vwLst s (.inl hd)
      exact ⟨a, b, vs, ws, rfl, rfl, ha, k1, by rw [dvAll_len hx, dvAll_len k2]; exact hl, q .non _ .non (dvAll_app hx k2)⟩
    · cases e
  · cases e
def gPop (xs : List D) : Option (D × List D) := (xs[xs.length - 1]?).map fun y => (y, xs.dropLast)
theorem dvAll_dropLast {K : Frg} {G : Hp} {vs : List V} {ds : List D} (h : DvAll K G vs ds) : DvAll K G vs.dropLast ds.dropLast := by
  rw [List.dropLast_eq_take, List.dropLast_eq_take, dvAll_len h]
  exact dvAll_take _ h
theorem mt0_pop {K : Frg} : Mt0 K rPop gPop := fun a vs xs rd ys G H Q e s ha hx q => by
  obtain ⟨y, h1, h2⟩ := Option.map_eq_some_iff.mp e
  cases h2
  obtain ⟨v, h3, h4⟩ := dvAll_get hx h1
  exact ⟨a, vs, v, rfl, rfl, ha, by rw [dvAll_len hx]; exact h3, q v _ h4 (dvAll_dropLast hx)⟩
def gPopAt (xs : List D) : D → Option (D × List D)
  | .int k => if -(2 ^ 63) ≤ k ∧ k < 2 ^ 63 then (ixN xs.length k).bind fun j => (xs[j]?).map fun y => (y, xs.eraseIdx j) else none
  | _ => none
theorem mt1_popAt {K : Frg} : Mt1 K rPopAt gPopAt := fun a vs xs d vd rd ys G H Q e s ha hx hd q => by
  unfold gPopAt at e
  split at e
  · split at e
    · rename_i k hk
      obtain ⟨j, h1, e⟩ := Option.bind_eq_some_iff.mp e
      obtain ⟨y, h2, h3⟩ := Option.map_eq_some_iff.mp e
      cases h3
      cases hd
      obtain ⟨v, h4, h5⟩ := dvAll_get hx h2
      obtain ⟨k1, k2, k3, k4⟩ := ixN_seq h1
      exact ⟨a, vs, k, j, v, rfl, rfl, ha, hk.1, hk.2, by rw [dvAll_len hx]; exact k1, h4, q v _ h5 (dvAll_erase j hx)⟩
    · cases e
  · cases e
/-! ### name[i] = e of an own list -/
def sSub (i : Nat) (fi fv : EF) : SF := fun e => (fv e).bind fun p => (liOf p.2[i]?).bind fun _ => (fi p.2).bind fun q => (liOf q.2[i]?).bind fun xs => match q.1 with
  | .int k => (ixN xs.length k).map fun j => .nx (q.2.set i (.li (xs.set j p.1)))
  | _ => none
theorem fs_sub {i : Nat} {x : Str} {p p2 : Pos} {b a : Expr} {fi fv : EF} (hN : X.N[i]? = some x) (hv : Vis X.env.scope x) (hb : FE X b fi) (ha : FE X a fv)
    (hq : ∀ v, assign (.Subscript (.Name x p) b p2) X.env v = (do
      let ov ← holding [v] (eval (.Name x p) X.env)
      let iv ← holding [v, ov] (eval b X.env)
      standAt p2
      holding [v, ov, iv] (setItem ov iv v)
      release [v, ov, iv] []) := by intro _; rfl)
    (hs : swapsWithSole [.Subscript (.Name x p) b p2] a pos.line X.env = pure false := by rfl) (hw : swappedStores [.Subscript (.Name x p) b p2] a X.env = pure none := by rfl) (h1 : (assignEach [.Subscript (.Name x p) b p2] X.env).map (·.2) = [assign (.Subscript (.Name x p) b p2) X.env] := by rfl)
    (hd : (x == ("__debug__" : Str)) = false := by decide) (hcd : (x == ("__classdict__" : Str)) = false := by decide) : FS X (.Assign [.Subscript (.Name x p) b p2] a pos) (sSub i fi fv) :=
  fs_of (ps_asg ha.pe (pg_sub (pe_var hN hv hd hcd) hb.pe set_list hq) hs hw h1) fun D z o r h q => by
    obtain ⟨⟨vd, e1⟩, h1, h⟩ := Option.bind_eq_some_iff.mp h
    obtain ⟨xs0, h2, h⟩ := Option.bind_eq_some_iff.mp h
    obtain ⟨⟨kd, e2⟩, h3, h⟩ := Option.bind_eq_some_iff.mp h
    obtain ⟨xs, h4, h⟩ := Option.bind_eq_some_iff.mp h
    cases kd with
    | int k =>
      obtain ⟨j, h5, h6⟩ := Option.map_eq_some_iff.mp (show ((ixN xs.length k).map _) = some o from h)
      subst h6
      refine ⟨z, vd, e1, r, rfl, rfl, h1, fun v y m ry sy ey pv => ?_⟩
      obtain ⟨b', vs0, k1, k2, k3, k4, k5⟩ := ry.own (i := i) (xs := xs0) (by rw [ey]; exact liOf_some h2)
      refine ⟨.ref b', by rw [← sy]; exact k1, y, _, e2, ry, sy, rfl, by rw [ey]; exact h3, fun w u mu ru su eu pw => ?_⟩
      have hli : u.e[i]? = some (.li xs) := by rw [eu]; exact liOf_some h4
      obtain ⟨b2, vs, l1, l2, l3, l4, l5⟩ := ru.own hli
      rw [su, ← sy, k1] at l1
      cases l1
      cases pw
      refine ⟨b', vs, k, j, rfl, rfl, l4, by rw [dvAll_len l5]; exact h5, ?_⟩
      obtain ⟨r5, m5⟩ := ru.upLi (ws := vs.set j v) (ys := xs.set j vd) hli (by rw [su, ← sy]; exact k1) (dvAll_set (dvMono mu.g _ _ pv) j l5)
      have := q _ ((m.trans mu).trans m5) r5 (by show u.e.set i (.li (xs.set j vd)) = _; rw [eu])
      show D.nx z.s (upd u.H b' (.lst (vs.set j v)))
      rw [← su]; exact this
    | none => cases h
    | bool _ => cases h
    | str _ => cases h
    | list _ => cases h
    | tuple _ => cases h
    | dict _ => cases h
/-! ### name op= e -/
def sAug (g : D → D → Option D) (i : Nat) (f : EF) : SF := fun e => match e[i]? with
  | some (.va x) => (f e).bind fun p => (g x p.1).bind fun d => if isOw p.2[i]? then none else some (.nx (p.2.set i (.va d)))
  | _ => none
theorem fs_aug {i : Nat} {x : Str} {a : Expr} {f : EF} {op : Operator} {ti : TIp} {g : D → D → Option D} {pos' : Pos} (hN : X.N.Nodup) (hi : X.N[i]? = some x) (hx : Loc X.env.scope x) (ha : FE X a f) (ho : PIp X op ti) (hg : Op2 X.K ti g) (hf : X.fn x = true ∨ X.env.scope.names.lookup x = some .local := by first | exact .inl rfl | exact .inr rfl | assumption) : FS X (.AugAssign (.Name x pos') op a pos) (sAug g i f) :=
  fs_of (ps_aug hN hi hx ha.pe ho hf) fun D z o r h q => by
    unfold sAug at h
    split at h
    · rename_i xd hx
      obtain ⟨⟨yd, e1⟩, h1, h⟩ := Option.bind_eq_some_iff.mp h
      obtain ⟨d, h2, h⟩ := Option.bind_eq_some_iff.mp h
      split at h
      · cases h
      · rename_i no
        cases h
        obtain ⟨v, k1, k2⟩ := r.var hx
        refine ⟨v, k1, z, yd, e1, r, rfl, rfl, h1, fun w y m ry sy ey pw => ?_⟩
        have no' : isOw y.e[i]? = false := by rw [ey]; simpa using no
        refine hg xd yd d y.G y.H v w _ h2 ry.same (dvMono m.g _ _ k2) (.inl pw) (fun u pu => ?_) fun u p o hn pu => ?_
        · have := q (y.put i u (.va d) []) (m.put no' fun _ h => nomatch h) (ry.put ⟨rfl, u, rfl, pu⟩ fun _ h => nomatch h) (by show y.e.set i _ = _; rw [ey])
          show D.nx (z.s.set i (some u)) y.H
          rw [← sy]; exact this
        · obtain ⟨r5, m5⟩ := ry.add (o := o) hn
          have := q ((y.add p o).put i u (.va d) []) ((m.trans m5).put no' fun _ h => nomatch h) (r5.put ⟨rfl, u, rfl, pu⟩ fun _ h => nomatch h) (by show y.e.set i _ = _; rw [ey])
          show D.nx (z.s.set i (some u)) (upd y.H p o)
          rw [← sy]; exact this
    · cases h
/-- += of ints and texts, -= of ints -/
def dIadd : D → D → Option D
  | .int i, .int j => some (.int (i + j))
  | .str i, .str j => if i.length + j.length ≤ sizeLine then some (.str (i ++ j)) else none
  | _, _ => none
theorem ip_addA : PIp X .Add (fun x y H Q => rI0 (fun i j => .int (i + j)) x y H Q ∨ ∃ i j, x = .str i ∧ y = .str j ∧ i.length + j.length ≤ sizeLine ∧ Q (.str (i ++ j)) H) := (iop_add (X := X)).or iop_add_str
theorem ip2_add {K : Frg} : Op2 K (fun x y H Q => rI0 (fun i j => .int (i + j)) x y H Q ∨ ∃ i j, x = .str i ∧ y = .str j ∧ i.length + j.length ≤ sizeLine ∧ Q (.str (i ++ j)) H) dIadd := fun x y d G H vx vy Q e s a b q _ => by
  unfold dIadd at e
  split at e
  · cases e; cases a; rw [vwInt b]; exact .inl ⟨_, _, rfl, rfl, q _ (.int _)⟩
  · split at e
    · rename_i hc; cases e; cases a; rw [vwStr b]; exact .inr ⟨_, _, rfl, rfl, hc, q _ (.str _)⟩
    · cases e
  · cases e
theorem fs_augAdd {i : Nat} {x : Str} {a : Expr} {f : EF} {pos' : Pos} (hN : X.N.Nodup) (hi : X.N[i]? = some x) (hx : Loc X.env.scope x) (ha : FE X a f) (hf : X.fn x = true ∨ X.env.scope.names.lookup x = some .local := by first | exact .inl rfl | exact .inr rfl | assumption) : FS X (.AugAssign (.Name x pos') .Add a pos) (sAug dIadd i f) := fs_aug hN hi hx ha ip_addA ip2_add hf
theorem fs_augSub {i : Nat} {x : Str} {a : Expr} {f : EF} {pos' : Pos} (hN : X.N.Nodup) (hi : X.N[i]? = some x) (hx : Loc X.env.scope x) (ha : FE X a f) (hf : X.fn x = true ∨ X.env.scope.names.lookup x = some .local := by first | exact .inl rfl | exact .inr rfl | assumption) : FS X (.AugAssign (.Name x pos') .Sub a pos) (sAug dSub i f) := fs_aug hN hi hx ha (iop_sub (X := X)) (op_dI fun _ _ _ => .int _) hf
/-! ### several things of one's own in a row -/
abbrev OLF := Ev → Option (List Sl × Ev)
/-- made things, apart from all that is owned, and from one another -/
inductive TsOk (K : Frg) (z y : Z) : List V → List (List Addr) → List Sl → Prop
  | nil : TsOk K z y [] [] []
  | cons {v : V} {vs : List V} {Fr : List Addr} {Frs : List (List Addr)} {s : Sl} {ss : List Sl} : SlOk K y.G y.H (some v) Fr s → (∀ a ∈ Fr, z.H a = none ∧ (∀ i, a ∉ y.F i) ∧ ∀ Fq ∈ Frs, a ∉ Fq) → TsOk K z y vs Frs ss → TsOk K z y (v :: vs) (Fr :: Frs) (s :: ss)
def tOl (K : Frg) (f : OLF) : TA := fun σ H Q => ∃ z rs e', Rp K z ∧ z.s = σ ∧ z.H = H ∧ f z.e = some (rs, e') ∧ ∀ vs y Frs, Mv z y → Rp K y → y.s = σ → y.e = e' → TsOk K z y vs Frs rs → Q vs y.H
structure FOl (X : Cx) (es : List Expr) (f : OLF) : Prop where
  pa : PA X es (tOl X.K f)
def olNil : OLF := fun e => some ([], e)
def olCons (f : OF) (g : OLF) : OLF := fun e => (f e).bind fun p => (g p.2).map fun q => (p.1 :: q.1, q.2)
theorem tsLive {K : Frg} {z y : Z} : ∀ {vs : List V} {Frs : List (List Addr)} {ss : List Sl}, TsOk K z y vs Frs ss → ∀ Fq ∈ Frs, ∀ a ∈ Fq, z.H a = none
  | _, _, _, .nil, _, h => nomatch h
  | _, _, _, .cons h1 h2 h3, Fq, h => by
    intro a ha
    rcases List.mem_cons.mp h with e | h
    · subst e; exact (h2 a ha).1
    · exact tsLive h3 Fq h a ha
theorem tsBack {K : Frg} {z0 z y : Z} (m : Mv z0 z) : ∀ {vs : List V} {Frs : List (List Addr)} {ss : List Sl}, TsOk K z y vs Frs ss → TsOk K z0 y vs Frs ss
  | _, _, _, .nil => .nil
  | _, _, _, .cons h1 h2 h3 => .cons h1 (fun a ha => ⟨by
      by_cases q : z0.H a = none
      · exact q
      · exact absurd (h2 a ha).1 (m.dom a q), (h2 a ha).2⟩) (tsBack m h3)
theorem fol_nil : FOl X [] olNil := ⟨PA.imp pa_nil fun σ H Q ⟨z, d, e', rp, hs, hH, hf, q⟩ => by
  subst hs hH
  cases hf
  exact q [] z [] (Mv.refl z) rp rfl rfl .nil⟩
theorem fol_cons {a : Expr} {es : List Expr} {f : OF} {g : OLF} (ha : FO X a f) (hr : FOl X es g) (hs : starEach (a :: es) X.env = (false, eval a X.env) :: starEach es X.env := by rfl) : FOl X (a :: es) (olCons f g) :=
  ⟨PA.imp (pa_cons ha.po hr.pa hs) fun σ H Q ⟨z, d, e', rp, hs, hH, hf, q⟩ => by
    subst hs hH
    obtain ⟨⟨x, e1⟩, h1, hf⟩ := Option.bind_eq_some_iff.mp hf
    obtain ⟨⟨xs, e2⟩, h2, h3⟩ := Option.map_eq_some_iff.mp hf
    cases h3
    refine ⟨z, x, e1, rp, rfl, rfl, h1, fun v1 y1 F1 m1 r1 s1 ee1 so hf => ⟨y1, xs, _, r1, s1, rfl, by rw [ee1]; exact h2, fun v2 y2 F2 m2 r2 s2 ee2 ts => ?_⟩⟩
    have lv := slLive so
    have nd : ∀ a ∈ F1, ∀ i, a ∉ y2.F i := fun a ha i hi => by
      rcases m2.fn i a hi with h | h
      · exact (hf a ha).2 i h
      · exact (lv a ha).2 h
    have hH2 : ∀ a ∈ F1, y2.H a = y1.H a := fun a ha => by
      cases hq : y1.H a with
      | none => exact absurd hq (lv a ha).2
      | some o => exact m2.out a o hq (hf a ha).2
    refine q (v1 :: v2) y2 (F1 :: F2) (m1.trans m2) r2 s2 ee2 (.cons (slFrame so m2.g hH2 fun a ha => (m2.gn a (lv a ha).2 (hf a ha).2).trans (lv a ha).1) (fun a ha => ⟨(hf a ha).1, nd a ha, fun Fq hq hF => ?_⟩) (tsBack m1 ts))
    exact (lv a ha).2 (tsLive ts Fq hq a hF)⟩
/-- slots, one after another -/
def setAll : List Nat → List Sl → Ev → Option Ev
  | [], [], e => some e
  | i :: is, s :: ss, e => if isOw e[i]? then none else setAll is ss (e.set i s)
  | _, _, _ => none
def sPar (is : List Nat) (f : OLF) : SF := fun e => (f e).bind fun p => (setAll is p.1 p.2).map fun e2 => .nx e2
def stAll : List Nat → List V → L2.St → L2.St
  | i :: is, v :: vs, σ => stAll is vs (σ.set i (some v))
  | _, _, σ => σ
/-- the state behind such stores -/
theorem setAll_go {K : Frg} {z : Z} : ∀ {is : List Nat} {vs : List V} {Frs : List (List Addr)} {ss : List Sl} {y : Z} {e' : Ev}, Mv z y → Rp K y → TsOk K z y vs Frs ss → setAll is ss y.e = some e' →
    ∃ u, Mv z u ∧ Rp K u ∧ u.e = e' ∧ u.H = y.H ∧ u.s = stAll is vs y.s
  | [], _, _, _, y, e', m, r, .nil, h => by cases h; exact ⟨y, m, r, rfl, rfl, rfl⟩
  | [], _, _, _, y, e', m, r, .cons _ _ _, h => by cases h
  | i :: is, _, _, _, y, e', m, r, .nil, h => by cases h
  | i :: is, _, _, _, y, e', m, r, .cons (v := v) (vs := vs) (Fr := Fr) (Frs := Frs) (s := s) (ss := ss) h1 h2 h3, h => by
    have h' : (if isOw y.e[i]? = true then none else setAll is ss (y.e.set i s)) = some e' := h
    split at h'
    · cases h'
    · rename_i no
      have no' : isOw y.e[i]? = false := by simpa using no
      have r2 : Rp K (y.put i v s Fr) := r.put h1 fun a ha j _ => (h2 a ha).2.1 j
      have m2 : Mv z (y.put i v s Fr) := m.put no' fun a ha => .inr (h2 a ha).1
      have t2 : TsOk K z (y.put i v s Fr) vs Frs ss := by
        have gen : ∀ {vs : List V} {Frs : List (List Addr)} {ss : List Sl}, (∀ a ∈ Fr, ∀ Fq ∈ Frs, a ∉ Fq) → TsOk K z y vs Frs ss → TsOk K z (y.put i v s Fr) vs Frs ss := by
          intro vs Frs ss hd t
          induction t with
          | nil => exact .nil
          | cons k1 k2 k3 ih =>
            refine .cons k1 (fun a ha => ⟨(k2 a ha).1, fun j hj => ?_, (k2 a ha).2.2⟩) (ih fun a ha Fq hq => hd a ha Fq (List.mem_cons_of_mem _ hq))
            have hj' : a ∈ (if j = i then (if i < y.e.length then Fr else []) else y.F j) := hj
            split at hj'
            · split at hj'
              · exact hd a hj' _ List.mem_cons_self ha
              · cases hj'
            · exact (k2 a ha).2.1 j hj'
        exact gen (fun a ha => (h2 a ha).2.2) h3
      obtain ⟨u, u1, u2, u3, u4, u5⟩ := setAll_go (is := is) m2 r2 t2 h'
      exact ⟨u, u1, u2, u3, u4, u5⟩
/-- a, b = x, y with plain local names -/
theorem fs_par {i j : Nat} {x y : Str} {a b : Expr} {f : OLF} {px py pt : Pos} {kt k2 pt2} (hc : X.calm = true) (hN : X.N.Nodup) (hi : X.N[i]? = some x) (hj : X.N[j]? = some y) (hij : i ≠ j) (hx : X.env.scope.names.lookup x = some .local) (hy : X.env.scope.names.lookup y = some .local) (ha : FOl X [a, b] f)
    (hw : swappedStores [.Tuple [.Name x px, .Name y py] kt pt] (.Tuple [a, b] k2 pt2) X.env = pure (some [x, y])) (hs : swapsWithSole [.Tuple [.Name x px, .Name y py] kt pt] (.Tuple [a, b] k2 pt2) pos.line X.env = pure false := by rfl) : FS X (.Assign [.Tuple [.Name x px, .Name y py] kt pt] (.Tuple [a, b] k2 pt2) pos) (sPar [i, j] f) :=
  fs_of (ps_par hc hN hi hj hij hx hy ha.pa hw hs) fun D z o r h q => by
    obtain ⟨⟨ss, e1⟩, h1, h⟩ := Option.bind_eq_some_iff.mp h
    obtain ⟨e2, h2, h3⟩ := Option.map_eq_some_iff.mp h
    subst h3
    refine ⟨z, ss, e1, r, rfl, rfl, h1, fun vs y Frs m ry sy ey ts => ?_⟩
    obtain ⟨u, u1, u2, u3, u4, u5⟩ := setAll_go m ry ts (show setAll [i, j] ss y.e = some e2 by rw [ey]; exact h2)
    cases ts with
    | nil => cases h2
    | cons k1 k2 k3 =>
      cases k3 with
      | nil =>
        exfalso
        have h2' : (if isOw e1[i]? = true then none else none) = some e2 := h2
        split at h2' <;> cases h2'
      | cons l1 l2 l3 =>
        cases l3 with
        | nil =>
          refine ⟨_, _, rfl, ?_⟩
          have := q u u1 u2 u3
          rw [u4, u5, sy] at this
          exact this
        | cons _ _ _ =>
          exfalso
          have h2' : (if isOw e1[i]? = true then none else if _ then none else none) = some e2 := h2
          split at h2'
          · cases h2'
          · split at h2' <;> cases h2'
/-- names as targets -/
def gNames : List Nat → TGs
  | [] => gNil
  | i :: is => gCons (gName i) (gNames is)
theorem gNames_go : ∀ {is : List Nat} {vs : List V} {σ : L2.St} {H : Hp} {Q : L2.St → Hp → Prop}, vs.length = is.length → Q (stAll is vs σ) H → gNames is vs σ H Q
  | [], [], _, _, _, _, h => ⟨rfl, h⟩
  | i :: is, v :: vs, σ, H, Q, hl, h => ⟨v, vs, rfl, gNames_go (is := is) (by simpa using hl) h⟩
  | [], _ :: _, _, _, _, hl, _ => by cases hl
  | _ :: _, [], _, _, _, hl, _ => by cases hl
theorem tsLen {K : Frg} {z y : Z} : ∀ {vs : List V} {Frs : List (List Addr)} {ss : List Sl}, TsOk K z y vs Frs ss → vs.length = ss.length
  | _, _, _, .nil => rfl
  | _, _, _, .cons _ _ t => congrArg (· + 1) (tsLen t)
theorem setAll_len : ∀ {is : List Nat} {ss : List Sl} {e e' : Ev}, setAll is ss e = some e' → ss.length = is.length
  | [], [], _, _, _ => rfl
  | [], _ :: _, _, _, h => by cases h
  | _ :: _, [], _, _, h => by cases h
  | i :: is, s :: ss, e, e', h => by
    have h' : (if isOw e[i]? = true then none else setAll is ss (e.set i s)) = some e' := h
    split at h'
    · cases h'
    · exact congrArg (· + 1) (setAll_len h')
/-- a, b, .. = x, y, .. by way of a tuple (names that are cells, or four and more): nobody holds the tuple behind it -/
theorem fs_parT {is : List Nat} {tgs es : List Expr} {f : OLF} {kt k2 : Nat} {pt pt2 : Pos} (hc : X.calm = true) (ha : FOl X es f) (hg : PGs X tgs (gNames is)) (hl : is.length ≤ sizeLine)
    (hn : (assignEach tgs X.env).length = is.length := by rfl) (hst : (assignEach tgs X.env).findIdx? (·.1) = none := by rfl)
    (hs : swapsWithSole [.Tuple tgs kt pt] (.Tuple es k2 pt2) pos.line X.env = pure false := by rfl) (hw : swappedStores [.Tuple tgs kt pt] (.Tuple es k2 pt2) X.env = pure none := by rfl) (h1 : (assignEach [.Tuple tgs kt pt] X.env).map (·.2) = [assign (.Tuple tgs kt pt) X.env] := by rfl) :
    FS X (.Assign [.Tuple tgs kt pt] (.Tuple es k2 pt2) pos) (sPar is f) :=
  fs_of (ps_asg (pe_tup ha.pa) (pg_tup hc hg hn hst) hs hw h1) fun D z o r h q => by
    obtain ⟨⟨ss, e1⟩, h1, h⟩ := Option.bind_eq_some_iff.mp h
    obtain ⟨e2, h2, h3⟩ := Option.map_eq_some_iff.mp h
    subst h3
    have hlen := setAll_len h2
    refine ⟨z, ss, e1, r, rfl, rfl, h1, fun vs y Frs m ry sy ey ts => ⟨by rw [tsLen ts, hlen]; exact hl, fun p hp => ?_⟩⟩
    refine ⟨p, vs, rfl, SqT.of upd_same, (tsLen ts).trans hlen, gNames_go ((tsLen ts).trans hlen) ?_⟩
    obtain ⟨r5, m5⟩ := ry.new (o := .tup vs) hp
    have t5 : TsOk X.K z (y.new p (.tup vs)) vs Frs ss := by
      have gen : ∀ {ws : List V} {Frs : List (List Addr)} {ss : List Sl}, TsOk X.K z y ws Frs ss → TsOk X.K z (y.new p (.tup vs)) ws Frs ss := by
        intro ws Frs ss t
        induction t with
        | nil => exact .nil
        | cons k1 k2 k3 ih =>
          refine .cons (slFrame k1 (Same.refl _) (fun a ha => upd_ne fun e => (slLive k1 a ha).2 (by rw [e]; exact hp)) fun a ha => (slLive k1 a ha).1) (fun a ha => k2 a ha) ih
      exact gen ts
    obtain ⟨u, u1, u2, u3, u4, u5⟩ := setAll_go (m.trans m5) r5 t5 (show setAll is ss y.e = some e2 by rw [ey]; exact h2)
    have := q u u1 u2 u3
    rw [u4, u5] at this
    show D.nx (stAll is vs z.s) (upd y.H p (.tup vs))
    rw [← sy]; exact this
end
end Fl

set_option Elab.async false
set_option linter.all false
set_option maxRecDepth 100000
set_option maxHeartbeats 1000000
set_option autoImplicit false
/-! FnFrz: a name as a value (an own list stands still from then on); the tape of a law. -/
namespace Fl
open PySem PySem.Spec PyProof.Rows L2
/-- a name's value; an own list stands still from now on -/
def eNm (i : Nat) : EF := fun e => match e[i]? with
  | some (.va d) => some (d, e)
  | some (.li xs) => some (.list xs, e.set i (.va (.list xs)))
  | _ => none
section
variable {X : Cx} {pos : Pos}
def Z.fz (z : Z) (i : Nat) (a : Addr) (vs : List V) (xs : List D) : Z := { z with G := upd z.G a (.lst vs), e := z.e.set i (.va (.list xs)), F := fun j => if j = i then [] else z.F j }
theorem Rp.fzName {K : Frg} {z : Z} (r : Rp K z) {i : Nat} {xs : List D} {a : Addr} {vs : List V} (h : z.e[i]? = some (.li xs)) (k1 : z.s[i]? = some (some (.ref a))) (k2 : z.F i = [a]) (k3 : z.G a = none) (k4 : z.H a = some (.lst vs)) (k5 : DvAll K z.G vs xs) : Rp K (z.fz i a vs xs) ∧ Mv z (z.fz i a vs xs) := by
  have hl := (List.getElem?_eq_some_iff.mp h).1
  have nf : ∀ j, j ≠ i → a ∉ z.F j := fun j hj => r.sep i j a (Ne.symm hj) (by rw [k2]; simp)
  refine ⟨⟨fun b x e => ?_, ?_, fun j s hj => ?_, fun j hj => ?_, fun j l b hjl hj hl' => ?_⟩, ⟨fun _ _ h _ => h, fun _ h => h, sameUpd k3, fun b hb hk => ?_, fun j b hb => ?_, fun j hj => ?_, List.length_set ..⟩⟩
  · have e' : upd z.G a (.lst vs) b = some x := e
    show z.H b = some x
    by_cases q : b = a
    · subst q; rw [upd_same] at e'; rw [k4]; exact e'
    · rw [upd_ne q] at e'; exact r.same _ _ e'
  · show z.s.length = (z.e.set i (.va (.list xs))).length
    rw [List.length_set]; exact r.len
  · have hj' : (z.e.set i (.va (.list xs)))[j]? = some s := hj
    show SlOk K (upd z.G a (.lst vs)) z.H ((z.s[j]?).join) (if j = i then [] else z.F j) s
    by_cases e : j = i
    · subst e
      rw [List.getElem?_set_self hl] at hj'
      cases hj'
      rw [if_pos rfl, k1]
      exact ⟨rfl, .ref a, rfl, .lst upd_same (dvMonoAll (sameUpd k3) _ _ k5)⟩
    · rw [List.getElem?_set_ne (Ne.symm e)] at hj'
      rw [if_neg e]
      refine slFrame (r.ok j s hj') (sameUpd k3) (fun _ _ => rfl) fun b hb => ?_
      rw [upd_ne (memNe (nf j e) hb)]
      exact (r.live hb).1
  · have hj' : (z.e.set i (.va (.list xs))).length ≤ j := hj
    rw [List.length_set] at hj'
    show (if j = i then [] else z.F j) = []
    split
    · rfl
    · exact r.out j hj'
  · have a1 : b ∈ (if j = i then [] else z.F j) := hj
    have a2 : b ∈ (if l = i then [] else z.F l) := hl'
    split at a1
    · cases a1
    · split at a2
      · cases a2
      · exact r.sep j l b hjl a1 a2
  · show upd z.G a (.lst vs) b = z.G b
    exact upd_ne fun e => hk i (by rw [e, k2]; simp)
  · have hb' : b ∈ (if j = i then [] else z.F j) := hb
    split at hb'
    · cases hb'
    · exact .inl hb'
  · have e : i ≠ j := fun e => by rw [← e, h] at hj; cases hj
    show isOw (z.e.set i (.va (.list xs)))[j]? = true ∧ z.s[j]? = z.s[j]?
    rw [List.getElem?_set_ne e]; exact ⟨hj, rfl⟩
theorem fe_nm {i : Nat} {x : Str} (hN : X.N[i]? = some x) (hv : Vis X.env.scope x) (hd : (x == ("__debug__" : Str)) = false := by decide) (hcd : (x == ("__classdict__" : Str)) = false := by decide) : FE X (.Name x pos) (eNm i) :=
  ⟨PE.imp (pe_var hN hv hd hcd) fun σ H Q ⟨z, d, e', r, hs, hH, hf, q⟩ => by
    subst hs hH
    unfold eNm at hf
    split at hf
    · rename_i d' h
      cases hf
      obtain ⟨v, h1, h2⟩ := r.var h
      exact ⟨v, h1, q v z (Mv.refl z) r rfl rfl h2⟩
    · rename_i xs h
      cases hf
      obtain ⟨a, vs, k1, k2, k3, k4, k5⟩ := r.own h
      obtain ⟨r2, m2⟩ := r.fzName h k1 k2 k3 k4 k5
      exact ⟨.ref a, k1, q _ (z.fz i a vs xs) m2 r2 rfl rfl (.lst upd_same (dvMonoAll (sameUpd k3) _ _ k5))⟩
    · cases hf⟩
end
/-! ### the tape of a law: [numbers, a, b] -/
structure Box where
  cells : List Int
  a : Int
  b : Int
def Box.ot (b : Box) : OT := .node [.node (b.cells.map fun i => .leaf (.int i)), .leaf (.int b.a), .leaf (.int b.b)]
theorem otsInts {K : Frg} {G H : Hp} : ∀ {vs : List V} {ns : List Int} {F : List Addr}, OtsOk K G H vs (ns.map fun i => OT.leaf (.int i)) F → vs = ns.map V.int ∧ F = []
  | _, [], _, h => by cases h; exact ⟨rfl, rfl⟩
  | _, n :: ns, _, h => by
    cases h with
    | cons h1 h2 h3 =>
      cases h1 with
      | leaf h1 =>
        cases h1
        obtain ⟨e1, e2⟩ := otsInts h2
        subst e1 e2
        exact ⟨rfl, rfl⟩
theorem otsIntsMk {K : Frg} {G H : Hp} : ∀ (ns : List Int), OtsOk K G H (ns.map V.int) (ns.map fun i => OT.leaf (.int i)) []
  | [] => .nil
  | n :: ns => .cons (F1 := []) (F2 := []) (.leaf (.int n)) (otsIntsMk ns) fun _ h => nomatch h
/-- a tape on the heap: its list at p, its numbers at c -/
def BoxAt (H : Hp) (p c : Addr) (b : Box) : Prop := p ≠ c ∧ H p = some (.lst [.ref c, .int b.a, .int b.b]) ∧ H c = some (.lst (b.cells.map V.int))
theorem boxOf {K : Frg} {G H : Hp} {v : V} {F : List Addr} {b : Box} (h : OtOk K G H v b.ot F) : ∃ p c, v = .ref p ∧ F = [p, c] ∧ BoxAt H p c b ∧ G p = none ∧ G c = none := by
  cases h with
  | node h1 h2 h3 h4 =>
    cases h3 with
    | cons k1 k2 k3 =>
      cases k1 with
      | node g1 g2 g3 g4 =>
        obtain ⟨e1, e2⟩ := otsInts g3
        subst e1 e2
        cases k2 with
        | cons l1 l2 l3 =>
          cases l1 with
          | leaf l1 =>
            cases l1
            cases l2 with
            | cons m1 m2 m3 =>
              cases m1 with
              | leaf m1 =>
                cases m1
                cases m2
                refine ⟨_, _, rfl, rfl, ⟨fun e => h4 ?_, h2, g2⟩, h1, g1⟩
                rw [e]; simp
theorem boxMk {K : Frg} {G H : Hp} {p c : Addr} {b : Box} (h : BoxAt H p c b) (g1 : G p = none) (g2 : G c = none) : OtOk K G H (.ref p) b.ot [p, c] := by
  obtain ⟨h1, h2, h3⟩ := h
  have k1 : OtOk K G H (.ref c) (.node (b.cells.map fun i => OT.leaf (.int i))) [c] := .node g2 h3 (otsIntsMk _) fun h => nomatch h
  have k2 : OtsOk K G H [.int b.a, .int b.b] [.leaf (.int b.a), .leaf (.int b.b)] [] := .cons (F1 := []) (F2 := []) (.leaf (.int _)) (.cons (F1 := []) (F2 := []) (.leaf (.int _)) .nil fun _ h => nomatch h) fun _ h => nomatch h
  have k3 : OtsOk K G H [.ref c, .int b.a, .int b.b] [.node (b.cells.map fun i => OT.leaf (.int i)), .leaf (.int b.a), .leaf (.int b.b)] [c] := .cons (F1 := [c]) (F2 := []) k1 k2 fun _ _ h => nomatch h
  exact .node g1 h2 k3 (by simpa using h1)
/-- a step of the tape: what a def of it does, by hand: result and the tape behind it -/
def spBox (k : Nat) (go : Box → List V → Option (V × Box)) : Sp := fun vs H Q _ => vs.length = k + 1 ∧ ∃ p c b as r b', vs = .ref p :: as ∧ BoxAt H p c b ∧ go b as = some (r, b') ∧ ∀ H', BoxAt H' p c b' → (∀ a, a ≠ p → a ≠ c → H' a = H a) → Q r H'
/-- an int's drawing: one place -/
def gDraw (go : Box → Int → Int × Box) (ok : Int → Bool) : Fnc := fun ss => match ss with
  | [.ow (.node [.node cs, .leaf (.int a), .leaf (.int b)]), .va (.int m)] => if ok m then (cellsOf cs).map fun ns => (.va (.int (go ⟨ns, a, b⟩ m).1), [.ow (go ⟨ns, a, b⟩ m).2.ot, .no]) else none
  | _ => none
where cellsOf : List OT → Option (List Int)
  | [] => some []
  | .leaf (.int i) :: r => (cellsOf r).map (i :: ·)
  | _ :: _ => none
theorem cellsOf_map : ∀ ns : List Int, gDraw.cellsOf (ns.map fun i => OT.leaf (.int i)) = some ns
  | [] => rfl
  | n :: r => by
    show (gDraw.cellsOf (r.map fun i => OT.leaf (.int i))).map (n :: ·) = _
    rw [cellsOf_map r]; rfl
theorem cellsOf_some : ∀ {cs : List OT} {ns : List Int}, gDraw.cellsOf cs = some ns → cs = ns.map fun i => OT.leaf (.int i)
  | [], _, h => by cases h; rfl
  | .leaf (.int i) :: r, _, h => by
    obtain ⟨ms, h1, h2⟩ := Option.map_eq_some_iff.mp (show ((gDraw.cellsOf r).map (i :: ·)) = _ from h)
    subst h2
    rw [cellsOf_some h1]; rfl
  | .leaf .none :: _, _, h => nomatch h
  | .leaf (.bool _) :: _, _, h => nomatch h
  | .leaf (.str _) :: _, _, h => nomatch h
  | .leaf (.list _) :: _, _, h => nomatch h
  | .leaf (.tuple _) :: _, _, h => nomatch h
  | .leaf (.dict _) :: _, _, h => nomatch h
  | .node _ :: _, _, h => nomatch h
  | .ntup _ :: _, _, h => nomatch h
theorem gDraw_box (go : Box → Int → Int × Box) (ok : Int → Bool) (b : Box) (m : Int) (h : ok m = true) : gDraw go ok [.ow b.ot, .va (.int m)] = some (.va (.int (go b m).1), [.ow (go b m).2.ot, .no]) := by
  show (if ok m = true then (gDraw.cellsOf (b.cells.map fun i => OT.leaf (.int i))).map _ else none) = _
  rw [if_pos h, cellsOf_map]; rfl
section
variable {P : Program} {w : World} {K : Frg} {mg : Str → Option Value} {base : Heap}
/-- a drawing def's promise in the layer's words -/
theorem draw_ok {f : Addr} {fd : FuncData} {k : Nat} {ps : List Str} {go : Box → Int → Int × Box} {ok : Int → Bool} (F : FnOk P w K mg base CX0 k f fd ps (spBox 1 fun b as => match as with
    | [.int m] => if ok m then some (.int (go b m).1, (go b m).2) else none
    | _ => none)) : FnOk P w K mg base CX0 k f fd ps (spF K 2 (gDraw go ok)) := F.imp fun vs H Q E ⟨hl, z, r, ss', hs, hH, rp, har, hg, q⟩ => by
  subst hH
  refine ⟨hl, ?_⟩
  unfold gDraw at hg
  split at hg
  · rename_i cs a b m he
    split at hg
    · rename_i hok
      obtain ⟨ns, h1, h2⟩ := Option.map_eq_some_iff.mp hg
      have ec := cellsOf_some h1
      subst ec
      cases h2
      have o0 := rp.ok 0 _ (by rw [he]; rfl)
      have o1 := rp.ok 1 _ (by rw [he]; rfl)
      rw [hs] at o0 o1
      match vs, hl, hs, q, o0, o1 with
      | [v0, v1], _, hs, q, o0, o1 =>
      obtain ⟨x, e1, o0⟩ := o0
      cases e1
      obtain ⟨p, c, rfl, hF, hB, g1, g2⟩ := boxOf (b := ⟨ns, a, b⟩) o0
      obtain ⟨_, x, e2, o1⟩ := o1
      cases e2
      cases o1
      refine ⟨p, c, ⟨ns, a, b⟩, [.int m], _, _, rfl, hB, by show (if ok m = true then _ else none) = _; rw [if_pos hok], fun H' hB' hsame => ?_⟩
      have hF1 : z.F 1 = [] := by
        have := rp.ok 1 _ (show z.e[1]? = some (.va (.int m)) by rw [he]; rfl)
        exact this.1
      have hFo : ∀ i, z.F i = if i = 0 then [p, c] else [] := fun i => by
        match i with
        | 0 => rw [if_pos rfl]; exact hF
        | 1 => exact hF1
        | i + 2 => rw [if_neg (by omega)]; exact rp.out _ (by rw [he]; simp)
      have hHn : ∀ a, H' a = none → z.H a = none := fun a h => by
        by_cases e1 : a = p
        · rw [e1, hB'.2.1] at h; cases h
        · by_cases e2 : a = c
          · rw [e2, hB'.2.2] at h; cases h
          · rw [hsame a e1 e2] at h; exact h
      have nG : ∀ b x, z.G b = some x → b ≠ p ∧ b ≠ c := fun b x h => ⟨fun e => (by rw [e, g1] at h; cases h), fun e => (by rw [e, g2] at h; cases h)⟩
      have lenE : z.e.length = 2 := by rw [he]; rfl
      refine q _ { z with H := H', e := [.ow (go ⟨ns, a, b⟩ m).2.ot, .no], F := fun i => if i = 0 then [p, c] else [] } [] ⟨fun u o h hf => ?_, fun u h e => h (hHn u e), Same.refl _, fun _ _ _ => rfl, fun i u h => ?_, fun i h => ?_, by rw [he]; rfl⟩ ⟨fun u x h => ?_, ?_, fun i s h => ?_, fun i h => ?_, fun i j u hij h h' => ?_⟩ rfl rfl ⟨rfl, _, rfl, .int _⟩ fun _ h => nomatch h
      · have hp : u ∉ z.F 0 := hf 0
        rw [hF] at hp
        simp at hp
        show H' u = some o
        rw [hsame u hp.1 hp.2]; exact h
      · rw [hFo]; exact .inl h
      · match i with
        | 0 => exact ⟨rfl, rfl⟩
        | 1 => rw [he] at h; cases h
        | i + 2 => rw [he] at h; cases h
      · obtain ⟨n1, n2⟩ := nG u x h
        show H' u = some x
        rw [hsame u n1 n2]; exact rp.same _ _ h
      · show z.s.length = 2
        rw [rp.len, lenE]
      · match i with
        | 0 =>
          cases h
          show SlOk K z.G H' (z.s[0]?).join [p, c] _
          rw [hs]
          exact ⟨.ref p, rfl, boxMk hB' g1 g2⟩
        | 1 => cases h; rfl
        | i + 2 => cases h
      · show (if i = 0 then [p, c] else []) = []
        rw [if_neg (fun e => by rw [e] at h; cases h)]
      · have h1 : u ∈ (if i = 0 then [p, c] else []) := h
        have h2 : u ∈ (if j = 0 then [p, c] else []) := h'
        split at h1
        · split at h2
          · omega
          · cases h2
        · cases h1
    · cases hg
  · cases hg
end
end Fl

set_option Elab.async false
set_option linter.all false
set_option maxRecDepth 100000
set_option maxHeartbeats 1000000
set_option autoImplicit false
/-! FnShort: short words for printed terms; defs told as a whole; the built-in names. -/
namespace Fl
open PySem PySem.Spec PyProof.Rows L2
section
variable {X : Cx} {pos : Pos}
theorem fv (i : Nat) {x : Str} (hN : X.N[i]? = some x := by rfl) (hv : Vis X.env.scope x := by first | exact Or.inl rfl | exact Or.inr (Or.inl rfl) | exact Or.inr (Or.inr rfl)) (hd : (x == ("__debug__" : Str)) = false := by decide) (hcd : (x == ("__classdict__" : Str)) = false := by decide) : FE X (.Name x pos) (eVar i) := fe_var hN hv hd hcd
theorem fm (i : Nat) {x : Str} (hN : X.N[i]? = some x := by rfl) (hv : Vis X.env.scope x := by first | exact Or.inl rfl | exact Or.inr (Or.inl rfl) | exact Or.inr (Or.inr rfl)) (hd : (x == ("__debug__" : Str)) = false := by decide) (hcd : (x == ("__classdict__" : Str)) = false := by decide) : FE X (.Name x pos) (eNm i) := fe_nm hN hv hd hcd
theorem fo (i : Nat) {x : Str} (hN : X.N[i]? = some x := by rfl) (hv : Vis X.env.scope x := by first | exact Or.inl rfl | exact Or.inr (Or.inl rfl) | exact Or.inr (Or.inr rfl)) (hd : (x == ("__debug__" : Str)) = false := by decide) (hcd : (x == ("__classdict__" : Str)) = false := by decide) : FB X (.Name x pos) (eOwn i) := fb_own hN hv hd hcd
theorem fixo (i : Nat) {x : Str} {p : Pos} {b : Expr} {fb : EF} (hb : FE X b fb) (hN : X.N[i]? = some x := by rfl) (hv : Vis X.env.scope x := by first | exact Or.inl rfl | exact Or.inr (Or.inl rfl) | exact Or.inr (Or.inr rfl)) (hs : PlainIx b := by intro _ _; rfl) (hd : (x == ("__debug__" : Str)) = false := by decide) (hcd : (x == ("__classdict__" : Str)) = false := by decide) : FE X (.Subscript (.Name x p) b pos) (eIxO i fb) := fe_ixo hN hv hb hs hd hcd
theorem fgn (i : Nat) {x : Str} (hN : X.N.Nodup) (hi : X.N[i]? = some x := by rfl) (hx : Loc X.env.scope x := by first | exact Or.inl rfl | exact Or.inr rfl) (hf : X.fn x = true ∨ X.env.scope.names.lookup x = some .local := by first | exact .inl rfl | exact .inr rfl) : FG X (.Name x pos) (gNm i) [i] := fg_name hN hi hx hf
theorem fset (i : Nat) {x : Str} {a : Expr} {f : OF} {pos' : Pos} (hN : X.N.Nodup) (h : FO X a f) (hi : X.N[i]? = some x := by rfl) (hx : Loc X.env.scope x := by first | exact Or.inl rfl | exact Or.inr rfl) (hs : swapsWith a (some (.Name x pos')) pos.line X.env = pure false := by rfl) (hf : X.fn x = true ∨ X.env.scope.names.lookup x = some .local := by first | exact .inl rfl | exact .inr rfl) : FS X (.Assign [.Name x pos'] a pos) (sSet i f) := fs_set hN hi hx h hs hf
theorem fretN (i : Nat) {x : Str} {p : Pos} (hN : X.N[i]? = some x := by rfl) (hv : Vis X.env.scope x := by first | exact Or.inl rfl | exact Or.inr (Or.inl rfl) | exact Or.inr (Or.inr rfl)) (hd : (x == ("__debug__" : Str)) = false := by decide) (hcd : (x == ("__classdict__" : Str)) = false := by decide) : FS X (.Return (some (.Name x p)) pos) (sRetN i) := fs_retN hN hv hd hcd
theorem frf (i : Nat) {x : Str} {p : Pos} {es : List Expr} {g : AF} (hr : FR X es g) (hN : X.N[i]? = some x := by rfl) (hv : Vis X.env.scope x := by first | exact Or.inl rfl | exact Or.inr (Or.inl rfl) | exact Or.inr (Or.inr rfl)) (hs : starEach (.Name x p :: es) X.env = (false, eval (.Name x p) X.env) :: starEach es X.env := by rfl) (hd : (x == ("__debug__" : Str)) = false := by decide) (hcd : (x == ("__classdict__" : Str)) = false := by decide) : FR X (.Name x p :: es) (rRef i g) := fr_ref hN hv hr hs hd hcd
theorem fsub (i : Nat) {x : Str} {p p2 : Pos} {b a : Expr} {fi fv : EF} (hb : FE X b fi) (ha : FE X a fv) (hN : X.N[i]? = some x := by rfl) (hv : Vis X.env.scope x := by first | exact Or.inl rfl | exact Or.inr (Or.inl rfl) | exact Or.inr (Or.inr rfl))
    (hq : ∀ v, assign (.Subscript (.Name x p) b p2) X.env v = (do
      let ov ← holding [v] (eval (.Name x p) X.env)
      let iv ← holding [v, ov] (eval b X.env)
      standAt p2
      holding [v, ov, iv] (setItem ov iv v)
      release [v, ov, iv] []) := by intro _; rfl)
    (hs : swapsWithSole [.Subscript (.Name x p) b p2] a pos.line X.env = pure false := by rfl) (hw : swappedStores [.Subscript (.Name x p) b p2] a X.env = pure none := by rfl) (h1 : (assignEach [.Subscript (.Name x p) b p2] X.env).map (·.2) = [assign (.Subscript (.Name x p) b p2) X.env] := by rfl)
    (hd : (x == ("__debug__" : Str)) = false := by decide) (hcd : (x == ("__classdict__" : Str)) = false := by decide) : FS X (.Assign [.Subscript (.Name x p) b p2] a pos) (sSub i fi fv) := fs_sub hN hv hb ha hq hs hw h1 hd hcd
theorem faugA (i : Nat) {x : Str} {a : Expr} {f : EF} {pos' : Pos} (hN : X.N.Nodup) (ha : FE X a f) (hi : X.N[i]? = some x := by rfl) (hx : Loc X.env.scope x := by first | exact Or.inl rfl | exact Or.inr rfl) (hf : X.fn x = true ∨ X.env.scope.names.lookup x = some .local := by first | exact .inl rfl | exact .inr rfl) : FS X (.AugAssign (.Name x pos') .Add a pos) (sAug dIadd i f) := fs_augAdd hN hi hx ha hf
theorem faugS (i : Nat) {x : Str} {a : Expr} {f : EF} {pos' : Pos} (hN : X.N.Nodup) (ha : FE X a f) (hi : X.N[i]? = some x := by rfl) (hx : Loc X.env.scope x := by first | exact Or.inl rfl | exact Or.inr rfl) (hf : X.fn x = true ∨ X.env.scope.names.lookup x = some .local := by first | exact .inl rfl | exact .inr rfl) : FS X (.AugAssign (.Name x pos') .Sub a pos) (sAug dSub i f) := fs_augSub hN hi hx ha hf
theorem fpar (i j : Nat) {x y : Str} {a b : Expr} {f : OLF} {px py pt : Pos} {kt k2 pt2} (hN : X.N.Nodup) (ha : FOl X [a, b] f) (hc : X.calm = true := by rfl) (hi : X.N[i]? = some x := by rfl) (hj : X.N[j]? = some y := by rfl) (hij : i ≠ j := by decide) (hx : X.env.scope.names.lookup x = some .local := by rfl) (hy : X.env.scope.names.lookup y = some .local := by rfl)
    (hw : swappedStores [.Tuple [.Name x px, .Name y py] kt pt] (.Tuple [a, b] k2 pt2) X.env = pure (some [x, y]) := by rfl) (hs : swapsWithSole [.Tuple [.Name x px, .Name y py] kt pt] (.Tuple [a, b] k2 pt2) pos.line X.env = pure false := by rfl) : FS X (.Assign [.Tuple [.Name x px, .Name y py] kt pt] (.Tuple [a, b] k2 pt2) pos) (sPar [i, j] f) := fs_par hc hN hi hj hij hx hy ha hw hs
theorem fns_nil : PGs X [] (gNames []) := pgs_nil
theorem fns_cons (i : Nat) {is : List Nat} {x : Str} {p : Pos} {es : List Expr} (hN : X.N.Nodup) (h : PGs X es (gNames is)) (hi : X.N[i]? = some x := by rfl) (hx : Loc X.env.scope x := by first | exact Or.inl rfl | exact Or.inr rfl) (hf : X.fn x = true ∨ X.env.scope.names.lookup x = some .local := by first | exact .inl rfl | exact .inr rfl)
    (hs : (assignEach (.Name x p :: es) X.env).map (·.2) = assign (.Name x p) X.env :: (assignEach es X.env).map (·.2) := by rfl) : PGs X (.Name x p :: es) (gNames (i :: is)) := pgs_cons (pg_name hN hi hx hf) h hs
theorem fapp (i : Nat) {x : Str} {p apos : Pos} {a : Expr} {f : EF} (ha : FE X a f) (hN : X.N[i]? = some x := by rfl) (hv : Vis X.env.scope x := by first | exact Or.inl rfl | exact Or.inr (Or.inl rfl) | exact Or.inr (Or.inr rfl)) (hbase : attributeBase (.Name x p) "append" X.env (eval (.Name x p) X.env) = eval (.Name x p) X.env := by rfl)
    (hfew : ((backTo pos (starEach [a] X.env)).all (fun x => !x.1) && (backToKw pos (keywordEach [] X.env)).all (fun x => x.1.isSome)
      && decide (([a]).length + ([] : List Keyword).length + (if ([] : List Keyword).isEmpty then 0 else 1) < 30)) = true := by rfl) (hline : (apos.endLine == pos.line) = true := by rfl)
    (he : starEach [a] X.env = (false, eval a X.env) :: starEach [] X.env := by rfl) (hpl : (backTo pos (starEach [] X.env)).any (·.1) = false := by rfl) (hd : (x == ("__debug__" : Str)) = false := by decide) (hcd : (x == ("__classdict__" : Str)) = false := by decide) : FE X (.Call (.Attribute (.Name x p) "append" apos) [a] [] pos) (eMt1 gAppend i f) :=
  fe_mt1 PySem.F.slot_list_append PySem.F.type_list_append mt_append mt1_append hN hv ha hbase hfew hline he hpl hd hcd
theorem fext (i : Nat) {x : Str} {p apos : Pos} {a : Expr} {f : EF} (ha : FE X a f) (hN : X.N[i]? = some x := by rfl) (hv : Vis X.env.scope x := by first | exact Or.inl rfl | exact Or.inr (Or.inl rfl) | exact Or.inr (Or.inr rfl)) (hbase : attributeBase (.Name x p) "extend" X.env (eval (.Name x p) X.env) = eval (.Name x p) X.env := by rfl)
    (hfew : ((backTo pos (starEach [a] X.env)).all (fun x => !x.1) && (backToKw pos (keywordEach [] X.env)).all (fun x => x.1.isSome)
      && decide (([a]).length + ([] : List Keyword).length + (if ([] : List Keyword).isEmpty then 0 else 1) < 30)) = true := by rfl) (hline : (apos.endLine == pos.line) = true := by rfl)
    (he : starEach [a] X.env = (false, eval a X.env) :: starEach [] X.env := by rfl) (hpl : (backTo pos (starEach [] X.env)).any (·.1) = false := by rfl) (hd : (x == ("__debug__" : Str)) = false := by decide) (hcd : (x == ("__classdict__" : Str)) = false := by decide) : FE X (.Call (.Attribute (.Name x p) "extend" apos) [a] [] pos) (eMt1 gExtend i f) :=
  fe_mt1 PySem.F.slot_list_extend PySem.F.type_list_extend mt_extend mt1_extend hN hv ha hbase hfew hline he hpl hd hcd
theorem fpopA (i : Nat) {x : Str} {p apos : Pos} {a : Expr} {f : EF} (ha : FE X a f) (hN : X.N[i]? = some x := by rfl) (hv : Vis X.env.scope x := by first | exact Or.inl rfl | exact Or.inr (Or.inl rfl) | exact Or.inr (Or.inr rfl)) (hbase : attributeBase (.Name x p) "pop" X.env (eval (.Name x p) X.env) = eval (.Name x p) X.env := by rfl)
    (hfew : ((backTo pos (starEach [a] X.env)).all (fun x => !x.1) && (backToKw pos (keywordEach [] X.env)).all (fun x => x.1.isSome)
      && decide (([a]).length + ([] : List Keyword).length + (if ([] : List Keyword).isEmpty then 0 else 1) < 30)) = true := by rfl) (hline : (apos.endLine == pos.line) = true := by rfl)
    (he : starEach [a] X.env = (false, eval a X.env) :: starEach [] X.env := by rfl) (hpl : (backTo pos (starEach [] X.env)).any (·.1) = false := by rfl) (hd : (x == ("__debug__" : Str)) = false := by decide) (hcd : (x == ("__classdict__" : Str)) = false := by decide) : FE X (.Call (.Attribute (.Name x p) "pop" apos) [a] [] pos) (eMt1 gPopAt i f) :=
  fe_mt1 PySem.F.slot_list_pop PySem.F.type_list_pop mt_popAt mt1_popAt hN hv ha hbase hfew hline he hpl hd hcd
theorem fpop (i : Nat) {x : Str} {p apos : Pos} (hN : X.N[i]? = some x := by rfl) (hv : Vis X.env.scope x := by first | exact Or.inl rfl | exact Or.inr (Or.inl rfl) | exact Or.inr (Or.inr rfl)) (hbase : attributeBase (.Name x p) "pop" X.env (eval (.Name x p) X.env) = eval (.Name x p) X.env := by rfl) (hline : (apos.endLine == pos.line) = true := by rfl)
    (hd : (x == ("__debug__" : Str)) = false := by decide) (hcd : (x == ("__classdict__" : Str)) = false := by decide) : FE X (.Call (.Attribute (.Name x p) "pop" apos) [] [] pos) (eMt0 gPop i) :=
  fe_mt0 PySem.F.slot_list_pop PySem.F.type_list_pop mt_pop mt0_pop hN hv hbase hline hd hcd
end
/-- a made thing stands still: seen from the made one -/
theorem fz_imp {K : Frg} {f : OF} {σ : L2.St} {H : Hp} {Q : VK} (q : tO K (oE (eFz f)) σ H Q) : tO K f σ H Q := by
  obtain ⟨z, r, e', rp, hs, hH, hf, q⟩ := q
  subst hs hH
  obtain ⟨⟨d, e1⟩, h0, h2⟩ := Option.map_eq_some_iff.mp hf
  cases h2
  obtain ⟨⟨r, e1⟩, h1, hf⟩ := Option.bind_eq_some_iff.mp h0
  obtain ⟨d', h3, hf⟩ := Option.map_eq_some_iff.mp hf
  cases hf
  refine ⟨z, r, _, rp, rfl, rfl, h1, fun v y Fr m r2 s2 ee so fr => ?_⟩
  cases r with
  | va d0 =>
    cases h3
    obtain ⟨_, x, hx, p⟩ := so
    cases hx
    exact q _ y [] m r2 s2 ee ⟨rfl, _, rfl, p⟩ fun _ h => nomatch h
  | li xs =>
    cases h3
    obtain ⟨a, vs, hv, rfl, hg, hH', hd⟩ := so
    cases hv
    obtain ⟨f1, f2⟩ := fr a (by simp)
    refine q _ { y with G := upd y.G a (.lst vs) } [] ⟨m.out, m.dom, m.g.trans (sameUpd hg), fun b hb hk => ?_, m.fn, m.kp, m.ln⟩ (r2.freeze hH' hg f2) s2 ee ⟨rfl, _, rfl, .lst upd_same (dvMonoAll (sameUpd hg) _ _ hd)⟩ fun _ h => nomatch h
    show upd y.G a (.lst vs) b = z.G b
    rw [upd_ne (fun z' => hb (by rw [z']; exact f1))]
    exact m.gn b hb hk
  | no => cases h3
  | di _ => cases h3
  | dt _ => cases h3
  | ow _ => cases h3
/-- name = [..] on one line, its list standing still from then on -/
theorem fs_setLcZ {X : Cx} {pos : Pos} {k i : Nat} {y : Str} {py : Pos} {elt tg iter : Expr} {ifs : List Expr} {scope : Scope} {own : List (Str × Nat)} {spos : Pos} {gl : LF} {t : GF} {ws vs : List Nat} {cf : BF} {f : EF} (c : Cc X k) (hy : X.N[i]? = some y) (hyl : X.env.scope.names.lookup y = some .local)
    (hsw : swapsWith (.ListComp elt [⟨tg, iter, ifs, 0⟩] scope pos) (some (.Name y py)) spos.line X.env = pure true) (hi : FI X tg iter gl) (ok : BlkOk X.N X.env.scope scope own)
    (hg : ∀ (s : Shared) (H : Hp) (C : Addr) (cl : List (Str × Addr)) (fp : List Addr), FG (X.blk s H scope (compEnvC scope cl C X.env) fp) tg t ws)
    (ht : ∀ (s : Shared) (H : Hp) (C : Addr) (cl : List (Str × Addr)) (fp : List Addr), FTs (X.blk s H scope (compEnvC scope cl C X.env) fp) ifs cf)
    (he : ∀ (s : Shared) (H : Hp) (C : Addr) (cl : List (Str × Addr)) (fp : List Addr), FE (X.blk s H scope (compEnvC scope cl C X.env) fp) elt f)
    (hvs : own.map (·.2) = vs := by rfl) (hws : ∀ j ∈ ws, j ∈ vs := by decide) (hs : ∀ x, foldedSetIterable iter X.env x = pure x := by intro _; rfl) :
    FS X (.Assign [.Name y py] (.ListComp elt [⟨tg, iter, ifs, 0⟩] scope pos) spos) (sSet i (oE (eFz (oComp gl t cf f vs)))) := by
  subst hvs
  exact fs_of (ps_setLc c.calm c.nd hy hyl hsw hi.pi ok (fun s H C cl fp => (hg s H C cl fp).pg) (fun s H C cl fp => (ht s H C cl fp).pts) (fun s H C cl fp => (he s H C cl fp).pe) hs) fun D z o r h q => lc_tO (fun _ _ _ h => h) hws (fz_imp (set_go (D := D) r h q))
/-- a def that stands at a name of the module -/
def Dk (P : Program) (w : World) (K : Frg) (mg : Str → Option Value) (base : Heap) (x : Str) (l np : Nat) (g : Fnc) : Prop :=
  ∃ (f : Addr) (fd : FuncData) (ps : List Str), FnOk P w K mg base CX0 l f fd ps (spF K np g) ∧ Binds K fd ps [] ∧ mg x = some (.ref f) ∧ PySem.W.keepIn K (.ref f) = true
theorem foc {X : Cx} {pos : Pos} {l np : Nat} {g : Fnc} {x : Str} {p : Pos} {a : Expr} {es : List Expr} {af : AF} (D : Dk X.prog X.w X.K X.mg X.base x l np g) (hr : Room l X.A) (ha : FR X (a :: es) af) (hn : (a :: es).length = np := by rfl)
    (hg : Gl X x := by rfl) (hdb : (x == ("__debug__" : Str)) = false := by decide) (he : starEach (a :: es) X.env = (false, eval a X.env) :: starEach es X.env := by rfl) (hpl : (backTo pos (starEach es X.env)).any (·.1) = false := by rfl) : FO X (.Call (.Name x p) (a :: es) [] pos) (oCall g af) := by
  obtain ⟨f, fd, ps, F, hb, hm, hk⟩ := D
  exact fo_call F hr hm hk hb ha hn hg hdb he hpl
/-- built-in names that the module leaves as they are -/
structure Bt (mg : Str → Option Value) : Prop where
  len : mg "len" = none
  range : mg "range" = none
  tuple : mg "tuple" = none
  list : mg "list" = none
  int : mg "int" = none
  bool : mg "bool" = none
  str : mg "str" = none
  all : mg "all" = none
  any : mg "any" = none
  sum : mg "sum" = none
  min : mg "min" = none
  max : mg "max" = none
  abs : mg "abs" = none
  sorted : mg "sorted" = none
  isinstance : mg "isinstance" = none
  enumerate : mg "enumerate" = none
  zip : mg "zip" = none
  set : mg "set" = none
  dict : mg "dict" = none
  reversed : mg "reversed" = none
end Fl

set_option Elab.async false
set_option linter.all false
set_option maxRecDepth 100000
set_option maxHeartbeats 1000000
set_option autoImplicit false
/-! FnMore: comparisons as values and as tests at once; chains; a list's repeat. -/
namespace Fl
open PySem PySem.Spec PyProof.Rows L2
section
variable {X : Cx} {pos : Pos}
/-- a comparison, as a value and as a test -/
structure FC (X : Cx) (e : Expr) (f : EF) : Prop where
  v : FE X e f
  t : FT X e (bB f)
theorem fc_of {a b : Expr} {op : CmpOp} {r : R2} {g : D → D → Option D} {fa fb : EF} (ho : OpR X (compareOp op) r) (hg : Op2 X.K r g) (ha : FE X a fa) (hb : FB X b fb) (hm : behindInMarks op b = false) : FC X (.Compare a [op] [b] pos) (eOp g fa fb) := ⟨fe_cmp ho hg ha hb hm, ft_cmp ho hg ha hb hm⟩
theorem op2_eq {K : Frg} : Op2 K (rEqD K) dEq := fun x y d G H vx vy Q e s a b q _ => by
  unfold dEq at e
  split at e
  · rename_i hc
    cases e
    exact ⟨x, y, Dv.dp _ _ (dvMono s _ _ a), vwAny s b, hc.1, hc.2, q _ (.bl _)⟩
  · cases e
theorem op2_ne {K : Frg} : Op2 K (rNeD K) dNe := fun x y d G H vx vy Q e s a b q _ => by
  unfold dNe at e
  split at e
  · rename_i hc
    cases e
    exact ⟨x, y, Dv.dp _ _ (dvMono s _ _ a), vwAny s b, hc.1, hc.2, q _ (.bl _)⟩
  · cases e
theorem fc_eq {k : Nat} {a b : Expr} {fa fb : EF} (c : Cc X k) (ha : FE X a fa) (hb : FB X b fb) : FC X (.Compare a [.Eq] [b] pos) (eOp dEq fa fb) := fc_of (op_eqD c.room.units) op2_eq ha hb (nomark _)
theorem fc_ne {k : Nat} {a b : Expr} {fa fb : EF} (c : Cc X k) (ha : FE X a fa) (hb : FB X b fb) : FC X (.Compare a [.NotEq] [b] pos) (eOp dNe fa fb) := fc_of (op_neD c.room.units) op2_ne ha hb (nomark _)
/-- order: ints, tuples of ints, texts -/
def asIntsT : D → Option (List Int)
  | .tuple xs => asInts xs
  | _ => none
def dLtA : D → D → Option D
  | .int i, .int j => some (.bool (decide (i < j)))
  | .str i, .str j => some (.bool (decide (i.cps.toList < j.cps.toList)))
  | .tuple xs, .tuple ys => (asInts xs).bind fun ns => (asInts ys).map fun ms => .bool (HT.lexLt ns ms)
  | _, _ => none
theorem dvInts {K : Frg} {G H : Hp} (s : Same G H) {v : V} {xs : List D} {ns : List Int} (e : asInts xs = some ns) (h : Vw K G H v (.tuple xs)) : ∃ a, v = .ref a ∧ SqT K H a (ns.map V.int) := by
  obtain ⟨a, vs, rfl, h1, h2⟩ := vwTup h
  rw [(asInts_ok e h2).1] at h1
  exact ⟨a, rfl, seqT s h1⟩
theorem op2_lt {K : Frg} : Op2 K (fun x y H Q => rI0 (fun i j => .bl (decide (i < j))) x y H Q ∨ (∃ i j, x = .str i ∧ y = .str j ∧ Q (.bl (decide (i.cps.toList < j.cps.toList))) H) ∨ rLtT K x y H Q) dLtA := fun x y d G H vx vy Q e s a b q _ => by
  unfold dLtA at e
  split at e
  · cases e; cases a; rw [vwInt b]; exact .inl ⟨_, _, rfl, rfl, q _ (.bl _)⟩
  · cases e; cases a; rw [vwStr b]; exact .inr (.inl ⟨_, _, rfl, rfl, q _ (.bl _)⟩)
  · obtain ⟨ns, h1, e⟩ := Option.bind_eq_some_iff.mp e
    obtain ⟨ms, h2, h3⟩ := Option.map_eq_some_iff.mp e
    subst h3
    obtain ⟨p, rfl, k1⟩ := dvInts s h1 (.inl a)
    obtain ⟨p2, rfl, k2⟩ := dvInts s h2 b
    exact .inr (.inr ⟨p, p2, ns, ms, rfl, rfl, k1, k2, q _ (.bl _)⟩)
  · cases e
theorem fc_lt {k : Nat} {a b : Expr} {fa fb : EF} (c : Cc X k) (ha : FE X a fa) (hb : FB X b fb) : FC X (.Compare a [.Lt] [b] pos) (eOp dLtA fa fb) := fc_of (op_lt.or (op_lt_str.or (op_ltT c.room.units0))) op2_lt ha hb (nomark _)
theorem fc_le {k : Nat} {a b : Expr} {fa fb : EF} (c : Cc X k) (ha : FE X a fa) (hb : FB X b fb) : FC X (.Compare a [.LtE] [b] pos) (eOp dLe fa fb) := fc_of op_le (op_dI fun _ _ _ => .bl _) ha hb (nomark _)
theorem fc_gt {k : Nat} {a b : Expr} {fa fb : EF} (c : Cc X k) (ha : FE X a fa) (hb : FB X b fb) : FC X (.Compare a [.Gt] [b] pos) (eOp dGt fa fb) := fc_of op_gt (op_dI fun _ _ _ => .bl _) ha hb (nomark _)
theorem fc_ge {k : Nat} {a b : Expr} {fa fb : EF} (c : Cc X k) (ha : FE X a fa) (hb : FB X b fb) : FC X (.Compare a [.GtE] [b] pos) (eOp dGe fa fb) := fc_of op_ge (op_dI fun _ _ _ => .bl _) ha hb (nomark _)
theorem op2_is {K : Frg} : Op2 K (fun x y H Q => y = .non ∧ Q (.bl (decide (x = .non))) H) dIs := fun x y d G H vx vy Q e s a b q _ => by
  unfold dIs at e
  split at e
  · rename_i hc
    cases e
    exact ⟨vwIsNon b hc, by rw [isNon_iff a]; exact q _ (.bl _)⟩
  · cases e
theorem op2_isn {K : Frg} : Op2 K (fun x y H Q => y = .non ∧ Q (.bl (!decide (x = .non))) H) dIsN := fun x y d G H vx vy Q e s a b q _ => by
  unfold dIsN at e
  split at e
  · rename_i hc
    cases e
    exact ⟨vwIsNon b hc, by rw [isNon_iff a]; exact q _ (.bl _)⟩
  · cases e
theorem fc_is {k : Nat} {a b : Expr} {fa fb : EF} (c : Cc X k) (ha : FE X a fa) (hb : FB X b fb) : FC X (.Compare a [.Is] [b] pos) (eOp dIs fa fb) := fc_of op_isN op2_is ha hb (nomark _)
theorem fc_isn {k : Nat} {a b : Expr} {fa fb : EF} (c : Cc X k) (ha : FE X a fa) (hb : FB X b fb) : FC X (.Compare a [.IsNot] [b] pos) (eOp dIsN fa fb) := fc_of op_notN op2_isn ha hb (nomark _)
/-- in: flat values in a list or a tuple -/
def flatD : D → Bool
  | .none => true
  | .bool _ => true
  | .int _ => true
  | .str _ => true
  | _ => false
theorem flat_iff {K : Frg} {G : Hp} {v : V} {d : D} (h : Dv K G v d) : flatV v = flatD d := by cases h <;> rfl
theorem eqV_iff {K : Frg} {G : Hp} {v w : V} {d e : D} (h : Dv K G v d) (k : Dv K G w e) (f1 : flatD d = true) (f2 : flatD e = true) : eqV v w = PyData.eqv d e := by
  cases h <;> cases k <;> first | rfl | cases f1 | cases f2 | (simp only [eqV, PyData.eqv])
theorem allFlat {K : Frg} {G : Hp} : ∀ {vs : List V} {ds : List D}, DvAll K G vs ds → vs.all flatV = ds.all flatD
  | _, [], h => by cases h; rfl
  | _, d :: ds, h => by
    cases h with
    | cons h1 h2 => rw [List.all_cons, List.all_cons, flat_iff h1, allFlat h2]
theorem inV_iff {K : Frg} {G : Hp} {v : V} {d : D} (h : Dv K G v d) (f : flatD d = true) : ∀ {vs : List V} {ds : List D}, DvAll K G vs ds → ds.all flatD = true → inV v vs = ds.any fun z => PyData.eqv z d
  | _, [], k, _ => by cases k; rfl
  | _, e :: ds, k, f2 => by
    cases k with
    | cons h1 h2 =>
      rw [List.all_cons, Bool.and_eq_true] at f2
      have ih := inV_iff h f h2 f2.2
      unfold inV at ih ⊢
      rw [List.any_cons, List.any_cons, ih, eqV_iff h1 h f2.1 f]
def dInB (neg : Bool) (x y : D) : Option D := match y with
  | .list ds => if flatD x = true ∧ ds.all flatD = true then some (.bool (if neg then !(ds.any fun z => PyData.eqv z x) else ds.any fun z => PyData.eqv z x)) else none
  | .tuple ds => if flatD x = true ∧ ds.all flatD = true then some (.bool (if neg then !(ds.any fun z => PyData.eqv z x) else ds.any fun z => PyData.eqv z x)) else none
  | _ => none
theorem op2_in {K : Frg} (neg : Bool) : Op2 K (rIn K neg) (dInB neg) := fun x y d G H vx vy Q e s a b q _ => by
  unfold dInB at e
  split at e
  · split at e
    · rename_i ds hc
      cases e
      obtain ⟨p, vs, rfl, h1, h2⟩ := vwLst s b
      refine ⟨p, vs, rfl, .inl (SqL.of h1), by rw [flat_iff a]; exact hc.1, by rw [allFlat h2]; exact hc.2, ?_⟩
      rw [inV_iff a hc.1 h2 hc.2]
      exact q _ (.bl _)
    · cases e
  · split at e
    · rename_i ds hc
      cases e
      obtain ⟨p, vs, rfl, h1, h2⟩ := vwTup b
      refine ⟨p, vs, rfl, .inr (seqT s h1), by rw [flat_iff a]; exact hc.1, by rw [allFlat h2]; exact hc.2, ?_⟩
      rw [inV_iff a hc.1 h2 hc.2]
      exact q _ (.bl _)
    · cases e
  · cases e
theorem fc_in {k : Nat} {a b : Expr} {fa fb : EF} (c : Cc X k) (ha : FE X a fa) (hb : FB X b fb) (hm : behindInMarks .In b = false := by with_unfolding_all rfl) : FC X (.Compare a [.In] [b] pos) (eOp (dInB false) fa fb) := fc_of op_in_seq (op2_in false) ha hb hm
theorem fc_notin {k : Nat} {a b : Expr} {fa fb : EF} (c : Cc X k) (ha : FE X a fa) (hb : FB X b fb) (hm : behindInMarks .NotIn b = false := by with_unfolding_all rfl) : FC X (.Compare a [.NotIn] [b] pos) (eOp (dInB true) fa fb) := fc_of op_notIn_seq (op2_in true) ha hb hm
/-! ### a op b op c -/
def eCh (g h : D → D → Option D) (fa fb fc : EF) : EF := fun e => (fa e).bind fun p => (fb p.2).bind fun q => (g p.1 q.1).bind fun d => match d with
  | .bool true => (fc q.2).bind fun r => (h q.1 r.1).map fun d => (d, r.2)
  | .bool false => some (.bool false, q.2)
  | _ => none
theorem ch_run {K : Frg} {r r' : R2} {g h : D → D → Option D} (hg : ∀ x y d G H vx vy (Q : VK), g x y = some d → Same G H → Dv K G vx x → Dv K G vy y → (∀ v, Dv K G v d → Q v H) → r vx vy H Q) (hh : ∀ x y d G H vx vy (Q : VK), h x y = some d → Same G H → Dv K G vx x → Dv K G vy y → (∀ v, Dv K G v d → Q v H) → r' vx vy H Q) {fa fb fc : EF} {σ : L2.St} {H : Hp} {Q : VK} (q : tE K (eCh g h fa fb fc) σ H Q) : tChain r r' (tE K fa) (tE K fb) (tE K fc) σ H Q := by
  obtain ⟨z, d, e', rp, hs, hH, hf, q⟩ := q
  subst hs hH
  obtain ⟨⟨x, e1⟩, h1, hf⟩ := Option.bind_eq_some_iff.mp hf
  obtain ⟨⟨y, e2⟩, h2, hf⟩ := Option.bind_eq_some_iff.mp hf
  obtain ⟨b, h3, hf⟩ := Option.bind_eq_some_iff.mp hf
  refine ⟨z, x, e1, rp, rfl, rfl, h1, fun vx z1 m1 r1 s1 ee1 p1 => ⟨z1, y, e2, r1, s1, rfl, by rw [ee1]; exact h2, fun vy z2 m2 r2 s2 ee2 p2 => ?_⟩⟩
  refine hg x y b z2.G z2.H vx vy _ h3 r2.same (dvMono m2.g _ _ p1) p2 fun v pv => ?_
  cases pv with
  | bl k =>
    cases k with
    | true =>
      obtain ⟨⟨w, e3⟩, h4, hf⟩ := Option.bind_eq_some_iff.mp (show ((fc e2).bind _) = some (d, e') from hf)
      obtain ⟨d', h5, hf⟩ := Option.map_eq_some_iff.mp hf
      cases hf
      refine ⟨true, rfl, iteT ⟨z2, w, e3, r2, s2, rfl, by rw [ee2]; exact h4, fun vw z3 m3 r3 s3 ee3 p3 => ?_⟩⟩
      exact hh y w d z3.G z3.H vy vw Q h5 r3.same (dvMono m3.g _ _ p2) p3 fun v pv => q v z3 ((m1.trans m2).trans m3) r3 s3 ee3 pv
    | false =>
      have hf' : some (PyData.bool false, e2) = some (d, e') := hf
      cases hf'
      exact ⟨false, rfl, iteF (q _ z2 (m1.trans m2) r2 s2 ee2 (.bl _))⟩
  | non => cases hf
  | int _ => cases hf
  | str _ => cases hf
  | lst _ _ => cases hf
  | tup _ _ => cases hf
/-- one comparison of a chain -/
structure Ch (X : Cx) (op : CmpOp) (g : D → D → Option D) : Prop where
  ex : ∃ r : R2, OpR X (compareOp op) r ∧ ∀ x y d G H vx vy (Q : VK), g x y = some d → Same G H → Dv X.K G vx x → Dv X.K G vy y → (∀ v, Dv X.K G v d → Q v H) → r vx vy H Q
theorem chI {op : CmpOp} {gv : Int → Int → Bool} (h : OpR X (compareOp op) (rI0 fun i j => .bl (gv i j))) : Ch X op (dI fun i j => .bool (gv i j)) := ⟨_, h, fun x y d G H vx vy Q e s a b q => by
  unfold dI at e
  split at e
  · cases e; cases a; cases b; exact ⟨_, _, rfl, rfl, q _ (.bl _)⟩
  · cases e⟩
theorem chLt : Ch X .Lt dLt := chI op_lt
theorem chLe : Ch X .LtE dLe := chI op_le
theorem chGt : Ch X .Gt dGt := chI op_gt
theorem chGe : Ch X .GtE dGe := chI op_ge
theorem fc_ch {a b c : Expr} {op op' : CmpOp} {g h : D → D → Option D} {fa fb fc : EF} (k1 : Ch X op g) (k2 : Ch X op' h) (ha : FE X a fa) (hb : FE X b fb) (hc : FE X c fc) (hm : lastMarks [op, op'] [b, c] = false := by with_unfolding_all rfl) : FC X (.Compare a [op, op'] [b, c] pos) (eCh g h fa fb fc) := by
  obtain ⟨r, o1, g1⟩ := k1.ex
  obtain ⟨r', o2, g2⟩ := k2.ex
  refine ⟨⟨PE.imp (pe_chain o1 o2 ha.pe hb.pe hc.pe hm) fun σ H Q q => ch_run g1 g2 q⟩, ⟨PT.imp (pt_chain o1 o2 ha.pe hb.pe hc.pe hm) fun σ H Q q => ?_⟩⟩
  obtain ⟨z, d, e', rp, hs, hH, hf, q⟩ := bB_run q
  exact ch_run g1 g2 ⟨z, d, e', rp, hs, hH, hf, q⟩
/-! ### [..] * n -/
def oRep (fa fb : EF) : OF := fun e => (fa e).bind fun p => (fb p.2).bind fun q => match p.1, q.1 with
  | .list xs, .int k => if (-(2 ^ 63) ≤ k ∧ k < 2 ^ 63) ∧ xs.length * k.toNat ≤ sizeLine then some (.li (List.replicate k.toNat xs).flatten, q.2) else none
  | _, _ => none
theorem dvAll_rep {K : Frg} {G : Hp} {vs : List V} {ds : List D} (h : DvAll K G vs ds) : ∀ k : Nat, DvAll K G (List.replicate k vs).flatten (List.replicate k ds).flatten
  | 0 => .nil
  | k + 1 => by
    rw [List.replicate_succ, List.replicate_succ, List.flatten_cons, List.flatten_cons]
    exact dvAll_app h (dvAll_rep h k)
theorem fo_rep {a b : Expr} {fa fb : EF} (ha : FE X a fa) (hb : FB X b fb) : FO X (.BinOp a .Mult b pos) (oRep fa fb) := ⟨PE.imp (pe_op op_rep ha.pe hb.pb) fun σ H Q ⟨z, r, e', rp, hs, hH, hf, q⟩ => by
  subst hs hH
  obtain ⟨⟨x, e1⟩, h1, hf⟩ := Option.bind_eq_some_iff.mp hf
  obtain ⟨⟨y, e2⟩, h2, hf⟩ := Option.bind_eq_some_iff.mp hf
  split at hf
  · rename_i xs k hx hy
    obtain rfl : x = _ := hx
    obtain rfl : y = _ := hy
    split at hf
    · rename_i hc
      cases hf
      refine ⟨z, _, e1, rp, rfl, rfl, h1, fun vx z1 m1 r1 s1 ee1 p1 => ⟨z1, _, _, r1, s1, rfl, by rw [ee1]; exact h2, fun vy z2 m2 r2 s2 ee2 p2 => ?_⟩⟩
      cases p1 with
      | lst k1 k2 =>
      refine ⟨_, k, _, rfl, vwInt p2, r2.same _ _ (m2.g _ _ k1), hc.1.1, hc.1.2, by rw [dvAll_len k2]; exact hc.2, fun p hn => ?_⟩
      obtain ⟨r3, m3, k, nf⟩ := r2.newLi hn (dvAll_rep (dvMonoAll m2.g _ _ k2) _)
      refine q _ _ [p] ((m1.trans m2).trans m3) r3 s2 ee2 k fun a ha => ?_
      rw [List.mem_singleton.mp ha]
      refine ⟨?_, nf⟩
      by_cases hz : z.H p = none
      · exact hz
      · exact absurd hn ((m1.trans m2).dom p hz)
    · cases hf
  · cases hf⟩
end
end Fl

set_option Elab.async false
set_option linter.all false
set_option maxRecDepth 100000
set_option maxHeartbeats 1000000
set_option autoImplicit false
/-! FnLaw: from the defs' functions to the law's row. -/
namespace Fl
open PySem PySem.Spec PyProof.Rows L2
/-- the tape of a script -/
def spTape (K : Frg) : Sp := fun vs H Q _ => ∃ (a : Addr) (ns : List Int), vs = [.ref a] ∧ SqL K H a (ns.map V.int) ∧ ns.length ≤ 63 ∧ ∀ H' p c, Same H H' → H p = none → H c = none → BoxAt H' p c ⟨ns, 0, 4711 + ns.length⟩ → Q (.ref p) H'
/-! ### what the tape does -/
def stir (b : Int) : Int × Int × Int :=
  let f := (b * 48271 + 17) % 2147483629
  let s := (f * 69621 + 5) % 2147483587
  (f, s, (s * 40692 + 3) % 2147483563)
def mixed (cs : List Int) (a b : Int) : Int × Box := ((stir b).1 * 4611686014132420609 + (stir b).2.1 * 2147483647 + (stir b).2.2, ⟨cs, a, (stir b).2.2⟩)
def sized (c : Int) : Int := if 0 ≤ c then 2 * c else -2 * c - 1
def loadB : Box → Int × Box
  | ⟨[], a, b⟩ => mixed [] a b
  | ⟨c :: cs, a, b⟩ => if 1000000000000000000 ≤ sized c then (sized c, ⟨cs, a, b⟩) else mixed cs a ((b * 69621 + sized c * 48271 + 11) % 2147483647)
def drawB (b : Box) (m : Int) : Int × Box :=
  if b.a < m then ((loadB b).1 % m, { (loadB b).2 with a := (loadB b).1 / m }) else (b.a % m, { b with a := b.a / m })
theorem upd_get {H : Hp} {p q : Addr} {o u : HO} (h : q ≠ p) (e : H q = some u) : upd H p o q = some u := by rw [upd_ne h]; exact e
/-- behind the numbers' end: the rest of the load -/
def tMix (p c : Addr) (a : Int) : TS := fun D σ H => ∃ cs bb c2 c3, p ≠ c ∧ σ = [some (.ref p), some (.ref c), c2, c3, none, none] ∧ H p = some (.lst [.ref c, .int a, .int bb]) ∧ H c = some (.lst (cs.map V.int)) ∧
  ∀ H', BoxAt H' p c (mixed cs a bb).2 → (∀ u, u ≠ p → u ≠ c → H' u = H u) → D.rt (.int (mixed cs a bb).1) H'
theorem cmulR {i j : Int} (h : -(2 ^ 64) < j ∧ j < 2 ^ 64) : CMul i j := .inr h
theorem cut63 (xs : List V) (h : xs.length ≤ 63) : cutV xs none (some 63) = xs := by
  unfold cutV
  rw [HT.sIx_none, show HT.sIx xs.length xs.length (some 63) = min 63 xs.length from HT.sIx_nat xs.length _ 63, Nat.min_eq_right h]
  simp
def spLaw (K : Frg) : Sp := fun vs H Q _ => ∃ (a : Addr) (ns : List Int), vs = [.ref a] ∧ SqL K H a (ns.map V.int) ∧ ns.length ≤ 63 ∧ ∀ H', Q (.bl true) H'
def box0 (ns : List Int) : Box := ⟨ns, 0, 4711 + ns.length⟩
/-- a def that the text tells, by its name -/
def Ft (K : Frg) (mg : Str → Option Value) (x : Str) (st : Stmt) (ps : List Str) : Prop := ∃ (f : Addr) (fd : FuncData), Fun K x x st f fd ∧ Binds K fd ps [] ∧ mg x = some (.ref f)
section
variable {P : Program} {w : World} {K : Frg} {mg : Str → Option Value} {base : Heap}
theorem ft_mk {h : Heap} {x : Str} {st : Stmt} {ps : List Str} {f : Addr} {oc : Value} {od an : Option Addr} {osl : Array (Option Value)} {kV doc pm cdv ct : Value} (X : K.In h) (G : h.Ns mainGlobals mg) (a : PySem.W.nsIn K mainGlobals x = some (some (.ref f)))
    (l : K.lookup f = some ⟨oc, od, .func (PySem.W.fnOf x x (defArgs st) (defBody st) (defScope st) .none kV doc pm an cdv ct), osl⟩) (c : PySem.W.codeIn K cdv x = true) (k : PySem.W.keepIn K (.ref f) = true)
    (hb : ∀ (kV doc pm : Value) (an : Option Addr) (cdv ct : Value) (us : List Value), us.length = ps.length → bindArgs (PySem.W.fnOf x x (defArgs st) (defBody st) (defScope st) .none kV doc pm an cdv ct) ⟨us, []⟩ = pure (ps.zip us)) : Ft K mg x st ps := by
  have F := fun_mk (st := st) l c k
  exact ⟨f, _, F, F.binds hb, PySem.W.mg_of X G a⟩
theorem dk_of {x : Str} {st : Stmt} {ps : List Str} {l : Nat} {g : Fnc} (T : Ft K mg x st ps) (ok : ∀ (f : Addr) (fd : FuncData), Fun K x x st f fd → FnOk P w K mg base CX0 l f fd ps (spF K ps.length g)) : Dk P w K mg base x l ps.length g := by
  obtain ⟨f, fd, F, hb, hm⟩ := T
  exact ⟨f, fd, ps, ok f fd F, hb, hm, F.kp⟩
/-- a def that calls itself: k levels of it -/
theorem dk_rec {x : Str} {st : Stmt} {ps : List Str} {l : Nat} {R : Nat → Fnc} (T : Ft K mg x st ps) (h0 : R 0 = fun _ => none)
    (ok : ∀ (f : Addr) (fd : FuncData) (k : Nat), Fun K x x st f fd → Dk P w K mg base x k ps.length (R (k - l)) → l ≤ k → FnOk P w K mg base CX0 (k + 1) f fd ps (spF K ps.length (R (k - l + 1)))) : ∀ n : Nat, Dk P w K mg base x (l + n) ps.length (R n) := by
  obtain ⟨f, fd, F, hb, hm⟩ := T
  intro n
  induction n with
  | zero =>
    refine ⟨f, fd, ps, ⟨fun vs H Q E h => h.1, fun A outer s H args us vs Q E hr he hbt hv hs => ?_⟩, hb, hm, F.kp⟩
    obtain ⟨_, z, r, ss', _, _, _, _, hg, _⟩ := hs
    rw [h0] at hg
    cases hg
  | succ n ih =>
    have := ok f fd (l + n) F (by rw [Nat.add_sub_cancel_left]; exact ih) (Nat.le_add_right l n)
    rw [Nat.add_sub_cancel_left] at this
    exact ⟨f, fd, ps, this, hb, hm, F.kp⟩
/-- the law's body: the tape, then the rest -/
theorem law_ok {st : Stmt} {N : List Str} {f fB : Addr} {fd fdB : FuncData} {k : Nat} {F1 : SF} (F : Fun K "law" "law" st f fd) (S : FnScope N ["script"] (defScope st)) (hN : 2 ≤ N.length)
    (FB : FnOk P w K mg base CX0 1 fB fdB ["script"] (spTape K)) (bB : Binds K fdB ["script"] []) (gB : mg "_law_box" = some (.ref fB)) (kB : PySem.W.keepIn K (.ref fB) = true)
    (hset : ∀ (cdv : Value) (A : Around) (outer : List Env) (s : Shared) (H : Hp) (E : XK), Room (k + 1) (A.deeper (envOfC "law" (defScope st) s.heap.objs.size f cdv)) →
      ∃ t, PS (cxOf CX0 P w K mg base N "law" (defScope st) f cdv A outer s H E).nox ((defBody st).headD (.Pass ⟨0, 0, 0, 0⟩)) t ∧ ∀ D σ H, (tAsg (tCall (spTape K) [] E0 (tCons (tVar 0) tNil)) (gName 1)) D σ H → t D σ H)
    (hb : defBody st = (defBody st).headD (.Pass ⟨0, 0, 0, 0⟩) :: (defBody st).drop 1)
    (hrest : ∀ (cdv : Value) (A : Around) (outer : List Env) (s : Shared) (H : Hp) (E : XK), Room (k + 1) (A.deeper (envOfC "law" (defScope st) s.heap.objs.size f cdv)) → FSs (cxOf CX0 P w K mg base N "law" (defScope st) f cdv A outer s H E).nox ((defBody st).drop 1) F1)
    (htrue : ∀ ns : List Int, ns.length ≤ 63 → ∃ e', F1 (.no :: .ow (box0 ns).ot :: List.replicate (N.length - 2) .no) = some (.rt (.va (.bool true)) e')) : FnOk P w K mg base CX0 (k + 2) f fd ["script"] (spLaw K) := by
  refine F.ok S (fun vs H Q E ⟨a, ns, h, _⟩ => by rw [h]; rfl) (fun cdv A outer s H vs Q E hr h => ?_)
  obtain ⟨a, ns, rfl, hS, hl, q⟩ := h
  obtain ⟨t, ht, hti⟩ := hset cdv A outer s H E hr
  rw [hb]
  refine ⟨_, pss_cons ht (hrest cdv A outer s H E hr).ps, ?_⟩
  have hσ : L2.start N [V.ref a] = some (V.ref a) :: none :: List.replicate (N.length - 2) none := by
    unfold L2.start
    have e : N.length - [V.ref a].length = (N.length - 2) + 1 := by show N.length - 1 = _; omega
    rw [e, List.replicate_succ]; rfl
  refine hti _ _ _ ?_
  rw [hσ]
  refine ⟨.ref a, rfl, a, ns, rfl, hS, hl, fun H' p c hs hp hc hB => ?_⟩
  obtain ⟨e', he'⟩ := htrue ns hl
  refine tS_out.mpr ⟨⟨fun _ => none, H', some (V.ref a) :: some (V.ref p) :: List.replicate (N.length - 2) none, .no :: .ow (box0 ns).ot :: List.replicate (N.length - 2) .no, fun i => if i = 1 then [p, c] else []⟩, _, ⟨fun b o h => (by cases h), ?_, fun i s h => ?_, fun i h => ?_, fun i j u hij hi hj => ?_⟩, rfl, rfl, he', fun v y Fr m r ee so hf hg => ?_⟩
  · show List.length (some (V.ref a) :: some (V.ref p) :: List.replicate (N.length - 2) none) = List.length (Sl.no :: Sl.ow (box0 ns).ot :: List.replicate (N.length - 2) Sl.no)
    simp
  · match i with
    | 0 => cases h; rfl
    | 1 =>
      cases h
      exact ⟨.ref p, rfl, boxMk hB rfl rfl⟩
    | i + 2 =>
      have h' : (List.replicate (N.length - 2) Sl.no)[i]? = some s := h
      have := List.getElem?_eq_some_iff.mp h'
      obtain ⟨h1, h2⟩ := this
      rw [List.getElem_replicate] at h2
      subst h2
      show (if i + 2 = 1 then [p, c] else []) = []
      rw [if_neg (by omega)]
  · show (if i = 1 then [p, c] else []) = []
    have h' : (Sl.no :: Sl.ow (box0 ns).ot :: List.replicate (N.length - 2) Sl.no).length ≤ i := h
    rw [List.length_cons, List.length_cons] at h'
    rw [if_neg (by omega)]
  · have a1 : u ∈ (if i = 1 then [p, c] else []) := hi
    have a2 : u ∈ (if j = 1 then [p, c] else []) := hj
    split at a1
    · split at a2
      · omega
      · cases a2
    · cases a1
  · obtain ⟨_, x, hx, hv⟩ := so
    cases hx
    cases hv
    exact q _
end
end Fl

set_option Elab.async false
set_option linter.all false
set_option maxRecDepth 100000
set_option maxHeartbeats 1000000
set_option autoImplicit false
/-! FnEnum: enumerate over a list or a tuple, zip of two. -/
namespace Fl
open PySem PySem.Spec PyProof.Rows L2
/-- the tuple at a, each item in a new pair with its number -/
def IteT (K : Frg) (a : Addr) : It :=
  ⟨fun i H => ∃ (xs : List V) (x : V), SqT K H a xs ∧ xs[i]? = some x, fun i H v H' => ∃ T x, v = .ref T ∧ H T = none ∧ H' = upd H T (.tup [.int (i : Nat), x]) ∧ ∀ xs, SqT K H a xs → xs[i]? = some x, fun i H => ∃ xs : List V, SqT K H a xs ∧ xs.length ≤ i⟩
theorem clsNe {h : Heap} {a b : Addr} {o o' : Obj} (h1 : h.get? a = some o) (h2 : h.get? b = some o') (hc : o.cls ≠ o'.cls) : a ≠ b := fun e => by
  subst e
  rw [h1] at h2
  cases h2
  exact hc rfl
theorem enumT_end {prog : Program} {w : World} {A : Around} {E : Value → Shared → Prop} {s : Shared} {e it l : Addr} {i : Nat} {items : Array Value} {old : Value} {Q : Option Value → Shared → Prop} (hh : A.handled = none)
    (he : IsEnum s.heap e it i old) (hit : s.heap.IsTupleIter it l i) (hl : s.heap.IsTuple l items) (hx : items[i]? = none)
    (hQ : ∀ h', Heap.ExtBut it s.heap h' → Q none { s with heap := h' }) : wpAny (model prog w) A (pyNext (.ref e)) Q E s := by
  have hT : s.TypeIs (.ref e) "enumerate" := ⟨_, he, rfl⟩
  unfold pyNext
  refine wpAny_bind (wpAny_attempt (wpAny_callSpecial?_slot (name := Str.ofString "__next__") hT F.slot_enumerate_next
    (wpAny_call_entry F.slot_enumerate_next hT F.entry_enumerate_next ?_ (F.args_enumerate_next_1 _))))
  show wpAny _ _ (field (.ref e) 2 >>= _) _ _ _
  refine wpAny_bind (wpAny_field he rfl (x := .ref it) rfl ?_)
  refine wpAny_bind (wpAny_nextOf_tuple_end hh hit hl hx fun h' x he' hx' => ?_)
  obtain ⟨o, ho, hc⟩ := hx'
  refine wpAny_bind (wpAny_isInstance (T := "StopIteration") (b := true) ⟨o, ho, hc⟩ isSubtype_stop ?_)
  exact wpAny_pure (hQ _ he')
theorem turn_enumT {P : Program} {w : World} {K : Frg} {elts : List Expr} {kk : Nat} {tpos : Pos} (a e it : Addr) :
    Turn P w K (.Tuple elts kk tpos) (IteT K a) [e, it] e (fun i h => (∃ old, IsEnum h e it ((i : Nat) : Int) old) ∧ h.IsTupleIter it a i ∧ e ≠ it) where
  mem := by simp
  obj := fun i h st b hb => by
    obtain ⟨⟨old, he⟩, ⟨o, ho, hc, hd⟩, _⟩ := st
    have e' : b = e ∨ b = it := by simpa using hb
    rcases e' with z | z
    · rw [z]; exact ⟨_, he, fun v q => nomatch q⟩
    · rw [z]; exact ⟨o, ho, fun v q => by rw [hd] at q; cases q⟩
  keep := fun i h h' st k => let ⟨⟨old, he⟩, hi, hne⟩ := st; ⟨⟨old, k e (by simp) _ he⟩, hi.at fun o q => k it (by simp) o q, hne⟩
  item := by
    intro X hP hw hK hc i pins s σ H E I hf st hg
    subst hP hw hK
    obtain ⟨⟨old, he⟩, hit, hne⟩ := st
    obtain ⟨xs, x, hq, hx⟩ := hg
    obtain ⟨its, rv, p, hz⟩ := I.tuple hq
    obtain ⟨u, hu, ru⟩ := rv.get hx
    have hel : e < s.heap.objs.size := Heap.lt_size he
    have hil : it < s.heap.objs.size := by obtain ⟨_, q, _⟩ := hit; exact Heap.lt_size q
    have hea : e ≠ a := by
      obtain ⟨o, ho, hcl, _⟩ := id p
      exact clsNe he ho (by rw [hcl]; exact fun z => by injection z with z; exact absurd z (by decide))
    have hia : a ≠ it := by
      obtain ⟨o, ho, hcl, _⟩ := id p
      obtain ⟨o2, ho2, hc2, _⟩ := id hit
      exact clsNe ho ho2 (by rw [hcl, hc2]; exact fun z => by injection z with z; exact absurd z (by decide))
    have hlt : i < its.toArray.size := by
      have := (List.getElem?_eq_some_iff.mp hu).1
      simpa using this
    refine wpAny_pyNext_enum_itemC (Draws.tuple (prog := X.prog) (w := X.w) (A := X.A.in1) (show X.A.in1.handled = none from I.ok.hd hc) it a hia its.toArray) he ⟨hit, p⟩ hlt hne (by simp [hne, hea]) fun y h' tk hy ho hst' hT hsz hk => ?_
    have ey : y = u := by
      have hy' : its[i]? = some y := by simpa using hy
      rw [hu] at hy'
      exact (Option.some.inj hy').symm
    subst ey
    refine ⟨_, rfl, wpAny_letOwnedTupleGo_enum (s := { s with heap := h', toks := tk + 1 }) ho fun h'' he' sb => ?_⟩
    have hT2 : h''.get? s.heap.objs.size = some { cls := .type "tuple", data := .seq #[.int i tk, y] } := (sb.2 _ (Nat.ne_of_gt hel)).trans hT
    have new : ObjOk X.prog X.w (upd H s.heap.objs.size (.tup [.int (i : Nat), x])) h'' s.heap.objs.size (.tup [.int (i : Nat), x]) :=
      ⟨by show 2 ≤ sizeLine; decide, [.int i tk, y], .cons ⟨_, rfl⟩ (.cons ru .nil), ⟨_, hT2, rfl, _, rfl⟩⟩
    have I1 : Inv X pins σ (upd H s.heap.objs.size (.tup [.int (i : Nat), x])) { s with heap := h'', toks := tk + 1 } :=
      I.turnedNew (ch := [e, it]) (fun b ob hb q => (sb.2 b (fun z => hb (by simp [z]))).trans (hk b ob (fun z => hb (by simp [z])) (fun z => hb (by simp [z])) q)) hf (Nat.le_refl _) new
    refine ⟨.ref s.heap.objs.size, _, I1, rfl, ⟨_, x, rfl, I.hok.fresh (Nat.le_refl _), rfl, fun ys hy => by rw [I.tuple_inj hy hq]; exact hx⟩, ⟨⟨y, ?_⟩, hst'.1.at fun o q => (sb.2 it (Ne.symm hne)).trans q, hne⟩, fun b hb => ?_⟩
    · have e1 : ((i + 1 : Nat) : Int) = (i : Int) + 1 := by omega
      rw [e1]; exact he'
    · have hb' : b < s.heap.objs.size := by
        have e' : b = e ∨ b = it := by simpa using hb
        rcases e' with z | z
        · rw [z]; exact hel
        · rw [z]; exact hil
      rw [upd_ne (Nat.ne_of_lt hb')]
      exact (hf b hb).1
  done := by
    intro X hP hw hK hc i pins s σ H E I hf st hg
    subst hP hw hK
    obtain ⟨⟨old, he⟩, hit, hne⟩ := st
    obtain ⟨xs, hq, hx⟩ := hg
    obtain ⟨its, rv, p, hz⟩ := I.tuple hq
    obtain ⟨f0, f1, f2, f3, f4, f5⟩ := hf it (by simp)
    have hl := rv.length
    exact enumT_end (I.ok.hd hc) he hit p (by simp; omega) fun h' eb => ⟨rfl, I.turned (t' := s.toks) (fun b o hb q => eb b o hb q) f0 f1 f3 f4 f5⟩
  self := fun A i s Q E st h => let ⟨⟨_, he⟩, _⟩ := st; wpAny_pyIter_enum he h
theorem newEnumT (l : Addr) (items : Array Value) (n : Nat) (dct : Option Addr) (sl : Array (Option Value)) :
    Meets (Builtin.«enumerate.__new__» ⟨[.type "enumerate", .ref l], []⟩) (fun _ R s => s.heap.get? l = some { cls := .type "tuple", dict := dct, data := .seq items n, slots := sl } ∧
      R (.ok (.ret (.ref (s.heap.push { cls := .type "tuple_iterator", data := .fields #[.ref l, .int 0 0] }).objs.size)))
        { s with heap := (s.heap.push { cls := .type "tuple_iterator", data := .fields #[.ref l, .int 0 0] }).push { cls := .type "enumerate", data := .fields #[.none, .bool false, .ref s.heap.objs.size, rawInt 0, .none, .none] } }) :=
  .of_wp fun prog w A R s h => by
    obtain ⟨hp, g, d, tk, os⟩ := s; obtain ⟨hl, h⟩ := h
    have hsub := sub_enumerate
    have hL : Heap.IsTuple (Shared.heap ⟨hp, g, d, tk, os⟩) l items := ⟨_, hl, rfl, n, rfl⟩
    have q1 : ∀ {A' : Around} {E : Value → Shared → Prop} {Q : Value → Shared → Prop}, Q (.ref hp.objs.size) ⟨hp.push { cls := .type "tuple_iterator", data := .fields #[.ref l, .int 0 0] }, g, d, tk, os⟩ → wpAny (model prog w) A' (pyIter (.ref l)) Q E ⟨hp, g, d, tk, os⟩ :=
      fun q => (begins_tuple l items).iter prog w _ _ ⟨hp, g, d, tk, os⟩ _ hL q
    wp_walk using q1
    refine wpAny_stack_any fun st => wpAny_pure ?_
    split
    · rename_i c _ _ _ _ _
      cases (c == Value.type "enumerate")
      · wp_walk using q1
        exact ⟨_, rfl, h⟩
      · wp_walk using q1
        exact ⟨_, rfl, h⟩
    · wp_walk using q1
      exact ⟨_, rfl, h⟩
theorem callEnumT {prog : Program} {w : World} {A : Around} {E : Value → Shared → Prop} {s : Shared} {l : Addr} {items : Array Value} {Q : Value → Shared → Prop} (hL : s.heap.IsTuple l items)
    (h : ∀ h', IsEnum h' (s.heap.objs.size + 1) s.heap.objs.size 0 .none → h'.IsTupleIter s.heap.objs.size l 0 → h'.objs.size = s.heap.objs.size + 2 →
      (∀ b o, s.heap.get? b = some o → h'.get? b = some o) → Q (.ref (s.heap.objs.size + 1)) { s with heap := h' }) :
    wpAny (model prog w) A (call (.type "enumerate") [.ref l]) Q E s := by
  obtain ⟨⟨c, dct, dt, sl⟩, hl, hc, n, hd⟩ := hL
  replace hc : c = .type "tuple" := hc
  replace hd : dt = .seq items n := hd
  subst hc hd
  refine callType_new F.called_enumerate (by decide) (F.typeCall_enumerate_1 _) (F.newCall_enumerate_1 _) (fun obj => F.args_object_init_2 obj _) F.entry_enumerate_new
    (newEnumT l items n dct sl) ⟨hl, ?_⟩
  have hz : (s.heap.push { cls := .type "tuple_iterator", data := .fields #[.ref l, .int 0 0] }).objs.size = s.heap.objs.size + 1 := Heap.size_push ..
  show _ ∧ _
  rw [hz]
  have he : IsEnum ((s.heap.push { cls := .type "tuple_iterator", data := .fields #[.ref l, .int 0 0] }).push
      { cls := .type "enumerate", data := .fields #[.none, .bool false, .ref s.heap.objs.size, rawInt 0, .none, .none] }) (s.heap.objs.size + 1) s.heap.objs.size 0 .none := by
    have := Heap.get?_push_size (s.heap.push { cls := .type "tuple_iterator", data := .fields #[.ref l, .int 0 0] })
      (o := { cls := .type "enumerate", data := .fields #[.none, .bool false, .ref s.heap.objs.size, rawInt 0, .none, .none] }) rfl
    rw [hz] at this; exact this
  refine ⟨⟨_, he, rfl⟩, h _ he ⟨_, Heap.get?_push_of_some _ (Heap.get?_push_size _ rfl), rfl, rfl⟩ (by rw [Heap.size_push, hz]) fun b o x => Heap.get?_push_of_some _ (Heap.get?_push_of_some _ x)⟩
def iEnumT (K : Frg) (ta : TA) : TI := fun σ H R => ta σ H fun vs H1 => ∃ a xs, vs = [.ref a] ∧ SqT K H1 a xs ∧ R (IteT K a) H1
theorem pi_enumT {X : Cx} {e : Expr} {ta : TA} {p pos tpos : Pos} {elts : List Expr} {kk : Nat} (hg : Gl X "enumerate") (hm : X.mg "enumerate" = none) (ha : PA X [e] ta) (hs : starEach [e] X.env = [(false, eval e X.env)] := by rfl) :
    PI X (.Tuple elts kk tpos) (.Call (.Name "enumerate" p) [e] [] pos) (iEnumT X.K ta) := by
  refine ⟨fun pins s σ H R I h => ?_⟩
  refine Call_ (ld_blt I hg hm boot_enumerate (PyProof.Rows.callWith_type1 (thn (ha.run pos pins s σ H _ I h) fun us s1 ⟨vs, H1, I1, r1, q1⟩ => ?_) hs rfl))
  obtain ⟨a, xs, ex, hq, q⟩ := q1
  subst ex
  cases r1 with
  | cons r rr =>
    cases rr
    cases r
    obtain ⟨its, rv, p', hz⟩ := I1.tuple hq
    refine callEnumT p' fun h' he hit hsz hk => wpAny_pyIter_enum he ?_
    have I2 : Inv X pins σ H1 { s1 with heap := h' } := I1.kept (t' := s1.toks) hk
    refine ⟨s1.heap.objs.size + 1, [s1.heap.objs.size + 1, s1.heap.objs.size], _, _, H1, rfl, I2, turn_enumT a (s1.heap.objs.size + 1) s1.heap.objs.size, ⟨⟨.none, he⟩, hit, Nat.succ_ne_self _⟩, fun b hb => ?_, q⟩
    have e' : b = s1.heap.objs.size + 1 ∨ b = s1.heap.objs.size := by simpa using hb
    have hle : s1.heap.objs.size ≤ b := by
      rcases e' with z | z
      · rw [z]; exact Nat.le_add_right _ _
      · rw [z]; exact Nat.le_refl _
    exact I1.fpOk hle (I1.hok.fresh hle)
/-- items with their numbers -/
def enD (xs : List D) : List D := xs.zipIdx.map fun p => .tuple [.int p.2, p.1]
theorem enD_len (xs : List D) : (enD xs).length = xs.length := by unfold enD; rw [List.length_map, List.length_zipIdx]
theorem enD_get {xs : List D} {i : Nat} {d : D} (h : xs[i]? = some d) : (enD xs)[i]? = some (.tuple [.int i, d]) := by
  unfold enD
  rw [List.getElem?_map, List.getElem?_zipIdx, h]
  simp
def lEnum (f : EF) : LF := fun e => (f e).bind fun p => match p.1 with
  | .tuple xs => some (enD xs, p.2)
  | .list xs => some (enD xs, p.2)
  | _ => none
theorem itr_enumL {K : Frg} {G : Hp} {a : Addr} {vs : List V} {ds : List D} (h : G a = some (.lst vs)) (hd : DvAll K G vs ds) : Itr K (Ite K a) G (enD ds) := by
  refine ⟨_, _, by rw [enD_len, ← dvAll_len hd]; exact walk_enum (K := K) (a := a) (xs := vs), fun H k => SqL.of (k _ _ h), fun i H x H' hi k y => ?_⟩
  obtain ⟨T, x1, x2, h1, h2, h3, h4, h5⟩ := y
  obtain ⟨d, k1, k2⟩ := dvAll_getV hd h5
  cases h4
  exact .inr ⟨T, _, _, h1, h2, h3, enD_get k1, .cons (.int _) (.cons k2 .nil)⟩
theorem itr_enumT {K : Frg} {G : Hp} {a : Addr} {vs : List V} {ds : List D} (h : SqT K G a vs) (hd : DvAll K G vs ds) : Itr K (IteT K a) G (enD ds) := by
  refine ⟨fun H => SqT K H a vs, fun i H v H' => ∃ T x, v = .ref T ∧ H T = none ∧ H' = upd H T (.tup [.int (i : Nat), x]) ∧ vs[i]? = some x, ?_, fun H k => seqT k h, fun i H x H' hi k y => ?_⟩
  · rw [enD_len, ← dvAll_len hd]
    exact ⟨fun i H hi q => ⟨vs, vs[i], q, by simp [hi]⟩, fun H q => ⟨vs, q, Nat.le_refl _⟩, fun i H v H' _ q ⟨T, x, h1, h2, h3, h4⟩ => ⟨T, x, h1, h2, h3, h4 vs q⟩⟩
  · obtain ⟨T, x1, h1, h2, h3, h5⟩ := y
    obtain ⟨d, k1, k2⟩ := dvAll_getV hd h5
    exact .inr ⟨T, _, _, h1, h2, h3, enD_get k1, .cons (.int _) (.cons k2 .nil)⟩
section
variable {X : Cx} {pos : Pos}
theorem fi_enum {a : Expr} {f : EF} {p tpos : Pos} {elts : List Expr} {kk : Nat} (h : FE X a f) (hm : X.mg "enumerate" = none) (hg : Gl X "enumerate" := by rfl) (hs : starEach [a] X.env = [(false, eval a X.env)] := by rfl) (hs2 : starEach [a] X.env = (false, eval a X.env) :: starEach [] X.env := by rfl) :
    FI X (.Tuple elts kk tpos) (.Call (.Name "enumerate" p) [a] [] pos) (lEnum f) :=
  ⟨PI.imp (iter_or (pi_enum hg hm (pa_cons h.pe pa_nil hs2) hs) (pi_enumT hg hm (pa_cons h.pe pa_nil hs2) hs)) fun σ H R ⟨z, ds, e', rp, hz, hH, hf, q⟩ => by
    subst hz hH
    obtain ⟨⟨x, e1⟩, h1, hf⟩ := Option.bind_eq_some_iff.mp hf
    cases x with
    | tuple xs =>
      have e2 : some (enD xs, e1) = some (ds, e') := hf
      cases e2
      refine .inr ⟨z, _, _, rp, rfl, rfl, h1, fun v y m r s2 ee p => ?_⟩
      cases p with
      | tup k1 k2 => exact ⟨_, _, rfl, seqT r.same k1, q _ y m r s2 ee (itr_enumT k1 k2)⟩
    | list xs =>
      have e2 : some (enD xs, e1) = some (ds, e') := hf
      cases e2
      refine .inl ⟨z, _, _, rp, rfl, rfl, h1, fun v y m r s2 ee p => ?_⟩
      cases p with
      | lst k1 k2 => exact ⟨_, _, rfl, SqL.of (r.same _ _ k1), q _ y m r s2 ee (itr_enumL k1 k2)⟩
    | none => cases hf
    | bool _ => cases hf
    | int _ => cases hf
    | str _ => cases hf
    | dict _ => cases hf⟩
end
end Fl

set_option Elab.async false
set_option linter.all false
set_option maxRecDepth 100000
set_option maxHeartbeats 1000000
set_option autoImplicit false
/-! FnTake: the other tape: [numbers, place, store, stir]. -/
namespace Fl
open PySem PySem.Spec PyProof.Rows L2
structure Tp where
  cells : List Int
  i : Nat
  s : Int
  m : Int
def Tp.ot (b : Tp) : OT := .node [.node (b.cells.map fun i => .leaf (.int i)), .leaf (.int b.i), .leaf (.int b.s), .leaf (.int b.m)]
def TpAt (H : Hp) (p c : Addr) (b : Tp) : Prop := p ≠ c ∧ H p = some (.lst [.ref c, .int b.i, .int b.s, .int b.m]) ∧ H c = some (.lst (b.cells.map V.int))
theorem tpOf {K : Frg} {G H : Hp} {v : V} {F : List Addr} {b : Tp} (h : OtOk K G H v b.ot F) : ∃ p c, v = .ref p ∧ F = [p, c] ∧ TpAt H p c b ∧ G p = none ∧ G c = none := by
  cases h with
  | node h1 h2 h3 h4 =>
    cases h3 with
    | cons k1 k2 k3 =>
      cases k1 with
      | node g1 g2 g3 g4 =>
        obtain ⟨e1, e2⟩ := otsInts g3
        subst e1 e2
        cases k2 with
        | cons l1 l2 l3 =>
          cases l1 with
          | leaf l1 =>
            cases l1
            cases l2 with
            | cons m1 m2 m3 =>
              cases m1 with
              | leaf m1 =>
                cases m1
                cases m2 with
                | cons n1 n2 n3 =>
                  cases n1 with
                  | leaf n1 =>
                    cases n1
                    cases n2
                    refine ⟨_, _, rfl, rfl, ⟨fun e => h4 ?_, h2, g2⟩, h1, g1⟩
                    rw [e]; simp
theorem tpMk {K : Frg} {G H : Hp} {p c : Addr} {b : Tp} (h : TpAt H p c b) (g1 : G p = none) (g2 : G c = none) : OtOk K G H (.ref p) b.ot [p, c] := by
  obtain ⟨h1, h2, h3⟩ := h
  have k1 : OtOk K G H (.ref c) (.node (b.cells.map fun i => OT.leaf (.int i))) [c] := .node g2 h3 (otsIntsMk _) fun h => nomatch h
  have k2 : OtsOk K G H [.int b.i, .int b.s, .int b.m] [.leaf (.int b.i), .leaf (.int b.s), .leaf (.int b.m)] [] := .cons (F1 := []) (F2 := []) (.leaf (.int _)) (.cons (F1 := []) (F2 := []) (.leaf (.int _)) (.cons (F1 := []) (F2 := []) (.leaf (.int _)) .nil fun _ h => nomatch h) fun _ h => nomatch h) fun _ h => nomatch h
  have k3 : OtsOk K G H [.ref c, .int b.i, .int b.s, .int b.m] [.node (b.cells.map fun i => OT.leaf (.int i)), .leaf (.int b.i), .leaf (.int b.s), .leaf (.int b.m)] [c] := .cons (F1 := [c]) (F2 := []) k1 k2 fun _ _ h => nomatch h
  exact .node g1 h2 k3 (by simpa using h1)
def spTp (k : Nat) (go : Tp → List V → Option (V × Tp)) : Sp := fun vs H Q _ => vs.length = k + 1 ∧ ∃ p c b as r b', vs = .ref p :: as ∧ TpAt H p c b ∧ go b as = some (r, b') ∧ ∀ H', TpAt H' p c b' → (∀ a, a ≠ p → a ≠ c → H' a = H a) → Q r H'
/-- a taking: one place -/
def gTake (go : Tp → Int → Int × Tp) (ok : Int → Bool) : Fnc := fun ss => match ss with
  | [.ow (.node [.node cs, .leaf (.int i), .leaf (.int s), .leaf (.int t)]), .va (.int m)] => if ok m = true ∧ 0 ≤ i then (gDraw.cellsOf cs).map fun ns => (.va (.int (go ⟨ns, i.toNat, s, t⟩ m).1), [.ow (go ⟨ns, i.toNat, s, t⟩ m).2.ot, .no]) else none
  | _ => none
theorem gTake_tp (go : Tp → Int → Int × Tp) (ok : Int → Bool) (b : Tp) (m : Int) (h : ok m = true) : gTake go ok [.ow b.ot, .va (.int m)] = some (.va (.int (go b m).1), [.ow (go b m).2.ot, .no]) := by
  show (if ok m = true ∧ 0 ≤ (b.i : Int) then (gDraw.cellsOf (b.cells.map fun i => OT.leaf (.int i))).map _ else none) = _
  rw [if_pos ⟨h, by omega⟩, cellsOf_map]; rfl
section
variable {P : Program} {w : World} {K : Frg} {mg : Str → Option Value} {base : Heap}
/-- a drawing def's promise in the layer's words -/
theorem take_ok {f : Addr} {fd : FuncData} {k : Nat} {ps : List Str} {go : Tp → Int → Int × Tp} {ok : Int → Bool} (F : FnOk P w K mg base CX0 k f fd ps (spTp 1 fun b as => match as with
    | [.int m] => if ok m then some (.int (go b m).1, (go b m).2) else none
    | _ => none)) : FnOk P w K mg base CX0 k f fd ps (spF K 2 (gTake go ok)) := F.imp fun vs H Q E ⟨hl, z, r, ss', hs, hH, rp, har, hg, q⟩ => by
  subst hH
  refine ⟨hl, ?_⟩
  unfold gTake at hg
  split at hg
  · rename_i cs j0 s0 t0 m he
    split at hg
    · rename_i hok0
      obtain ⟨hok, hj0⟩ := hok0
      obtain ⟨j1, rfl⟩ : ∃ j : Nat, j0 = (j : Int) := ⟨j0.toNat, by omega⟩
      obtain ⟨ns, h1, h2⟩ := Option.map_eq_some_iff.mp hg
      have ec := cellsOf_some h1
      subst ec
      cases h2
      have o0 := rp.ok 0 _ (by rw [he]; rfl)
      have o1 := rp.ok 1 _ (by rw [he]; rfl)
      rw [hs] at o0 o1
      match vs, hl, hs, q, o0, o1 with
      | [v0, v1], _, hs, q, o0, o1 =>
      obtain ⟨x, e1, o0⟩ := o0
      cases e1
      obtain ⟨p, c, rfl, hF, hB, g1, g2⟩ := tpOf (b := ⟨ns, j1, s0, t0⟩) o0
      obtain ⟨_, x, e2, o1⟩ := o1
      cases e2
      cases o1
      refine ⟨p, c, ⟨ns, j1, s0, t0⟩, [.int m], _, _, rfl, hB, by show (if ok m = true then _ else none) = _; rw [if_pos hok], fun H' hB' hsame => ?_⟩
      have hF1 : z.F 1 = [] := by
        have := rp.ok 1 _ (show z.e[1]? = some (.va (.int m)) by rw [he]; rfl)
        exact this.1
      have hFo : ∀ i, z.F i = if i = 0 then [p, c] else [] := fun i => by
        match i with
        | 0 => rw [if_pos rfl]; exact hF
        | 1 => exact hF1
        | i + 2 => rw [if_neg (by omega)]; exact rp.out _ (by rw [he]; simp)
      have hHn : ∀ a, H' a = none → z.H a = none := fun a h => by
        by_cases e1 : a = p
        · rw [e1, hB'.2.1] at h; cases h
        · by_cases e2 : a = c
          · rw [e2, hB'.2.2] at h; cases h
          · rw [hsame a e1 e2] at h; exact h
      have nG : ∀ b x, z.G b = some x → b ≠ p ∧ b ≠ c := fun b x h => ⟨fun e => (by rw [e, g1] at h; cases h), fun e => (by rw [e, g2] at h; cases h)⟩
      have lenE : z.e.length = 2 := by rw [he]; rfl
      refine q _ { z with H := H', e := [.ow (go ⟨ns, j1, s0, t0⟩ m).2.ot, .no], F := fun i => if i = 0 then [p, c] else [] } [] ⟨fun u o h hf => ?_, fun u h e => h (hHn u e), Same.refl _, fun _ _ _ => rfl, fun i u h => ?_, fun i h => ?_, by rw [he]; rfl⟩ ⟨fun u x h => ?_, ?_, fun i s h => ?_, fun i h => ?_, fun i j u hij h h' => ?_⟩ rfl rfl ⟨rfl, _, rfl, .int _⟩ fun _ h => nomatch h
      · have hp : u ∉ z.F 0 := hf 0
        rw [hF] at hp
        simp at hp
        show H' u = some o
        rw [hsame u hp.1 hp.2]; exact h
      · rw [hFo]; exact .inl h
      · match i with
        | 0 => exact ⟨rfl, rfl⟩
        | 1 => rw [he] at h; cases h
        | i + 2 => rw [he] at h; cases h
      · obtain ⟨n1, n2⟩ := nG u x h
        show H' u = some x
        rw [hsame u n1 n2]; exact rp.same _ _ h
      · show z.s.length = 2
        rw [rp.len, lenE]
      · match i with
        | 0 =>
          cases h
          show SlOk K z.G H' (z.s[0]?).join [p, c] _
          rw [hs]
          exact ⟨.ref p, rfl, tpMk hB' g1 g2⟩
        | 1 => cases h; rfl
        | i + 2 => cases h
      · show (if i = 0 then [p, c] else []) = []
        rw [if_neg (fun e => by rw [e] at h; cases h)]
      · have h1 : u ∈ (if i = 0 then [p, c] else []) := h
        have h2 : u ∈ (if j = 0 then [p, c] else []) := h'
        split at h1
        · split at h2
          · omega
          · cases h2
        · cases h1
    · cases hg
  · cases hg
end
/-! ### what the tape does -/
def mixN (n : Int) : Int :=
  let k := (n * 6364136223846793005 + 1442695040888963407) % 18446744073709551616
  (k * k / 4294967296 + k * 69621) % 18446744073709551557
def great (c m : Int) : Int := if 1000000000000000000 ≤ c then c else m
def loadT (t : Tp) : Tp := match t.cells[t.i]? with
  | some x => ⟨t.cells, t.i + 1, great (sized x) (mixN (mixN (sized x) + ((t.i + 1 : Nat) : Int))), mixN (t.m + sized x)⟩
  | none => ⟨t.cells, t.i, mixN (t.m + 1), mixN (t.m + 1)⟩
def takeT (t : Tp) (m : Int) : Int × Tp :=
  if t.s < m then ((loadT t).s % m, { loadT t with s := (loadT t).s / m }) else (t.s % m, { t with s := t.s / m })
def spTapeT (K : Frg) : Sp := fun vs H Q _ => ∃ (a : Addr) (ns : List Int), vs = [.ref a] ∧ SqL K H a (ns.map V.int) ∧ ns.length ≤ 63 ∧ ∀ H' p c, Same H H' → H p = none → H c = none → TpAt H' p c ⟨ns, 0, 0, 1 + ns.length⟩ → Q (.ref p) H'
def tp0 (ns : List Int) : Tp := ⟨ns, 0, 0, 1 + ns.length⟩
/-- a def of one number that leaves all as it is -/
def spInt (g : Int → Int) : Sp := fun vs H Q _ => ∃ n, vs = [.int n] ∧ Q (.int (g n)) H
theorem cut80 (xs : List V) (h : xs.length ≤ 63) : cutV xs none (some 80) = xs := by
  unfold cutV
  rw [HT.sIx_none, show HT.sIx xs.length xs.length (some 80) = min 80 xs.length from HT.sIx_nat xs.length _ 80, Nat.min_eq_right (by omega)]
  simp
section
variable {P : Program} {w : World} {K : Frg} {mg : Str → Option Value} {base : Heap}
/-- the law's body: the tape, then the rest -/
theorem law_okT {st : Stmt} {N : List Str} {f fB : Addr} {fd fdB : FuncData} {k : Nat} {F1 : SF} (F : Fun K "law" "law" st f fd) (S : FnScope N ["script"] (defScope st)) (hN : 2 ≤ N.length)
    (FB : FnOk P w K mg base CX0 1 fB fdB ["script"] (spTapeT K)) (bB : Binds K fdB ["script"] []) (gB : mg "_law_tape" = some (.ref fB)) (kB : PySem.W.keepIn K (.ref fB) = true)
    (hset : ∀ (cdv : Value) (A : Around) (outer : List Env) (s : Shared) (H : Hp) (E : XK), Room (k + 1) (A.deeper (envOfC "law" (defScope st) s.heap.objs.size f cdv)) →
      ∃ t, PS (cxOf CX0 P w K mg base N "law" (defScope st) f cdv A outer s H E).nox ((defBody st).headD (.Pass ⟨0, 0, 0, 0⟩)) t ∧ ∀ D σ H, (tAsg (tCall (spTapeT K) [] E0 (tCons (tVar 0) tNil)) (gName 1)) D σ H → t D σ H)
    (hb : defBody st = (defBody st).headD (.Pass ⟨0, 0, 0, 0⟩) :: (defBody st).drop 1)
    (hrest : ∀ (cdv : Value) (A : Around) (outer : List Env) (s : Shared) (H : Hp) (E : XK), Room (k + 1) (A.deeper (envOfC "law" (defScope st) s.heap.objs.size f cdv)) → FSs (cxOf CX0 P w K mg base N "law" (defScope st) f cdv A outer s H E).nox ((defBody st).drop 1) F1)
    (htrue : ∀ ns : List Int, ns.length ≤ 63 → ∃ e', F1 (.no :: .ow (tp0 ns).ot :: List.replicate (N.length - 2) .no) = some (.rt (.va (.bool true)) e')) : FnOk P w K mg base CX0 (k + 2) f fd ["script"] (spLaw K) := by
  refine F.ok S (fun vs H Q E ⟨a, ns, h, _⟩ => by rw [h]; rfl) (fun cdv A outer s H vs Q E hr h => ?_)
  obtain ⟨a, ns, rfl, hS, hl, q⟩ := h
  obtain ⟨t, ht, hti⟩ := hset cdv A outer s H E hr
  rw [hb]
  refine ⟨_, pss_cons ht (hrest cdv A outer s H E hr).ps, ?_⟩
  have hσ : L2.start N [V.ref a] = some (V.ref a) :: none :: List.replicate (N.length - 2) none := by
    unfold L2.start
    have e : N.length - [V.ref a].length = (N.length - 2) + 1 := by show N.length - 1 = _; omega
    rw [e, List.replicate_succ]; rfl
  refine hti _ _ _ ?_
  rw [hσ]
  refine ⟨.ref a, rfl, a, ns, rfl, hS, hl, fun H' p c hs hp hc hB => ?_⟩
  obtain ⟨e', he'⟩ := htrue ns hl
  refine tS_out.mpr ⟨⟨fun _ => none, H', some (V.ref a) :: some (V.ref p) :: List.replicate (N.length - 2) none, .no :: .ow (tp0 ns).ot :: List.replicate (N.length - 2) .no, fun i => if i = 1 then [p, c] else []⟩, _, ⟨fun b o h => (by cases h), ?_, fun i s h => ?_, fun i h => ?_, fun i j u hij hi hj => ?_⟩, rfl, rfl, he', fun v y Fr m r ee so hf hg => ?_⟩
  · show List.length (some (V.ref a) :: some (V.ref p) :: List.replicate (N.length - 2) none) = List.length (Sl.no :: Sl.ow (tp0 ns).ot :: List.replicate (N.length - 2) Sl.no)
    simp
  · match i with
    | 0 => cases h; rfl
    | 1 =>
      cases h
      exact ⟨.ref p, rfl, tpMk hB rfl rfl⟩
    | i + 2 =>
      have h' : (List.replicate (N.length - 2) Sl.no)[i]? = some s := h
      have := List.getElem?_eq_some_iff.mp h'
      obtain ⟨h1, h2⟩ := this
      rw [List.getElem_replicate] at h2
      subst h2
      show (if i + 2 = 1 then [p, c] else []) = []
      rw [if_neg (by omega)]
  · show (if i = 1 then [p, c] else []) = []
    have h' : (Sl.no :: Sl.ow (tp0 ns).ot :: List.replicate (N.length - 2) Sl.no).length ≤ i := h
    rw [List.length_cons, List.length_cons] at h'
    rw [if_neg (by omega)]
  · have a1 : u ∈ (if i = 1 then [p, c] else []) := hi
    have a2 : u ∈ (if j = 1 then [p, c] else []) := hj
    split at a1
    · split at a2
      · omega
      · cases a2
    · cases a1
  · obtain ⟨_, x, hx, hv⟩ := so
    cases hx
    cases hv
    exact q _
end
end Fl

set_option Elab.async false
set_option linter.all false
set_option maxRecDepth 100000
set_option maxHeartbeats 1000000
set_option autoImplicit false
/-! FnMore2: sorted of ints, zip of two, list and tuple of a range. -/
namespace Fl
open PySem PySem.Spec PyProof.Rows L2
def sortI (ns : List Int) : List Int := ns.mergeSort fun a b => decide (a ≤ b)
theorem sortI_perm (ns : List Int) : (sortI ns).Perm ns := List.mergeSort_perm ns _
theorem sortI_pair (ns : List Int) : (sortI ns).Pairwise (· ≤ ·) := by
  have := List.pairwise_mergeSort (le := fun a b : Int => decide (a ≤ b)) (fun a b c h1 h2 => decide_eq_true (Int.le_trans (of_decide_eq_true h1) (of_decide_eq_true h2))) (fun a b => by
    rcases Int.le_total a b with h | h
    · rw [decide_eq_true h]; rfl
    · rw [decide_eq_true h, Bool.or_true]) ns
  exact this.imp fun h => of_decide_eq_true h
theorem sortI_of {ns ms : List Int} (h : ms.Perm ns) (p : ms.Pairwise (· ≤ ·)) : ms = sortI ns :=
  List.Perm.eq_of_pairwise (le := (· ≤ ·)) (fun _ _ _ _ h1 h2 => Int.le_antisymm h1 h2) p (sortI_pair ns) (h.trans (sortI_perm ns).symm)
def dSorted : D → Option (List D)
  | .list xs => (asInts xs).map fun ns => (sortI ns).map PyData.int
  | _ => none
theorem dvAll_ints {K : Frg} {G : Hp} : ∀ ns : List Int, DvAll K G (ns.map V.int) (ns.map PyData.int)
  | [] => .nil
  | n :: ns => .cons (.int n) (dvAll_ints ns)
section
variable {X : Cx} {pos : Pos}
theorem fo_sorted {a : Expr} {p : Pos} {f : EF} (ha : FB X a f) (hm : X.mg "sorted" = none) (hg : Gl X "sorted" := by rfl) (he : starEach [a] X.env = (false, eval a X.env) :: starEach [] X.env := by rfl) : FO X (.Call (.Name "sorted" p) [a] [] pos) (oUn dSorted f) :=
  fo_call1 cr_sortedI (fun x ds G H vx Q e s h q => by
    unfold dSorted at e
    split at e
    · obtain ⟨ns, h1, h2⟩ := Option.map_eq_some_iff.mp e
      subst h2
      obtain ⟨b, vs, rfl, h3, h4⟩ := vwLst s h
      obtain ⟨e1, e2⟩ := asInts_ok h1 h4
      subst e1
      refine ⟨b, ns, rfl, SqL.of h3, fun ns' p hp hr hn => ?_⟩
      have := sortI_of hp hr
      subst this
      exact q p _ hn (dvAll_ints _)
    · cases e) hg hm (by decide +kernel) ha (by decide) (by decide) he
/-- an own list's (or any name's) cut: what stands there behind the bounds -/
def eSlO (i : Nat) (g h : PF) : EF := fun e => (e[i]?.bind vw).bind fun _ => (g e).bind fun q => (h q.2).bind fun r => (r.2[i]?.bind vw).bind fun x => (dSl q.1 r.1 x).map fun d => (d, r.2)
theorem fslo (i : Nat) {x : Str} {p p2 : Pos} {lo hi : Option Expr} {g h : PF} (hl : FP X lo g) (hh : FP X hi h) (hN : X.N[i]? = some x := by rfl) (hv : Vis X.env.scope x := by first | exact Or.inl rfl | exact Or.inr (Or.inl rfl) | exact Or.inr (Or.inr rfl)) (hd : (x == ("__debug__" : Str)) = false := by decide) (hcd : (x == ("__classdict__" : Str)) = false := by decide) : FE X (.Subscript (.Name x p) (.Slice lo hi none p2) pos) (eSlO i g h) :=
  ⟨PE.imp (pe_slice ((sl_list.or sl_tupA).or sl_str) (pe_var hN hv hd hcd) hl.po hh.po) fun σ H Q ⟨z, d, e', rp, hs, hH, hf, q⟩ => by
    subst hs hH
    obtain ⟨_, h0, hf⟩ := Option.bind_eq_some_iff.mp hf
    obtain ⟨⟨l, e1⟩, h1, hf⟩ := Option.bind_eq_some_iff.mp hf
    obtain ⟨⟨u, e2⟩, h2, hf⟩ := Option.bind_eq_some_iff.mp hf
    obtain ⟨xd, h3, hf⟩ := Option.bind_eq_some_iff.mp hf
    obtain ⟨d', h4, hf⟩ := Option.map_eq_some_iff.mp hf
    cases hf
    obtain ⟨v, hv, _⟩ := rp.has h0
    refine ⟨v, hv, z, l, e1, rp, rfl, rfl, h1, fun y2 m2 r2 s3 ee2 => ⟨y2, u, _, r2, s3, rfl, by rw [ee2]; exact h2, fun y3 m3 r3 s4 ee3 => ?_⟩⟩
    obtain ⟨v', hv', pv⟩ := r3.has (i := i) (x := xd) (by rw [ee3]; exact h3)
    rw [s4, hv] at hv'
    cases hv'
    have mm := m2.trans m3
    have finN : ∀ v p o, y3.H p = none → Dv X.K (upd y3.G p o) v d → Q v (upd y3.H p o) := fun v p o hn pv => by
      obtain ⟨r5, m5⟩ := r3.add (o := o) hn
      exact q v (y3.add p o) (mm.trans m5) r5 s4 ee3 pv
    cases xd with
    | list xs =>
      cases h4
      obtain ⟨a, vs, rfl, k1, k2⟩ := vwLst (H := y3.H) r3.same pv
      exact .inl (.inl ⟨_, _, rfl, SqL.of k1, fun p hn => finN _ p _ hn (.lst upd_same (dvMonoAll (sameUpd (r3.same.free hn)) _ _ (dvAll_cut k2 _ _)))⟩)
    | tuple xs =>
      cases h4
      obtain ⟨a, vs, rfl, k1, k2⟩ := vwTup (H := y3.H) pv
      refine .inl (.inr ⟨a, vs, rfl, seqT r3.same k1, fun hw => ?_, fun hw p hn => finN _ p _ hn (.tup (SqT.of upd_same) (dvMonoAll (sameUpd (r3.same.free hn)) _ _ (dvAll_cut k2 _ _)))⟩)
      refine q _ y3 mm r3 s4 ee3 ?_
      rw [dvAll_len k2] at hw
      rw [cut_all hw]
      exact .tup k1 k2
    | str z =>
      have h4' : (if z.length ≤ sizeLine then some (PyData.str (cutS z l u)) else none) = some d := h4
      split at h4'
      · rename_i hz
        cases h4'
        exact .inr ⟨_, vwStr (H := y3.H) pv, hz, q _ y3 mm r3 s4 ee3 (.str _)⟩
      · cases h4'
    | none => cases h4
    | bool _ => cases h4
    | int _ => cases h4
    | dict _ => cases h4⟩
end
end Fl

set_option Elab.async false
set_option linter.all false
set_option maxRecDepth 100000
set_option maxHeartbeats 1000000
set_option autoImplicit false
/-! FnRev: t[::-1] of a tuple, xs[::-1] of a list. -/
namespace Fl
open PySem PySem.Spec PyProof.Rows L2 HT
section
variable {prog : Program} {w : World} {A : Around} {E : Value → Shared → Prop} {s : Shared}
theorem applied_rev {sl : Addr} {vl vu vs : Value} {n : Nat} {Q : Int × Int × Nat → Shared → Prop} (hs : s.heap.IsSliceOf sl vl vu vs) (pl : IsPart vl none) (pu : IsPart vu none) (ps : IsPart vs (some (-1)))
    (h : Q ((n : Int) - 1, -1, n) s) : wpAny (model prog w) A (Builtin.Slice.sliceApplied (.ref sl) (pure (n : Int))) Q E s := by
  obtain ⟨os, hos, hcs, hds⟩ := id hs
  unfold Builtin.Slice.sliceApplied Builtin.Slice.sliceFields
  refine wpAny_bind (wpAny_bind (wpAny_field hos hds (x := vl) rfl (wpAny_bind (wpAny_field hos hds (x := vu) rfl (wpAny_bind (wpAny_field hos hds (x := vs) rfl (wpAny_pure ?_)))))))
  refine wpAny_bind (slicePart_ ps ?_)
  show wpAny _ _ (if ((-1 : Int) == 0) = true then _ else _) _ _ s
  rw [if_neg (by decide)]
  refine wpAny_bind (slicePart_ pl (wpAny_bind (slicePart_ pu (wpAny_bind (wpAny_pure ?_)))))
  show wpAny _ _ (match Builtin.Slice.sliceAdjust none none (-1) (n : Int) with | (lo, hi) => pure (lo, (-1 : Int), Builtin.Slice.slicePlaces lo hi (-1))) _ _ s
  have e1 : Builtin.Slice.sliceAdjust none none (-1) (n : Int) = ((n : Int) - 1, -1) := rfl
  have e2 : Builtin.Slice.slicePlaces ((n : Int) - 1) (-1) (-1) = n := by
    unfold Builtin.Slice.slicePlaces
    rw [if_neg (by decide)]
    by_cases hn : (n : Int) - 1 > -1
    · rw [if_pos hn, show (-(-1 : Int)) = 1 by decide, Int.ediv_one]; omega
    · rw [if_neg hn]; omega
  rw [e1]
  show wpAny _ _ (pure ((n : Int) - 1, (-1 : Int), Builtin.Slice.slicePlaces ((n : Int) - 1) (-1) (-1))) _ _ s
  rw [e2]
  exact wpAny_pure h
theorem pick_rev (xs : List Value) : ((List.range xs.length).filterMap fun (m : Nat) => xs.toArray[((xs.length : Int) - 1 + (m : Int) * (-1)).toNat]?) = xs.reverse := by
  apply List.ext_getElem?
  intro i
  have e : (List.range xs.length).filterMap (fun (m : Nat) => xs.toArray[((xs.length : Int) - 1 + (m : Int) * (-1)).toNat]?) = (List.range xs.length).map fun m => xs.getD (xs.length - 1 - m) (.none) := by
    have key : ∀ (ms : List Nat), (∀ m ∈ ms, m < xs.length) → ms.filterMap (fun (m : Nat) => xs.toArray[((xs.length : Int) - 1 + (m : Int) * (-1)).toNat]?) = ms.map fun m => xs.getD (xs.length - 1 - m) (.none) := fun ms => by
      induction ms with
      | nil => intro _; rfl
      | cons m ms ih =>
        intro hms
        have hm' := hms m List.mem_cons_self
        have h1 : ((xs.length : Int) - 1 + (m : Int) * (-1)).toNat = xs.length - 1 - m := by omega
        have h2 : xs.length - 1 - m < xs.length := by omega
        have h3 : xs.toArray[((xs.length : Int) - 1 + (m : Int) * (-1)).toNat]? = some (xs.getD (xs.length - 1 - m) .none) := by
          rw [h1, List.getElem?_toArray, List.getD_eq_getElem?_getD, List.getElem?_eq_getElem h2]; rfl
        rw [List.filterMap_cons, h3, List.map_cons]
        show _ :: _ = _ :: _
        rw [ih fun k hk => hms k (List.mem_cons_of_mem _ hk)]
    exact key _ fun m hm => List.mem_range.mp hm
  rw [e, List.getElem?_map]
  by_cases hi : i < xs.length
  · rw [List.getElem?_range hi, List.getElem?_reverse hi]
    have h2 : xs.length - 1 - i < xs.length := by omega
    rw [List.getElem?_eq_getElem h2]
    show some (xs.getD _ _) = _
    rw [List.getD_eq_getElem?_getD, List.getElem?_eq_getElem h2]; rfl
  · rw [List.getElem?_eq_none (by rw [List.length_range]; omega), List.getElem?_eq_none (by rw [List.length_reverse]; omega)]; rfl
theorem getItem_rev {t sl : Addr} {items : List Value} {vl vu vs : Value} {Q : Value → Shared → Prop} (ht : IsTup s.heap t items.toArray) (hs : s.heap.IsSliceOf sl vl vu vs) (pl : IsPart vl none) (pu : IsPart vu none) (ps : IsPart vs (some (-1)))
    (h : Q (.ref s.heap.objs.size) { s with heap := s.heap.push { cls := .type "tuple", data := .seq items.reverse.toArray } }) (hsz : items.length ≤ sizeLine) : wpAny (model prog w) A (getItem (.ref t) (.ref sl)) Q E s := by
  have htake : sizeOk (.seq items.reverse.toArray) := by
    show items.reverse.toArray.size ≤ sizeLine
    rw [List.size_toArray, List.length_reverse]; exact hsz
  obtain ⟨os, hos, hcs, hds⟩ := id hs
  have hTs : s.TypeIs (.ref sl) "slice" := ⟨os, hos, hcs⟩
  unfold getItem
  try with_reducible refine wpAny_holding ?_
  first | refine wpAny_bind (wpAny_pure ?_) | skip
  refine wpAny_bind (wpAny_sequenceKey ht.typeIs (by decide) ?_)
  refine wpAny_bind (wpAny_callSpecial?_slot (name := Str.ofString "__getitem__") ht.typeIs PyProof.Rows.slot_tuple_getitem
    (wpAny_call_entry PyProof.Rows.slot_tuple_getitem ht.typeIs entry_tuple_getitem ?_ (args_tuple_getitem _ _)))
  show wpAny _ _ (Builtin.Tuple.tupleItemsOf (.ref t) >>= _) _ _ s
  refine wpAny_bind (tupleItemsOf_ ht ?_)
  refine wpAny_bind (wpAny_typeOf hTs ?_)
  rw [if_pos (by decide)]
  refine wpAny_bind (applied_rev hs pl pu ps ?_)
  rw [List.size_toArray]
  show wpAny _ _ (if (((items.length : Int) - 1) == 0 && (-1 : Int) == 1 && (items.length == items.length)) = true then _ else _) _ _ s
  rw [if_neg (by simp)]
  have hp := pick_rev items
  rw [show (fun (k : Nat) => items.toArray[((items.length : Int) - 1 + (k : Int) * -1).toNat]?) = fun (m : Nat) => items.toArray[((items.length : Int) - 1 + (m : Int) * (-1)).toNat]? from rfl, hp]
  first
    | exact wpAny_bind (m := Builtin.Tuple.tupleExact _) (wpAny_newObj_type (wpAny_pure ⟨_, rfl, wpAny_pure h⟩) htake)
    | exact wpAny_bind (m := Builtin.Tuple.tupleExact _) (wpAny_newObj_type (wpAny_bind (wpAny_pure (wpAny_pure ⟨_, rfl, wpAny_pure h⟩))) htake)
    | exact wpAny_bind (wpAny_bind (m := Builtin.Tuple.tupleExact _) (wpAny_newObj_type (wpAny_pure (wpAny_pure ⟨_, rfl, wpAny_pure h⟩)) htake))
    | exact wpAny_bind (wpAny_bind (m := Builtin.Tuple.tupleExact _) (wpAny_newObj_type (wpAny_pure ⟨_, rfl, wpAny_pure h⟩) htake))
end
section
variable {X : Cx}
def tRevT (K : Frg) (te : TE) : TE := fun σ H Q => te σ H fun x H1 => ∃ a xs, x = .ref a ∧ SqT K H1 a xs ∧ ∀ p, H1 p = none → Q (.ref p) (upd H1 p (.tup xs.reverse))
theorem pe_revT {e : Expr} {te : TE} {k : Nat} {p1 p2 p3 pos : Pos} (he : PE X e te) : PE X (.Subscript e (.Slice none none (some (.UnaryOp .USub (.Constant (.int 1) k p1) p2)) p3) pos) (tRevT X.K te) := by
  refine ⟨fun pins s σ H Q I h => ?_⟩
  refine Subscript_ (thn (he.run pins s σ H _ I h) fun v s1 ⟨x, H1, I1, r1, q1⟩ => ?_)
  obtain ⟨a, xs, ex, hx, q⟩ := q1
  subst ex
  cases r1
  have hst : PO X (some (.UnaryOp .USub (.Constant (.int 1) k p1) p2)) (tPart (tUn (rU fun i => .int (-i)) (tC (.int 1)))) := po_some (pe_un un_neg pe_int)
  refine wpAny_Slice (thn (po_none.run pins s1 σ H1 (fun o H2 => o = none ∧ H2 = H1) I1 ⟨rfl, rfl⟩) fun vl s2 ⟨l, H2, I2, pl, el, e2⟩ => ?_)
  subst el e2
  refine thn (po_none.run pins s2 σ H2 (fun o H3 => o = none ∧ H3 = H2) I2 ⟨rfl, rfl⟩) fun vu s3 ⟨u, H3, I3, pu, eu, e3⟩ => ?_
  subst eu e3
  refine thn (hst.run pins s3 σ H3 (fun o H4 => o = some (-1) ∧ H4 = H3) I3 ⟨1, rfl, -1, rfl, rfl, rfl⟩) fun vs s4 ⟨o, H4, I4, ps, eo, e4⟩ => ?_
  subst eo e4
  have I5 : Inv X pins σ H4 { s4 with heap := s4.heap.push { cls := .type "slice", data := .fields #[vl, vu, vs] } } := I4.kept (t' := s4.toks) fun b ob q => Heap.get?_push_of_some _ q
  obtain ⟨its, r, ht, hz⟩ := I5.tuple hx
  have hlen := r.length
  show wpAny (model X.prog X.w) X.A (subscriptTail e (.Slice none none (some (.UnaryOp .USub (.Constant (.int 1) k p1) p2)) p3) (.ref a) (.ref s4.heap.objs.size)) (EP X pins σ Q) X.xe { s4 with heap := s4.heap.push { cls := .type "slice", data := .fields #[vl, vu, vs] } }
  refine tail_any (ops := [.ref a, .ref s4.heap.objs.size]) ht.typeIs (PyProof.Rows.slot_tuple_getitem.lookup) ?_ (by with_unfolding_all rfl)
  refine getItem_rev ht (Heap.IsSliceOf.new _ vl vu vs) pl pu ps ?_ (by omega)
  refine ⟨.ref _, _, I5.laid (t' := s4.toks) (o := .tup xs.reverse) (fun b ob q => Heap.get?_push_of_some _ q) (Nat.le_refl _) ?_, rfl, q _ (I5.hok.fresh (Nat.le_refl _))⟩
  exact ⟨by rw [List.length_reverse]; exact hz, _, r.reverse, ⟨_, Heap.get?_push_size _ rfl, rfl, 0, rfl⟩⟩
theorem pe_or {e : Expr} {t1 t2 : TE} (h1 : PE X e t1) (h2 : PE X e t2) : PE X e (fun σ H Q => t1 σ H Q ∨ t2 σ H Q) := ⟨fun pins s σ H Q I q => q.elim (h1.run pins s σ H Q I) (h2.run pins s σ H Q I)⟩
def rRvL (K : Frg) : V → Hp → VK → Prop := fun x H1 Q => ∃ a xs, x = .ref a ∧ SqL K H1 a xs ∧ ∀ p, H1 p = none → Q (.ref p) (upd H1 p (.lst xs.reverse))
def rRvT (K : Frg) : V → Hp → VK → Prop := fun x H1 Q => ∃ a xs, x = .ref a ∧ SqT K H1 a xs ∧ ∀ p, H1 p = none → Q (.ref p) (upd H1 p (.tup xs.reverse))
def dRevL : D → Option D
  | .list xs => some (.list xs.reverse)
  | _ => none
def dRevT : D → Option D
  | .tuple xs => some (.tuple xs.reverse)
  | _ => none
def dRev : D → Option D
  | .list xs => some (.list xs.reverse)
  | .tuple xs => some (.tuple xs.reverse)
  | _ => none
theorem un_revL {K : Frg} : Un1 K (rRvL K) dRevL := fun x d G H vx Q e s h q qn => by
  unfold dRevL at e
  split at e
  · cases e
    obtain ⟨a, vs, rfl, k1, k2⟩ := vwLst s h
    exact ⟨a, vs, rfl, SqL.of k1, fun p hn => qn _ p _ hn (.lst upd_same (dvMonoAll (sameUpd (s.free hn)) _ _ (dvAll_rev k2)))⟩
  · cases e
theorem un_revT {K : Frg} : Un1 K (rRvT K) dRevT := fun x d G H vx Q e s h q qn => by
  unfold dRevT at e
  split at e
  · cases e
    obtain ⟨a, vs, rfl, k1, k2⟩ := vwTup h
    exact ⟨a, vs, rfl, seqT s k1, fun p hn => qn _ p _ hn (.tup (SqT.of upd_same) (dvMonoAll (sameUpd (s.free hn)) _ _ (dvAll_rev k2)))⟩
  · cases e
theorem fe_rev {a : Expr} {f : EF} {k : Nat} {p1 p2 p3 pos : Pos} (ha : FB X a f) : FE X (.Subscript a (.Slice none none (some (.UnaryOp .USub (.Constant (.int 1) k p1) p2)) p3) pos) (eUn dRev f) :=
  ⟨PE.imp (pe_or (pe_revL ha.pb) (pe_revT ha.pb)) fun σ H Q ⟨z, d, e', rp, hs, hH, hf, q⟩ => by
    obtain ⟨⟨x, e1⟩, h1, hf⟩ := Option.bind_eq_some_iff.mp hf
    obtain ⟨d', h3, hf⟩ := Option.map_eq_some_iff.mp hf
    cases hf
    cases x with
    | list xs =>
      refine .inl (un_run (r := rRvL X.K) un_revL ⟨z, d, _, rp, hs, hH, ?_, q⟩)
      have h4 : dRevL (.list xs) = some d := h3
      unfold eUn
      rw [h1, Option.bind_some, h4, Option.map_some]
    | tuple xs =>
      refine .inr (un_run (r := rRvT X.K) un_revT ⟨z, d, _, rp, hs, hH, ?_, q⟩)
      have h4 : dRevT (.tuple xs) = some d := h3
      unfold eUn
      rw [h1, Option.bind_some, h4, Option.map_some]
    | none => cases h3
    | bool _ => cases h3
    | int _ => cases h3
    | str _ => cases h3
    | dict _ => cases h3⟩
end
end Fl

set_option Elab.async false
set_option linter.all false
set_option maxRecDepth 100000
set_option maxHeartbeats 1000000
set_option autoImplicit false
/-! FnRng: list(range(n)), tuple(range(n)). -/
namespace Fl
open PySem PySem.Spec PyProof.Rows L2
def Rl (n : Int) : Prop := -16777216 ≤ n ∧ n ≤ 16777216
instance (n : Int) : Decidable (Rl n) := inferInstanceAs (Decidable (-16777216 ≤ n ∧ n ≤ 16777216))
theorem rl_of {n : Int} (h1 : -1000000 ≤ n) (h2 : n ≤ 1000000) : Rl n := ⟨by omega, by omega⟩
theorem Rl.ok {n : Int} (h : Rl n) : RgOk 0 n := by
  obtain ⟨h1, h2⟩ := h
  exact ⟨by omega, by omega, by omega, by omega, by omega⟩
def dRngL : D → Option (List D)
  | .int n => if Rl n then some (rngD 0 n.toNat) else none
  | _ => none
def dRngT : D → Option D
  | .int n => if Rl n then some (.tuple (rngD 0 n.toNat)) else none
  | _ => none
theorem dvAll_map {K : Frg} {G : Hp} (f : Nat → V) (g : Nat → D) (h : ∀ i, Dv K G (f i) (g i)) : ∀ is : List Nat, DvAll K G (is.map f) (is.map g)
  | [] => .nil
  | i :: is => .cons (h i) (dvAll_map f g h is)
theorem dvAll_rg {K : Frg} {G : Hp} (n : Int) : DvAll K G (rgV 0 n) (rngD 0 n.toNat) := by
  unfold rgV rngD
  rw [Int.sub_zero]
  exact dvAll_map _ _ (fun i => .int _) _
def rRgL : V → Hp → VK → Prop := fun x H1 Q => ∃ n, x = .int n ∧ RgOk 0 n ∧ ∀ q, H1 q = none → Q (.ref q) (upd H1 q (.lst (rgV 0 n)))
def rRgT : V → Hp → VK → Prop := fun x H1 Q => ∃ n, x = .int n ∧ RgOk 0 n ∧ ∀ q, H1 q = none → Q (.ref q) (upd H1 q (.tup (rgV 0 n)))
theorem un_rgL {K : Frg} : Un1L K rRgL dRngL := fun x ds G H vx Q e s h q => by
  unfold dRngL at e
  split at e
  · split at e
    · rename_i n hn
      cases e
      have := vwInt h
      subst this
      exact ⟨n, rfl, hn.ok, fun p hp => q p _ hp (dvAll_rg n)⟩
    · cases e
  · cases e
theorem un_rgT {K : Frg} : Un1 K rRgT dRngT := fun x d G H vx Q e s h q qn => by
  unfold dRngT at e
  split at e
  · split at e
    · rename_i n hn
      cases e
      have := vwInt h
      subst this
      exact ⟨n, rfl, hn.ok, fun p hp => qn _ p _ hp (.tup (SqT.of upd_same) (dvAll_rg n))⟩
    · cases e
  · cases e
section
variable {X : Cx} {pos : Pos}
theorem fo_listRg {a : Expr} {f : EF} {p p2 pos2 : Pos} (ha : FB X a f) (hc : X.calm = true) (hm : X.mg "list" = none) (hm2 : X.mg "range" = none) (hg : Gl X "list" := by rfl) (hg2 : Gl X "range" := by rfl) (he : starEach [a] X.env = (false, eval a X.env) :: starEach [] X.env := by rfl) (he2 : starEach [.Call (.Name "range" p2) [a] [] pos2] X.env = (false, eval (.Call (.Name "range" p2) [a] [] pos2) X.env) :: starEach [] X.env := by rfl) :
    FO X (.Call (.Name "list" p) [.Call (.Name "range" p2) [a] [] pos2] [] pos) (oUn dRngL f) :=
  ⟨PE.imp (pe_listRg hc hg hm (prg_1 hg2 hm2 ha.pb he) he2) fun σ H Q h => unL_run (r := rRgL) un_rgL h⟩
theorem fe_tupRg {a : Expr} {f : EF} {p p2 pos2 : Pos} (ha : FB X a f) (hc : X.calm = true) (hm : X.mg "tuple" = none) (hm2 : X.mg "range" = none) (hg : Gl X "tuple" := by rfl) (hg2 : Gl X "range" := by rfl) (he : starEach [a] X.env = (false, eval a X.env) :: starEach [] X.env := by rfl) (he2 : starEach [.Call (.Name "range" p2) [a] [] pos2] X.env = (false, eval (.Call (.Name "range" p2) [a] [] pos2) X.env) :: starEach [] X.env := by rfl) :
    FE X (.Call (.Name "tuple" p) [.Call (.Name "range" p2) [a] [] pos2] [] pos) (eUn dRngT f) :=
  ⟨PE.imp (pe_tupRg hc hg hm (prg_1 hg2 hm2 ha.pb he) he2) fun σ H Q h => un_run (r := rRgT) un_rgT h⟩
end
end Fl

set_option Elab.async false
set_option linter.all false
set_option maxRecDepth 100000
set_option maxHeartbeats 1000000
set_option autoImplicit false
/-! FnZip: zip of two tuples or two lists. -/
namespace Fl
open PySem PySem.Spec PyProof.Rows L2 RZ
def zipD (xs ys : List D) : List D := List.zipWith (fun x y => .tuple [x, y]) xs ys
theorem zipD_len (xs ys : List D) : (zipD xs ys).length = min xs.length ys.length := List.length_zipWith
theorem zipD_get {xs ys : List D} {i : Nat} {x y : D} (h : xs[i]? = some x) (k : ys[i]? = some y) : (zipD xs ys)[i]? = some (.tuple [x, y]) := by
  unfold zipD
  rw [List.getElem?_zipWith, h, k]
def lZip (f g : EF) : LF := fun e => (f e).bind fun p => (g p.2).bind fun q => match p.1, q.1 with
  | .tuple xs, .tuple ys => some (zipD xs ys, q.2)
  | .list xs, .list ys => some (zipD xs ys, q.2)
  | _, _ => none
theorem itr_zipL {K : Frg} {G : Hp} {a b : Addr} {vs ws : List V} {ds es : List D} (h : G a = some (.lst vs)) (hd : DvAll K G vs ds) (k : G b = some (.lst ws)) (kd : DvAll K G ws es) : Itr K (Itz K a b) G (zipD ds es) := by
  refine ⟨_, _, walk_zip (K := K) (a := a) (b := b) (xs := vs) (ys := ws) (by rw [zipD_len, dvAll_len hd, dvAll_len kd]), fun H s => ⟨SqL.of (s _ _ h), SqL.of (s _ _ k)⟩, fun i H x H' hi s y => ?_⟩
  obtain ⟨T, x1, x2, h1, h2, h3, h4, h5⟩ := y
  obtain ⟨d1, k1, k2⟩ := dvAll_getV hd h4
  obtain ⟨d2, k3, k4⟩ := dvAll_getV kd h5
  exact .inr ⟨T, _, _, h1, h2, h3, zipD_get k1 k3, .cons k2 (.cons k4 .nil)⟩
theorem itr_zipT {K : Frg} {G : Hp} {a b : Addr} {vs ws : List V} {ds es : List D} (h : SqT K G a vs) (hd : DvAll K G vs ds) (k : SqT K G b ws) (kd : DvAll K G ws es) : Itr K (ItzT K a b) G (zipD ds es) := by
  have e1 := dvAll_len hd
  have e2 := dvAll_len kd
  refine ⟨fun H => SqT K H a vs ∧ SqT K H b ws, fun i H v H' => ∃ T x y, v = .ref T ∧ H T = none ∧ H' = upd H T (.tup [x, y]) ∧ vs[i]? = some x ∧ ws[i]? = some y, ?_, fun H s => ⟨seqT s h, seqT s k⟩, fun i H x H' hi s y => ?_⟩
  · rw [zipD_len]
    refine ⟨fun i H hi q => ?_, fun H q => ⟨vs, ws, q.1, q.2, by omega⟩, fun i H v H' _ q ⟨T, x, y, h1, h2, h3, h4, h5⟩ => ⟨T, x, y, h1, h2, h3, h4 vs q.1, h5 ws q.2⟩⟩
    have h1 : i < vs.length := by omega
    have h2 : i < ws.length := by omega
    exact ⟨vs, ws, vs[i], ws[i], q.1, q.2, by simp [h1], by simp [h2]⟩
  · obtain ⟨T, x1, x2, h1, h2, h3, h4, h5⟩ := y
    obtain ⟨d1, k1, k2⟩ := dvAll_getV hd h4
    obtain ⟨d2, k3, k4⟩ := dvAll_getV kd h5
    exact .inr ⟨T, _, _, h1, h2, h3, zipD_get k1 k3, .cons k2 (.cons k4 .nil)⟩
section
variable {X : Cx} {pos : Pos}
theorem fi_zip {a b : Expr} {f g : EF} {p tpos : Pos} {elts : List Expr} {kk : Nat} (h : FE X a f) (k : FE X b g) (hm : X.mg "zip" = none) (hg : Gl X "zip" := by rfl) (hs : starEach [a, b] X.env = (false, eval a X.env) :: starEach [b] X.env := by rfl) (hs2 : starEach [b] X.env = (false, eval b X.env) :: starEach [] X.env := by rfl) (hpl : (backTo pos (starEach [b] X.env)).any (·.1) = false := by rfl) :
    FI X (.Tuple elts kk tpos) (.Call (.Name "zip" p) [a, b] [] pos) (lZip f g) :=
  ⟨PI.imp (pi_zipA hg hm (pa_cons h.pe (pa_cons k.pe pa_nil hs2) hs) hs hpl) fun σ H R ⟨z, ds, e', rp, hz, hH, hf, q⟩ => by
    subst hz hH
    obtain ⟨⟨x, e1⟩, h1, hf⟩ := Option.bind_eq_some_iff.mp hf
    obtain ⟨⟨y, e2⟩, h2, hf⟩ := Option.bind_eq_some_iff.mp hf
    refine ⟨z, _, _, rp, rfl, rfl, h1, fun v1 z1 m1 r1 s1 ee1 p1 => ⟨z1, _, _, r1, s1, rfl, by rw [ee1]; exact h2, fun v2 z2 m2 r2 s2 ee2 p2 => ?_⟩⟩
    have p1' := dvMono m2.g _ _ p1
    cases x with
    | tuple xs =>
      cases y with
      | tuple ys =>
        have e3 : some (zipD xs ys, e2) = some (ds, e') := hf
        cases e3
        cases p1' with
        | tup k1 k2 =>
          cases p2 with
          | tup l1 l2 => exact ⟨_, _, _, _, rfl, .inr ⟨seqT r2.same k1, seqT r2.same l1, q _ z2 (m1.trans m2) r2 s2 ee2 (itr_zipT k1 k2 l1 l2)⟩⟩
      | _ => cases hf
    | list xs =>
      cases y with
      | list ys =>
        have e3 : some (zipD xs ys, e2) = some (ds, e') := hf
        cases e3
        cases p1' with
        | lst k1 k2 =>
          cases p2 with
          | lst l1 l2 => exact ⟨_, _, _, _, rfl, .inl ⟨SqL.of (r2.same _ _ k1), SqL.of (r2.same _ _ l1), q _ z2 (m1.trans m2) r2 s2 ee2 (itr_zipL k1 k2 l1 l2)⟩⟩
      | _ => cases hf
    | _ => cases hf⟩
end
end Fl

set_option Elab.async false
set_option linter.all false
set_option maxRecDepth 100000
set_option maxHeartbeats 1000000
set_option autoImplicit false
/-! FnRem: xs.remove(k), ints. -/
namespace Fl
open PySem PySem.Spec PyProof.Rows L2
def gRemove (xs : List D) : D → Option (D × List D)
  | .int k => (asInts xs).bind fun ns => (ns.findIdx? (· == k)).map fun j => (.none, (ns.eraseIdx j).map PyData.int)
  | _ => none
theorem mt1_remove {K : Frg} : Mt1 K rRemI gRemove := fun a vs xs d vd rd ys G H Q e s ha hx hd q => by
  unfold gRemove at e
  split at e
  · rename_i k
    obtain ⟨ns, h1, h2⟩ := Option.bind_eq_some_iff.mp e
    obtain ⟨j, h3, h4⟩ := Option.map_eq_some_iff.mp h2
    cases h4
    obtain ⟨e1, e2⟩ := asInts_ok h1 hx
    subst e1
    cases hd
    obtain ⟨hj, hk, hno⟩ := List.findIdx?_eq_some_iff_getElem.mp h3
    refine ⟨a, ns, k, j, rfl, rfl, ha, ?_, fun m hm hmk => ?_, q .non _ .non ?_⟩
    · rw [List.getElem?_eq_getElem hj]
      have := eq_of_beq hk
      rw [this]
    · have hml : m < ns.length := by omega
      rw [List.getElem?_eq_getElem hml] at hmk
      have := hno m hm
      rw [Option.some.inj hmk] at this
      exact this (beq_self_eq_true k)
    · exact dvAll_ints _
  · cases e
section
variable {X : Cx} {pos : Pos}
theorem frem (i : Nat) {x : Str} {p apos : Pos} {a : Expr} {f : EF} (ha : FE X a f) (hN : X.N[i]? = some x := by rfl) (hv : Vis X.env.scope x := by first | exact Or.inl rfl | exact Or.inr (Or.inl rfl) | exact Or.inr (Or.inr rfl)) (hbase : attributeBase (.Name x p) "remove" X.env (eval (.Name x p) X.env) = eval (.Name x p) X.env := by rfl)
    (hfew : ((backTo pos (starEach [a] X.env)).all (fun x => !x.1) && (backToKw pos (keywordEach [] X.env)).all (fun x => x.1.isSome)
      && decide (([a]).length + ([] : List Keyword).length + (if ([] : List Keyword).isEmpty then 0 else 1) < 30)) = true := by rfl) (hline : (apos.endLine == pos.line) = true := by rfl)
    (he : starEach [a] X.env = (false, eval a X.env) :: starEach [] X.env := by rfl) (hpl : (backTo pos (starEach [] X.env)).any (·.1) = false := by rfl) (hd : (x == ("__debug__" : Str)) = false := by decide) (hcd : (x == ("__classdict__" : Str)) = false := by decide) : FE X (.Call (.Attribute (.Name x p) "remove" apos) [a] [] pos) (eMt1 gRemove i f) :=
  fe_mt1 PySem.F.slot_list_remove PySem.F.type_list_remove mt_remove mt1_remove hN hv ha hbase hfew hline he hpl hd hcd
def dStr : D → Option D
  | .int i => if i.natAbs.log2 < 1920 then some (.str (toString i)) else none
  | _ => none
theorem fe_strOf {x : Expr} {p : Pos} {f : EF} (ha : FB X x f) (hm : X.mg "str" = none) (hg : Gl X "str" := by rfl) (he : starEach [x] X.env = (false, eval x X.env) :: starEach [] X.env := by rfl) : FE X (.Call (.Name "str" p) [x] [] pos) (eUn dStr f) :=
  fe_callT1 call_str_int (fun x d G H vx Q e s h q qn => by
    unfold dStr at e
    split at e
    · split at e
      · rename_i i hi
        cases e
        have := vwInt h
        subst this
        exact ⟨i, rfl, hi, q _ (.str _)⟩
      · cases e
    · cases e) hg hm (by decide +kernel) ha (by decide) (by decide) he
end
/-- a constant of the module -/
def CtOk (K : Frg) (mg : Str → Option Value) (x : Str) (d : D) : Prop := ∃ (u : Value) (v : V), mg x = some u ∧ RelV v u ∧ ∀ G : Hp, Dv K G v d
theorem fe_gl {X : Cx} {pos : Pos} {x : Str} {d : D} (h : CtOk X.K X.mg x d) (hg : Gl X x := by rfl) (hd : (x == ("__debug__" : Str)) = false := by decide) : FE X (.Name x pos) (eC d) := by
  obtain ⟨u, v, h1, h2, h3⟩ := h
  exact fe_glob hg h1 h2 h3 hd
theorem ct_int {K : Frg} {mg : Str → Option Value} {x : Str} {i : Int} {t : Tok} (h : mg x = some (.int i t)) : CtOk K mg x (.int i) := ⟨_, .int i, h, ⟨t, rfl⟩, fun _ => .int i⟩
theorem ct_str {K : Frg} {mg : Str → Option Value} {x s : Str} {t : Tok} (h : mg x = some (.str s t)) : CtOk K mg x (.str s) := ⟨_, .str s, h, ⟨t, rfl⟩, fun _ => .str s⟩
end Fl

set_option Elab.async false
set_option linter.all false
set_option maxRecDepth 100000
set_option maxHeartbeats 4000000
set_option autoImplicit false
/-! FnTup: sorted of a tuple of ints, a tuple times a number. -/
namespace Fl
open PySem PySem.Spec PyProof.Rows L2
section
variable {prog : Program} {w : World} {A : Around} {E : Value → Shared → Prop} {s : Shared}
/-- what collect makes of a tuple -/
theorem coll_tup {l : Addr} {o : Obj} {its : List Value} {n : Nat} {Q : List Value → Shared → Prop} (ho : s.heap.get? l = some o) (hc : o.cls = .type "tuple") (hd : o.data = .seq its.toArray n) (hz : its.length ≤ sizeLine)
    (h : Q its { s with heap := (s.heap.push (seqObj "list" #[] 0)).update s.heap.objs.size (Obj.mapSeq (· ++ its.toArray)) }) : wpAny (model prog w) A (collect (.ref l)) Q E s := by
  have hN : (s.heap.push (seqObj "list" #[] 0)).get? s.heap.objs.size = some (seqObj "list" #[] 0) := Heap.get?_push_size _ rfl
  have hO : (s.heap.push (seqObj "list" #[] 0)).get? l = some o := Heap.get?_push_of_some _ ho
  unfold collect
  refine wpAny_bind (wpAny_runValue (codeAny_builtin entry_proto_collect' ?_))
  show wpAny _ _ (newList [] >>= fun r => again (.builtin "list.__iadd__" ⟨[r, .ref l], []⟩)) _ _ s
  refine wpAny_bind (wpAny_newList (wpAny_pure ⟨Code.quiet_builtin _ (by decide +kernel), codeAny_builtin entry_list_iadd' ?_⟩))
  show wpAny _ _ (Builtin.List.listExtendWith (.ref s.heap.objs.size) (.ref l) (.ref s.heap.objs.size)) _ _ ({ s with heap := s.heap.push (seqObj "list" #[] 0) } : Shared)
  unfold Builtin.List.listExtendWith
  refine wpAny_bind (wpAny_typeOf (T := "tuple") ⟨o, hO, hc⟩ ?_)
  have ht : (Value.type "tuple" == Value.type "tuple") = true := by decide +kernel
  rw [if_pos (by rw [ht, Bool.or_true])]
  refine wpAny_bind (listItems_at hO hd (wpAny_bind (listItems_at (xs := #[]) (n := 0) hN rfl ?_)))
  rw [if_neg (by simp)]
  refine wpAny_bind (listUpdate_at (xs := #[]) (n := 0) hN rfl ?_ (Nat.zero_le _) (by simp only [List.size_toArray, Array.empty_append]; omega))
  refine wpAny_pure ?_
  show wpAny (model prog w) A (load s.heap.objs.size >>= fun o => match o.data with
    | .seq xs _ => pure xs.toList
    | _ => unsupported "internal:collect") Q E ({ s with heap := (s.heap.push (seqObj "list" #[] 0)).update s.heap.objs.size (Obj.mapSeq (· ++ its.toArray)) } : Shared)
  refine wpAny_bind (wpAny_load (get?_update_seq hN _) ?_)
  show wpAny _ _ (pure (#[] ++ its.toArray : Array Value).toList) Q E _
  rw [Array.empty_append, List.toList_toArray]
  exact wpAny_pure h
open SrtO in
theorem sorted_tup {l : Addr} {o : Obj} {vs : List Value} {n : Nat} {ltv : Value → Value → Bool} {Q : Value → Shared → Prop} (O : Swo ltv) (ho : s.heap.get? l = some o) (hc : o.cls = .type "tuple") (hd : o.data = .seq vs.toArray n) (hz : vs.length ≤ sizeLine)
    (hS : 2 ≤ vs.length → ∀ (h₁ : Heap) (a : Addr), h₁.get? a = some (seqObj "list" vs.toArray 0) → SortableO prog w A.in1.in1 { s with heap := h₁ } a vs ltv)
    (h : ∀ out : List Value, Srtd ltv out → Stb ltv out vs → Q (.ref (s.heap.objs.size + 1)) { s with heap := sortedAll s.heap vs out.toArray }) : wpAny (model prog w) A (call (.builtin "sorted") [.ref l]) Q E s := by
  refine Calls.call_function_entry kind_sorted plain_sorted entry_sorted (args_sorted1 _) ?_
  unfold Builtin.«sorted»
  refine wpAny_bind (m := checkCount "sorted" 1 1 _) (wpAny_pure (wpAny_bind (coll_tup ho hc hd hz (wpAny_bind (wpAny_newList ?_ hz)))))
  have e1 : ((s.heap.push (seqObj "list" #[] 0)).update s.heap.objs.size (Obj.mapSeq (· ++ vs.toArray))).objs.size = s.heap.objs.size + 1 := (Heap.size_update _ _ _).trans (size_push' _ _)
  have e2 : (((s.heap.push (seqObj "list" #[] 0)).update s.heap.objs.size (Obj.mapSeq (· ++ vs.toArray))).push (seqObj "list" vs.toArray 0)).get? (s.heap.objs.size + 1) = some (seqObj "list" vs.toArray 0) := e1 ▸ Heap.get?_push_size _ rfl
  show wpAny _ _ _ _ _ ({ s with heap := ((s.heap.push (seqObj "list" #[] 0)).update s.heap.objs.size (Obj.mapSeq (· ++ vs.toArray))).push (seqObj "list" vs.toArray 0) } : Shared)
  rw [e1]
  exact wpAny_bind (wpAny_holding (wpAny_call_entry slot_list_sort ⟨_, e2, rfl⟩ entry_list_sort (list_sort_ord O e2 hz (fun h2 => hS h2 _ _ e2) fun out hs hb => ⟨_, rfl, wpAny_pure ⟨_, rfl, h out hs hb⟩⟩) (args_list_sort _)))
end
def rSortedT (K : PySem.W.Frag) : List V → Hp → VK → Prop := fun vs H Q => ∃ (a : Addr) (ns : List Int), vs = [V.ref a] ∧ SqT K H a (ns.map V.int) ∧ ∀ (ms : List Int) (p : Addr), ms.Perm ns → ms.Pairwise (· ≤ ·) → H p = none → Q (.ref p) (upd H p (.lst (ms.map V.int)))
theorem cr_sortedT {X : Cx} : CallR X (.builtin "sorted") (rSortedT X.K) := by
  intro pins s σ H vs us Q I r h
  obtain ⟨a, ns, rfl, hT, q⟩ := h
  obtain ⟨its, rv, ⟨o, ho, hc, n, hd⟩, hz⟩ := I.tuple hT
  have hi := rv.ints
  rw [Vals.ref1 r]
  refine sorted_tup SrtO.swo_int ho hc hd (by rw [← rv.length]; exact hz) (fun h2 h₁ a' k => SrtO.ints_sortable hi h2) fun out h1 h2 => ?_
  obtain ⟨k1, k2, k3⟩ := SrtO.ints_out hi h1 h2
  obtain ⟨ep, he'⟩ := PyProof.Rows.sortedAll_at s.heap its out.toArray
  have hl : ((out.map SrtO.iv).map V.int).length ≤ sizeLine := by rw [List.length_map, k2.length_eq, ← List.length_map (f := V.int)]; exact hz
  refine ⟨.ref _, upd H (s.heap.objs.size + 1) (.lst ((out.map SrtO.iv).map V.int)), ?_, rfl, q _ _ k2 k3 (I.hok.fresh (Nat.le_succ _))⟩
  exact I.laid (t' := s.toks) (fun _ _ => PyProof.Rows.sortedAll_old) (Nat.le_succ _) ⟨hl, out, ep, vals_of_ints k1, he'⟩
/-- sorted of a list or a tuple of ints -/
def dSortA : D → Option (List D)
  | .list xs => (asInts xs).map fun ns => (sortI ns).map PyData.int
  | .tuple xs => (asInts xs).map fun ns => (sortI ns).map PyData.int
  | _ => none
/-! ### a tuple times a number -/
theorem tmul_one (l : Addr) (items : Array Value) (n : Nat) (dd : Option Addr) (sl : Array (Option Value)) (u : Tok) :
    Meets (Builtin.«tuple.__mul__» ⟨[.ref l, .int 1 u], []⟩) (fun _ R s => s.heap.get? l = some { cls := .type "tuple", dict := dd, data := .seq items n, slots := sl } ∧ R (.ok (.ret (.ref l))) s) :=
  .of_wp fun prog w A R s h => by
    obtain ⟨hp, g, d, tk, os⟩ := s
    obtain ⟨hl, h⟩ := h
    have f1 := AutoSeq1.idx_int
    have c1 : (items.isEmpty || (1 : Int) == 1) = true := by rw [show ((1 : Int) == 1) = true from rfl, Bool.or_true]
    wp_walk using wpAny_loadPart' hl
    repeat (first
      | (refine wpAny_ite_false (decide_eq_false (by decide)) ?_; wp_walk using wpAny_loadPart' hl)
      | (refine wpAny_ite_true (decide_eq_true c1) ?_; wp_walk using wpAny_loadPart' hl)
      | (refine wpAny_ite_true (decide_eq_true rfl) ?_; wp_walk using wpAny_loadPart' hl))
    exact ⟨_, rfl, h⟩
theorem tmul_nil (l : Addr) (items : Array Value) (n : Nat) (dd : Option Addr) (sl : Array (Option Value)) (x : Int) (u : Tok) (c0 : (decide (x < -(2 ^ 63)) || decide (x ≥ 2 ^ 63)) = false) (c1 : (items.isEmpty || x == 1) = false) (c2 : (decide (x ≤ 0) || items.isEmpty) = true) :
    Meets (Builtin.«tuple.__mul__» ⟨[.ref l, .int x u], []⟩) (fun _ R s => s.heap.get? l = some { cls := .type "tuple", dict := dd, data := .seq items n, slots := sl } ∧
      R (.ok (.ret (Value.ref s.heap.objs.size))) { s with heap := s.heap.push { cls := Value.type "tuple", data := Data.seq #[] }, toks := s.toks }) :=
  .of_wp fun prog w A R s h => by
    obtain ⟨hp, g, d, tk, os⟩ := s
    obtain ⟨hl, h⟩ := h
    have f1 := AutoSeq1.idx_int
    wp_walk using wpAny_loadPart' hl
    repeat (first
      | (refine wpAny_ite_false (decide_eq_false (by rw [c0]; decide)) ?_; wp_walk using wpAny_loadPart' hl)
      | (refine wpAny_ite_false (decide_eq_false (by rw [c1]; decide)) ?_; wp_walk using wpAny_loadPart' hl)
      | (refine wpAny_ite_true (decide_eq_true c2) ?_; wp_walk using wpAny_loadPart' hl))
    exact ⟨_, rfl, h⟩
def rRepS (K : PySem.W.Frag) : R2 := fun x y H Q => ∃ l k xs, x = .ref l ∧ y = .int k ∧ SqT K H l xs ∧ xs ≠ [] ∧ -1000 ≤ k ∧ k ≤ 1 ∧ (k = 1 → Q (.ref l) H) ∧ (k ≤ 0 → ∀ p, H p = none → Q (.ref p) (upd H p (.tup [])))
theorem op_repS {X : Cx} : OpR X (binaryOp .Mult) (rRepS X.K) := by
  intro pins s σ H x y v u Q I rx ry h
  obtain ⟨l, k, xs, rfl, rfl, hT, hne, h1, h2, q1, q0⟩ := h
  cases rx
  obtain ⟨t, rfl⟩ := ry
  obtain ⟨its, r, ⟨⟨cls, dd, data, sl⟩, ho, hc, n, hd⟩, hs⟩ := I.tuple hT
  simp only at hc hd
  subst hc hd
  have hi : its.toArray.isEmpty = false := by
    cases its with
    | nil => exact absurd (List.eq_nil_of_length_eq_zero r.length) hne
    | cons a b => rfl
  have c0 : (decide (k < -(2 ^ 63)) || decide (k ≥ 2 ^ 63)) = false := by rw [decide_eq_false (by omega), decide_eq_false (by omega)]; rfl
  by_cases h : k = 1
  · subst h
    refine wpAny_binaryOp_repeat_ref (T := "tuple") (U := "int") (by decide) ⟨_, ho, rfl⟩ (fun s' => typeIs_int s' 1 t) noFill_tuple_mul F.fills_int_mul F.slot_int_rmul repeat_tuple F.slot_int_index.lookup
      (call_meets F.slot_int_rmul (typeIs_int s 1 t) F.entry_int_rmul (F.args_int_rmul_2 _ _) (int_rmul_tuple 1 t l its.toArray n dd sl) ⟨ho, rfl, ⟨_, ho, rfl⟩, call_meets F.slot_tuple_mul ⟨_, ho, rfl⟩ F.entry_tuple_mul (F.args_tuple_mul_2 _ _) (tmul_one l its.toArray n dd sl t) ⟨ho, ?_⟩⟩)
    exact ⟨.ref l, H, I, rfl, q1 rfl⟩
  · have c1 : (its.toArray.isEmpty || k == 1) = false := by rw [hi, Bool.false_or]; exact beq_eq_false_iff_ne.mpr h
    have c2 : (decide (k ≤ 0) || its.toArray.isEmpty) = true := by rw [decide_eq_true (by omega)]; rfl
    refine wpAny_binaryOp_repeat_ref (T := "tuple") (U := "int") (by decide) ⟨_, ho, rfl⟩ (fun s' => typeIs_int s' k t) noFill_tuple_mul F.fills_int_mul F.slot_int_rmul repeat_tuple F.slot_int_index.lookup
      (call_meets F.slot_int_rmul (typeIs_int s k t) F.entry_int_rmul (F.args_int_rmul_2 _ _) (int_rmul_tuple k t l its.toArray n dd sl) ⟨ho, rfl, ⟨_, ho, rfl⟩, call_meets F.slot_tuple_mul ⟨_, ho, rfl⟩ F.entry_tuple_mul (F.args_tuple_mul_2 _ _) (tmul_nil l its.toArray n dd sl k t c0 c1 c2) ⟨ho, ?_⟩⟩)
    refine ⟨.ref s.heap.objs.size, _, I.laid (t' := s.toks) (o := .tup []) (fun b ob q => Heap.get?_push_of_some _ q) (Nat.le_refl _) ?_, rfl, q0 (by omega) _ (I.hok.fresh (Nat.le_refl _))⟩
    exact ⟨Nat.zero_le _, _, .nil, IsTup.new _ _⟩
def Mu (n : Nat) (k : Int) : Prop := -1000 ≤ k ∧ k ≤ 1000 ∧ n ≤ 1000 ∧ n ≠ 0
instance (n : Nat) (k : Int) : Decidable (Mu n k) := inferInstanceAs (Decidable (-1000 ≤ k ∧ k ≤ 1000 ∧ n ≤ 1000 ∧ n ≠ 0))
def dMulT : D → D → Option D
  | .tuple xs, .int k => if Mu xs.length k then some (.tuple (List.replicate k.toNat xs).flatten) else none
  | _, _ => none
theorem op2_mulT {K : Frg} : Op2 K (fun x y H Q => rRepT K x y H Q ∨ rRepS K x y H Q) dMulT := fun x y d G H vx vy Q e s a b q qn => by
  unfold dMulT at e
  split at e
  · split at e
    · rename_i xs k hm
      cases e
      obtain ⟨h1, h2, h3, h4⟩ := hm
      have := vwInt b
      subst this
      cases a with
      | tup k1 k2 =>
      rename_i l vs
      have hl := dvAll_len k2
      have hne : vs ≠ [] := fun e => h4 (by rw [← hl, e]; rfl)
      by_cases h : 2 ≤ k
      · exact .inl ⟨l, k, vs, rfl, rfl, seqT s k1, hne, h, h2, by omega, fun p hp => qn _ p _ hp (.tup (SqT.of upd_same) (dvAll_rep (dvMonoAll (sameUpd (s.free hp)) _ _ k2) _))⟩
      · refine .inr ⟨l, k, vs, rfl, rfl, seqT s k1, hne, h1, by omega, fun h' => ?_, fun h' p hp => qn _ p _ hp ?_⟩
        · subst h'
          refine q _ ?_
          show Dv K _ _ (.tuple (xs ++ []))
          rw [List.append_nil]
          exact .tup k1 k2
        · rw [show k.toNat = 0 by omega]
          exact .tup (SqT.of upd_same) .nil
    · cases e
  · cases e
/-! ### in, of anything that == takes -/
def rInT (K : PySem.W.Frag) (neg : Bool) : R2 := fun x y H Q => ∃ d ds, Dp K H x d ∧ Dp K H y (.tuple ds) ∧ SeqAt.shaped d = true ∧ SeqAt.shaped (.tuple ds) = true ∧ Q (.bl (if neg then !(ds.any fun z => PyData.eqv z d) else ds.any fun z => PyData.eqv z d)) H
theorem op_inT {X : Cx} (hu : X.A.units + 65 < cLine) : OpR X (compareOp .In) (rInT X.K false) := by
  intro pins s σ H x y v u Q I rx ry ⟨d, ds, hd, he, sd, se, q⟩
  obtain ⟨as, r1⟩ := Dp.reads I d x v hd rx
  obtain ⟨bs, r2⟩ := Dp.reads I (.tuple ds) y u he ry
  exact SeqAt.in_tuple_reads r2 r1 (SeqAt.canLay_of_shaped se) (SeqAt.canLay_of_shaped sd) (room_in_shaped sd hu) ⟨.bl _, H, I, rfl, q⟩
theorem op_notInT {X : Cx} (hu : X.A.units + 65 < cLine) : OpR X (compareOp .NotIn) (rInT X.K true) := by
  intro pins s σ H x y v u Q I rx ry ⟨d, ds, hd, he, sd, se, q⟩
  obtain ⟨as, r1⟩ := Dp.reads I d x v hd rx
  obtain ⟨bs, r2⟩ := Dp.reads I (.tuple ds) y u he ry
  exact SeqAt.notIn_tuple_reads r2 r1 (SeqAt.canLay_of_shaped se) (SeqAt.canLay_of_shaped sd) (room_in_shaped sd hu) ⟨.bl _, H, I, rfl, q⟩
def dInD (neg : Bool) (x : D) : D → Option D
  | .list ds => if SeqAt.shaped x = true ∧ SeqAt.shaped (.list ds) = true then some (.bool (if neg then !(ds.any fun z => PyData.eqv z x) else ds.any fun z => PyData.eqv z x)) else none
  | .tuple ds => if SeqAt.shaped x = true ∧ SeqAt.shaped (.tuple ds) = true then some (.bool (if neg then !(ds.any fun z => PyData.eqv z x) else ds.any fun z => PyData.eqv z x)) else none
  | _ => none
def dInA (neg : Bool) (x y : D) : Option D := (dInB neg x y).or (dInD neg x y)
theorem or_some {α : Type} {a b : Option α} {d : α} (h : a.or b = some d) : a = some d ∨ b = some d := by
  cases a with
  | none => exact .inr h
  | some x => exact .inl h
theorem op2_inA {K : Frg} : Op2 K (fun x y H Q => rIn K false x y H Q ∨ rInD K x y H Q ∨ rInT K false x y H Q) (dInA false) := fun x y d G H vx vy Q e s a b q qn => by
  rcases or_some e with e | e
  · exact .inl (op2_in false x y d G H vx vy Q e s a b q qn)
  · unfold dInD at e
    split at e
    · split at e
      · rename_i hc
        cases e
        exact .inr (.inl ⟨x, _, Dv.dp _ _ (dvMono s _ _ a), vwAny s b, hc.1, hc.2, q _ (.bl _)⟩)
      · cases e
    · split at e
      · rename_i hc
        cases e
        exact .inr (.inr ⟨x, _, Dv.dp _ _ (dvMono s _ _ a), vwAny s b, hc.1, hc.2, q _ (.bl _)⟩)
      · cases e
    · cases e
theorem op2_ninA {K : Frg} : Op2 K (fun x y H Q => rIn K true x y H Q ∨ rNotInD K x y H Q ∨ rInT K true x y H Q) (dInA true) := fun x y d G H vx vy Q e s a b q qn => by
  rcases or_some e with e | e
  · exact .inl (op2_in true x y d G H vx vy Q e s a b q qn)
  · unfold dInD at e
    split at e
    · split at e
      · rename_i hc
        cases e
        exact .inr (.inl ⟨x, _, Dv.dp _ _ (dvMono s _ _ a), vwAny s b, hc.1, hc.2, q _ (.bl _)⟩)
      · cases e
    · split at e
      · rename_i hc
        cases e
        exact .inr (.inr ⟨x, _, Dv.dp _ _ (dvMono s _ _ a), vwAny s b, hc.1, hc.2, q _ (.bl _)⟩)
      · cases e
    · cases e
/-! ### is True, is False, of a bool -/
def dIsB : D → D → Option D
  | .bool a, .bool b => some (.bool (decide (a = b)))
  | _, _ => none
def dIsNB : D → D → Option D
  | .bool a, .bool b => some (.bool (!decide (a = b)))
  | _, _ => none
theorem op2_isB {K : Frg} : Op2 K rIsB dIsB := fun x y d G H vx vy Q e s a b q _ => by
  unfold dIsB at e
  split at e
  · cases e
    cases a
    rcases b with b | ⟨_, _, _, _, h, _⟩
    · cases b
      exact ⟨_, _, rfl, rfl, q _ (.bl _)⟩
    · cases h
  · cases e
theorem op2_isNB {K : Frg} : Op2 K rNotB dIsNB := fun x y d G H vx vy Q e s a b q _ => by
  unfold dIsNB at e
  split at e
  · cases e
    cases a
    rcases b with b | ⟨_, _, _, _, h, _⟩
    · cases b
      exact ⟨_, _, rfl, rfl, q _ (.bl _)⟩
    · cases h
  · cases e
section
variable {X : Cx} {pos : Pos}
theorem fc_isB {k : Nat} {a b : Expr} {fa fb : EF} (c : Cc X k) (ha : FE X a fa) (hb : FB X b fb) : FC X (.Compare a [.Is] [b] pos) (eOp dIsB fa fb) := fc_of op_isBl op2_isB ha hb (nomark _)
theorem fc_isNB {k : Nat} {a b : Expr} {fa fb : EF} (c : Cc X k) (ha : FE X a fa) (hb : FB X b fb) : FC X (.Compare a [.IsNot] [b] pos) (eOp dIsNB fa fb) := fc_of op_notBl op2_isNB ha hb (nomark _)
theorem fc_inA {k : Nat} {a b : Expr} {fa fb : EF} (c : Cc X k) (ha : FE X a fa) (hb : FB X b fb) (hm : behindInMarks .In b = false := by with_unfolding_all rfl) : FC X (.Compare a [.In] [b] pos) (eOp (dInA false) fa fb) := fc_of (op_in_seq.or ((op_inD (by have := c.room.un; omega)).or (op_inT (by have := c.room.un; omega)))) op2_inA ha hb hm
theorem fc_notinA {k : Nat} {a b : Expr} {fa fb : EF} (c : Cc X k) (ha : FE X a fa) (hb : FB X b fb) (hm : behindInMarks .NotIn b = false := by with_unfolding_all rfl) : FC X (.Compare a [.NotIn] [b] pos) (eOp (dInA true) fa fb) := fc_of (op_notIn_seq.or ((op_notInD (by have := c.room.un; omega)).or (op_notInT (by have := c.room.un; omega)))) op2_ninA ha hb hm
theorem fo_sortA {a : Expr} {p : Pos} {f : EF} (ha : FB X a f) (hm : X.mg "sorted" = none) (hg : Gl X "sorted" := by rfl) (he : starEach [a] X.env = (false, eval a X.env) :: starEach [] X.env := by rfl) : FO X (.Call (.Name "sorted" p) [a] [] pos) (oUn dSortA f) :=
  fo_call1 (cr_sortedI.or cr_sortedT) (fun x ds G H vx Q e s h q => by
    cases x with
    | list xs =>
      obtain ⟨ns, h1, rfl⟩ := Option.map_eq_some_iff.mp e
      obtain ⟨b, vs, rfl, h3, h4⟩ := vwLst s h
      obtain ⟨rfl, e2⟩ := asInts_ok h1 h4
      refine .inl ⟨b, ns, rfl, SqL.of h3, fun ms p hp hr hn => ?_⟩
      rw [sortI_of hp hr]
      exact q p _ hn (dvAll_ints _)
    | tuple xs =>
      obtain ⟨ns, h1, rfl⟩ := Option.map_eq_some_iff.mp e
      obtain ⟨b, vs, rfl, h3, h4⟩ := vwTup h
      obtain ⟨rfl, e2⟩ := asInts_ok h1 h4
      refine .inr ⟨b, ns, rfl, seqT s h3, fun ms p hp hr hn => ?_⟩
      rw [sortI_of hp hr]
      exact q p _ hn (dvAll_ints _)
    | none => cases e
    | bool _ => cases e
    | int _ => cases e
    | str _ => cases e
    | dict _ => cases e) hg hm (by decide +kernel) ha (by decide) (by decide) he
theorem fe_mulT {a b : Expr} {fa fb : EF} (ha : FE X a fa) (hb : FB X b fb) : FE X (.BinOp a .Mult b pos) (eOp dMulT fa fb) := fe_op (op_repT.or op_repS) op2_mulT ha hb
end
end Fl

set_option Elab.async false
set_option linter.all false
set_option maxRecDepth 100000
set_option maxHeartbeats 1000000
set_option autoImplicit false
/-! FnOwn: a comprehension over an own list that stays own: it does not look at the list but by its items. -/
namespace Fl
open PySem PySem.Spec PyProof.Rows L2
def Z.wipe2 (z : Z) (io : Nat) (vs : List Nat) : Z := { z with s := L2.wipe z.s vs, e := wipeE z.e (io :: vs), F := fun i => if i ∈ io :: vs then [] else z.F i }
theorem Rp.wipe2 {K : Frg} {z : Z} (r : Rp K z) (io : Nat) (vs : List Nat) : Rp K (z.wipe2 io vs) := by
  refine ⟨r.same, ?_, fun i s h => ?_, fun i h => ?_, fun i j a hij hi hj => ?_⟩
  · show (L2.wipe z.s vs).length = (wipeE z.e (io :: vs)).length
    rw [wipe_length, wipeE_len]; exact r.len
  · have h' : (wipeE z.e (io :: vs))[i]? = some s := h
    show SlOk K z.G z.H (((L2.wipe z.s vs)[i]?).join) (if i ∈ io :: vs then [] else z.F i) s
    rw [wipeE_get] at h'
    by_cases hv : i ∈ io :: vs
    · rw [if_pos hv]
      by_cases hl : i < z.e.length
      · rw [if_pos ⟨hv, hl⟩] at h'
        cases h'
        rfl
      · rw [if_neg (fun q => hl q.2), List.getElem?_eq_none (by omega)] at h'
        cases h'
    · rw [if_neg hv, wipe_get, if_neg (fun q => hv (List.mem_cons_of_mem _ q.1))]
      rw [if_neg (fun q => hv q.1)] at h'
      exact r.ok i s h'
  · have h' : (wipeE z.e (io :: vs)).length ≤ i := h
    rw [wipeE_len] at h'
    show (if i ∈ io :: vs then [] else z.F i) = []
    split
    · rfl
    · exact r.out i h'
  · have hi' : a ∈ (if i ∈ io :: vs then [] else z.F i) := hi
    have hj' : a ∈ (if j ∈ io :: vs then [] else z.F j) := hj
    split at hi'
    · cases hi'
    · split at hj'
      · cases hj'
      · exact r.sep i j a hij hi' hj'
/-- items that stand as long as P does -/
def ItrP (K : Frg) (J : It) (G : Hp) (P : Hp → Prop) (ds : List D) : Prop := ∃ Gd Y, Walk J ds.length Gd Y ∧ (∀ H, Same G H → P H → Gd H) ∧ ∀ i H x H', i < ds.length → Same G H → P H → Y i H x H' →
  (H' = H ∧ ∃ d, ds[i]? = some d ∧ Dv K G x d) ∨ (∃ T vs es, x = .ref T ∧ H T = none ∧ H' = upd H T (.tup vs) ∧ ds[i]? = some (.tuple es) ∧ DvAll K G vs es)
theorem itrP_own {K : Frg} {G : Hp} {a : Addr} {vs : List V} {ds : List D} (hd : DvAll K G vs ds) : ItrP K (Itl K a) G (fun H => H a = some (.lst vs)) ds := by
  refine ⟨_, _, by rw [← dvAll_len hd]; exact walk_list (K := K) (a := a) (xs := vs), fun H _ k => SqL.of k, fun i H x H' hi _ _ y => ?_⟩
  obtain ⟨e, q⟩ := y
  obtain ⟨d, h1, h2⟩ := dvAll_getV hd q
  exact .inl ⟨e, d, h1, h2⟩
theorem lcP_run {K : Frg} {J : It} {P : Hp → Prop} {y0 : Z} {ds : List D} {t : GF} {ws vs : List Nat} {c : BF} {f : EF} {xs : List D} {eN : Ev} {D0 : Addr} {Qd : Hp → Prop} {σ : L2.St}
    (r0 : Rp K y0) (hσ : L2.wipe σ vs = y0.s) (he : ∀ i ∈ vs, i < y0.e.length → y0.e[i]? = some .no) (hJ : ItrP K J y0.G P ds) (hP : ∀ y, Mv y0 y → Rp K y → P y.H) (hws : ∀ j ∈ ws, j ∈ vs) (hlen : ds.length ≤ sizeLine) (hD : y0.H D0 = none)
    (hc : compL t c f vs ds y0.e = some (xs, eN))
    (hd : ∀ y ws', Mv y0 y → Rp K y → y.s = y0.s → y.e = eN → y.H D0 = some (.lst ws') → y.G D0 = none → (∀ j, D0 ∉ y.F j) → DvAll K y.G ws' xs → (∀ i ∈ vs, i < y.e.length → y.e[i]? = some .no) → Qd y.H) :
    ∃ W : Nat → Nat → Hp → Prop, (∃ m, W 0 m (upd y0.H D0 (.lst []))) ∧ ∀ i m H, W i m H →
      (J.stop i H ∧ Qd H) ∨ (J.go i H ∧ ∃ Nx : Hp → Prop, (∀ H', Nx H' → ∃ m', m' < m ∧ W (i + 1) m' H') ∧ ∀ x H', J.yld i H x H' → tG K t ws x (L2.wipe σ vs) H' fun σ2 H2 => L2.wipe σ2 vs = L2.wipe σ vs ∧ tT K c σ2 H2 fun b H3 =>
        if b = true then tE K f σ2 H3 fun y H4 => ∃ acc, H4 D0 = some (.lst acc) ∧ acc.length < sizeLine ∧ Nx (upd H4 D0 (.lst (acc ++ [y]))) else Nx H3) := by
  obtain ⟨Gd, Y, w, hG1, hG2⟩ := hJ
  obtain ⟨rn, mn⟩ := r0.new (o := .lst []) hD
  have hvs : ∀ i ∈ vs, isOw y0.e[i]? = false := fun i hi => by
    by_cases hl : i < y0.e.length
    · rw [he i hi hl]; rfl
    · rw [List.getElem?_eq_none (by omega)]; rfl
  refine lc_it w (fun i H => ∃ y acc don, y.H = H ∧ Rp K y ∧ y.s = y0.s ∧ Mv y0 y ∧ y.H D0 = some (.lst acc) ∧ y.G D0 = none ∧ (∀ j, D0 ∉ y.F j) ∧ DvAll K y.G acc don ∧ acc.length ≤ i ∧
    (∀ i ∈ vs, i < y.e.length → y.e[i]? = some .no) ∧ ∃ xs', compL t c f vs (ds.drop i) y.e = some (xs', eN) ∧ don ++ xs' = xs) ?_ ?_ ?_ ?_
  · exact ⟨y0.new D0 (.lst []), [], [], rfl, rn, rfl, mn, upd_same, (r0.fresh hD).1, (r0.fresh hD).2, .nil, Nat.le_refl _, he, xs, hc, rfl⟩
  · rintro i H hi ⟨y, acc, don, rfl, r, _, m, _⟩
    exact hG1 _ (m.g.trans r.same) (hP y m r)
  · rintro i x H H' hi ⟨y, acc, don, rfl, r, hs, m, hD1, hD2, hD3, hA, hl, hno, xs', hcl, hxs⟩ hy
    have hsm : Same y0.G y.H := m.g.trans r.same
    -- the state with the item
    obtain ⟨y1, d, r1, m1, s1, e1, hH1, hdi, hdv, hD1', hD2', hD3', hA'⟩ : ∃ (y1 : Z) (d : D), Rp K y1 ∧ Mv y y1 ∧ y1.s = y.s ∧ y1.e = y.e ∧ y1.H = H' ∧ ds[i]? = some d ∧ Dv K y1.G x d ∧ y1.H D0 = some (.lst acc) ∧ y1.G D0 = none ∧ (∀ j, D0 ∉ y1.F j) ∧ DvAll K y1.G acc don := by
      rcases hG2 i y.H x H' hi hsm (hP y m r) hy with ⟨e, d, h3, h4⟩ | ⟨T, tv, es, h3, h4, h5, h6, h7⟩
      · exact ⟨y, d, r, Mv.refl y, rfl, rfl, e.symm, h3, dvMono m.g _ _ h4, hD1, hD2, hD3, hA⟩
      · obtain ⟨ra, ma⟩ := r.add (o := .tup tv) h4
        have hne : D0 ≠ T := ne_of_none hD1 h4
        refine ⟨y.add T (.tup tv), .tuple es, ra, ma, rfl, rfl, h5.symm, h6, ?_, ?_, ?_, hD3, dvMonoAll ma.g _ _ hA⟩
        · rw [h3]
          exact .tup (SqT.of upd_same) (dvMonoAll (m.g.trans ma.g) _ _ h7)
        · show upd y.H T (.tup tv) D0 = _
          rw [upd_ne hne]; exact hD1
        · show upd y.G T (.tup tv) D0 = none
          rw [upd_ne hne]; exact hD2
    have hdrop : ds.drop i = d :: ds.drop (i + 1) := by
      obtain ⟨h1, h2⟩ := List.getElem?_eq_some_iff.mp hdi
      rw [← h2, List.drop_eq_getElem_cons h1]
    rw [hdrop] at hcl
    unfold compL at hcl
    obtain ⟨ea, ht, hcl⟩ := Option.bind_eq_some_iff.mp hcl
    obtain ⟨⟨b, eb⟩, hcc, hcl⟩ := Option.bind_eq_some_iff.mp hcl
    refine ⟨y1, d, ea, r1, by rw [s1, hs, hσ], hH1, hdv, by rw [e1]; exact ht, fun y2 m2 r2 e2 eH2 eG2 es2 => ⟨?_, ?_⟩⟩
    · rw [wipe_eq (σ := y1.s) (ws := ws) (by rw [r2.len, r1.len, m2.ln]) es2 hws, s1, hs, ← hσ, wipe_wipe]
    · have mm := (m.trans m1).trans m2
      refine ⟨y2, b, eb, r2, rfl, rfl, by rw [e2]; exact hcc, fun y3 m3 r3 s3 e3 => ?_⟩
      have keep : ∀ {p q : Z}, Mv p q → p.H D0 = some (.lst acc) → p.G D0 = none → (∀ j, D0 ∉ p.F j) → q.H D0 = some (.lst acc) ∧ q.G D0 = none ∧ (∀ j, D0 ∉ q.F j) := fun {p q} mv h1 h2 h3 =>
        ⟨mv.out _ _ h1 h3, (mv.gn _ (by rw [h1]; exact nofun) h3).trans h2, fun j hj => (mv.fn j _ hj).elim (h3 j) fun z => by rw [h1] at z; cases z⟩
      obtain ⟨k1, k2, k3⟩ := keep m2 hD1' hD2' hD3'
      obtain ⟨k1, k2, k3⟩ := keep m3 k1 k2 k3
      have hs3 : L2.wipe y3.s vs = y0.s := by
        rw [s3, wipe_eq (σ := y1.s) (ws := ws) (by rw [r2.len, r1.len, m2.ln]) es2 hws, s1, hs, ← hσ, wipe_wipe]
      cases b with
      | false =>
        have hcl' : compL t c f vs (ds.drop (i + 1)) (wipeE eb vs) = some (xs', eN) := hcl
        refine iteF ⟨y3.wipe vs, acc, don, rfl, r3.wipe vs, hs3, (mm.trans m3).wipe hvs, k1, k2, fun j hj => ?_, dvMonoAll (m2.g.trans m3.g) _ _ hA', by omega, fun j hj hjl => ?_, xs', ?_, hxs⟩
        · have hj' : D0 ∈ (if j ∈ vs then [] else y3.F j) := hj
          split at hj'
          · cases hj'
          · exact k3 j hj'
        · show (wipeE y3.e vs)[j]? = some .no
          rw [wipeE_get, if_pos ⟨hj, by have : j < (wipeE y3.e vs).length := hjl
                                        rw [wipeE_len] at this; exact this⟩]
        · show compL t c f vs (ds.drop (i + 1)) (wipeE y3.e vs) = some (xs', eN)
          rw [e3]; exact hcl'
      | true =>
        obtain ⟨⟨dv, ef⟩, hff, hcl⟩ := Option.bind_eq_some_iff.mp (show ((f eb).bind fun q => (compL t c f vs (ds.drop (i + 1)) (wipeE q.2 vs)).map fun r => (q.1 :: r.1, r.2)) = some (xs', eN) from hcl)
        obtain ⟨⟨xr, er⟩, hcr, hcl⟩ := Option.map_eq_some_iff.mp hcl
        cases hcl
        refine iteT ⟨y3, dv, ef, r3, s3, rfl, by rw [e3]; exact hff, fun v y4 m4 r4 s4 e4 p4 => ?_⟩
        obtain ⟨k1, k2, k3⟩ := keep m4 k1 k2 k3
        refine ⟨acc, k1, by have := (List.getElem?_eq_some_iff.mp hdi).1; omega, ?_⟩
        -- the list grows
        obtain ⟨r5, m5⟩ := r4.write (o := .lst (acc ++ [v])) k1 k2 k3 ((mm.trans m3).trans m4) hD
        refine ⟨Z.wipe { y4 with H := upd y4.H D0 (.lst (acc ++ [v])) } vs, acc ++ [v], don ++ [dv], rfl, r5.wipe vs, ?_, m5.wipe hvs, upd_same, k2, fun j hj => ?_, dvAll_app (dvMonoAll ((m2.g.trans m3.g).trans m4.g) _ _ hA') (dvAll_one p4), by rw [List.length_append]; simp; omega, fun j hj hjl => ?_, xr, ?_, by rw [List.append_assoc]; exact hxs⟩
        · show L2.wipe y4.s vs = y0.s
          rw [s4, ← s3]; exact hs3
        · have hj' : D0 ∈ (if j ∈ vs then [] else y4.F j) := hj
          split at hj'
          · cases hj'
          · exact k3 j hj'
        · show (wipeE y4.e vs)[j]? = some .no
          rw [wipeE_get, if_pos ⟨hj, by have : j < (wipeE y4.e vs).length := hjl
                                        rw [wipeE_len] at this; exact this⟩]
        · show compL t c f vs (ds.drop (i + 1)) (wipeE y4.e vs) = some (xr, _)
          rw [e4]; exact hcr
  · rintro H ⟨y, acc, don, rfl, r, hs, m, hD1, hD2, hD3, hA, hl, hno, xs', hcl, hxs⟩
    rw [List.drop_length] at hcl
    unfold compL at hcl
    cases hcl
    rw [List.append_nil] at hxs
    subst hxs
    exact hd y acc m r hs rfl hD1 hD2 hD3 hA hno
def tIo (K : Frg) (io : Nat) : TI := fun σ H R => ∃ (z : Z) (a : Addr) (vs : List V), Rp K z ∧ z.s = σ ∧ z.H = H ∧ z.s[io]? = some (some (.ref a)) ∧ z.H a = some (.lst vs) ∧ R (Itl K a) z.H
def oCompO (io : Nat) (t : GF) (c : BF) (f : EF) (vs : List Nat) : OF := fun e => (liOf e[io]?).bind fun xs => if xs.length ≤ sizeLine ∧ (vs.all fun i => !isOw e[i]?) = true ∧ io ∉ vs then (compL t c f vs xs (wipeE e (io :: vs))).map fun r => (.li r.1, backE e r.2 (io :: vs)) else none
theorem lco_tO {K : Frg} {wi : TI} {io : Nat} {t : GF} {ws vs : List Nat} {cf : BF} {f : EF} {σ : L2.St} {H : Hp} {Q : VK} (hwi : ∀ σ H R, tIo K io σ H R → wi σ H R) (hws : ∀ j ∈ ws, j ∈ vs) (q : tO K (oCompO io t cf f vs) σ H Q) : tLc wi (tG K t ws) (tT K cf) (tE K f) vs σ H Q := by
  obtain ⟨z, r0, e', rp, hs, hH, hf, q⟩ := q
  subst hs hH
  obtain ⟨ds, h1, hf⟩ := Option.bind_eq_some_iff.mp hf
  split at hf
  · rename_i hc
    obtain ⟨⟨xs, eN⟩, h2, hf⟩ := Option.map_eq_some_iff.mp hf
    cases hf
    have h1' : z.e[io]? = some (.li ds) := by
      cases hq : z.e[io]? with
      | none => rw [hq] at h1; cases h1
      | some sl =>
        rw [hq] at h1
        cases sl <;> first | (cases h1; rfl) | cases h1
    obtain ⟨ao, vo, hv, hF, hG, hHo, hdo⟩ := rp.ok io _ h1'
    have hvs0 : z.s[io]? = some (some (.ref ao)) := by
      cases hq : z.s[io]? with
      | none => rw [hq] at hv; cases hv
      | some o => rw [hq] at hv; cases o <;> first | (cases hv; rfl) | cases hv
    refine hwi _ _ _ ⟨z, ao, vo, rp, rfl, rfl, hvs0, hHo, fun D0 hn => ?_⟩
    obtain ⟨y, hy⟩ : ∃ y, y = z := ⟨z, rfl⟩
    have m : Mv z y := hy ▸ Mv.refl z
    have r : Rp K y := hy ▸ rp
    have s2 : y.s = z.s := by rw [hy]
    have ee : y.e = z.e := by rw [hy]
    have hHo' : y.H ao = some (.lst vo) := by rw [hy]; exact hHo
    have hdo' : DvAll K y.G vo ds := by rw [hy]; exact hdo
    have hFo' : y.F io = [ao] := by rw [hy]; exact hF
    have hn : y.H D0 = none := by rw [hy]; exact hn
    have hout : ∀ i, ao ∉ (y.wipe2 io vs).F i := fun j hj => by
      have hj' : ao ∈ (if j ∈ io :: vs then [] else y.F j) := hj
      split at hj'
      · cases hj'
      · rename_i hjv
        exact r.sep io j ao (fun e => hjv (by rw [← e]; exact List.mem_cons_self)) (by rw [hFo']; exact List.mem_cons_self) hj'
    have hno : ∀ i ∈ io :: vs, isOw y.e[i]? = false := fun i hi => by
      rw [ee]
      rcases List.mem_cons.mp hi with rfl | hi
      · rw [h1']; rfl
      · have := List.all_eq_true.mp hc.2.1 i hi
        simpa using this
    have h2' : compL t cf f vs ds (y.wipe2 io vs).e = some (xs, eN) := by
      show compL t cf f vs ds (wipeE y.e (io :: vs)) = some (xs, eN)
      rw [ee]; exact h2
    have := lcP_run (P := fun H => H ao = some (.lst vo)) (y0 := y.wipe2 io vs) (σ := z.s) (Qd := fun H => Q (.ref D0) H) (J := Itl K ao) (D0 := D0) (r.wipe2 io vs) (by show L2.wipe z.s vs = L2.wipe y.s vs; rw [s2]) (fun i hi hl => by
        have hl' : i < (wipeE y.e (io :: vs)).length := hl
        rw [wipeE_len] at hl'
        show (wipeE y.e (io :: vs))[i]? = some .no
        rw [wipeE_get, if_pos ⟨List.mem_cons_of_mem _ hi, hl'⟩]) (itrP_own hdo') (fun u mu ru => mu.out _ _ hHo' hout) hws hc.1 (show y.H D0 = none from hn) h2' (fun u wl mu ru su eu hu1 hu2 hu3 hu4 hu5 => ?_)
    · have e0 : (y.wipe2 io vs).H = z.H := by rw [hy]; rfl
      rw [e0] at this
      exact this
    · -- back at the slots as they were
      have e1 : ∀ i : Nat, i ∉ io :: vs → u.s[i]? = z.s[i]? := fun i hi => by
        rw [su]
        show (L2.wipe y.s vs)[i]? = z.s[i]?
        rw [wipe_get, if_neg (fun q => hi (List.mem_cons_of_mem _ q.1)), s2]
      have hlen : u.e.length = y.e.length := by
        rw [mu.ln]
        show (wipeE y.e (io :: vs)).length = y.e.length
        rw [wipeE_len]
      have uF : ∀ (i : Nat) (a : Addr), a ∈ u.F i → (i ∉ io :: vs ∧ a ∈ y.F i) ∨ y.H a = none := fun i a ha => by
        rcases mu.fn i a ha with h | h
        · have h' : a ∈ (if i ∈ io :: vs then [] else y.F i) := h
          split at h'
          · cases h'
          · rename_i hi; exact .inl ⟨hi, h'⟩
        · exact .inr h
      have yH : ∀ (i : Nat) (a : Addr), i ∈ io :: vs → a ∈ y.F i → u.H a = y.H a ∧ u.G a = none := fun i a hi ha => by
        obtain ⟨l1, l2⟩ := r.live ha
        have nin : ∀ j, a ∉ (y.wipe2 io vs).F j := fun j hj => by
          have hj' : a ∈ (if j ∈ io :: vs then [] else y.F j) := hj
          split at hj'
          · cases hj'
          · rename_i hjv
            exact r.sep i j a (fun e => hjv (e ▸ hi)) ha hj'
        refine ⟨?_, (mu.gn a l2 nin).trans l1⟩
        cases hq : y.H a with
        | none => exact absurd hq l2
        | some o => exact mu.out a o hq nin
      have ru' : Rp K { u with s := z.s, e := backE y.e u.e (io :: vs), F := fun i => if i ∈ io :: vs then y.F i else u.F i } := by
        refine ⟨ru.same, ?_, fun i s h => ?_, fun i h => ?_, fun i j a hij hi hj => ?_⟩
        · show z.s.length = (backE y.e u.e (io :: vs)).length
          rw [backE_len, ← s2, r.len, hlen]
        · have h' : (backE y.e u.e (io :: vs))[i]? = some s := h
          show SlOk K u.G u.H ((z.s[i]?).join) (if i ∈ io :: vs then y.F i else u.F i) s
          rw [backE_get] at h'
          by_cases hi : i ∈ io :: vs
          · rw [if_pos hi]
            by_cases hl : i < u.e.length
            · rw [if_pos ⟨hi, hl⟩] at h'
              cases hq : y.e[i]? with
              | none => rw [List.getElem?_eq_none_iff] at hq; omega
              | some sl =>
                rw [hq] at h'
                cases h'
                rw [← s2]
                exact slFrame (r.ok i _ hq) mu.g (fun a ha => (yH i a hi ha).1) fun a ha => (yH i a hi ha).2
            · rw [if_neg (fun q => hl q.2), List.getElem?_eq_none (by omega)] at h'
              cases h'
          · rw [if_neg hi]
            rw [if_neg (fun q => hi q.1)] at h'
            rw [← e1 i hi]
            exact ru.ok i s h'
        · have h' : (backE y.e u.e (io :: vs)).length ≤ i := h
          rw [backE_len] at h'
          show (if i ∈ io :: vs then y.F i else u.F i) = []
          split
          · exact r.out i (by omega)
          · exact ru.out i h'
        · have hi' : a ∈ (if i ∈ io :: vs then y.F i else u.F i) := hi
          have hj' : a ∈ (if j ∈ io :: vs then y.F j else u.F j) := hj
          split at hi'
          · split at hj'
            · exact r.sep i j a hij hi' hj'
            · rcases uF j a hj' with ⟨_, h⟩ | h
              · exact r.sep i j a hij hi' h
              · exact (r.live hi').2 h
          · split at hj'
            · rcases uF i a hi' with ⟨_, h⟩ | h
              · exact r.sep i j a hij h hj'
              · exact (r.live hj').2 h
            · exact ru.sep i j a hij hi' hj'
      have mz : Mv z { u with s := z.s, e := backE y.e u.e (io :: vs), F := fun i => if i ∈ io :: vs then y.F i else u.F i } := by
        refine ⟨fun a o ha hf => ?_, fun a ha => mu.dom a (m.dom a ha), m.g.trans mu.g, fun a ha hk => (mu.gn a (m.dom a ha) fun i hi => by
          have hi' : a ∈ (if i ∈ io :: vs then [] else y.F i) := hi
          split at hi'
          · cases hi'
          · rcases m.fn i a hi' with h | h
            · exact hk i h
            · exact ha h).trans (m.gn a ha hk), fun i a ha => ?_, fun i hi => ?_, ?_⟩
        · refine mu.out a o (m.out a o ha hf) fun i hi => ?_
          have hi' : a ∈ (if i ∈ io :: vs then [] else y.F i) := hi
          split at hi'
          · cases hi'
          · rcases m.fn i a hi' with h | h
            · exact hf i h
            · rw [ha] at h; cases h
        · have ha' : a ∈ (if i ∈ io :: vs then y.F i else u.F i) := ha
          split at ha'
          · exact m.fn i a ha'
          · rcases uF i a ha' with ⟨_, h⟩ | h
            · exact m.fn i a h
            · by_cases hz : z.H a = none
              · exact .inr hz
              · exact absurd h (m.dom a hz)
        · obtain ⟨k1, k2⟩ := m.kp i hi
          have hiv : i ∉ io :: vs := fun q => by rw [hno i q] at k1; cases k1
          have k3 : isOw (y.wipe2 io vs).e[i]? = true := by
            show isOw (wipeE y.e (io :: vs))[i]? = true
            rw [wipeE_get, if_neg (fun q => hiv q.1)]; exact k1
          refine ⟨?_, rfl⟩
          show isOw (backE y.e u.e (io :: vs))[i]? = true
          rw [backE_get, if_neg (fun q => hiv q.1)]
          exact (mu.kp i k3).1
        · show (backE y.e u.e (io :: vs)).length = z.e.length
          rw [backE_len, hlen, m.ln]
      refine q (.ref D0) { u with s := z.s, e := backE y.e u.e (io :: vs), F := fun i => if i ∈ io :: vs then y.F i else u.F i } [D0] mz ru' rfl (by show backE y.e u.e (io :: vs) = backE z.e eN (io :: vs); rw [eu, ee]) ⟨D0, wl, rfl, rfl, hu2, hu1, hu4⟩ fun a ha => ?_
      rw [List.mem_singleton.mp ha]
      refine ⟨?_, fun i hi => ?_⟩
      · by_cases hz : z.H D0 = none
        · exact hz
        · exact absurd hn (m.dom D0 hz)
      · have hi' : D0 ∈ (if i ∈ io :: vs then y.F i else u.F i) := hi
        split at hi'
        · exact (r.live hi').2 hn
        · exact hu3 i hi'
  · cases hf
section
variable {X : Cx} {pos : Pos}
theorem fo_lcO {k : Nat} (io : Nat) {x : Str} {p : Pos} {elt tg : Expr} {ifs : List Expr} {scope : Scope} {own : List (Str × Nat)} {t : GF} {ws vs : List Nat} {cf : BF} {f : EF} (c : Cc X k) (ok : BlkOk X.N X.env.scope scope own)
    (hg : ∀ (s : Shared) (H : Hp) (C : Addr) (cl : List (Str × Addr)) (fp : List Addr), FG (X.blk s H scope (compEnvC scope cl C X.env) fp) tg t ws)
    (ht : ∀ (s : Shared) (H : Hp) (C : Addr) (cl : List (Str × Addr)) (fp : List Addr), FTs (X.blk s H scope (compEnvC scope cl C X.env) fp) ifs cf)
    (he : ∀ (s : Shared) (H : Hp) (C : Addr) (cl : List (Str × Addr)) (fp : List Addr), FE (X.blk s H scope (compEnvC scope cl C X.env) fp) elt f)
    (hvs : own.map (·.2) = vs := by rfl) (hws : ∀ j ∈ ws, j ∈ vs := by decide) (hs : ∀ y, foldedSetIterable (.Name x p) X.env y = pure y := by intro _; rfl)
    (hN : X.N[io]? = some x := by rfl) (hv : Vis X.env.scope x := by first | exact Or.inl rfl | exact Or.inr (Or.inl rfl) | exact Or.inr (Or.inr rfl)) (hd : (x == ("__debug__" : Str)) = false := by decide) (hcd : (x == ("__classdict__" : Str)) = false := by decide) :
    FO X (.ListComp elt [⟨tg, .Name x p, ifs, 0⟩] scope pos) (oCompO io t cf f vs) := by
  subst hvs
  refine ⟨PE.imp (pe_lc c.calm c.nd (pi_list (pe_var hN hv hd hcd)) ok (fun s H C cl fp => (hg s H C cl fp).pg) (fun s H C cl fp => (ht s H C cl fp).pts) (fun s H C cl fp => (he s H C cl fp).pe) hs) fun σ H Q q => lco_tO (fun σ H R h => ?_) hws q⟩
  obtain ⟨z, a, vs, rp, rfl, rfl, h1, h2, h3⟩ := h
  exact ⟨.ref a, h1, a, rfl, ⟨vs, SqL.of h2⟩, h3⟩
/-- by what the slot holds -/
def oiteC (f g : OF) (e : Ev) : Option Sl → Option (Sl × Ev)
  | some (.li _) => f e
  | _ => g e
def oIte (io : Nat) (f g : OF) : OF := fun e => oiteC f g e e[io]?
theorem fo_ite {a : Expr} {io : Nat} {f g : OF} (h1 : FO X a f) (h2 : FO X a g) : FO X a (oIte io f g) := ⟨⟨fun pins s σ H Q I ⟨z, r, e', rp, hs, hH, hf, q⟩ => by
  have hf' : f z.e = some (r, e') ∨ g z.e = some (r, e') := by
    have hf0 : oiteC f g z.e z.e[io]? = some (r, e') := hf
    cases hq : z.e[io]? with
    | none => rw [hq] at hf0; exact .inr hf0
    | some sl =>
      rw [hq] at hf0
      cases sl <;> first | exact .inl hf0 | exact .inr hf0
  rcases hf' with hf' | hf'
  · exact h1.po.run pins s σ H Q I ⟨z, r, e', rp, hs, hH, hf', q⟩
  · exact h2.po.run pins s σ H Q I ⟨z, r, e', rp, hs, hH, hf', q⟩⟩⟩
theorem ite_cases {K : Frg} {io : Nat} {f g : OF} {σ : L2.St} {H : Hp} {Q : VK} (q : tO K (oIte io f g) σ H Q) : tO K f σ H Q ∨ tO K g σ H Q := by
  obtain ⟨z, r, e', rp, hs, hH, hf, q⟩ := q
  have hf0 : oiteC f g z.e z.e[io]? = some (r, e') := hf
  cases hq : z.e[io]? with
  | none => rw [hq] at hf0; exact .inr ⟨z, r, e', rp, hs, hH, hf0, q⟩
  | some sl =>
    rw [hq] at hf0
    cases sl <;> first | exact .inl ⟨z, r, e', rp, hs, hH, hf0, q⟩ | exact .inr ⟨z, r, e', rp, hs, hH, hf0, q⟩
theorem pi_either {tg : Expr} {io : Nat} {x : Str} {p : Pos} {gl : LF} (hi : FI X tg (.Name x p) gl) (hN : X.N[io]? = some x) (hv : Vis X.env.scope x) (hd : (x == ("__debug__" : Str)) = false) (hcd : (x == ("__classdict__" : Str)) = false) :
    PI X tg (.Name x p) (fun σ H R => tIo X.K io σ H R ∨ tI X.K gl σ H R) := iter_or (PI.imp (pi_list (pe_var hN hv hd hcd)) fun σ H R h => by
  obtain ⟨z, a, vs, rp, rfl, rfl, h1, h2, h3⟩ := h
  exact ⟨.ref a, h1, a, rfl, ⟨vs, SqL.of h2⟩, h3⟩) hi.pi
theorem either_run {K : Frg} {io : Nat} {gl : LF} {t : GF} {ws vs : List Nat} {cf : BF} {f : EF} {σ : L2.St} {H : Hp} {Q : VK} (hws : ∀ j ∈ ws, j ∈ vs) (q : tO K (oIte io (oCompO io t cf f vs) (oComp gl t cf f vs)) σ H Q) : tLc (fun σ H R => tIo K io σ H R ∨ tI K gl σ H R) (tG K t ws) (tT K cf) (tE K f) vs σ H Q := by
  rcases ite_cases q with q | q
  · exact lco_tO (fun _ _ _ h => .inl h) hws q
  · exact lc_tO (fun _ _ _ h => .inr h) hws q
theorem fs_setLcZO {k i : Nat} (io : Nat) {x y : Str} {p py : Pos} {elt tg : Expr} {ifs : List Expr} {scope : Scope} {own : List (Str × Nat)} {spos : Pos} {gl : LF} {t : GF} {ws vs : List Nat} {cf : BF} {f : EF} (c : Cc X k) (hy : X.N[i]? = some y) (hyl : X.env.scope.names.lookup y = some .local)
    (hsw : swapsWith (.ListComp elt [⟨tg, .Name x p, ifs, 0⟩] scope pos) (some (.Name y py)) spos.line X.env = pure true) (hi : FI X tg (.Name x p) gl) (ok : BlkOk X.N X.env.scope scope own)
    (hg : ∀ (s : Shared) (H : Hp) (C : Addr) (cl : List (Str × Addr)) (fp : List Addr), FG (X.blk s H scope (compEnvC scope cl C X.env) fp) tg t ws)
    (ht : ∀ (s : Shared) (H : Hp) (C : Addr) (cl : List (Str × Addr)) (fp : List Addr), FTs (X.blk s H scope (compEnvC scope cl C X.env) fp) ifs cf)
    (he : ∀ (s : Shared) (H : Hp) (C : Addr) (cl : List (Str × Addr)) (fp : List Addr), FE (X.blk s H scope (compEnvC scope cl C X.env) fp) elt f)
    (hvs : own.map (·.2) = vs := by rfl) (hws : ∀ j ∈ ws, j ∈ vs := by decide) (hs : ∀ y, foldedSetIterable (.Name x p) X.env y = pure y := by intro _; rfl)
    (hN : X.N[io]? = some x := by rfl) (hv : Vis X.env.scope x := by first | exact Or.inl rfl | exact Or.inr (Or.inl rfl) | exact Or.inr (Or.inr rfl)) (hd : (x == ("__debug__" : Str)) = false := by decide) (hcd : (x == ("__classdict__" : Str)) = false := by decide) :
    FS X (.Assign [.Name y py] (.ListComp elt [⟨tg, .Name x p, ifs, 0⟩] scope pos) spos) (sSet i (oE (eFz (oIte io (oCompO io t cf f vs) (oComp gl t cf f vs))))) := by
  subst hvs
  exact fs_of (ps_setLc c.calm c.nd hy hyl hsw (pi_either hi hN hv hd hcd) ok (fun s H C cl fp => (hg s H C cl fp).pg) (fun s H C cl fp => (ht s H C cl fp).pts) (fun s H C cl fp => (he s H C cl fp).pe) hs) fun D z o r h q => either_run hws (fz_imp (set_go (D := D) r h q))
theorem fs_setLcO {k i : Nat} (io : Nat) {x y : Str} {p py : Pos} {elt tg : Expr} {ifs : List Expr} {scope : Scope} {own : List (Str × Nat)} {spos : Pos} {gl : LF} {t : GF} {ws vs : List Nat} {cf : BF} {f : EF} (c : Cc X k) (hy : X.N[i]? = some y) (hyl : X.env.scope.names.lookup y = some .local)
    (hsw : swapsWith (.ListComp elt [⟨tg, .Name x p, ifs, 0⟩] scope pos) (some (.Name y py)) spos.line X.env = pure true) (hi : FI X tg (.Name x p) gl) (ok : BlkOk X.N X.env.scope scope own)
    (hg : ∀ (s : Shared) (H : Hp) (C : Addr) (cl : List (Str × Addr)) (fp : List Addr), FG (X.blk s H scope (compEnvC scope cl C X.env) fp) tg t ws)
    (ht : ∀ (s : Shared) (H : Hp) (C : Addr) (cl : List (Str × Addr)) (fp : List Addr), FTs (X.blk s H scope (compEnvC scope cl C X.env) fp) ifs cf)
    (he : ∀ (s : Shared) (H : Hp) (C : Addr) (cl : List (Str × Addr)) (fp : List Addr), FE (X.blk s H scope (compEnvC scope cl C X.env) fp) elt f)
    (hvs : own.map (·.2) = vs := by rfl) (hws : ∀ j ∈ ws, j ∈ vs := by decide) (hs : ∀ y, foldedSetIterable (.Name x p) X.env y = pure y := by intro _; rfl)
    (hN : X.N[io]? = some x := by rfl) (hv : Vis X.env.scope x := by first | exact Or.inl rfl | exact Or.inr (Or.inl rfl) | exact Or.inr (Or.inr rfl)) (hd : (x == ("__debug__" : Str)) = false := by decide) (hcd : (x == ("__classdict__" : Str)) = false := by decide) :
    FS X (.Assign [.Name y py] (.ListComp elt [⟨tg, .Name x p, ifs, 0⟩] scope pos) spos) (sSet i (oIte io (oCompO io t cf f vs) (oComp gl t cf f vs))) := by
  subst hvs
  exact fs_of (ps_setLc c.calm c.nd hy hyl hsw (pi_either hi hN hv hd hcd) ok (fun s H C cl fp => (hg s H C cl fp).pg) (fun s H C cl fp => (ht s H C cl fp).pts) (fun s H C cl fp => (he s H C cl fp).pe) hs) fun D z o r h q => either_run hws ((set_go (D := D) r h q))
end
end Fl

set_option linter.all false
set_option maxRecDepth 100000
set_option maxHeartbeats 1000000
set_option autoImplicit false
/-! FnEv: evaluation of the layer's words where slots are written out: no rule looks under a binder. -/
namespace Fl
open PySem PySem.Spec PyProof.Rows L2
section
variable {α : Type} (e e1 e2 : Ev) (i : Nat) (is : List Nat) (d x y : D) (f g h fa fb fc : EF) (ds xs ys : List D)
def prE (e : Ev) (a : α) : α × Ev := (a, e)
theorem prE_ev (a : α) : prE e a = (a, e) := rfl
/-! values -/
def varC (e : Ev) : Option Sl → Option (D × Ev)
  | some (.va d) => some (d, e)
  | _ => none
theorem eVar_ev : eVar i e = varC e e[i]? := rfl
theorem varC_ev : varC e (some (.va d)) = some (d, e) := rfl
def nmC (i : Nat) (e : Ev) : Option Sl → Option (D × Ev)
  | some (.va d) => some (d, e)
  | some (.li xs) => some (.list xs, e.set i (.va (.list xs)))
  | _ => none
theorem eNm_ev : eNm i e = nmC i e e[i]? := rfl
theorem nmC_va : nmC i e (some (.va d)) = some (d, e) := rfl
theorem nmC_li : nmC i e (some (.li xs)) = some (.list xs, e.set i (.va (.list xs))) := rfl
theorem eC_ev : eC d e = some (d, e) := rfl
theorem vw_va : vw (.va d) = some d := rfl
theorem vw_li : vw (.li xs) = some (.list xs) := rfl
theorem eOwn_ev : eOwn i e = (e[i]?.bind vw).map (prE e) := rfl
def ixoC3 (k : D) (e : Ev) : D → Option (D × Ev) := fun x => (dIx x k).map (prE e)
def ixoC2 (i : Nat) : D × Ev → Option (D × Ev) := fun q => (q.2[i]?.bind vw).bind (ixoC3 q.1 q.2)
def ixoC (i : Nat) (fb : EF) (e : Ev) : D → Option (D × Ev) := fun _ => (fb e).bind (ixoC2 i)
theorem eIxO_ev : eIxO i fb e = (e[i]?.bind vw).bind (ixoC i fb e) := rfl
theorem ixoC_ev : ixoC i fb e x = (fb e).bind (ixoC2 i) := rfl
theorem ixoC2_ev : ixoC2 i (d, e1) = (e1[i]?.bind vw).bind (ixoC3 d e1) := rfl
theorem ixoC3_ev : ixoC3 d e x = (dIx x d).map (prE e) := rfl
def opC2 (g : D → D → Option D) (x : D) : D × Ev → Option (D × Ev) := fun q => (g x q.1).map (prE q.2)
def opC (g : D → D → Option D) (fb : EF) : D × Ev → Option (D × Ev) := fun p => (fb p.2).bind (opC2 g p.1)
theorem eOp_ev (g : D → D → Option D) : eOp g fa fb e = (fa e).bind (opC g fb) := rfl
theorem opC_ev (g : D → D → Option D) : opC g fb (x, e1) = (fb e1).bind (opC2 g x) := rfl
theorem opC2_ev (g : D → D → Option D) : opC2 g x (y, e1) = (g x y).map (prE e1) := rfl
def unC (g : D → Option D) : D × Ev → Option (D × Ev) := fun p => (g p.1).map (prE p.2)
theorem eUn_ev (g : D → Option D) : eUn g fa e = (fa e).bind (unC g) := rfl
theorem unC_ev (g : D → Option D) : unC g (x, e1) = (g x).map (prE e1) := rfl
def bEC : D × Ev → Option (Bool × Ev) := fun p => (dTru p.1).map (prE p.2)
theorem bE_ev : bE f e = (f e).bind bEC := rfl
theorem bEC_ev : bEC (x, e1) = (dTru x).map (prE e1) := rfl
def bBC : D × Ev → Option (Bool × Ev) := fun p => match p.1 with
  | .bool b => some (b, p.2)
  | _ => none
theorem bB_ev : bB f e = (f e).bind bBC := rfl
theorem bBC_ev (b : Bool) : bBC (.bool b, e1) = some (b, e1) := rfl
def notC : Bool × Ev → Bool × Ev := fun p => (!p.1, p.2)
theorem bNot_ev (f : BF) : bNot f e = (f e).map notC := rfl
theorem notC_ev (b : Bool) : notC (b, e1) = (!b, e1) := rfl
def andC (g : BF) : Bool × Ev → Option (Bool × Ev) := fun p => if p.1 = true then g p.2 else some (false, p.2)
theorem bAnd_ev (f g : BF) : bAnd f g e = (f e).bind (andC g) := rfl
theorem andC_t (g : BF) : andC g (true, e1) = g e1 := rfl
theorem andC_f (g : BF) : andC g (false, e1) = some (false, e1) := rfl
def orC (g : BF) : Bool × Ev → Option (Bool × Ev) := fun p => if p.1 = true then some (true, p.2) else g p.2
theorem bOr_ev (f g : BF) : bOr f g e = (f e).bind (orC g) := rfl
theorem orC_t (g : BF) : orC g (true, e1) = some (true, e1) := rfl
theorem orC_f (g : BF) : orC g (false, e1) = g e1 := rfl
theorem bYes_ev : bYes e = some (true, e) := rfl
def eandC (g : EF) : D × Ev → Option (D × Ev) := fun p => match p.1 with
  | .bool true => g p.2
  | .bool false => some (.bool false, p.2)
  | _ => none
theorem eAnd_ev : eAnd f g e = (f e).bind (eandC g) := rfl
theorem eandC_t : eandC g (.bool true, e1) = g e1 := rfl
theorem eandC_f : eandC g (.bool false, e1) = some (.bool false, e1) := rfl
def eorC (g : EF) : D × Ev → Option (D × Ev) := fun p => match p.1 with
  | .bool true => some (.bool true, p.2)
  | .bool false => g p.2
  | _ => none
theorem eOr_ev : eOr f g e = (f e).bind (eorC g) := rfl
theorem eorC_t : eorC g (.bool true, e1) = some (.bool true, e1) := rfl
theorem eorC_f : eorC g (.bool false, e1) = g e1 := rfl
def enotC : D × Ev → Option (D × Ev) := fun p => match p.1 with
  | .bool b => some (.bool (!b), p.2)
  | _ => none
theorem eNot_ev : eNot f e = (f e).bind enotC := rfl
theorem enotC_ev (b : Bool) : enotC (.bool b, e1) = some (.bool (!b), e1) := rfl
def ifC (f g : EF) : Bool × Ev → Option (D × Ev) := fun p => if p.1 = true then f p.2 else g p.2
theorem eIf_ev (c : BF) : eIf c f g e = (c e).bind (ifC f g) := rfl
theorem ifC_t : ifC f g (true, e1) = f e1 := rfl
theorem ifC_f : ifC f g (false, e1) = g e1 := rfl
def tupC : List D × Ev → Option (D × Ev) := fun p => if p.1.length ≤ sizeLine then some (.tuple p.1, p.2) else none
theorem eTup_ev (g : LF) : eTup g e = (g e).bind tupC := rfl
theorem tupC_ev : tupC (xs, e1) = if xs.length ≤ sizeLine then some (.tuple xs, e1) else none := rfl
theorem aNil_ev : aNil e = some ([], e) := rfl
def aconsC2 (x : D) : List D × Ev → List D × Ev := fun q => (x :: q.1, q.2)
def aconsC (g : LF) : D × Ev → Option (List D × Ev) := fun p => (g p.2).map (aconsC2 p.1)
theorem aCons_ev (g : LF) : aCons f g e = (f e).bind (aconsC g) := rfl
theorem aconsC_ev (g : LF) : aconsC g (x, e1) = (g e1).map (aconsC2 x) := rfl
theorem aconsC2_ev : aconsC2 x (xs, e1) = (x :: xs, e1) := rfl
def lstC : List D × Ev → Option (Sl × Ev) := fun p => if p.1.length ≤ sizeLine then some (.li p.1, p.2) else none
theorem oLst_ev (g : LF) : oLst g e = (g e).bind lstC := rfl
theorem lstC_ev : lstC (xs, e1) = if xs.length ≤ sizeLine then some (.li xs, e1) else none := rfl
def oEC : D × Ev → Sl × Ev := fun p => (.va p.1, p.2)
theorem oE_ev : oE f e = (f e).map oEC := rfl
theorem oEC_ev : oEC (x, e1) = (.va x, e1) := rfl
def fzC : Sl × Ev → Option (D × Ev) := fun p => (fz p.1).map (prE p.2)
theorem eFz_ev (f : OF) : eFz f e = (f e).bind fzC := rfl
theorem fzC_va : fzC (.va d, e1) = some (d, e1) := rfl
theorem fzC_li : fzC (.li xs, e1) = some (.list xs, e1) := rfl
def prL (e : Ev) : List D → Sl × Ev := fun xs => (.li xs, e)
def ounC (g : D → Option (List D)) : D × Ev → Option (Sl × Ev) := fun p => (g p.1).map (prL p.2)
theorem oUn_ev (g : D → Option (List D)) : oUn g f e = (f e).bind (ounC g) := rfl
theorem ounC_ev (g : D → Option (List D)) : ounC g (x, e1) = (g x).map (prL e1) := rfl
theorem prL_ev : prL e xs = (.li xs, e) := rfl
def slC3 (x : D) (lo : Option Int) : Option Int × Ev → Option (D × Ev) := fun r => (dSl lo r.1 x).map (prE r.2)
def slC2 (h : PF) (x : D) : Option Int × Ev → Option (D × Ev) := fun q => (h q.2).bind (slC3 x q.1)
def slC (g h : PF) : D × Ev → Option (D × Ev) := fun p => (g p.2).bind (slC2 h p.1)
theorem eSl_ev (g h : PF) : eSl f g h e = (f e).bind (slC g h) := rfl
theorem slC_ev (g h : PF) : slC g h (x, e1) = (g e1).bind (slC2 h x) := rfl
theorem slC2_ev (h : PF) (lo : Option Int) : slC2 h x (lo, e1) = (h e1).bind (slC3 x lo) := rfl
theorem slC3_ev (lo hi : Option Int) : slC3 x lo (hi, e1) = (dSl lo hi x).map (prE e1) := rfl
def sloC4 (lo hi : Option Int) (e : Ev) : D → Option (D × Ev) := fun x => (dSl lo hi x).map (prE e)
def sloC3 (i : Nat) (lo : Option Int) : Option Int × Ev → Option (D × Ev) := fun r => (r.2[i]?.bind vw).bind (sloC4 lo r.1 r.2)
def sloC2 (i : Nat) (h : PF) : Option Int × Ev → Option (D × Ev) := fun q => (h q.2).bind (sloC3 i q.1)
def sloC (i : Nat) (g h : PF) (e : Ev) : D → Option (D × Ev) := fun _ => (g e).bind (sloC2 i h)
theorem eSlO_ev (g h : PF) : eSlO i g h e = (e[i]?.bind vw).bind (sloC i g h e) := rfl
theorem sloC_ev (g h : PF) : sloC i g h e x = (g e).bind (sloC2 i h) := rfl
theorem sloC2_ev (h : PF) (lo : Option Int) : sloC2 i h (lo, e1) = (h e1).bind (sloC3 i lo) := rfl
theorem sloC3_ev (lo hi : Option Int) : sloC3 i lo (hi, e1) = (e1[i]?.bind vw).bind (sloC4 lo hi e1) := rfl
theorem sloC4_ev (lo hi : Option Int) : sloC4 lo hi e1 x = (dSl lo hi x).map (prE e1) := rfl
def enC : D × Ev → Option (List D × Ev) := fun p => match p.1 with
  | .tuple xs => some (enD xs, p.2)
  | .list xs => some (enD xs, p.2)
  | _ => none
theorem lEnum_ev : lEnum f e = (f e).bind enC := rfl
theorem enC_tup : enC (.tuple xs, e1) = some (enD xs, e1) := rfl
theorem enC_lst : enC (.list xs, e1) = some (enD xs, e1) := rfl
theorem pNo_ev : pNo e = some (none, e) := rfl
def psoC : D × Ev → Option (Option Int × Ev) := fun p => match p.1 with
  | .int i => some (some i, p.2)
  | _ => none
theorem pSo_ev : pSo f e = (f e).bind psoC := rfl
theorem psoC_ev (k : Int) : psoC (.int k, e1) = some (some k, e1) := rfl
def lofC : D × Ev → Option (List D × Ev) := fun p => match p.1 with
  | .tuple xs => some (xs, p.2)
  | .list xs => some (xs, p.2)
  | _ => none
theorem lOf_ev : lOf f e = (f e).bind lofC := rfl
theorem lofC_tup : lofC (.tuple xs, e1) = some (xs, e1) := rfl
theorem lofC_lst : lofC (.list xs, e1) = some (xs, e1) := rfl
theorem ifCg {α : Type} {p q : Prop} {_ : Decidable p} {_ : Decidable q} {x y u v : α} (h : p ↔ q) (h1 : x = u) (h2 : y = v) : (if p then x else y) = if q then u else v := by
  subst h1; subst h2
  by_cases k : p
  · rw [if_pos k, if_pos (h.mp k)]
  · rw [if_neg k, if_neg fun z => k (h.mpr z)]
def rng1C : D × Ev → Option (List D × Ev) := fun p => match p.1 with
  | .int j => if -(2 ^ 62) ≤ j ∧ j < 2 ^ 62 then some (rngD 0 j.toNat, p.2) else none
  | _ => none
theorem lRng1_ev : lRng1 f e = (f e).bind rng1C := rfl
def Rg (j : Int) : Prop := -(2 ^ 62) ≤ j ∧ j < 2 ^ 62
instance (j : Int) : Decidable (Rg j) := inferInstanceAs (Decidable (-(2 ^ 62) ≤ j ∧ j < 2 ^ 62))
theorem rg_of {j : Int} (h1 : -1000000000000 ≤ j) (h2 : j ≤ 1000000000000) : Rg j := ⟨by omega, by omega⟩
theorem rng1C_ev (j : Int) : rng1C (.int j, e1) = if Rg j then some (rngD 0 j.toNat, e1) else none := ifCg Iff.rfl rfl rfl
def rng2C2 (x : D) : D × Ev → Option (List D × Ev) := fun q => match x, q.1 with
  | .int i, .int j => if (-(2 ^ 62) ≤ i ∧ i < 2 ^ 62) ∧ -(2 ^ 62) ≤ j ∧ j < 2 ^ 62 then some (rngD i (j - i).toNat, q.2) else none
  | _, _ => none
def rng2C (g : EF) : D × Ev → Option (List D × Ev) := fun p => (g p.2).bind (rng2C2 p.1)
theorem lRng2_ev : lRng2 f g e = (f e).bind (rng2C g) := rfl
theorem rng2C_ev : rng2C g (x, e1) = (g e1).bind (rng2C2 x) := rfl
theorem rng2C2_ev (k j : Int) : rng2C2 (.int k) (.int j, e1) = if Rg k ∧ Rg j then some (rngD k (j - k).toNat, e1) else none := ifCg Iff.rfl rfl rfl
def Rpt (n : Nat) (k : Int) : Prop := (-(2 ^ 63) ≤ k ∧ k < 2 ^ 63) ∧ n * k.toNat ≤ sizeLine
instance (n : Nat) (k : Int) : Decidable (Rpt n k) := inferInstanceAs (Decidable ((-(2 ^ 63) ≤ k ∧ k < 2 ^ 63) ∧ n * k.toNat ≤ sizeLine))
theorem rpt_of {n : Nat} {k : Int} (h1 : -1000000000000 ≤ k) (h2 : k ≤ 1000000000000) (h3 : n * k.toNat ≤ 1000000) : Rpt n k := ⟨⟨by omega, by omega⟩, Nat.le_trans h3 (by decide)⟩
def repC2 (x : D) : D × Ev → Option (Sl × Ev) := fun q => match x, q.1 with
  | .list xs, .int k => if (-(2 ^ 63) ≤ k ∧ k < 2 ^ 63) ∧ xs.length * k.toNat ≤ sizeLine then some (.li (List.replicate k.toNat xs).flatten, q.2) else none
  | _, _ => none
def repC (g : EF) : D × Ev → Option (Sl × Ev) := fun p => (g p.2).bind (repC2 p.1)
theorem oRep_ev : oRep f g e = (f e).bind (repC g) := rfl
theorem repC_ev : repC g (x, e1) = (g e1).bind (repC2 x) := rfl
theorem repC2_ev (k : Int) : repC2 (.list xs) (.int k, e1) = if Rpt xs.length k then some (.li (List.replicate k.toNat xs).flatten, e1) else none := ifCg Iff.rfl rfl rfl
/-! calls -/
def callC2 (as : List Ar) (e : Ev) : Sl × List Sl → Sl × Ev := fun q => (q.1, arBack as q.2 e)
def callC (g : Fnc) : List Ar × Ev → Option (Sl × Ev) := fun p => if (refs p.1).Nodup ∧ ((refs p.1).all fun i => isOw p.2[i]?) = true then (g (p.1.map (arSl p.2))).map (callC2 p.1 p.2) else none
theorem oCall_ev (g : Fnc) (f : AF) : oCall g f e = (f e).bind (callC g) := rfl
/-- all arguments are values -/
def vals : List Ar → Option (List D)
  | [] => some []
  | .vl d :: as => (vals as).map (d :: ·)
  | .rf _ :: _ => none
theorem callC_0 (g : Fnc) : callC g ([], e1) = (g []).map (callC2 [] e1) := by unfold callC; rw [if_pos ⟨List.nodup_nil, rfl⟩]; rfl
theorem callC_1 (g : Fnc) : callC g ([.vl x], e1) = (g [.va x]).map (callC2 [.vl x] e1) := by unfold callC; rw [if_pos ⟨List.nodup_nil, rfl⟩]; rfl
theorem callC_2 (g : Fnc) : callC g ([.vl x, .vl y], e1) = (g [.va x, .va y]).map (callC2 [.vl x, .vl y] e1) := by unfold callC; rw [if_pos ⟨List.nodup_nil, rfl⟩]; rfl
theorem callC_3 (g : Fnc) (z : D) : callC g ([.vl x, .vl y, .vl z], e1) = (g [.va x, .va y, .va z]).map (callC2 [.vl x, .vl y, .vl z] e1) := by unfold callC; rw [if_pos ⟨List.nodup_nil, rfl⟩]; rfl
theorem callC_4 (g : Fnc) (z u : D) : callC g ([.vl x, .vl y, .vl z, .vl u], e1) = (g [.va x, .va y, .va z, .va u]).map (callC2 [.vl x, .vl y, .vl z, .vl u] e1) := by unfold callC; rw [if_pos ⟨List.nodup_nil, rfl⟩]; rfl
theorem callC_5 (g : Fnc) (z u v : D) : callC g ([.vl x, .vl y, .vl z, .vl u, .vl v], e1) = (g [.va x, .va y, .va z, .va u, .va v]).map (callC2 [.vl x, .vl y, .vl z, .vl u, .vl v] e1) := by unfold callC; rw [if_pos ⟨List.nodup_nil, rfl⟩]; rfl
/-- a tape first -/
theorem callC_r (g : Fnc) (as : List Ar) (hv : refs as = []) (hi : isOw e1[i]? = true) : callC g (.rf i :: as, e1) = (g (arSl e1 (.rf i) :: as.map (arSl e1))).map (callC2 (.rf i :: as) e1) := by
  unfold callC
  rw [if_pos ⟨by show (i :: refs as).Nodup; rw [hv]; simp, by show ((i :: refs as).all _) = true; rw [hv]; simp [hi]⟩]; rfl
theorem callC_rv (g : Fnc) : callC g ([.rf i, .vl x], e1) = if isOw e1[i]? = true then (g [(e1[i]?).getD .no, .va x]).map (callC2 [.rf i, .vl x] e1) else none := by
  by_cases h : isOw e1[i]? = true
  · rw [if_pos h, callC_r e1 i g [.vl x] rfl h]; rfl
  · rw [if_neg h]
    unfold callC
    rw [if_neg fun k => h (List.all_eq_true.mp k.2 i (List.mem_singleton.mpr rfl))]
theorem callC_rv4 (g : Fnc) (x1 x2 x3 x4 : D) : callC g ([.rf i, .vl x1, .vl x2, .vl x3, .vl x4], e1) = if isOw e1[i]? = true then (g [(e1[i]?).getD .no, .va x1, .va x2, .va x3, .va x4]).map (callC2 [.rf i, .vl x1, .vl x2, .vl x3, .vl x4] e1) else none := by
  by_cases h : isOw e1[i]? = true
  · rw [if_pos h, callC_r e1 i g [.vl x1, .vl x2, .vl x3, .vl x4] rfl h]; rfl
  · rw [if_neg h]
    unfold callC
    rw [if_neg fun k => h (List.all_eq_true.mp k.2 i (List.mem_singleton.mpr rfl))]
theorem arSl_vl : arSl e (.vl x) = .va x := rfl
theorem arSl_rf : arSl e (.rf i) = (e[i]?).getD .no := rfl
theorem callC2_ev (as : List Ar) (r : Sl) (ss : List Sl) : callC2 as e (r, ss) = (r, arBack as ss e) := rfl
theorem arBack_nil (ss : List Sl) : arBack [] ss e = e := by cases ss <;> rfl
theorem arBack_vl (as : List Ar) (s : Sl) (ss : List Sl) : arBack (.vl x :: as) (s :: ss) e = arBack as ss e := rfl
theorem arBack_rf (as : List Ar) (s : Sl) (ss : List Sl) : arBack (.rf i :: as) (s :: ss) e = arBack as ss (e.set i s) := rfl
theorem rNil_ev : rNil e = some ([], e) := rfl
def rvC2 (d : D) : List Ar × Ev → List Ar × Ev := fun q => (.vl d :: q.1, q.2)
def rvC (g : AF) : D × Ev → Option (List Ar × Ev) := fun p => (g p.2).map (rvC2 p.1)
theorem rVal_ev (g : AF) : rVal f g e = (f e).bind (rvC g) := rfl
theorem rvC_ev (g : AF) : rvC g (d, e1) = (g e1).map (rvC2 d) := rfl
theorem rvC2_ev (as : List Ar) : rvC2 d (as, e1) = (.vl d :: as, e1) := rfl
def rrC (i : Nat) : List Ar × Ev → List Ar × Ev := fun q => (.rf i :: q.1, q.2)
theorem rRef_ev (g : AF) : rRef i g e = if isOw e[i]? = true then (g e).map (rrC i) else none := rfl
theorem rrC_ev (as : List Ar) : rrC i (as, e1) = (.rf i :: as, e1) := rfl
/-! comprehensions -/
def compC2 (b : Ev) (vs : List Nat) : List D × Ev → Sl × Ev := fun r => (.li r.1, backE b r.2 vs)
def compC (t : GF) (c : BF) (f : EF) (vs : List Nat) : List D × Ev → Option (Sl × Ev) := fun p => if p.1.length ≤ sizeLine ∧ (vs.all fun i => !isOw p.2[i]?) = true then (compL t c f vs p.1 (wipeE p.2 vs)).map (compC2 p.2 vs) else none
theorem oComp_ev (g : LF) (t : GF) (c : BF) (vs : List Nat) : oComp g t c f vs e = (g e).bind (compC t c f vs) := rfl
theorem compC_ev (t : GF) (c : BF) (vs : List Nat) (h1 : ds.length ≤ sizeLine) (h2 : (vs.all fun i => !isOw e1[i]?) = true) : compC t c f vs (ds, e1) = (compL t c f vs ds (wipeE e1 vs)).map (compC2 e1 vs) := if_pos ⟨h1, h2⟩
theorem compC2_ev (vs : List Nat) : compC2 e vs (xs, e1) = (.li xs, backE e e1 vs) := rfl
theorem wipeE_nil : wipeE e [] = e := rfl
theorem wipeE_cons (v : Nat) (vs : List Nat) : wipeE e (v :: vs) = (wipeE e vs).set v .no := rfl
theorem backE_nil : backE e e1 [] = e1 := rfl
theorem backE_cons (v : Nat) (vs : List Nat) : backE e e1 (v :: vs) = (backE e e1 vs).set v ((e[v]?).getD .no) := rfl
/-! targets -/
theorem gNm_ev : gNm i d e = if isOw e[i]? = true then none else some (e.set i (.va d)) := rfl
theorem gTupF_ev (t : List D → Ev → Option Ev) (n : Nat) : gTupF t n (.tuple ds) e = if ds.length = n then t ds e else none := rfl
theorem gsNil_ev : gsNil [] e = some e := rfl
theorem gsCons_ev (t : GF) (u : List D → Ev → Option Ev) : gsCons t u (d :: ds) e = (t d e).bind (u ds) := rfl
/-! statements -/
theorem sNext_ev : sNext e = some (.nx e) := rfl
theorem sBreak_ev : sBreak e = some (.bk e) := rfl
theorem sCont_ev : sCont e = some (.ct e) := rfl
def seqC (g : SF) : O → Option O
  | .nx e1 => g e1
  | .bk e1 => some (.bk e1)
  | .ct e1 => some (.ct e1)
  | .rt r e1 => some (.rt r e1)
theorem sSeq_ev (f g : SF) : sSeq f g e = (f e).bind (seqC g) := by
  unfold sSeq
  cases f e with
  | none => rfl
  | some o => cases o <;> rfl
theorem seqC_nx (g : SF) : seqC g (.nx e1) = g e1 := rfl
theorem seqC_bk (g : SF) : seqC g (.bk e1) = some (.bk e1) := rfl
theorem seqC_ct (g : SF) : seqC g (.ct e1) = some (.ct e1) := rfl
theorem seqC_rt (g : SF) (r : Sl) : seqC g (.rt r e1) = some (.rt r e1) := rfl
def setC (i : Nat) : Sl × Ev → Option O := fun p => if isOw p.2[i]? = true then none else some (.nx (p.2.set i p.1))
theorem sSet_ev (f : OF) : sSet i f e = (f e).bind (setC i) := rfl
theorem setC_ev (s : Sl) : setC i (s, e1) = if isOw e1[i]? = true then none else some (.nx (e1.set i s)) := rfl
def parC (is : List Nat) : List Sl × Ev → Option O := fun p => (setAll is p.1 p.2).map O.nx
theorem sPar_ev (f : OLF) : sPar is f e = (f e).bind (parC is) := rfl
theorem parC_ev (ss : List Sl) : parC is (ss, e1) = (setAll is ss e1).map O.nx := rfl
theorem setAll_nil : setAll [] [] e = some e := rfl
theorem setAll_cons (s : Sl) (ss : List Sl) : setAll (i :: is) (s :: ss) e = if isOw e[i]? = true then none else setAll is ss (e.set i s) := rfl
theorem olNil_ev : olNil e = some ([], e) := rfl
def olC2 (s : Sl) : List Sl × Ev → List Sl × Ev := fun q => (s :: q.1, q.2)
def olC (g : OLF) : Sl × Ev → Option (List Sl × Ev) := fun p => (g p.2).map (olC2 p.1)
theorem olCons_ev (f : OF) (g : OLF) : olCons f g e = (f e).bind (olC g) := rfl
theorem olC_ev (g : OLF) (s : Sl) : olC g (s, e1) = (g e1).map (olC2 s) := rfl
theorem olC2_ev (s : Sl) (ss : List Sl) : olC2 s (ss, e1) = (s :: ss, e1) := rfl
def asgC (t : GF) : D × Ev → Option O := fun p => (t p.1 p.2).map O.nx
theorem sAsg_ev (t : GF) : sAsg f t e = (f e).bind (asgC t) := rfl
theorem asgC_ev (t : GF) : asgC t (d, e1) = (t d e1).map O.nx := rfl
def sifC (f g : SF) : Bool × Ev → Option O := fun p => if p.1 = true then f p.2 else g p.2
theorem sIf_ev (c : BF) (f g : SF) : sIf c f g e = (c e).bind (sifC f g) := rfl
theorem sifC_t (f g : SF) : sifC f g (true, e1) = f e1 := rfl
theorem sifC_f (f g : SF) : sifC f g (false, e1) = g e1 := rfl
def forC (t : GF) (b : SF) : List D × Ev → Option O := fun p => forL t b p.1 p.2
theorem sFor_ev (g : LF) (t : GF) (b : SF) : sFor g t b e = (g e).bind (forC t b) := rfl
theorem forC_ev (t : GF) (b : SF) : forC t b (ds, e1) = forL t b ds e1 := rfl
def dropC : D × Ev → O := fun p => .nx p.2
theorem sDrop_ev : sDrop f e = (f e).map dropC := rfl
theorem dropC_ev : dropC (d, e1) = .nx e1 := rfl
def retC : D × Ev → O := fun p => .rt (.va p.1) p.2
theorem sRet_ev : sRet f e = (f e).map retC := rfl
theorem retC_ev : retC (d, e1) = .rt (.va d) e1 := rfl
def retnC (i : Nat) (e : Ev) : Sl → Option O := fun s => match s with
  | .va d => some (.rt (.va d) e)
  | .li xs => some (.rt (.li xs) (e.set i .no))
  | .di xs => some (.rt (.di xs) (e.set i .no))
  | .dt xs => some (.rt (.dt xs) (e.set i .no))
  | _ => none
theorem sRetN_ev : sRetN i e = e[i]?.bind (retnC i e) := rfl
theorem retnC_va : retnC i e (.va d) = some (.rt (.va d) e) := rfl
theorem retnC_li : retnC i e (.li xs) = some (.rt (.li xs) (e.set i .no)) := rfl
theorem liOf_li : liOf (some (.li xs)) = some xs := rfl
def mt1C4 (i : Nat) (e : Ev) : D × List D → D × Ev := fun r => (r.1, e.set i (.li r.2))
def mt1C3 (g : List D → D → Option (D × List D)) (i : Nat) (d : D) (e : Ev) : List D → Option (D × Ev) := fun xs => (g xs d).map (mt1C4 i e)
def mt1C2 (g : List D → D → Option (D × List D)) (i : Nat) : D × Ev → Option (D × Ev) := fun p => (liOf p.2[i]?).bind (mt1C3 g i p.1 p.2)
def mt1C (g : List D → D → Option (D × List D)) (i : Nat) (f : EF) (e : Ev) : List D → Option (D × Ev) := fun _ => (f e).bind (mt1C2 g i)
theorem eMt1_ev (g : List D → D → Option (D × List D)) : eMt1 g i f e = (liOf e[i]?).bind (mt1C g i f e) := rfl
theorem mt1C_ev (g : List D → D → Option (D × List D)) : mt1C g i f e xs = (f e).bind (mt1C2 g i) := rfl
theorem mt1C2_ev (g : List D → D → Option (D × List D)) : mt1C2 g i (d, e1) = (liOf e1[i]?).bind (mt1C3 g i d e1) := rfl
theorem mt1C3_ev (g : List D → D → Option (D × List D)) : mt1C3 g i d e xs = (g xs d).map (mt1C4 i e) := rfl
theorem mt1C4_ev : mt1C4 i e (d, xs) = (d, e.set i (.li xs)) := rfl
def mt0C (g : List D → Option (D × List D)) (i : Nat) (e : Ev) : List D → Option (D × Ev) := fun xs => (g xs).map (mt1C4 i e)
theorem eMt0_ev (g : List D → Option (D × List D)) : eMt0 g i e = (liOf e[i]?).bind (mt0C g i e) := rfl
theorem mt0C_ev (g : List D → Option (D × List D)) : mt0C g i e xs = (g xs).map (mt1C4 i e) := rfl
def subC4 (i : Nat) (e : Ev) (xs : List D) (v : D) : Nat → O := fun j => .nx (e.set i (.li (xs.set j v)))
def subC3 (i : Nat) (v k : D) (e : Ev) : List D → Option O := fun xs => match k with
  | .int k => (ixN xs.length k).map (subC4 i e xs v)
  | _ => none
def subC2 (i : Nat) (v : D) : D × Ev → Option O := fun q => (liOf q.2[i]?).bind (subC3 i v q.1 q.2)
def subC1 (i : Nat) (fi : EF) (v : D) (e : Ev) : List D → Option O := fun _ => (fi e).bind (subC2 i v)
def subC (i : Nat) (fi : EF) : D × Ev → Option O := fun p => (liOf p.2[i]?).bind (subC1 i fi p.1 p.2)
theorem sSub_ev (fi fv : EF) : sSub i fi fv e = (fv e).bind (subC i fi) := rfl
theorem subC_ev (fi : EF) : subC i fi (x, e1) = (liOf e1[i]?).bind (subC1 i fi x e1) := rfl
theorem subC1_ev (fi : EF) : subC1 i fi x e xs = (fi e).bind (subC2 i x) := rfl
theorem subC2_ev : subC2 i x (y, e1) = (liOf e1[i]?).bind (subC3 i x y e1) := rfl
theorem subC3_ev (k : Int) : subC3 i x (.int k) e xs = (ixN xs.length k).map (subC4 i e xs x) := rfl
theorem subC4_ev (j : Nat) : subC4 i e xs x j = .nx (e.set i (.li (xs.set j x))) := rfl
def augC3 (i : Nat) (e : Ev) : D → Option O := fun d => if isOw e[i]? = true then none else some (.nx (e.set i (.va d)))
def augC2 (g : D → D → Option D) (i : Nat) (x : D) : D × Ev → Option O := fun p => (g x p.1).bind (augC3 i p.2)
def augC (g : D → D → Option D) (i : Nat) (f : EF) (e : Ev) : Option Sl → Option O
  | some (.va x) => (f e).bind (augC2 g i x)
  | _ => none
theorem sAug_ev (g : D → D → Option D) : sAug g i f e = augC g i f e e[i]? := rfl
theorem augC_ev (g : D → D → Option D) : augC g i f e (some (.va x)) = (f e).bind (augC2 g i x) := rfl
theorem augC2_ev (g : D → D → Option D) : augC2 g i x (y, e1) = (g x y).bind (augC3 i e1) := rfl
theorem augC3_ev : augC3 i e d = if isOw e[i]? = true then none else some (.nx (e.set i (.va d))) := rfl
def mkC (ss : List Sl) : O → Option (Sl × List Sl)
  | .rt r e => some (r, keepE ss e)
  | .nx e => some (.va .none, keepE ss e)
  | _ => none
theorem mkF_ev (n : Nat) (b : SF) (ss : List Sl) : mkF n b ss = (b (ss ++ List.replicate (n - ss.length) .no)).bind (mkC ss) := by
  unfold mkF
  cases b (ss ++ List.replicate (n - ss.length) .no) with
  | none => rfl
  | some o => cases o <;> rfl
theorem mkC_rt (ss : List Sl) (r : Sl) : mkC ss (.rt r e) = some (r, keepE ss e) := rfl
theorem mkC_nx (ss : List Sl) : mkC ss (.nx e) = some (.va .none, keepE ss e) := rfl
theorem keepE_nil : keepE [] e = [] := rfl
theorem keepE_va (ss : List Sl) : keepE (.va d :: ss) e = .no :: keepE ss e.tail := rfl
theorem keepE_ow' (t : OT) (ss : List Sl) : keepE (.ow t :: ss) e = e.headD .no :: keepE ss e.tail := rfl
/-! the values' own operations -/
theorem dTru_bool (b : Bool) : dTru (.bool b) = some b := rfl
theorem dTru_int (k : Int) : dTru (.int k) = some (k != 0) := rfl
theorem dTru_none : dTru .none = some false := rfl
theorem dTru_list : dTru (.list xs) = some (!xs.isEmpty) := rfl
theorem dTru_tuple : dTru (.tuple xs) = some (!xs.isEmpty) := rfl
theorem dAdd_int (k j : Int) : dAdd (.int k) (.int j) = some (.int (k + j)) := rfl
theorem dAdd_tup : dAdd (.tuple xs) (.tuple ys) = if xs.length + ys.length ≤ sizeLine then some (.tuple (xs ++ ys)) else none := rfl
theorem dAdd_lst : dAdd (.list xs) (.list ys) = if xs.length + ys.length ≤ sizeLine then some (.list (xs ++ ys)) else none := rfl
theorem dIadd_int (k j : Int) : dIadd (.int k) (.int j) = some (.int (k + j)) := rfl
theorem dSub_int (k j : Int) : dSub (.int k) (.int j) = some (.int (k - j)) := rfl
theorem dMul_int (k j : Int) : dMul (.int k) (.int j) = if CMul k j then some (.int (k * j)) else none := rfl
theorem dDiv_int (k j : Int) : dDiv (.int k) (.int j) = if CDiv k j then some (.int (k / j)) else none := rfl
theorem dMod_int (k j : Int) : dMod (.int k) (.int j) = if 0 < j then some (.int (k % j)) else none := rfl
theorem dNeg_int (k : Int) : dNeg (.int k) = some (.int (-k)) := rfl
theorem dMin2_int (k j : Int) : dMin2 (.int k) (.int j) = some (.int (if j < k then j else k)) := rfl
theorem dMax2_int (k j : Int) : dMax2 (.int k) (.int j) = some (.int (if j > k then j else k)) := rfl
theorem dLtA_int (k j : Int) : dLtA (.int k) (.int j) = some (.bool (decide (k < j))) := rfl
theorem dLe_int (k j : Int) : dLe (.int k) (.int j) = some (.bool (decide (k ≤ j))) := rfl
theorem dLt_int (k j : Int) : dLt (.int k) (.int j) = some (.bool (decide (k < j))) := rfl
theorem dGt_int (k j : Int) : dGt (.int k) (.int j) = some (.bool (decide (j < k))) := rfl
theorem dGe_int (k j : Int) : dGe (.int k) (.int j) = some (.bool (decide (j ≤ k))) := rfl
theorem shaped_int (k : Int) : SeqAt.shaped (.int k) = true := rfl
theorem shaped_bool (k : Bool) : SeqAt.shaped (.bool k) = true := rfl
theorem shaped_none : SeqAt.shaped .none = true := rfl
theorem eqv_int (k j : Int) : PyData.eqv (.int k) (.int j) = (k == j) := by rw [PyData.eqv]
theorem eqv_bool (k j : Bool) : PyData.eqv (.bool k) (.bool j) = (k == j) := by rw [PyData.eqv]
theorem dEq_int (k j : Int) : dEq (.int k) (.int j) = some (.bool (k == j)) := by unfold dEq; rw [if_pos ⟨shaped_int k, shaped_int j⟩, eqv_int]
theorem dNe_int (k j : Int) : dNe (.int k) (.int j) = some (.bool (!(k == j))) := by unfold dNe; rw [if_pos ⟨shaped_int k, shaped_int j⟩, eqv_int]
theorem dEq_bool (k j : Bool) : dEq (.bool k) (.bool j) = some (.bool (k == j)) := by unfold dEq; rw [if_pos ⟨shaped_bool k, shaped_bool j⟩, eqv_bool]
theorem dIs_none : dIs x .none = some (.bool (isNon x)) := rfl
theorem dIsN_none : dIsN x .none = some (.bool (!isNon x)) := rfl
theorem isNon_none : isNon .none = true := rfl
theorem isNon_int (k : Int) : isNon (.int k) = false := rfl
theorem isNon_tup : isNon (.tuple xs) = false := rfl
theorem isNon_bool (b : Bool) : isNon (.bool b) = false := rfl
theorem dLen_tup : dLen (.tuple xs) = some (.int xs.length) := rfl
theorem dLen_lst : dLen (.list xs) = some (.int xs.length) := rfl
theorem dIx_tup (k : Int) : dIx (.tuple xs) (.int k) = atI xs k := rfl
theorem dIx_lst (k : Int) : dIx (.list xs) (.int k) = atI xs k := rfl
theorem at0 : atI (x :: xs) 0 = some x := atI_nat (j := 0) rfl
theorem at1 : atI (x :: y :: xs) 1 = some y := atI_nat (j := 1) rfl
theorem at2 (z : D) : atI (x :: y :: z :: xs) 2 = some z := atI_nat (j := 2) rfl
theorem at3 (z u : D) : atI (x :: y :: z :: u :: xs) 3 = some u := atI_nat (j := 3) rfl
theorem gExtend_lst : gExtend ds (.list xs) = if ds.length + xs.length ≤ sizeLine then some (.none, ds ++ xs) else none := rfl
theorem dTuple_lst : dTuple (.list xs) = some (.tuple xs) := rfl
theorem dTuple_tup : dTuple (.tuple xs) = some (.tuple xs) := rfl
theorem dList_lst : dList (.list xs) = some xs := rfl
theorem dList_tup : dList (.tuple xs) = some xs := rfl
theorem dInt_int (k : Int) : dInt (.int k) = some (.int k) := rfl
theorem dSl_tup (lo hi : Option Int) : dSl lo hi (.tuple xs) = some (.tuple (cutD xs lo hi)) := rfl
theorem dSl_lst (lo hi : Option Int) : dSl lo hi (.list xs) = some (.list (cutD xs lo hi)) := rfl
theorem isi_tup (p : D → Bool) : dIsi p (.tuple xs) = some (.bool (p (.tuple xs))) := rfl
theorem isi_lst (p : D → Bool) : dIsi p (.list xs) = some (.bool (p (.list xs))) := rfl
theorem isi_int (p : D → Bool) (k : Int) : dIsi p (.int k) = some (.bool (p (.int k))) := rfl
theorem isi_bool (p : D → Bool) (k : Bool) : dIsi p (.bool k) = some (.bool (p (.bool k))) := rfl
theorem isi_str (p : D → Bool) (k : Str) : dIsi p (.str k) = some (.bool (p (.str k))) := rfl
theorem isi_none (p : D → Bool) : dIsi p .none = some (.bool (p .none)) := rfl
theorem sz0 : 0 ≤ sizeLine := by decide
theorem sz1 : 1 ≤ sizeLine := by decide
theorem sz2 : 2 ≤ sizeLine := by decide
theorem sz3 : 3 ≤ sizeLine := by decide
theorem sz4 : 4 ≤ sizeLine := by decide
theorem sz5 : 5 ≤ sizeLine := by decide
theorem sz6 : 6 ≤ sizeLine := by decide
theorem sz7 : 7 ≤ sizeLine := by decide
theorem sz8 : 8 ≤ sizeLine := by decide
theorem sz9 : 9 ≤ sizeLine := by decide
theorem sz10 : 10 ≤ sizeLine := by decide
theorem sz11 : 11 ≤ sizeLine := by decide
theorem sz12 : 12 ≤ sizeLine := by decide
/-! ownership at written slots -/
theorem isOw_no : isOw (some .no) = false := rfl
theorem isOw_va : isOw (some (.va d)) = false := rfl
theorem isOw_li : isOw (some (.li xs)) = false := rfl
theorem isOw_di (r : List (Key × D)) : isOw (some (.di r)) = false := rfl
theorem isOw_dt (r : List (List Key × D)) : isOw (some (.dt r)) = false := rfl
theorem isOw_ow (t : OT) : isOw (some (.ow t)) = true := rfl
theorem isOw_none : isOw none = false := rfl
end
def sl : Option D → Sl
  | none => .no
  | some d => .va d
theorem isOw_sl (m : Option D) : isOw (some (sl m)) = false := by cases m <;> rfl
end Fl

set_option linter.all false
set_option maxRecDepth 100000
set_option maxHeartbeats 1000000
set_option autoImplicit false
/-! FnPure: plain lemmas about the layer's functions. -/
namespace Fl
open PySem PySem.Spec PyProof.Rows L2
abbrev iL (xs : List Int) : List D := xs.map PyData.int
theorem iL_app (xs : List Int) (v : Int) : iL xs ++ [PyData.int v] = iL (xs ++ [v]) := by simp [iL]
theorem iL_len (xs : List Int) : (iL xs).length = xs.length := List.length_map _
theorem small1M {n : Nat} (h : n < 1000000) : n < sizeLine := Nat.lt_trans h (by decide)
theorem small1Me {n : Nat} (h : n ≤ 1000000) : n ≤ sizeLine := Nat.le_trans h (by decide)
theorem atI_end (xs : List D) (v : D) : atI (xs ++ [v]) (-1) = some v := atI_last xs v
theorem atI_ofNat {α : Type} {xs : List α} {j : Nat} {v : α} (h : xs[j]? = some v) : atI xs (j : Int) = some v := atI_nat h
/-! own lists -/
theorem gAppend_ok {xs : List D} {d : D} (h : xs.length < 1000000) : gAppend xs d = some (.none, xs ++ [d]) := if_pos (small1M h)
theorem gPop_ok {xs : List D} {d : D} : gPop (xs ++ [d]) = some (d, xs) := by
  unfold gPop
  rw [List.length_append, List.length_singleton, Nat.add_sub_cancel, List.getElem?_append_right (Nat.le_refl _), Nat.sub_self, List.dropLast_concat]
  rfl
theorem iL_cat (xs : List Int) (v : Int) : iL (xs ++ [v]) = iL xs ++ [PyData.int v] := by simp [iL]
theorem intsOf_tup (ns : List Int) : intsOf (.tuple (iL ns)) = some ns := asInts_map ns
theorem intsOf_lst (ns : List Int) : intsOf (.list (iL ns)) = some ns := asInts_map ns
theorem dSum_tup (ns : List Int) : dSum (.tuple (iL ns)) = some (.int ns.sum) := by unfold dSum; rw [intsOf_tup]; rfl
theorem dSum_lst (ns : List Int) : dSum (.list (iL ns)) = some (.int ns.sum) := by unfold dSum; rw [intsOf_lst]; rfl
theorem emp_iL (xs : List Int) : (iL xs).isEmpty = xs.isEmpty := by cases xs <;> rfl
theorem emp_cat {α : Type} (xs : List α) (v : α) : (xs ++ [v]).isEmpty = false := by cases xs <;> rfl
theorem atI_iL {xs : List Int} {j : Nat} {v : Int} (h : xs[j]? = some v) : atI (iL xs) (j : Int) = some (.int v) := atI_ofNat (by rw [List.getElem?_map, h]; rfl)
theorem atI_iL' {xs : List Int} {j : Nat} (h : j < xs.length) : atI (iL xs) (j : Int) = some (.int (xs.getD j 0)) := atI_iL (by rw [List.getD_eq_getElem?_getD, List.getElem?_eq_getElem h]; rfl)
theorem nilCat {α : Type} (xs : List α) : xs = [] ∨ ∃ ys y, xs = ys ++ [y] := by
  rcases List.eq_nil_or_concat xs with h | ⟨ys, y, h⟩
  · exact .inl h
  · exact .inr ⟨ys, y, h.trans (List.concat_eq_append)⟩
theorem min_if (a b : Int) : (if b < a then b else a) = min a b := by split <;> omega
theorem max_if (a b : Int) : (if b > a then b else a) = max a b := by split <;> omega
/-! ### in, of ints -/
theorem flat_iL (os : List Int) : (iL os).all flatD = true := by
  rw [List.all_map]
  exact List.all_eq_true.mpr fun _ _ => rfl
theorem any_iL (s : Int) : ∀ os : List Int, ((iL os).any fun z => PyData.eqv z (.int s)) = decide (s ∈ os)
  | [] => rfl
  | o :: os => by
    show (PyData.eqv (.int o) (.int s) || (iL os).any _) = _
    rw [eqv_int, any_iL s os]
    by_cases h : o = s
    · subst h; simp
    · have h2 : (o == s) = false := by simpa using h
      rw [h2, Bool.false_or]
      by_cases k : s ∈ os
      · rw [decide_eq_true k, decide_eq_true (List.mem_cons_of_mem _ k)]
      · rw [decide_eq_false k, decide_eq_false fun z => (List.mem_cons.mp z).elim (fun e => h e.symm) k]
theorem inB_tup (s : Int) (os : List Int) : dInB false (.int s) (.tuple (iL os)) = some (.bool (decide (s ∈ os))) := by
  show (if flatD (.int s) = true ∧ (iL os).all flatD = true then some (PyData.bool (if false = true then _ else (iL os).any fun z => PyData.eqv z (.int s))) else none) = _
  rw [if_pos ⟨rfl, flat_iL os⟩, any_iL]; rfl
theorem inB_lst (s : Int) (os : List Int) : dInB false (.int s) (.list (iL os)) = some (.bool (decide (s ∈ os))) := inB_tup s os
theorem ninB_tup (s : Int) (os : List Int) : dInB true (.int s) (.tuple (iL os)) = some (.bool (!decide (s ∈ os))) := by
  show (if flatD (.int s) = true ∧ (iL os).all flatD = true then some (PyData.bool (if true = true then !((iL os).any fun z => PyData.eqv z (.int s)) else _)) else none) = _
  rw [if_pos ⟨rfl, flat_iL os⟩, any_iL]; rfl
theorem ninB_lst (s : Int) (os : List Int) : dInB true (.int s) (.list (iL os)) = some (.bool (!decide (s ∈ os))) := ninB_tup s os
/-! ### cuts -/
theorem cutD_m1 {α : Type} (xs : List α) (v : α) : cutD (xs ++ [v]) none (some (-1)) = xs := by
  unfold cutD
  have h1 : HT.sIx (xs ++ [v]).length 0 none = 0 := rfl
  have h2 : HT.sIx (xs ++ [v]).length (xs ++ [v]).length (some (-1)) = xs.length := by
    show (if (-1 : Int) < 0 then ((-1) + ((xs ++ [v]).length : Int)).toNat else min (-1 : Int).toNat (xs ++ [v]).length) = _
    rw [if_pos (by decide), List.length_append, List.length_singleton]
    omega
  rw [h1, h2, List.drop_zero, Nat.sub_zero, List.take_left' rfl]
theorem cutD_to {α : Type} (xs : List α) (k : Nat) : cutD xs none (some (k : Int)) = xs.take k := by
  unfold cutD
  rw [HT.sIx_nat, show HT.sIx xs.length 0 none = 0 from rfl, List.drop_zero, Nat.sub_zero]
  rcases Nat.le_total k xs.length with h | h
  · rw [Nat.min_eq_left h]
  · rw [Nat.min_eq_right h, List.take_length, List.take_of_length_le h]
theorem cutD_from {α : Type} (xs : List α) (k : Nat) : cutD xs (some (k : Int)) none = xs.drop k := by
  unfold cutD
  rw [HT.sIx_nat, show HT.sIx xs.length xs.length none = xs.length from rfl]
  rcases Nat.le_total k xs.length with h | h
  · rw [Nat.min_eq_left h, List.take_of_length_le (by rw [List.length_drop]; omega)]
  · rw [Nat.min_eq_right h, List.drop_eq_nil_of_le (Nat.le_refl _), List.drop_eq_nil_of_le h]; simp
/-! ### loops -/
theorem forL_nil {t : GF} {b : SF} {e : Ev} : forL t b [] e = some (.nx e) := rfl
theorem forL_step {t : GF} {b : SF} {d : D} {ds : List D} {e e1 e2 : Ev} (h1 : t d e = some e1) (h2 : b e1 = some (.nx e2)) : forL t b (d :: ds) e = forL t b ds e2 := by
  unfold forL
  rw [h1]
  show ((b e1).bind _) = _
  rw [h2]
  cases ds <;> rfl
theorem forL_stepC {t : GF} {b : SF} {d : D} {ds : List D} {e e1 e2 : Ev} (h1 : t d e = some e1) (h2 : b e1 = some (.ct e2)) : forL t b (d :: ds) e = forL t b ds e2 := by
  unfold forL
  rw [h1]
  show ((b e1).bind _) = _
  rw [h2]
  cases ds <;> rfl
theorem forL_stepB {t : GF} {b : SF} {d : D} {ds : List D} {e e2 : Ev} (h : (t d e).bind b = some (.nx e2)) : forL t b (d :: ds) e = forL t b ds e2 := by
  obtain ⟨e1, h1, h2⟩ := Option.bind_eq_some_iff.mp h
  exact forL_step h1 h2
theorem forL_ret {t : GF} {b : SF} {d : D} {ds : List D} {e e2 : Ev} {r : Sl} (h : (t d e).bind b = some (.rt r e2)) : forL t b (d :: ds) e = some (.rt r e2) := by
  obtain ⟨e1, h1, h2⟩ := Option.bind_eq_some_iff.mp h
  unfold forL
  rw [h1]
  show ((b e1).bind _) = _
  rw [h2]
  cases ds <;> rfl
/-- a loop by the index of its item -/
theorem forL_at {A : Type} {t : GF} {b : SF} {ds : List D} (enc : Nat → A → Ev) (I : Nat → A → Prop)
    (h : ∀ n a d, ds[n]? = some d → I n a → ∃ a', (t d (enc n a)).bind b = some (.nx (enc (n + 1) a')) ∧ I (n + 1) a') (a0 : A) (h0 : I 0 a0) : ∃ a', forL t b ds (enc 0 a0) = some (.nx (enc ds.length a')) ∧ I ds.length a' := by
  have key : ∀ (k n : Nat) (a : A), n + k = ds.length → I n a → ∃ a', forL t b (ds.drop n) (enc n a) = some (.nx (enc ds.length a')) ∧ I ds.length a' := fun k => by
    induction k with
    | zero =>
      intro n a hn hi
      have : n = ds.length := by omega
      subst this
      rw [List.drop_eq_nil_of_le (Nat.le_refl _)]
      exact ⟨a, rfl, hi⟩
    | succ k ih =>
      intro n a hn hi
      have hl : n < ds.length := by omega
      obtain ⟨a', h1, h2⟩ := h n a ds[n] (List.getElem?_eq_getElem hl) hi
      rw [List.drop_eq_getElem_cons hl, forL_stepB h1]
      exact ih (n + 1) a' (by omega) h2
  exact key ds.length 0 a0 (by omega) h0
/-- the same, where a turn may go on early -/
theorem forL_stepD {t : GF} {b : SF} {d : D} {ds : List D} {e e2 : Ev} (h : (t d e).bind b = some (.ct e2)) : forL t b (d :: ds) e = forL t b ds e2 := by
  obtain ⟨e1, h1, h2⟩ := Option.bind_eq_some_iff.mp h
  exact forL_stepC h1 h2
theorem forL_atC {t : GF} {b : SF} (I : Ev → Prop) (h : ∀ d e, I e → ∃ e', ((t d e).bind b = some (.nx e') ∨ (t d e).bind b = some (.ct e')) ∧ I e') : ∀ (ds : List D) (e : Ev), I e → ∃ e', forL t b ds e = some (.nx e') ∧ I e'
  | [], e, hi => ⟨e, rfl, hi⟩
  | d :: ds, e, hi => by
    obtain ⟨e1, h1, h2⟩ := h d e hi
    obtain ⟨e2, h3, h4⟩ := forL_atC I h ds e1 h2
    rcases h1 with h1 | h1
    · exact ⟨e2, by rw [forL_stepB h1]; exact h3, h4⟩
    · exact ⟨e2, by rw [forL_stepD h1]; exact h3, h4⟩
/-- a loop as a fold over states -/
theorem forL_fold {α S : Type} {t : GF} {b : SF} (encx : α → D) (enc : S → Ev) (step : S → α → S) (I : S → List α → Prop)
    (h : ∀ s x xs, I s (x :: xs) → ∃ e1, t (encx x) (enc s) = some e1 ∧ b e1 = some (.nx (enc (step s x))) ∧ I (step s x) xs) : ∀ (xs : List α) (s : S), I s xs → forL t b (xs.map encx) (enc s) = some (.nx (enc (xs.foldl step s)))
  | [], s, _ => rfl
  | x :: xs, s, hi => by
    obtain ⟨e1, h1, h2, h3⟩ := h s x xs hi
    rw [List.map_cons, forL_step h1 h2, List.foldl_cons]
    exact forL_fold encx enc step I h xs _ h3
/-- a loop that keeps a word: by the items left -/
theorem forL_inv {t : GF} {b : SF} (I : List D → Ev → Prop) (h : ∀ d ds e, I (d :: ds) e → ∃ e1 e2, t d e = some e1 ∧ b e1 = some (.nx e2) ∧ I ds e2) : ∀ (ds : List D) (e : Ev), I ds e → ∃ e', forL t b ds e = some (.nx e') ∧ I [] e'
  | [], e, hi => ⟨e, rfl, hi⟩
  | d :: ds, e, hi => by
    obtain ⟨e1, e2, h1, h2, h3⟩ := h d ds e hi
    rw [forL_step h1 h2]
    exact forL_inv I h ds e2 h3
/-- a while that keeps a word -/
theorem while_inv {c : BF} {b : SF} (I : Ev → Prop) (μ : Ev → Nat) (h : ∀ e, I e → (∃ e', c e = some (false, e') ∧ I e') ∨ ∃ e1 e2, c e = some (true, e1) ∧ b e1 = some (.nx e2) ∧ I e2 ∧ μ e2 < μ e) : ∀ (n : Nat) (e : Ev), μ e ≤ n → I e → ∃ e0 e', sWhile c b e = some (.nx e') ∧ I e0 ∧ c e0 = some (false, e') ∧ I e'
  | n, e, hn, hi => by
    rcases h e hi with ⟨e', h1, h2⟩ | ⟨e1, e2, h1, h2, h3, h4⟩
    · refine ⟨e, e', ?_, hi, h1, h2⟩
      rw [sWhile_eq, h1]; rfl
    · cases n with
      | zero => omega
      | succ n =>
        obtain ⟨e0, e', k1, k2, k3, k4⟩ := while_inv I μ h n e2 (by omega) h3
        refine ⟨e0, e', ?_, k2, k3, k4⟩
        rw [sWhile_eq, h1]
        show ((b e1).bind _) = _
        rw [h2]
        exact k1
/-- a while over states: as long as the test holds -/
theorem while_st {S : Type} {c : BF} {b : SF} (enc : S → Ev) (test : S → Bool) (step : S → S) (I : S → Prop) (μ : S → Nat)
    (h : ∀ s, I s → c (enc s) = some (test s, enc s) ∧ (test s = true → b (enc s) = some (.nx (enc (step s))) ∧ I (step s) ∧ μ (step s) < μ s)) : ∀ (n : Nat) (s : S), μ s ≤ n → I s → ∃ s', sWhile c b (enc s) = some (.nx (enc s')) ∧ I s' ∧ test s' = false ∧ ∀ P : S → Prop, P s → (∀ u, I u → test u = true → P u → P (step u)) → P s'
  | n, s, hn, hi => by
    obtain ⟨h1, h2⟩ := h s hi
    cases ht : test s with
    | false =>
      refine ⟨s, ?_, hi, ht, fun P h _ => h⟩
      rw [sWhile_eq, h1, ht]; rfl
    | true =>
      obtain ⟨h3, h4, h5⟩ := h2 ht
      cases n with
      | zero => omega
      | succ n =>
        obtain ⟨s', k1, k2, k3, k4⟩ := while_st enc test step I μ h n (step s) (by omega) h4
        refine ⟨s', ?_, k2, k3, fun P hp hs => k4 P (hs s hi ht hp) hs⟩
        rw [sWhile_eq, h1, ht]
        show ((b (enc s)).bind _) = _
        rw [h3]
        exact k1
theorem ixN_nat' {n k : Nat} (h : k < n) : ixN n (k : Int) = some k := by
  unfold ixN
  rw [if_pos (by omega), if_pos (by omega), Int.toNat_natCast]
theorem iL_set (xs : List Int) (k : Nat) (v : Int) : (iL xs).set k (.int v) = iL (xs.set k v) := by simp [iL]
/-! ### a list that turns into another, place by place -/
def mix {α : Type} (k : Nat) (xs ys : List α) : List α := ys.take k ++ xs.drop k
theorem mix_zero {α : Type} (xs ys : List α) : mix 0 xs ys = xs := rfl
theorem mix_all {α : Type} {xs ys : List α} {n : Nat} (h1 : ys.length = n) (h2 : xs.length = n) : mix n xs ys = ys := by
  unfold mix
  rw [List.take_of_length_le (by omega), List.drop_eq_nil_of_le (by omega), List.append_nil]
theorem mix_len {α : Type} {xs ys : List α} {k n : Nat} (h1 : ys.length = n) (h2 : xs.length = n) (hk : k ≤ n) : (mix k xs ys).length = n := by
  unfold mix
  rw [List.length_append, List.length_take, List.length_drop]; omega
theorem mix_get {α : Type} {xs ys : List α} {k : Nat} (h1 : ys.length = xs.length) (hk : k < xs.length) : (mix k xs ys)[k]? = xs[k]? := by
  unfold mix
  rw [List.getElem?_append_right (by rw [List.length_take]; omega), List.getElem?_drop, List.length_take]
  congr 1; omega
theorem mix_set {α : Type} {xs ys : List α} {k : Nat} {v : α} (h1 : ys.length = xs.length) (hv : ys[k]? = some v) : (mix k xs ys).set k v = mix (k + 1) xs ys := by
  have hk : k < ys.length := (List.getElem?_eq_some_iff.mp hv).1
  unfold mix
  have hl : (ys.take k).length = k := by rw [List.length_take]; omega
  rw [List.set_append, if_neg (by omega), hl, Nat.sub_self, List.drop_eq_getElem_cons (by omega : k < xs.length), List.set_cons_zero, List.take_add_one, hv, List.append_assoc]
  rfl
theorem nilCons {α : Type} : ∀ xs : List α, xs = [] ∨ ∃ x r, xs = x :: r
  | [] => .inl rfl
  | x :: r => .inr ⟨x, r, rfl⟩
theorem erase_perm {α : Type} : ∀ (l : List α) (j : Nat) (v : α), l[j]? = some v → (v :: l.eraseIdx j).Perm l
  | [], _, _, h => by cases h
  | x :: l, 0, v, h => by cases h; exact List.Perm.refl _
  | x :: l, j + 1, v, h => by
    have ih := erase_perm l j v h
    exact (List.Perm.swap x v (l.eraseIdx j)).trans (ih.cons x)
theorem iL_erase : ∀ (xs : List Int) (j : Nat), (iL xs).eraseIdx j = iL (xs.eraseIdx j)
  | [], _ => rfl
  | _ :: _, 0 => rfl
  | x :: xs, j + 1 => by show PyData.int x :: (iL xs).eraseIdx j = PyData.int x :: iL (xs.eraseIdx j); rw [iL_erase xs j]
theorem gPopAt_int (xs : List D) (k : Int) : gPopAt xs (.int k) = if -(2 ^ 63) ≤ k ∧ k < 2 ^ 63 then (ixN xs.length k).bind fun j => (xs[j]?).map fun y => (y, xs.eraseIdx j) else none := rfl
theorem gPopAt_ok {xs : List Int} {j : Nat} {v : Int} (hl : xs.length ≤ 1000000) (h : xs[j]? = some v) : gPopAt (iL xs) (.int j) = some (.int v, iL (xs.eraseIdx j)) := by
  have hj : j < xs.length := (List.getElem?_eq_some_iff.mp h).1
  rw [gPopAt_int, if_pos ⟨by omega, by omega⟩, ixN_nat' (by rw [iL_len]; omega), Option.bind_some, List.getElem?_map, h]
  show some (_, (iL xs).eraseIdx _) = _
  rw [iL_erase]
/-- a while over states, the next state of any kind -/
theorem while_ex {S : Type} {c : BF} {b : SF} (enc : S → Ev) (I Q : S → Prop) (μ : S → Nat)
    (h : ∀ s, I s → (c (enc s) = some (false, enc s) ∧ Q s) ∨ (c (enc s) = some (true, enc s) ∧ ∃ s', b (enc s) = some (.nx (enc s')) ∧ I s' ∧ μ s' < μ s)) : ∀ (s : S), I s → ∃ s', sWhile c b (enc s) = some (.nx (enc s')) ∧ I s' ∧ Q s' := by
  have key : ∀ (n : Nat) (s : S), μ s ≤ n → I s → ∃ s', sWhile c b (enc s) = some (.nx (enc s')) ∧ I s' ∧ Q s' := fun n => by
    induction n with
    | zero =>
      intro s hn hi
      rcases h s hi with ⟨h1, h2⟩ | ⟨h1, s', h2, h3, h4⟩
      · exact ⟨s, by rw [sWhile_eq, h1]; rfl, hi, h2⟩
      · omega
    | succ n ih =>
      intro s hn hi
      rcases h s hi with ⟨h1, h2⟩ | ⟨h1, s', h2, h3, h4⟩
      · exact ⟨s, by rw [sWhile_eq, h1]; rfl, hi, h2⟩
      · obtain ⟨s2, k1, k2, k3⟩ := ih s' (by omega) h3
        refine ⟨s2, ?_, k2, k3⟩
        rw [sWhile_eq, h1]
        show ((b (enc s)).bind _) = _
        rw [h2]
        exact k1
  exact fun s hi => key _ s (Nat.le_refl _) hi
/-! ### comprehensions -/
theorem compL_nil {t : GF} {c : BF} {f : EF} {vs : List Nat} {e : Ev} : compL t c f vs [] e = some ([], e) := rfl
theorem compL_cons {t : GF} {c : BF} {f : EF} {vs : List Nat} {d : D} {ds : List D} {e : Ev} : compL t c f vs (d :: ds) e = (t d e).bind fun e1 => (c e1).bind fun p => if p.1 = true then (f p.2).bind fun q => (compL t c f vs ds (wipeE q.2 vs)).map fun r => (q.1 :: r.1, r.2) else compL t c f vs ds (wipeE p.2 vs) := rfl
theorem compL_take {t : GF} {c : BF} {f : EF} {vs : List Nat} {d : D} {ds : List D} {e e1 e2 e3 : Ev} {v : D} (h1 : t d e = some e1) (h2 : c e1 = some (true, e2)) (h3 : f e2 = some (v, e3)) : compL t c f vs (d :: ds) e = (compL t c f vs ds (wipeE e3 vs)).map fun r => (v :: r.1, r.2) := by
  rw [compL_cons, h1, Option.bind_some, h2, Option.bind_some, if_pos rfl, h3, Option.bind_some]
theorem compL_skip {t : GF} {c : BF} {f : EF} {vs : List Nat} {d : D} {ds : List D} {e e1 e2 : Ev} (h1 : t d e = some e1) (h2 : c e1 = some (false, e2)) : compL t c f vs (d :: ds) e = compL t c f vs ds (wipeE e2 vs) := by
  rw [compL_cons, h1, Option.bind_some, h2, Option.bind_some, if_neg Bool.false_ne_true]
/-- a comprehension that changes nothing else: a filter and a map -/
theorem compL_map {α : Type} {t : GF} {c : BF} {f : EF} {vs : List Nat} (encx : α → D) (p : α → Bool) (g : α → D) (e : Ev) : ∀ (xs : List α),
    (∀ x ∈ xs, ∃ e1 e2 e3, t (encx x) e = some e1 ∧ c e1 = some (p x, e2) ∧ (p x = true → f e2 = some (g x, e3) ∧ wipeE e3 vs = e) ∧ (p x = false → wipeE e2 vs = e)) → compL t c f vs (xs.map encx) e = some ((xs.filter p).map g, e)
  | [], _ => rfl
  | x :: xs, h => by
    obtain ⟨e1, e2, e3, h1, h2, h3, h4⟩ := h x List.mem_cons_self
    have ih := compL_map encx p g e xs fun y hy => h y (List.mem_cons_of_mem _ hy)
    rw [List.map_cons]
    cases hp : p x with
    | true =>
      rw [hp] at h2
      obtain ⟨k1, k2⟩ := h3 hp
      rw [compL_take h1 h2 k1, k2, ih, List.filter_cons_of_pos hp]; rfl
    | false =>
      rw [hp] at h2
      rw [compL_skip h1 h2, h4 hp, ih, List.filter_cons_of_neg (by simp [hp])]
/-- a comprehension whose element changes the tape alone: what its items are worth -/
theorem compL_st {S : Type} {t : GF} {c : BF} {f : EF} {vs : List Nat} (enc : S → Ev) (P : D → Prop)
    (h : ∀ d s, ∃ e1 e2 e3 v s', t d (enc s) = some e1 ∧ c e1 = some (true, e2) ∧ f e2 = some (v, e3) ∧ wipeE e3 vs = enc s' ∧ P v) : ∀ (ds : List D) (s : S), ∃ rs s', compL t c f vs ds (enc s) = some (rs, enc s') ∧ rs.length = ds.length ∧ ∀ v ∈ rs, P v
  | [], s => ⟨[], s, rfl, rfl, fun _ h => nomatch h⟩
  | d :: ds, s => by
    obtain ⟨e1, e2, e3, v, s1, h1, h2, h3, h4, h5⟩ := h d s
    obtain ⟨rs, s', k1, k2, k3⟩ := compL_st enc P h ds s1
    refine ⟨v :: rs, s', ?_, by rw [List.length_cons, List.length_cons, k2], fun u hu => ?_⟩
    · rw [compL_take h1 h2 h3, h4, k1]; rfl
    · rcases List.mem_cons.mp hu with rfl | hu
      · exact h5
      · exact k3 u hu
theorem listInts : ∀ {ds : List D} {P : Int → Prop}, (∀ d ∈ ds, ∃ i, d = .int i ∧ P i) → ∃ ns : List Int, ds = iL ns ∧ ∀ i ∈ ns, P i
  | [], P, _ => ⟨[], rfl, fun _ h => nomatch h⟩
  | d :: ds, P, h => by
    obtain ⟨i, h1, h2⟩ := h d List.mem_cons_self
    obtain ⟨ns, h3, h4⟩ := listInts (ds := ds) fun x hx => h x (List.mem_cons_of_mem _ hx)
    refine ⟨i :: ns, by rw [h1, h3]; rfl, fun x hx => ?_⟩
    rcases List.mem_cons.mp hx with rfl | hx
    · exact h2
    · exact h4 x hx
/-! ### draws -/
noncomputable def fDraw : Fnc := gDraw drawB fun m => decide (0 < m ∧ m < 1073741824)
theorem draw_lt (b : Box) {m : Int} (h : 0 < m) : 0 ≤ (drawB b m).1 ∧ (drawB b m).1 < m := by
  unfold drawB
  split
  · exact ⟨Int.emod_nonneg _ (by omega), Int.emod_lt_of_pos _ h⟩
  · exact ⟨Int.emod_nonneg _ (by omega), Int.emod_lt_of_pos _ h⟩
theorem fDraw_eq (b : Box) {m : Int} (h : 0 < m) (h2 : m < 1073741824) : fDraw [.ow b.ot, .va (.int m)] = some (.va (.int (drawB b m).1), [.ow (drawB b m).2.ot, .no]) :=
  gDraw_box drawB _ b m (decide_eq_true ⟨h, h2⟩)
/-- a draw: some number below, and some tape behind -/
theorem fDraw_ex (b : Box) {m : Int} (h : 0 < m) (h2 : m < 1073741824) : ∃ (d : Int) (b' : Box), fDraw [.ow b.ot, .va (.int m)] = some (.va (.int d), [.ow b'.ot, .no]) ∧ 0 ≤ d ∧ d < m :=
  ⟨_, _, fDraw_eq b h h2, (draw_lt b h).1, (draw_lt b h).2⟩
/-! ### the evaluation of the layer's words on slots that are written out -/
local macro_rules | `(tactic| walk_at "ev") => `(tactic| simp -implicitDefEqProofs only [prE_ev, eVar_ev, varC_ev, eNm_ev, nmC_va, nmC_li, eC_ev, vw_va, vw_li, eOwn_ev, eIxO_ev, ixoC_ev, ixoC2_ev, ixoC3_ev, eOp_ev, opC_ev, opC2_ev, eUn_ev, unC_ev, bE_ev, bEC_ev, bB_ev, bBC_ev, bNot_ev, notC_ev, bAnd_ev, andC_t, andC_f, bOr_ev, orC_t, orC_f, bYes_ev, eAnd_ev, eandC_t, eandC_f, eOr_ev, eorC_t, eorC_f, eNot_ev, enotC_ev, eIf_ev, ifC_t, ifC_f, eTup_ev, tupC_ev, aNil_ev, aCons_ev, aconsC_ev, aconsC2_ev, oLst_ev, lstC_ev, oE_ev, oEC_ev, eFz_ev, fzC_va, fzC_li, oUn_ev, ounC_ev, prL_ev, eSl_ev, slC_ev, slC2_ev, slC3_ev, eSlO_ev, sloC_ev, sloC2_ev, sloC3_ev, sloC4_ev, lEnum_ev, enC_tup, enC_lst, pNo_ev, pSo_ev, psoC_ev, lOf_ev, lofC_tup, lofC_lst, lRng1_ev, rng1C_ev, lRng2_ev, rng2C_ev, rng2C2_ev, oRep_ev, repC_ev, repC2_ev, oCall_ev, callC_0, callC_1, callC_2, callC_3, callC_4, callC_5, callC_rv, callC_rv4, arSl_vl, arSl_rf, callC2_ev, arBack_nil, arBack_vl, arBack_rf, rNil_ev, rVal_ev, rvC_ev, rvC2_ev, rRef_ev, rrC_ev, oComp_ev, compC2_ev, wipeE_nil, wipeE_cons, backE_nil, backE_cons, gNm_ev, gTupF_ev, gsNil_ev, gsCons_ev, sNext_ev, sBreak_ev, sCont_ev, sSeq_ev, seqC_nx, seqC_bk, seqC_ct, seqC_rt, sSet_ev, setC_ev, sPar_ev, parC_ev, setAll_nil, setAll_cons, olNil_ev, olCons_ev, olC_ev, olC2_ev, sAsg_ev, asgC_ev, sIf_ev, sifC_t, sifC_f, sFor_ev, forC_ev, sDrop_ev, dropC_ev, sRet_ev, retC_ev, sRetN_ev, retnC_va, retnC_li, liOf_li, eMt1_ev, mt1C_ev, mt1C2_ev, mt1C3_ev, mt1C4_ev, eMt0_ev, mt0C_ev, sSub_ev, subC_ev, subC1_ev, subC2_ev, subC3_ev, subC4_ev, sAug_ev, augC_ev, augC2_ev, augC3_ev, mkF_ev, mkC_rt, mkC_nx, keepE_nil, keepE_va, keepE_ow', dTru_bool, dTru_int, dTru_none, dTru_list, dTru_tuple, dAdd_int, dAdd_tup, dAdd_lst, dIadd_int, dSub_int, dMul_int, dDiv_int, dMod_int, dNeg_int, dMin2_int, dMax2_int, dLtA_int, dLe_int, dLt_int, dGt_int, dGe_int, shaped_int, shaped_bool, shaped_none, eqv_int, eqv_bool, dEq_int, dNe_int, dEq_bool, dIs_none, dIsN_none, isNon_none, isNon_int, isNon_tup, isNon_bool, dLen_tup, dLen_lst, dIx_tup, dIx_lst, at0, at1, at2, at3, gExtend_lst, dTuple_lst, dTuple_tup, dList_lst, dList_tup, dInt_int, dSl_tup, dSl_lst, isTup, isLst, isBool, isIntB, isStr, beq_self_eq_true, decide_true, decide_false, isi_tup, isi_lst, isi_int, isi_bool, isi_str, isi_none, sz0, sz1, sz2, sz3, sz4, sz5, sz6, sz7, sz8, sz9, sz10, sz11, sz12, isOw_no, isOw_va, isOw_li, isOw_di, isOw_dt, isOw_ow, isOw_none, isOw_sl,
  Option.bind_some, Option.map_some, Option.bind_none, Option.map_none, Option.getD_some, Option.getD_none, List.getElem?_cons_zero, List.getElem?_cons_succ, List.set_cons_zero, List.set_cons_succ, List.map_cons, List.map_nil, List.headD_cons, List.headD_nil, List.tail_cons, List.tail_nil, List.isEmpty_nil, List.isEmpty_cons, List.length_nil, List.length_cons, List.nil_append, List.cons_append, List.replicate_succ, List.replicate_zero, Nat.reduceSub, Nat.reduceAdd, Bool.false_eq_true, if_false, if_true, reduceIte, Bool.not_true, Bool.not_false, and_true, true_and, and_self, Int.toNat_natCast, Int.zero_add])
local macro_rules | `(tactic| walk_at "evh") => `(tactic| simp -implicitDefEqProofs only [prE_ev, eVar_ev, varC_ev, eNm_ev, nmC_va, nmC_li, eC_ev, vw_va, vw_li, eOwn_ev, eIxO_ev, ixoC_ev, ixoC2_ev, ixoC3_ev, eOp_ev, opC_ev, opC2_ev, eUn_ev, unC_ev, bE_ev, bEC_ev, bB_ev, bBC_ev, bNot_ev, notC_ev, bAnd_ev, andC_t, andC_f, bOr_ev, orC_t, orC_f, bYes_ev, eAnd_ev, eandC_t, eandC_f, eOr_ev, eorC_t, eorC_f, eNot_ev, enotC_ev, eIf_ev, ifC_t, ifC_f, eTup_ev, tupC_ev, aNil_ev, aCons_ev, aconsC_ev, aconsC2_ev, oLst_ev, lstC_ev, oE_ev, oEC_ev, eFz_ev, fzC_va, fzC_li, oUn_ev, ounC_ev, prL_ev, eSl_ev, slC_ev, slC2_ev, slC3_ev, eSlO_ev, sloC_ev, sloC2_ev, sloC3_ev, sloC4_ev, lEnum_ev, enC_tup, enC_lst, pNo_ev, pSo_ev, psoC_ev, lOf_ev, lofC_tup, lofC_lst, lRng1_ev, rng1C_ev, lRng2_ev, rng2C_ev, rng2C2_ev, oRep_ev, repC_ev, repC2_ev, oCall_ev, callC_0, callC_1, callC_2, callC_3, callC_4, callC_5, callC_rv, callC_rv4, arSl_vl, arSl_rf, callC2_ev, arBack_nil, arBack_vl, arBack_rf, rNil_ev, rVal_ev, rvC_ev, rvC2_ev, rRef_ev, rrC_ev, oComp_ev, compC2_ev, wipeE_nil, wipeE_cons, backE_nil, backE_cons, gNm_ev, gTupF_ev, gsNil_ev, gsCons_ev, sNext_ev, sBreak_ev, sCont_ev, sSeq_ev, seqC_nx, seqC_bk, seqC_ct, seqC_rt, sSet_ev, setC_ev, sPar_ev, parC_ev, setAll_nil, setAll_cons, olNil_ev, olCons_ev, olC_ev, olC2_ev, sAsg_ev, asgC_ev, sIf_ev, sifC_t, sifC_f, sFor_ev, forC_ev, sDrop_ev, dropC_ev, sRet_ev, retC_ev, sRetN_ev, retnC_va, retnC_li, liOf_li, eMt1_ev, mt1C_ev, mt1C2_ev, mt1C3_ev, mt1C4_ev, eMt0_ev, mt0C_ev, sSub_ev, subC_ev, subC1_ev, subC2_ev, subC3_ev, subC4_ev, sAug_ev, augC_ev, augC2_ev, augC3_ev, mkF_ev, mkC_rt, mkC_nx, keepE_nil, keepE_va, keepE_ow', dTru_bool, dTru_int, dTru_none, dTru_list, dTru_tuple, dAdd_int, dAdd_tup, dAdd_lst, dIadd_int, dSub_int, dMul_int, dDiv_int, dMod_int, dNeg_int, dMin2_int, dMax2_int, dLtA_int, dLe_int, dLt_int, dGt_int, dGe_int, shaped_int, shaped_bool, shaped_none, eqv_int, eqv_bool, dEq_int, dNe_int, dEq_bool, dIs_none, dIsN_none, isNon_none, isNon_int, isNon_tup, isNon_bool, dLen_tup, dLen_lst, dIx_tup, dIx_lst, at0, at1, at2, at3, gExtend_lst, dTuple_lst, dTuple_tup, dList_lst, dList_tup, dInt_int, dSl_tup, dSl_lst, isTup, isLst, isBool, isIntB, isStr, beq_self_eq_true, decide_true, decide_false, isi_tup, isi_lst, isi_int, isi_bool, isi_str, isi_none, sz0, sz1, sz2, sz3, sz4, sz5, sz6, sz7, sz8, sz9, sz10, sz11, sz12, isOw_no, isOw_va, isOw_li, isOw_di, isOw_dt, isOw_ow, isOw_none, isOw_sl,
  Option.bind_some, Option.map_some, Option.bind_none, Option.map_none, Option.getD_some, Option.getD_none, List.getElem?_cons_zero, List.getElem?_cons_succ, List.set_cons_zero, List.set_cons_succ, List.map_cons, List.map_nil, List.headD_cons, List.headD_nil, List.tail_cons, List.tail_nil, List.isEmpty_nil, List.isEmpty_cons, List.length_nil, List.length_cons, List.nil_append, List.cons_append, List.replicate_succ, List.replicate_zero, Nat.reduceSub, Nat.reduceAdd, Bool.false_eq_true, if_false, if_true, reduceIte, Bool.not_true, Bool.not_false, and_true, true_and, and_self, Int.toNat_natCast, Int.zero_add, *])
/-! ### _law_same of a value and itself -/
noncomputable def K1_same (F : Fnc) : EF := (eFz (oCall F (rVal (eOp dIx (eVar 0) (eVar 2)) (rVal (eOp dIx (eVar 1) (eVar 2)) rNil))))
noncomputable def B_same (F : Fnc) : SF := (sSeq (sIf (bOr (bAnd (bE (eUn (dIsi isTup) (eVar 0))) (bE (eUn (dIsi isTup) (eVar 1)))) (bAnd (bE (eUn (dIsi isLst) (eVar 0))) (bE (eUn (dIsi isLst) (eVar 1))))) (sRet (eAnd (eOp dEq (eUn dLen (eVar 0)) (eUn dLen (eVar 1))) (eUn dAll (eFz (oComp (lRng1 (eUn dLen (eVar 0))) (gNm 2) bYes (K1_same F) [2]))))) sNext) (sSeq (sIf (bOr (bE (eUn (dIsi isBool) (eVar 0))) (bE (eUn (dIsi isBool) (eVar 1)))) (sRet (eAnd (eUn (dIsi isBool) (eVar 0)) (eAnd (eUn (dIsi isBool) (eVar 1)) (eOp dEq (eVar 0) (eVar 1))))) sNext) (sSeq (sIf (bOr (bAnd (bE (eUn (dIsi isIntB) (eVar 0))) (bE (eUn (dIsi isIntB) (eVar 1)))) (bAnd (bE (eUn (dIsi isStr) (eVar 0))) (bE (eUn (dIsi isStr) (eVar 1))))) (sRet (eOp dEq (eVar 0) (eVar 1))) sNext) (sRet (eAnd (eOp dIs (eVar 0) (eC .none)) (eOp dIs (eVar 1) (eC .none)))))))
noncomputable def R_same : Nat → Fnc
  | 0 => fun _ => none
  | k + 1 => mkF 3 (B_same (R_same k))
/-- plain values to a depth -/
def Plain : Nat → D → Prop
  | _, .none => True
  | _, .bool _ => True
  | _, .int _ => True
  | _, .str s => SeqAt.shaped (.str s) = true
  | n + 1, .tuple ds => ds.length ≤ 1000000 ∧ ∀ d ∈ ds, Plain n d
  | n + 1, .list ds => ds.length ≤ 1000000 ∧ ∀ d ∈ ds, Plain n d
  | _, _ => False
theorem same_items {n : Nat} {ds : List D} {A B : D} (hl : ds.length ≤ 1000000) (hA : ∀ i : Int, dIx A (.int i) = atI ds i) (hB : ∀ i : Int, dIx B (.int i) = atI ds i) (ih : ∀ d ∈ ds, R_same n [.va d, .va d] = some (.va (.bool true), [.no, .no])) :
    compL (gNm 2) bYes (K1_same (R_same n)) [2] (rngD 0 ds.length) [.va A, .va B, .no] = some ((List.replicate ds.length (PyData.bool true)), [.va A, .va B, .no]) := by
  unfold rngD
  rw [compL_map (fun i : Nat => PyData.int (0 + (i : Nat))) (fun _ => true) (fun _ => PyData.bool true) [.va A, .va B, .no] (List.range ds.length) ?_]
  · congr 1
    rw [List.filter_eq_self.mpr fun _ _ => rfl]
    refine Prod.ext ?_ rfl
    apply List.ext_getElem?
    intro i
    simp only [List.getElem?_map, List.getElem?_replicate, List.getElem?_range']
    by_cases h : i < ds.length
    · simp [h]
    · simp [h]
  · intro i hi
    have hi' : i < ds.length := List.mem_range.mp hi
    refine ⟨[.va A, .va B, .va (.int (0 + (i : Nat)))], [.va A, .va B, .va (.int (0 + (i : Nat)))], [.va A, .va B, .va (.int (0 + (i : Nat)))], rfl, rfl, fun _ => ⟨?_, rfl⟩, fun h => by cases h⟩
    have hg : atI ds (0 + (i : Int)) = some ds[i] := by rw [Int.zero_add]; exact atI_nat (List.getElem?_eq_getElem hi')
    have := ih ds[i] (List.getElem_mem hi')
    unfold K1_same
    rw [Int.zero_add] at hg
    walk_at "evh"
theorem wrap_true (ds : List D) : boolsOf (.list (List.replicate ds.length (PyData.bool true))) = some (List.replicate ds.length true) := by
  show asBools _ = _
  rw [show List.replicate ds.length (PyData.bool true) = (List.replicate ds.length true).map PyData.bool by rw [List.map_replicate]]
  exact asBools_map _
theorem all_rep (n : Nat) : (List.replicate n true).all (fun b => b) = true := by
  induction n with
  | zero => rfl
  | succ n ih => rw [List.replicate_succ, List.all_cons, ih]; rfl
theorem same_seq {n : Nat} {ds : List D} {A : D} (hl : ds.length ≤ 1000000) (hd : dLen A = some (.int ds.length)) (hA : ∀ i : Int, dIx A (.int i) = atI ds i) (ih : ∀ d ∈ ds, R_same n [.va d, .va d] = some (.va (.bool true), [.no, .no])) :
    eAnd (eOp dEq (eUn dLen (eVar 0)) (eUn dLen (eVar 1))) (eUn dAll (eFz (oComp (lRng1 (eUn dLen (eVar 0))) (gNm 2) bYes (K1_same (R_same n)) [2]))) [.va A, .va A, .no] = some (.bool true, [.va A, .va A, .no]) := by
  have hb : Rg (ds.length : Int) := rg_of (by omega) (by omega)
  have h0 : (wipeE [.va A, .va A, .no] [2]) = [Sl.va A, .va A, .no] := rfl
  walk_at "evh"
  rw [compC_ev _ _ _ _ _ _ (by rw [rngD_len]; exact small1Me hl) rfl]
  rw [show wipeE [.va A, .va A, .no] [2] = [.va A, .va A, .no] from rfl, same_items hl hA hA ih]
  show ((dAll (.list (List.replicate ds.length (.bool true)))).map _) = _
  unfold dAll
  rw [wrap_true, Option.map_some, all_rep]
  rfl
theorem same_refl : ∀ (n : Nat) (x : D), Plain n x → R_same (n + 1) [.va x, .va x] = some (.va (.bool true), [.no, .no])
  | n, .none, _ => by
    show mkF 3 (B_same (R_same n)) _ = _
    unfold B_same
    walk_at "ev"
  | n, .bool b, _ => by
    show mkF 3 (B_same (R_same n)) _ = _
    unfold B_same
    have h : dEq (.bool b) (.bool b) = some (.bool true) := by rw [dEq_bool, beq_self_eq_true]
    walk_at "evh"
  | n, .int b, _ => by
    show mkF 3 (B_same (R_same n)) _ = _
    unfold B_same
    have h : dEq (.int b) (.int b) = some (.bool true) := by rw [dEq_int, beq_self_eq_true]
    walk_at "evh"
  | n, .str s, hp => by
    show mkF 3 (B_same (R_same n)) _ = _
    unfold B_same
    have hp' : SeqAt.shaped (.str s) = true := by cases n <;> exact hp
    have h : dEq (.str s) (.str s) = some (.bool true) := by unfold dEq; rw [if_pos ⟨hp', hp'⟩, PyData.eqv, beq_self_eq_true]
    walk_at "evh"
  | 0, .tuple _, h => h.elim
  | 0, .list _, h => h.elim
  | n + 1, .tuple ds, h => by
    have ih := same_seq (n := n + 1) (A := .tuple ds) h.1 rfl (fun _ => rfl) fun d hd => same_refl n d (h.2 d hd)
    show mkF 3 (B_same (R_same (n + 1))) _ = _
    unfold B_same
    rw [mkF_ev, sSeq_ev, sIf_ev]
    show (((bOr (bAnd (bE (eUn (dIsi isTup) (eVar 0))) (bE (eUn (dIsi isTup) (eVar 1)))) _ [.va (.tuple ds), .va (.tuple ds), .no]).bind _).bind _).bind _ = _
    rw [show bOr (bAnd (bE (eUn (dIsi isTup) (eVar 0))) (bE (eUn (dIsi isTup) (eVar 1)))) (bAnd (bE (eUn (dIsi isLst) (eVar 0))) (bE (eUn (dIsi isLst) (eVar 1)))) [.va (.tuple ds), .va (.tuple ds), .no] = some (true, [.va (.tuple ds), .va (.tuple ds), .no]) from rfl]
    rw [Option.bind_some, sifC_t, sRet_ev, ih]
    rfl
  | n + 1, .list ds, h => by
    have ih := same_seq (n := n + 1) (A := .list ds) h.1 rfl (fun _ => rfl) fun d hd => same_refl n d (h.2 d hd)
    show mkF 3 (B_same (R_same (n + 1))) _ = _
    unfold B_same
    rw [mkF_ev, sSeq_ev, sIf_ev]
    show (((bOr (bAnd (bE (eUn (dIsi isTup) (eVar 0))) (bE (eUn (dIsi isTup) (eVar 1)))) _ [.va (.list ds), .va (.list ds), .no]).bind _).bind _).bind _ = _
    rw [show bOr (bAnd (bE (eUn (dIsi isTup) (eVar 0))) (bE (eUn (dIsi isTup) (eVar 1)))) (bAnd (bE (eUn (dIsi isLst) (eVar 0))) (bE (eUn (dIsi isLst) (eVar 1)))) [.va (.list ds), .va (.list ds), .no] = some (true, [.va (.list ds), .va (.list ds), .no]) from rfl]
    rw [Option.bind_some, sifC_t, sRet_ev, ih]
    rfl
  | 0, .dict _, h => h.elim
  | n + 1, .dict _, h => h.elim
/-! ### the first of a range -/
theorem rng_head {m j : Nat} {p : Nat → Bool} (hj : j < m) (hp : p j = true) (hn : ∀ i, i < j → p i = false) : ((List.range m).filter p).head? = some j := by
  obtain ⟨k, rfl⟩ := Nat.exists_eq_add_of_lt hj
  have h1 : List.range (j + k + 1) = List.range j ++ (j :: (List.range k).map (j + 1 + ·)) := by
    rw [show j + k + 1 = j + (k + 1) by omega, List.range_add, List.range_succ_eq_map, List.map_cons, List.map_map]
    congr 2
    apply List.map_congr_left
    intro x _
    show j + (x + 1) = j + 1 + x
    omega
  have h2 : (List.range j).filter p = [] := List.filter_eq_nil_iff.mpr fun x hx => by rw [hn x (List.mem_range.mp hx)]; decide
  rw [h1, List.filter_append, h2, List.nil_append, List.filter_cons_of_pos hp]; rfl
theorem rng_none {m : Nat} {p : Nat → Bool} (hn : ∀ i, i < m → p i = false) : (List.range m).filter p = [] := List.filter_eq_nil_iff.mpr fun x hx => by rw [hn x (List.mem_range.mp hx)]; decide
theorem enD_drop {xs : List D} {j : Nat} {d : D} (h : xs[j]? = some d) : (enD xs).drop j = .tuple [.int j, d] :: (enD xs).drop (j + 1) := by
  have h1 := enD_get h
  have hj := (List.getElem?_eq_some_iff.mp h1).1
  rw [List.drop_eq_getElem_cons hj]
  rw [List.getElem?_eq_getElem hj] at h1
  rw [Option.some.inj h1]
/-- a list of truths -/
theorem dAll_map {α : Type} (f : α → Bool) (xs : List α) : dAll (.list (xs.map fun x => PyData.bool (f x))) = some (.bool (xs.all f)) := by
  unfold dAll
  rw [show boolsOf (.list (xs.map fun x => PyData.bool (f x))) = some (xs.map f) from (by show asBools _ = _; rw [show (xs.map fun x => PyData.bool (f x)) = (xs.map f).map PyData.bool by rw [List.map_map]; rfl]; exact asBools_map _), Option.map_some, List.all_map]
  rfl
theorem dAny_map {α : Type} (f : α → Bool) (xs : List α) : dAny (.list (xs.map fun x => PyData.bool (f x))) = some (.bool (xs.any f)) := by
  unfold dAny
  rw [show boolsOf (.list (xs.map fun x => PyData.bool (f x))) = some (xs.map f) from (by show asBools _ = _; rw [show (xs.map fun x => PyData.bool (f x)) = (xs.map f).map PyData.bool by rw [List.map_map]; rfl]; exact asBools_map _), Option.map_some, List.any_map]
  rfl
/-! ### plain values may be compared -/
theorem plain_lay : ∀ (n : Nat) (x : D), Plain n x → x.canLay0 = true ∧ x.depth ≤ n
  | _, .none, _ => ⟨by simp [PyData.canLay0], by simp [PyData.depth]⟩
  | _, .bool _, _ => ⟨by simp [PyData.canLay0], by simp [PyData.depth]⟩
  | _, .int _, _ => ⟨by simp [PyData.canLay0], by simp [PyData.depth]⟩
  | n, .str s, h => by
    have h' : SeqAt.shaped (.str s) = true := by cases n <;> exact h
    exact ⟨(Bool.and_eq_true_iff.mp h').1, by simp [PyData.depth]⟩
  | 0, .tuple _, h => h.elim
  | 0, .list _, h => h.elim
  | n + 1, .tuple ds, h => by
    have k := plain_all n ds fun d hd => plain_lay n d (h.2 d hd)
    exact ⟨by rw [PyData.canLay0]; exact k.1, by rw [PyData.depth]; omega⟩
  | n + 1, .list ds, h => by
    have k := plain_all n ds fun d hd => plain_lay n d (h.2 d hd)
    exact ⟨by rw [PyData.canLay0]; exact k.1, by rw [PyData.depth]; omega⟩
  | 0, .dict _, h => h.elim
  | n + 1, .dict _, h => h.elim
where plain_all (n : Nat) : ∀ ds : List D, (∀ d ∈ ds, d.canLay0 = true ∧ d.depth ≤ n) → PyData.canLayAll0 ds = true ∧ PyData.depthAll ds ≤ n
  | [], _ => ⟨by rw [PyData.canLayAll0], by rw [PyData.depthAll]; exact Nat.zero_le _⟩
  | d :: ds, h => by
    have h1 := h d List.mem_cons_self
    have h2 := plain_all n ds fun x hx => h x (List.mem_cons_of_mem _ hx)
    exact ⟨by rw [PyData.canLayAll0, h1.1, h2.1]; rfl, by rw [PyData.depthAll]; omega⟩
theorem plain_shaped {n : Nat} {x : D} (h : Plain n x) (hn : n ≤ 64) : SeqAt.shaped x = true := by
  obtain ⟨h1, h2⟩ := plain_lay n x h
  unfold SeqAt.shaped
  rw [h1, decide_eq_true (by omega)]; rfl
theorem plain_ints {n : Nat} {xs : List Int} (h : xs.length ≤ 1000000) : Plain (n + 1) (.tuple (iL xs)) := by
  refine ⟨by rw [iL_len]; exact h, fun d hd => ?_⟩
  obtain ⟨i, _, rfl⟩ := List.mem_map.mp hd
  cases n <;> trivial
theorem plain_intsL {n : Nat} {xs : List Int} (h : xs.length ≤ 1000000) : Plain (n + 1) (.list (iL xs)) := plain_ints h
theorem dEq_nil {n : Nat} {xs : List D} (h : Plain n (.list xs)) (hn : n ≤ 64) : dEq (.list xs) (.list []) = some (.bool xs.isEmpty) := by
  have h0 : SeqAt.shaped (.list []) = true := plain_shaped (n := 1) ⟨Nat.zero_le _, fun _ h => nomatch h⟩ (by decide)
  unfold dEq
  rw [if_pos ⟨plain_shaped h hn, h0⟩]
  cases xs with
  | nil => rw [PyData.eqv]; rfl
  | cons x xs => rw [PyData.eqv]; rfl
theorem dNe_nil {n : Nat} {xs : List D} (h : Plain n (.list xs)) (hn : n ≤ 64) : dNe (.list xs) (.list []) = some (.bool (!xs.isEmpty)) := by
  have h0 : SeqAt.shaped (.list []) = true := plain_shaped (n := 1) ⟨Nat.zero_le _, fun _ h => nomatch h⟩ (by decide)
  unfold dNe
  rw [if_pos ⟨plain_shaped h hn, h0⟩]
  cases xs with
  | nil => rw [PyData.eqv]; rfl
  | cons x xs => rw [PyData.eqv]; rfl
theorem rngD_drop {n j : Nat} (h : j < n) : (rngD 0 n).drop j = .int (j : Nat) :: (rngD 0 n).drop (j + 1) := by
  have hj : j < (rngD 0 n).length := by rw [rngD_len]; exact h
  rw [List.drop_eq_getElem_cons hj]
  have h1 := rngD_get (lo := 0) h
  rw [List.getElem?_eq_getElem hj, Int.zero_add] at h1
  rw [Option.some.inj h1]
theorem rngD_end (n : Nat) : (rngD 0 n).drop n = [] := List.drop_eq_nil_of_le (by rw [rngD_len]; exact Nat.le_refl _)
theorem range_map_succ {α : Type} (f : Nat → α) (n : Nat) : (List.range (n + 1)).map f = (List.range n).map f ++ [f n] := by rw [List.range_succ, List.map_append]; rfl
theorem range_filter_succ (p : Nat → Bool) (n : Nat) : (List.range (n + 1)).filter p = (List.range n).filter p ++ (if p n = true then [n] else []) := by
  rw [List.range_succ, List.filter_append]
  congr 1
  by_cases h : p n = true
  · rw [if_pos h, List.filter_cons_of_pos h]; rfl
  · rw [if_neg h, List.filter_cons_of_neg h]; rfl
end Fl

set_option linter.all false
set_option maxRecDepth 100000
set_option maxHeartbeats 1000000
set_option autoImplicit false
/-! FnCo: evaluation of further words; comprehensions by their items. -/
namespace Fl
open PySem PySem.Spec PyProof.Rows L2
section
variable {α : Type} (e e1 e2 : Ev) (i : Nat) (is : List Nat) (d x y : D) (f fa fb fc : EF) (ds xs ys : List D) (g h : D → D → Option D)
def chC4 (h : D → D → Option D) (y : D) : D × Ev → Option (D × Ev) := fun r => (h y r.1).map (prE r.2)
def chC3 (h : D → D → Option D) (fc : EF) (y : D) (e : Ev) : D → Option (D × Ev) := fun d => match d with
  | .bool true => (fc e).bind (chC4 h y)
  | .bool false => some (.bool false, e)
  | _ => none
def chC2 (g h : D → D → Option D) (fc : EF) (x : D) : D × Ev → Option (D × Ev) := fun q => (g x q.1).bind (chC3 h fc q.1 q.2)
def chC (g h : D → D → Option D) (fb fc : EF) : D × Ev → Option (D × Ev) := fun p => (fb p.2).bind (chC2 g h fc p.1)
theorem eCh_ev : eCh g h fa fb fc e = (fa e).bind (chC g h fb fc) := rfl
theorem chC_ev : chC g h fb fc (x, e1) = (fb e1).bind (chC2 g h fc x) := rfl
theorem chC2_ev : chC2 g h fc x (y, e1) = (g x y).bind (chC3 h fc y e1) := rfl
theorem chC3_t : chC3 h fc y e (.bool true) = (fc e).bind (chC4 h y) := rfl
theorem chC3_f : chC3 h fc y e (.bool false) = some (.bool false, e) := rfl
theorem chC4_ev : chC4 h y (d, e1) = (h y d).map (prE e1) := rfl
def zipC2 (x : D) : D × Ev → Option (List D × Ev) := fun q => match x, q.1 with
  | .tuple xs, .tuple ys => some (zipD xs ys, q.2)
  | .list xs, .list ys => some (zipD xs ys, q.2)
  | _, _ => none
def zipC (fb : EF) : D × Ev → Option (List D × Ev) := fun p => (fb p.2).bind (zipC2 p.1)
theorem lZip_ev : lZip fa fb e = (fa e).bind (zipC fb) := rfl
theorem zipC_ev : zipC fb (x, e1) = (fb e1).bind (zipC2 x) := rfl
theorem zipC2_tup : zipC2 (.tuple xs) (.tuple ys, e1) = some (zipD xs ys, e1) := rfl
theorem zipC2_lst : zipC2 (.list xs) (.list ys, e1) = some (zipD xs ys, e1) := rfl
theorem dRev_tup : dRev (.tuple xs) = some (.tuple xs.reverse) := rfl
theorem dRev_lst : dRev (.list xs) = some (.list xs.reverse) := rfl
theorem dRngL_int (k : Int) : dRngL (.int k) = if Rl k then some (rngD 0 k.toNat) else none := rfl
theorem dRngT_int (k : Int) : dRngT (.int k) = if Rl k then some (.tuple (rngD 0 k.toNat)) else none := rfl
theorem dMulT_tup (k : Int) : dMulT (.tuple xs) (.int k) = if Mu xs.length k then some (.tuple (List.replicate k.toNat xs).flatten) else none := rfl
theorem oIte_ev (f g : OF) : oIte i f g e = oiteC f g e e[i]? := rfl
theorem oiteC_li (f g : OF) : oiteC f g e (some (.li xs)) = f e := rfl
theorem oiteC_va (f g : OF) : oiteC f g e (some (.va d)) = g e := rfl
def coC (io : Nat) (t : GF) (c : BF) (f : EF) (vs : List Nat) (e : Ev) : List D → Option (Sl × Ev) := fun xs => if xs.length ≤ sizeLine ∧ (vs.all fun i => !isOw e[i]?) = true ∧ io ∉ vs then (compL t c f vs xs (wipeE e (io :: vs))).map fun r => (.li r.1, backE e r.2 (io :: vs)) else none
theorem oCompO_ev (io : Nat) (t : GF) (c : BF) (vs : List Nat) : oCompO io t c f vs e = (liOf e[io]?).bind (coC io t c f vs e) := rfl
theorem callC_rv2 (g : Fnc) (x1 x2 : D) : callC g ([.rf i, .vl x1, .vl x2], e1) = if isOw e1[i]? = true then (g [(e1[i]?).getD .no, .va x1, .va x2]).map (callC2 [.rf i, .vl x1, .vl x2] e1) else none := by
  by_cases h : isOw e1[i]? = true
  · rw [if_pos h, callC_r e1 i g [.vl x1, .vl x2] rfl h]; rfl
  · rw [if_neg h]
    unfold callC
    rw [if_neg fun k => h (List.all_eq_true.mp k.2 i (List.mem_singleton.mpr rfl))]
theorem callC_rv3 (g : Fnc) (x1 x2 x3 : D) : callC g ([.rf i, .vl x1, .vl x2, .vl x3], e1) = if isOw e1[i]? = true then (g [(e1[i]?).getD .no, .va x1, .va x2, .va x3]).map (callC2 [.rf i, .vl x1, .vl x2, .vl x3] e1) else none := by
  by_cases h : isOw e1[i]? = true
  · rw [if_pos h, callC_r e1 i g [.vl x1, .vl x2, .vl x3] rfl h]; rfl
  · rw [if_neg h]
    unfold callC
    rw [if_neg fun k => h (List.all_eq_true.mp k.2 i (List.mem_singleton.mpr rfl))]
end
/-! ### comprehensions by their items -/
theorem set_self {e : Ev} {v : Nat} (h : v < e.length) : e.set v ((e[v]?).getD .no) = e := by
  rw [List.getElem?_eq_getElem h]
  exact List.set_getElem_self h
theorem gNm_set {e : Ev} {v : Nat} {d : D} : gNm v d (e.set v .no) = some (e.set v (.va d)) := by
  unfold gNm
  rw [if_neg, List.set_set]
  by_cases h : v < e.length
  · rw [List.getElem?_set_self h]; exact Bool.false_ne_true
  · rw [List.getElem?_eq_none (by rw [List.length_set]; omega)]; exact Bool.false_ne_true
theorem back2 (e : Ev) {v w : Nat} (hne : v ≠ w) (a b c d : Sl) : (((e.set w a).set v b).set w c).set v d = (e.set w c).set v d := by
  have h : ((e.set w a).set v b).set w c = ((e.set w a).set w c).set v b := List.set_comm _ _ hne
  rw [h, List.set_set, List.set_set]
theorem wipe1 (e : Ev) (v : Nat) (a : Sl) : wipeE (e.set v a) [v] = e.set v .no := List.set_set _
theorem comp1 {α : Type} {c : BF} {f : EF} {v : Nat} {e : Ev} (encx : α → D) (p : α → Bool) (g : α → D) (xs : List α) (hl : xs.length ≤ 1000000) (hv : isOw e[v]? = false) (hn : v < e.length)
    (h : ∀ x ∈ xs, c (e.set v (.va (encx x))) = some (p x, e.set v (.va (encx x))) ∧ (p x = true → f (e.set v (.va (encx x))) = some (g x, e.set v (.va (encx x))))) : compC (gNm v) c f [v] (xs.map encx, e) = some (.li ((xs.filter p).map g), e) := by
  rw [compC_ev _ _ _ _ _ _ (by rw [List.length_map]; exact small1Me hl) (by show (!isOw e[v]? && true) = true; rw [hv]; rfl)]
  show ((compL (gNm v) c f [v] (xs.map encx) (e.set v .no)).map _) = _
  rw [compL_map (vs := [v]) encx p g (e.set v .no) xs fun x hx => ⟨e.set v (.va (encx x)), e.set v (.va (encx x)), e.set v (.va (encx x)), gNm_set, (h x hx).1, fun hp => ⟨(h x hx).2 hp, wipe1 _ _ _⟩, fun _ => wipe1 _ _ _⟩]
  show some (Sl.li _, ((e.set v .no).set v ((e[v]?).getD .no))) = _
  rw [List.set_set, set_self hn]
theorem comp1y {α : Type} {f : EF} {v : Nat} {e : Ev} (encx : α → D) (g : α → D) (xs : List α) (hl : xs.length ≤ 1000000) (hv : isOw e[v]? = false) (hn : v < e.length)
    (h : ∀ x ∈ xs, f (e.set v (.va (encx x))) = some (g x, e.set v (.va (encx x)))) : compC (gNm v) bYes f [v] (xs.map encx, e) = some (.li (xs.map g), e) := by
  rw [comp1 encx (fun _ => true) g xs hl hv hn fun x hx => ⟨rfl, fun _ => h x hx⟩, List.filter_eq_self.mpr fun _ _ => rfl]
theorem comp1v {f : EF} {v : Nat} {e : Ev} (g : D → D) (ds : List D) (hl : ds.length ≤ 1000000) (hv : isOw e[v]? = false) (hn : v < e.length)
    (h : ∀ x ∈ ds, f (e.set v (.va x)) = some (g x, e.set v (.va x))) : compC (gNm v) bYes f [v] (ds, e) = some (.li (ds.map g), e) := by
  have := comp1y (f := f) (v := v) (e := e) id g ds hl hv hn h
  rw [List.map_id] at this
  exact this
theorem rngD_nat (n : Nat) : rngD 0 n = (List.range n).map fun i => PyData.int (i : Nat) := by
  unfold rngD
  apply List.map_congr_left
  intro i _
  rw [Int.zero_add]
theorem compR {c : BF} {f : EF} {v n : Nat} {e : Ev} (p : Nat → Bool) (g : Nat → D) (hl : n ≤ 1000000) (hv : isOw e[v]? = false) (hn : v < e.length)
    (h : ∀ i, i < n → c (e.set v (.va (.int (i : Nat)))) = some (p i, e.set v (.va (.int (i : Nat)))) ∧ (p i = true → f (e.set v (.va (.int (i : Nat)))) = some (g i, e.set v (.va (.int (i : Nat)))))) : compC (gNm v) c f [v] (rngD 0 n, e) = some (.li (((List.range n).filter p).map g), e) := by
  rw [rngD_nat]
  exact comp1 _ p g _ (by rw [List.length_range]; exact hl) hv hn fun i hi => h i (List.mem_range.mp hi)
theorem compRy {f : EF} {v n : Nat} {e : Ev} (g : Nat → D) (hl : n ≤ 1000000) (hv : isOw e[v]? = false) (hn : v < e.length)
    (h : ∀ i, i < n → f (e.set v (.va (.int (i : Nat)))) = some (g i, e.set v (.va (.int (i : Nat))))) : compC (gNm v) bYes f [v] (rngD 0 n, e) = some (.li ((List.range n).map g), e) := by
  rw [rngD_nat]
  exact comp1y _ g _ (by rw [List.length_range]; exact hl) hv hn fun i hi => h i (List.mem_range.mp hi)
/-- two names -/
theorem comp2y {α : Type} {f : EF} {v w : Nat} {e : Ev} (eu ew : α → D) (g : α → D) (xs : List α) (hl : xs.length ≤ 1000000) (hne : v ≠ w) (hv : isOw e[v]? = false) (hw : isOw e[w]? = false) (hn : v < e.length) (hm : w < e.length)
    (h : ∀ x ∈ xs, f ((e.set v (.va (eu x))).set w (.va (ew x))) = some (g x, (e.set v (.va (eu x))).set w (.va (ew x)))) :
    compC (gTupF (gsCons (gNm v) (gsCons (gNm w) gsNil)) 2) bYes f [v, w] (xs.map fun x => .tuple [eu x, ew x], e) = some (.li (xs.map g), e) := by
  rw [compC_ev _ _ _ _ _ _ (by rw [List.length_map]; exact small1Me hl) (by show (!isOw e[v]? && (!isOw e[w]? && true)) = true; rw [hv, hw]; rfl)]
  have e0 : wipeE e [v, w] = (e.set w .no).set v .no := rfl
  have hset : ∀ a b : Sl, (((e.set v a).set w b).set w .no).set v .no = (e.set w .no).set v .no := fun a b => by
    rw [List.set_set, List.set_comm _ _ hne, List.set_set]
  rw [e0, compL_map (vs := [v, w]) (fun x => PyData.tuple [eu x, ew x]) (fun _ => true) g ((e.set w .no).set v .no) xs fun x hx => ?_, List.filter_eq_self.mpr fun _ _ => rfl]
  · show some (Sl.li _, ((((e.set w .no).set v .no).set w ((e[w]?).getD .no)).set v ((e[v]?).getD .no))) = _
    rw [back2 e hne, set_self hm, set_self hn]
  · refine ⟨(e.set v (.va (eu x))).set w (.va (ew x)), (e.set v (.va (eu x))).set w (.va (ew x)), (e.set v (.va (eu x))).set w (.va (ew x)), ?_, rfl, fun _ => ⟨h x hx, hset _ _⟩, fun h => by cases h⟩
    show (if 2 = 2 then ((gNm v (eu x) ((e.set w .no).set v .no)).bind fun e1 => (gNm w (ew x) e1).bind fun e2 => some e2) else none) = _
    rw [if_pos rfl, gNm_set, Option.bind_some, ← List.set_comm _ _ hne, gNm_set]
    rfl
/-- over an own list that stays -/
theorem compO {c : BF} {f : EF} {v io : Nat} {e : Ev} {α : Type} (encx : α → D) (p : α → Bool) (g : α → D) (xs : List α) (hl : xs.length ≤ 1000000) (hne : v ≠ io) (hv : isOw e[v]? = false) (hn : v < e.length) (hm : io < e.length)
    (h : ∀ x ∈ xs, c ((e.set io .no).set v (.va (encx x))) = some (p x, (e.set io .no).set v (.va (encx x))) ∧ (p x = true → f ((e.set io .no).set v (.va (encx x))) = some (g x, (e.set io .no).set v (.va (encx x))))) : coC io (gNm v) c f [v] e (xs.map encx) = some (.li ((xs.filter p).map g), e) := by
  unfold coC
  rw [if_pos ⟨by rw [List.length_map]; exact small1Me hl, by show (!isOw e[v]? && true) = true; rw [hv]; rfl, by simpa using hne.symm⟩]
  show ((compL (gNm v) c f [v] (xs.map encx) ((e.set v .no).set io .no)).map _) = _
  have e0 : (e.set v .no).set io .no = (e.set io .no).set v .no := List.set_comm _ _ hne
  rw [e0, compL_map (vs := [v]) encx p g ((e.set io .no).set v .no) xs fun x hx => ⟨(e.set io .no).set v (.va (encx x)), (e.set io .no).set v (.va (encx x)), (e.set io .no).set v (.va (encx x)), gNm_set, (h x hx).1, fun hp => ⟨(h x hx).2 hp, wipe1 _ _ _⟩, fun _ => wipe1 _ _ _⟩]
  show some (Sl.li _, ((((e.set io .no).set v .no).set v ((e[v]?).getD .no)).set io ((e[io]?).getD .no))) = _
  have e1 : ((e.set io .no).set v ((e[v]?).getD .no)).set io ((e[io]?).getD .no) = ((e.set io .no).set io ((e[io]?).getD .no)).set v ((e[v]?).getD .no) := List.set_comm _ _ hne
  rw [List.set_set, e1, List.set_set, set_self hm, set_self hn]
end Fl

set_option Elab.async false
set_option linter.all false
set_option maxRecDepth 100000
set_option maxHeartbeats 4000000
namespace Fl
open PySem PySem.Spec PyProof.Rows L2
def topS (i : Nat) : Stmt := PySem.Challenge.pw_roomsemptied_k83_whole_safe_loans.main.body.getD i (.Pass ⟨0, 0, 0, 0⟩)
section
variable {P : Program} {w : World} {K : Frg} {mg : Str → Option Value} {base : Heap}
abbrev s__law_box : Stmt := topS 18
abbrev s__law_load : Stmt := topS 19
abbrev s__law_draw : Stmt := topS 20
theorem sc__law_load : FnScope ["box", "cells", "cell", "size", "first", "second"] ["box"] (defScope s__law_load) := ⟨rfl, rfl, rfl, by decide +kernel, rfl, by decide +kernel, by decide +kernel⟩
theorem sc__law_draw : FnScope ["box", "many", "digit"] ["box", "many"] (defScope s__law_draw) := ⟨rfl, rfl, rfl, by decide +kernel, rfl, by decide +kernel, by decide +kernel⟩
theorem sc__law_box : FnScope ["script"] ["script"] (defScope s__law_box) := ⟨rfl, rfl, rfl, by decide +kernel, rfl, by decide +kernel, by decide +kernel⟩
theorem ok_load {f : Addr} {fd : FuncData} {k : Nat} (F : Fun K "_law_load" "_law_load" s__law_load f fd) (mlen : mg "len" = none) (mint : mg "int" = none) :
    FnOk P w K mg base CX0 (k + 1) f fd ["box"] (spBox 0 fun b _ => some (.int (loadB b).1, (loadB b).2)) := by
  refine F.ok sc__law_load (fun vs H Q E h => h.1) (fun cdv A outer s H vs Q E hr h => ?_)
  obtain ⟨hl, p, c, b, as, r, b', rfl, hB, hgo, q⟩ := h
  obtain ⟨hne, hp, hc⟩ := hB
  match as, hl with
  | [], _ =>
  cases hgo
  refine ⟨_, pss_cons (ps_set (i := 1) sc__law_load.nd rfl (.inl rfl) (pe_ix ix_list (pv 0) pe_int (fun _ _ => rfl)))
    (pss_cons (ps_if (pt_cmpR op_gt (pe_callB call_len_seq (by rfl) mlen PySem.boot_len (pa_cons (pv 1) pa_nil)) pe_int (nomark _))
      (pss_cons (ps_set (i := 2) sc__law_load.nd rfl (.inl rfl) (pe_callTy call_int1 (by rfl) mint (by decide +kernel) (pa_cons (pe_bm PySem.F.plainAttrs_list PySem.F.slot_list_pop PySem.F.type_list_pop mt_popAt (pv 1) (pa_cons pe_int pa_nil)) pa_nil)))
      (pss_cons (ps_set (i := 3) sc__law_load.nd rfl (.inl rfl) (pe_ifExp (pt_cmpR op_ge (pv 2) pe_int (nomark _)) (pe_op op_mul pe_int (pv 2)) (pe_op op_sub (pe_op op_mul (pe_un un_neg pe_int) (pv 2)) pe_int)))
      (pss_cons (ps_if (pt_cmpR op_ge (pv 3) pe_int (nomark _)) (pss_one (ps_ret (pv 3))) pss_nil)
      (pss_one (ps_asg (pe_op op_mod (pe_callTy call_int1 (by rfl) mint (by decide +kernel) (pa_cons (pe_op op_add (pe_op op_add (pe_op op_mul (pe_ix ix_list (pv 0) pe_int (fun _ _ => rfl)) pe_int) (pe_op op_mul (pv 3) pe_int)) pe_int) pa_nil)) pe_int) (pg_sub (pv 0) pe_int set_list))))))
      pss_nil)
    (PSs.imp (t' := tMix p c b.a) (pss_cons (ps_set (i := 4) sc__law_load.nd rfl (.inl rfl) (pe_op op_mod (pe_callTy call_int1 (by rfl) mint (by decide +kernel) (pa_cons (pe_op op_add (pe_op op_mul (pe_ix ix_list (pv 0) pe_int (fun _ _ => rfl)) pe_int) pe_int) pa_nil)) pe_int))
    (pss_cons (ps_set (i := 5) sc__law_load.nd rfl (.inl rfl) (pe_op op_mod (pe_callTy call_int1 (by rfl) mint (by decide +kernel) (pa_cons (pe_op op_add (pe_op op_mul (pv 4) pe_int) pe_int) pa_nil)) pe_int))
    (pss_cons (ps_asg (pe_op op_mod (pe_callTy call_int1 (by rfl) mint (by decide +kernel) (pa_cons (pe_op op_add (pe_op op_mul (pv 5) pe_int) pe_int) pa_nil)) pe_int) (pg_sub (pv 0) pe_int set_list))
    (pss_one (ps_ret (pe_op op_add (pe_op op_add (pe_op op_mul (pv 4) pe_int) (pe_op op_mul (pv 5) pe_int)) (pe_ix ix_list (pv 0) pe_int (fun _ _ => rfl))))))))
    (fun D σ H1 ⟨cs, bb, c2, c3, hne, hσ, h1, h2, q⟩ => by
      subst hσ
      refine ⟨.ref p, rfl, p, _, 2, _, rfl, rfl, SqL.of h1, rfl, _, _, rfl, rfl, cmulR (by decide), _, _, rfl, rfl, .inl ⟨_, rfl, _, _, rfl, rfl, by show (0 : Int) < _; decide, ?_⟩⟩
      refine ⟨_, rfl, _, _, rfl, rfl, cmulR (by decide), _, _, rfl, rfl, .inl ⟨_, rfl, _, _, rfl, rfl, by show (0 : Int) < _; decide, ?_⟩⟩
      refine ⟨_, rfl, _, _, rfl, rfl, cmulR (by decide), _, _, rfl, rfl, .inl ⟨_, rfl, _, _, rfl, rfl, by show (0 : Int) < _; decide, ?_⟩⟩
      refine ⟨.ref p, rfl, p, _, 2, 2, rfl, rfl, h1, rfl, ?_⟩
      refine ⟨_, rfl, _, _, rfl, rfl, cmulR (by decide), _, rfl, _, _, rfl, rfl, cmulR (by decide), _, _, rfl, rfl, .ref p, rfl, p, _, 2, _, rfl, rfl, SqL.of upd_same, rfl, _, _, rfl, rfl, ?_⟩
      exact q _ ⟨hne, upd_same, upd_get (Ne.symm hne) h2⟩ fun u hu _ => upd_ne hu))), ?_⟩
  refine ⟨.ref p, rfl, p, _, 0, .ref c, rfl, rfl, SqL.of hp, rfl, ?_⟩
  refine ⟨.ref c, rfl, c, b.cells.map V.int, rfl, .inl (SqL.of hc), _, _, rfl, rfl, _, rfl, ?_⟩
  obtain ⟨cells, a, bb⟩ := b
  cases cells with
  | nil => exact iteF ⟨[], bb, none, none, hne, rfl, hp, hc, fun H' h1 h2 => q H' h1 h2⟩
  | cons x cs =>
    refine ite2 (fun _ => ?_) fun hlt => absurd (decide_eq_true (by show (0 : Int) < ((((x :: cs).map V.int).length : Nat) : Int); rw [List.length_map, List.length_cons]; omega)) hlt
    -- the first number is taken
    refine ⟨.ref c, rfl, .inl ⟨rfl, _, SqL.of hc⟩, c, (x :: cs).map V.int, 0, 0, .int x, rfl, rfl, hc, by decide, by decide, (ixN_seq (by unfold ixN; rw [if_pos (by decide), if_pos (by rw [List.length_map, List.length_cons]; omega)]; rfl)).1, rfl, .inl ⟨_, rfl, ?_⟩⟩
    have hp2 : upd H c (.lst (cs.map V.int)) p = some (.lst [.ref c, .int a, .int bb]) := upd_get hne hp
    have key : ∀ T : Prop, (sized x = sized x → T) → T := fun T h => h rfl
    refine ⟨_, rfl, _, _, rfl, rfl, _, rfl, ite2 (fun e => ?_) fun e => ?_⟩
    · have hx : sized x = 2 * x := by unfold sized; rw [if_pos (of_decide_eq_true e)]
      refine ⟨_, rfl, _, _, rfl, rfl, .inl (by decide), ?_⟩
      refine ⟨_, rfl, _, _, rfl, rfl, _, rfl, ite2 (fun g => ?_) fun g => ?_⟩
      · have hg : 1000000000000000000 ≤ sized x := by rw [hx]; exact of_decide_eq_true g
        have hl : loadB ⟨x :: cs, a, bb⟩ = (sized x, ⟨cs, a, bb⟩) := by show (if _ then _ else _) = _; rw [if_pos hg]
        rw [hl, hx] at q
        exact ⟨_, rfl, q _ ⟨hne, hp2, upd_same⟩ fun u _ hu => upd_ne hu⟩
      · have hg : ¬ 1000000000000000000 ≤ sized x := by rw [hx]; exact fun z => g (decide_eq_true z)
        have hl : loadB ⟨x :: cs, a, bb⟩ = mixed cs a ((bb * 69621 + sized x * 48271 + 11) % 2147483647) := by show (if _ then _ else _) = _; rw [if_neg hg]
        rw [hl, hx] at q
        refine ⟨.ref p, rfl, p, _, 2, _, rfl, rfl, SqL.of hp2, rfl, _, _, rfl, rfl, cmulR (by decide), _, rfl, _, _, rfl, rfl, cmulR (by decide), _, _, rfl, rfl, _, _, rfl, rfl, .inl ⟨_, rfl, _, _, rfl, rfl, by show (0 : Int) < _; decide, ?_⟩⟩
        refine ⟨.ref p, rfl, p, _, 2, 2, rfl, rfl, hp2, rfl, ?_⟩
        exact ⟨cs, _, _, _, hne, rfl, upd_same, upd_get (Ne.symm hne) upd_same, fun H' h1 h2 => q H' h1 fun u hu hu2 => by rw [h2 u hu hu2, upd_ne hu, upd_ne hu2]⟩
    · have hx : sized x = -2 * x - 1 := by unfold sized; rw [if_neg (fun z => e (decide_eq_true z))]
      refine ⟨_, rfl, _, rfl, _, _, rfl, rfl, .inl (by decide), _, _, rfl, rfl, ?_⟩
      refine ⟨_, rfl, _, _, rfl, rfl, _, rfl, ite2 (fun g => ?_) fun g => ?_⟩
      · have hg : 1000000000000000000 ≤ sized x := by rw [hx]; exact of_decide_eq_true g
        have hl : loadB ⟨x :: cs, a, bb⟩ = (sized x, ⟨cs, a, bb⟩) := by show (if _ then _ else _) = _; rw [if_pos hg]
        rw [hl, hx] at q
        exact ⟨_, rfl, q _ ⟨hne, hp2, upd_same⟩ fun u _ hu => upd_ne hu⟩
      · have hg : ¬ 1000000000000000000 ≤ sized x := by rw [hx]; exact fun z => g (decide_eq_true z)
        have hl : loadB ⟨x :: cs, a, bb⟩ = mixed cs a ((bb * 69621 + sized x * 48271 + 11) % 2147483647) := by show (if _ then _ else _) = _; rw [if_neg hg]
        rw [hl, hx] at q
        refine ⟨.ref p, rfl, p, _, 2, _, rfl, rfl, SqL.of hp2, rfl, _, _, rfl, rfl, cmulR (by decide), _, rfl, _, _, rfl, rfl, cmulR (by decide), _, _, rfl, rfl, _, _, rfl, rfl, .inl ⟨_, rfl, _, _, rfl, rfl, by show (0 : Int) < _; decide, ?_⟩⟩
        refine ⟨.ref p, rfl, p, _, 2, 2, rfl, rfl, hp2, rfl, ?_⟩
        exact ⟨cs, _, _, _, hne, rfl, upd_same, upd_get (Ne.symm hne) upd_same, fun H' h1 h2 => q H' h1 fun u hu hu2 => by rw [h2 u hu hu2, upd_ne hu, upd_ne hu2]⟩
theorem ok_draw {f fL : Addr} {fd fdL : FuncData} {k : Nat} (F : Fun K "_law_draw" "_law_draw" s__law_draw f fd) (FL : Fun K "_law_load" "_law_load" s__law_load fL fdL) (bL : Binds K fdL ["box"] []) (gL : mg "_law_load" = some (.ref fL)) (mlen : mg "len" = none) (mint : mg "int" = none) :
    FnOk P w K mg base CX0 (k + 2) f fd ["box", "many"] (spBox 1 fun b as => match as with
      | [.int m] => if decide (0 < m ∧ m < 1073741824) = true then some (.int (drawB b m).1, (drawB b m).2) else none
      | _ => none) := by
  have GL : FnOk P w K mg base CX0 (k + 1) fL fdL ["box"] (spBox 0 fun b _ => some (.int (loadB b).1, (loadB b).2)) := ok_load FL mlen mint
  refine F.ok sc__law_draw (fun vs H Q E h => h.1) (fun cdv A outer s H vs Q E hr h => ?_)
  obtain ⟨hl, p, c, b, as, r, b', rfl, hB, hgo, q⟩ := h
  obtain ⟨hne, hp, hc⟩ := hB
  match as, hl with
  | [.int m], _ =>
    have hgo' : (if decide (0 < m ∧ m < 1073741824) = true then some (V.int (drawB b m).1, (drawB b m).2) else none) = some (r, b') := hgo
    split at hgo'
    · rename_i hm
      obtain ⟨hm0, hm1⟩ := of_decide_eq_true hm
      cases hgo'
      refine ⟨_, pss_cons (ps_if (pt_cmpR op_lt (pe_ix ix_list (pv 0) pe_int (fun _ _ => rfl)) (pv 1) (nomark _))
          (pss_one (ps_asg (pe_call GL hr (by rfl) gL FL.kp bL .nil pass0 (pa_cons (pv 0) pa_nil)) (pg_sub (pv 0) pe_int set_list))) pss_nil)
        (PSs.imp (t' := fun D σ H1 => ∃ n bb cs, σ = [some (.ref p), some (.int m), none] ∧ H1 p = some (.lst [.ref c, .int n, .int bb]) ∧ H1 c = some (.lst (cs.map V.int)) ∧
            ∀ H', BoxAt H' p c ⟨cs, n / m, bb⟩ → (∀ u, u ≠ p → u ≠ c → H' u = H1 u) → D.rt (.int (n % m)) H')
          (pss_cons (ps_set (i := 2) sc__law_draw.nd rfl (.inl rfl) (pe_op op_mod (pe_callTy call_int1 (by rfl) mint (by decide +kernel) (pa_cons (pe_ix ix_list (pv 0) pe_int (fun _ _ => rfl)) pa_nil)) (pv 1)))
          (pss_cons (ps_asg (pe_op op_fdiv (pe_ix ix_list (pv 0) pe_int (fun _ _ => rfl)) (pv 1)) (pg_sub (pv 0) pe_int set_list))
          (pss_one (ps_ret (pv 2)))))
          (fun D σ H1 ⟨n, bb, cs, hσ, h1, h2, q⟩ => by
            subst hσ
            refine ⟨.ref p, rfl, p, _, 1, _, rfl, rfl, SqL.of h1, rfl, .inl ⟨_, rfl, _, rfl, _, _, rfl, rfl, hm0, ?_⟩⟩
            refine ⟨.ref p, rfl, p, _, 1, _, rfl, rfl, SqL.of h1, rfl, _, rfl, _, _, rfl, rfl, ⟨hm0, hm1⟩, ?_⟩
            refine ⟨.ref p, rfl, p, _, 1, 1, rfl, rfl, h1, rfl, _, rfl, ?_⟩
            exact q _ ⟨hne, upd_same, upd_get (Ne.symm hne) h2⟩ fun u hu _ => upd_ne hu)), ?_⟩
      refine ⟨.ref p, rfl, p, _, 1, _, rfl, rfl, SqL.of hp, rfl, _, rfl, _, _, rfl, rfl, _, rfl, ite2 (fun e => ?_) fun e => ?_⟩
      · have ha : b.a < m := of_decide_eq_true e
        have hd : drawB b m = ((loadB b).1 % m, { (loadB b).2 with a := (loadB b).1 / m }) := by unfold drawB; rw [if_pos ha]
        refine ⟨.ref p, rfl, rfl, p, c, b, [], _, _, rfl, ⟨hne, hp, hc⟩, rfl, fun H2 hB2 hs2 => ?_⟩
        refine ⟨.ref p, rfl, p, _, 1, 1, rfl, rfl, hB2.2.1, rfl, ?_⟩
        refine ⟨(loadB b).1, (loadB b).2.b, (loadB b).2.cells, rfl, upd_same, upd_get (Ne.symm hne) hB2.2.2, fun H' h1 h2 => ?_⟩
        rw [hd] at q
        exact q H' h1 fun u hu hu2 => by rw [h2 u hu hu2, upd_ne hu, hs2 u hu hu2]
      · have ha : ¬ b.a < m := fun z => e (decide_eq_true z)
        have hd : drawB b m = (b.a % m, { b with a := b.a / m }) := by unfold drawB; rw [if_neg ha]
        rw [hd] at q
        exact ⟨b.a, b.b, b.cells, rfl, hp, hc, fun H' h1 h2 => q H' h1 h2⟩
    · cases hgo'
theorem ok_box {f : Addr} {fd : FuncData} {k : Nat} (F : Fun K "_law_box" "_law_box" s__law_box f fd) (mlen : mg "len" = none) (mlist : mg "list" = none) : FnOk P w K mg base CX0 (k + 1) f fd ["script"] (spTape K) := by
  refine F.ok sc__law_box (fun vs H Q E ⟨a, ns, h, _⟩ => by rw [h]; rfl) (fun cdv A outer s H vs Q E hr h => ?_)
  obtain ⟨a, ns, rfl, hS, hl, q⟩ := h
  refine ⟨_, pss_one (ps_ret (pe_lst (pa_cons (pe_callTy call_list_of (by rfl) mlist (by decide +kernel) (pa_cons (pe_slice sl_list (pv 0) po_none (po_some pe_int)) pa_nil)) (pa_cons pe_int (pa_cons (pe_op op_add pe_int (pe_callB call_len_seq (by rfl) mlen PySem.boot_len (pa_cons (pv 0) pa_nil))) pa_nil))))), ?_⟩
  refine ⟨.ref a, rfl, 63, rfl, a, _, rfl, hS, fun p1 n1 => ?_⟩
  have s1 : Same H (upd H p1 (.lst (cutV (ns.map V.int) none (some 63)))) := sameUpd n1
  refine ⟨p1, _, rfl, .inl (SqL.of upd_same), fun c n2 => ?_⟩
  have s2 := s1.trans (sameUpd n2 (o := .lst (cutV (ns.map V.int) none (some 63))))
  refine ⟨.ref a, rfl, a, _, rfl, .inl (s2.seq hS), _, _, rfl, rfl, by show 3 ≤ sizeLine; decide, fun p n3 => ?_⟩
  have hpc : p ≠ c := fun e => by rw [e, upd_same] at n3; cases n3
  refine q _ p c (s2.trans (sameUpd n3)) (s2.free n3) (s1.free n2) ⟨hpc, ?_, ?_⟩
  · rw [upd_same, List.length_map]
  · rw [upd_ne (Ne.symm hpc), upd_same, cut63 _ (by rw [List.length_map]; exact hl)]

noncomputable def F__law_draw : Fnc := gDraw drawB fun m => decide (0 < m ∧ m < 1073741824)
structure Ct (K : Frg) (mg : Str → Option Value) : Prop where
  MAX_HELPERS : CtOk K mg "MAX_HELPERS" (.int 12)
  MAX_KINDS : CtOk K mg "MAX_KINDS" (.int 6)
  MAX_THINGS : CtOk K mg "MAX_THINGS" (.int 99)
/-! ### is_number -/
abbrev s_is_number : Stmt := topS 1
theorem sc_is_number : FnScope ["value", "least", "most"] ["value", "least", "most"] (defScope s_is_number) := ⟨rfl, rfl, rfl, by decide +kernel, rfl, by decide +kernel, by decide +kernel⟩
noncomputable def F_is_number : Fnc := mkF 3 (sRet (eAnd (eUn (dIsi isIntB) (eVar 0)) (eAnd (eNot (eUn (dIsi isBool) (eVar 0))) (eCh dLe dLe (eVar 1) (eVar 0) (eVar 2)))))
theorem ok_is_number {f : Addr} {fd : FuncData} (F : Fun K "is_number" "is_number" s_is_number f fd) (B : Bt mg) : FnOk P w K mg base CX0 1 f fd ["value", "least", "most"] (spF K 3 F_is_number) :=
  def_ok F sc_is_number (by decide) fun cdv A outer s H E hr =>
    (fss_one (fs_ret (fe_and (fe_isi kit_int (fv 0) B.isinstance B.int (by decide +kernel)) (fe_and (fe_not (fe_isi kit_bool (fv 0) B.isinstance B.bool (by decide +kernel))) (fe_one (fc_ch chLe chLe (fv 1) (fv 0) (fv 2)).v)))))
/-! ### is_ascending -/
abbrev s_is_ascending : Stmt := topS 2
theorem sc_is_ascending : FnScope ["rows", "k"] ["rows"] (defScope s_is_ascending) := ⟨rfl, rfl, rfl, by decide +kernel, rfl, by decide +kernel, by decide +kernel⟩
noncomputable def K1_is_ascending : EF := (eOp dLtA (eOp dIx (eVar 0) (eVar 1)) (eOp dIx (eVar 0) (eOp dAdd (eVar 1) (eC (.int 1)))))
noncomputable def F_is_ascending : Fnc := mkF 2 (sRet (eUn dAll (eFz (oComp (lRng1 (eOp dSub (eUn dLen (eVar 0)) (eC (.int 1)))) (gNm 1) bYes (K1_is_ascending) [1]))))
theorem ok_is_ascending {f : Addr} {fd : FuncData} (F : Fun K "is_ascending" "is_ascending" s_is_ascending f fd) (B : Bt mg) : FnOk P w K mg base CX0 1 f fd ["rows"] (spF K 1 F_is_ascending) :=
  def_ok F sc_is_ascending (by decide) fun cdv A outer s H E hr =>
    (fss_one (fs_ret (fe_all ⟨rfl, sc_is_ascending.nd, hr⟩ (fb_fe (fe_fo (fo_lc ⟨rfl, sc_is_ascending.nd, hr⟩ (fi_rng1 (fe_sub (fe_len (fb_fe (fv 0)) B.len) (fb_fe fe_int)) B.range) (blkOk_by (own := [("k", 1)]) (N := ["rows", "k"]) (sc := defScope s_is_ascending) (by decide +kernel)) (fun _ _ _ _ _ => (fgn 1 sc_is_ascending.nd)) (fun _ _ _ _ _ => fts_nil) (fun _ _ _ _ _ => (fc_lt ⟨rfl, sc_is_ascending.nd, hr⟩ (fe_ix (fv 0) (fv 1)) (fb_fe (fe_ix (fv 0) (fe_add (fv 1) (fb_fe fe_int))))).v)))) B.all)))
/-! ### is_thing_row -/
abbrev s_is_thing_row : Stmt := topS 7
theorem sc_is_thing_row : FnScope ["kinds", "value", "x"] ["kinds", "value"] (defScope s_is_thing_row) := ⟨rfl, rfl, rfl, by decide +kernel, rfl, by decide +kernel, by decide +kernel⟩
noncomputable def K1_is_thing_row : EF := (eFz (oCall F_is_number (rVal (eVar 2) (rVal (eC (.int 0)) (rVal (eC (.int 99)) rNil)))))
noncomputable def F_is_thing_row : Fnc := mkF 3 (sRet (eAnd (eUn (dIsi isTup) (eVar 1)) (eAnd (eOp dEq (eUn dLen (eVar 1)) (eVar 0)) (eUn dAll (eFz (oComp (lOf (eVar 1)) (gNm 2) bYes (K1_is_thing_row) [2]))))))
theorem ok_is_thing_row {f : Addr} {fd : FuncData} (F : Fun K "is_thing_row" "is_thing_row" s_is_thing_row f fd) (B : Bt mg) (C : Ct K mg) (D_is_number : Dk P w K mg base "is_number" 1 3 F_is_number) : FnOk P w K mg base CX0 2 f fd ["kinds", "value"] (spF K 2 F_is_thing_row) :=
  def_ok F sc_is_thing_row (by decide) fun cdv A outer s H E hr =>
    (fss_one (fs_ret (fe_and (fe_isi kit_tup (fv 1) B.isinstance B.tuple (by decide +kernel)) (fe_and (fc_eq ⟨rfl, sc_is_thing_row.nd, hr⟩ (fe_len (fb_fe (fv 1)) B.len) (fb_fe (fv 0))).v (fe_one (fe_all ⟨rfl, sc_is_thing_row.nd, hr⟩ (fb_fe (fe_fo (fo_lc ⟨rfl, sc_is_thing_row.nd, hr⟩ (fi_seq (fv 1)) (blkOk_by (own := [("x", 2)]) (N := ["kinds", "value", "x"]) (sc := defScope s_is_thing_row) (by decide +kernel)) (fun _ _ _ _ _ => (fgn 2 sc_is_thing_row.nd)) (fun _ _ _ _ _ => fts_nil) (fun _ _ _ _ _ => (fe_fo (foc D_is_number (hr.mono (by decide)) (fr_val (fv 2) (fr_val fe_int (fr_val (fe_gl C.MAX_THINGS) fr_nil))))))))) B.all))))))
/-! ### is_loan -/
abbrev s_is_loan : Stmt := topS 8
theorem sc_is_loan : FnScope ["value", "free", "held", "needed", "part", "row"] ["value"] (defScope s_is_loan) := ⟨rfl, rfl, rfl, by decide +kernel, rfl, by decide +kernel, by decide +kernel⟩
noncomputable def K1_is_loan : EF := (eUn (dIsi isTup) (eVar 4))
noncomputable def K2_is_loan : EF := (eFz (oCall F_is_thing_row (rVal (eUn dLen (eVar 1)) (rVal (eVar 5) rNil))))
noncomputable def F_is_loan : Fnc := mkF 6 (sSeq (sIf (bOr (bNot (bE (eUn (dIsi isTup) (eVar 0)))) (bOr (bB (eOp dNe (eUn dLen (eVar 0)) (eC (.int 3)))) (bNot (bE (eUn dAll (eFz (oComp (lOf (eVar 0)) (gNm 4) bYes (K1_is_loan) [4]))))))) (sRet (eC (.bool false))) sNext) (sSeq (sAsg (eVar 0) (gTupF (gsCons (gNm 1) (gsCons (gNm 2) (gsCons (gNm 3) gsNil))) 3)) (sSeq (sIf (bOr (bNot (bB (eCh dLe dLe (eC (.int 1)) (eUn dLen (eVar 1)) (eC (.int 6))))) (bOr (bB (eOp dNe (eUn dLen (eVar 2)) (eUn dLen (eVar 3)))) (bB (eOp dGt (eUn dLen (eVar 2)) (eC (.int 12)))))) (sRet (eC (.bool false))) sNext) (sRet (eUn dAll (eFz (oComp (lOf (eOp dAdd (eOp dAdd (eTup (aCons (eVar 1) aNil)) (eVar 2)) (eVar 3))) (gNm 5) bYes (K2_is_loan) [5])))))))
theorem ok_is_loan {f : Addr} {fd : FuncData} (F : Fun K "is_loan" "is_loan" s_is_loan f fd) (B : Bt mg) (C : Ct K mg) (D_is_thing_row : Dk P w K mg base "is_thing_row" 2 2 F_is_thing_row) : FnOk P w K mg base CX0 3 f fd ["value"] (spF K 1 F_is_loan) :=
  def_ok F sc_is_loan (by decide) fun cdv A outer s H E hr =>
    (fss_cons (fs_if (FW.ft (fw_or (ft_not (ft_e (fb_fe (fe_isi kit_tup (fv 0) B.isinstance B.tuple (by decide +kernel))) (by intro _; rfl))) (fw_or (fc_ne ⟨rfl, sc_is_loan.nd, hr⟩ (fe_len (fb_fe (fv 0)) B.len) (fb_fe fe_int)).t (fw_or1 (ft_not (ft_e (fb_fe (fe_all ⟨rfl, sc_is_loan.nd, hr⟩ (fb_fe (fe_fo (fo_lc ⟨rfl, sc_is_loan.nd, hr⟩ (fi_seq (fv 0)) (blkOk_by (own := [("part", 4)]) (N := ["value", "free", "held", "needed", "part", "row"]) (sc := defScope s_is_loan) (by decide +kernel)) (fun _ _ _ _ _ => (fgn 4 sc_is_loan.nd)) (fun _ _ _ _ _ => fts_nil) (fun _ _ _ _ _ => (fe_isi kit_tup (fv 4) B.isinstance B.tuple (by decide +kernel)))))) B.all)) (by intro _; rfl))))))) (fss_one (fs_ret fe_bl)) fss_nil) (fss_cons (fs_asg (fv 0) (fg_tup rfl (fgs_cons (fgn 1 sc_is_loan.nd) (fgs_cons (fgn 2 sc_is_loan.nd) (fgs_cons (fgn 3 sc_is_loan.nd) fgs_nil))))) (fss_cons (fs_if (FW.ft (fw_or (ft_not (fc_ch chLe chLe fe_int (fe_len (fb_fe (fv 1)) B.len) (fe_gl C.MAX_KINDS)).t) (fw_or (fc_ne ⟨rfl, sc_is_loan.nd, hr⟩ (fe_len (fb_fe (fv 2)) B.len) (fb_fe (fe_len (fb_fe (fv 3)) B.len))).t (fw_or1 (fc_gt ⟨rfl, sc_is_loan.nd, hr⟩ (fe_len (fb_fe (fv 2)) B.len) (fb_fe (fe_gl C.MAX_HELPERS))).t)))) (fss_one (fs_ret fe_bl)) fss_nil) (fss_one (fs_ret (fe_all ⟨rfl, sc_is_loan.nd, hr⟩ (fb_fe (fe_fo (fo_lc ⟨rfl, sc_is_loan.nd, hr⟩ (fi_seq (fe_add (fe_add (fe_tup (fa_cons (fv 1) fa_nil)) (fb_fe (fv 2))) (fb_fe (fv 3)))) (blkOk_by (own := [("row", 5)]) (N := ["value", "free", "held", "needed", "part", "row"]) (sc := defScope s_is_loan) (by decide +kernel)) (fun _ _ _ _ _ => (fgn 5 sc_is_loan.nd)) (fun _ _ _ _ _ => fts_nil) (fun _ _ _ _ _ => (fe_fo (foc D_is_thing_row (hr.mono (by decide)) (fr_val (fe_len (fb_fe (fv 1)) B.len) (fr_val (fv 5) fr_nil)))))))) B.all))))))
/-! ### fits -/
abbrev s_fits : Stmt := topS 9
theorem sc_fits : FnScope ["needed", "free", "need", "there"] ["needed", "free"] (defScope s_fits) := ⟨rfl, rfl, rfl, by decide +kernel, rfl, by decide +kernel, by decide +kernel⟩
noncomputable def K1_fits : EF := (eOp dLe (eVar 2) (eVar 3))
noncomputable def F_fits : Fnc := mkF 4 (sRet (eUn dAll (eFz (oComp (lZip (eVar 0) (eVar 1)) (gTupF (gsCons (gNm 2) (gsCons (gNm 3) gsNil)) 2) bYes (K1_fits) [2, 3]))))
theorem ok_fits {f : Addr} {fd : FuncData} (F : Fun K "fits" "fits" s_fits f fd) (B : Bt mg) : FnOk P w K mg base CX0 1 f fd ["needed", "free"] (spF K 2 F_fits) :=
  def_ok F sc_fits (by decide) fun cdv A outer s H E hr =>
    (fss_one (fs_ret (fe_all ⟨rfl, sc_fits.nd, hr⟩ (fb_fe (fe_fo (fo_lc ⟨rfl, sc_fits.nd, hr⟩ (fi_zip (fv 0) (fv 1) B.zip) (blkOk_by (own := [("need", 2), ("there", 3)]) (N := ["needed", "free", "need", "there"]) (sc := defScope s_fits) (by decide +kernel)) (fun _ _ _ _ _ => (fg_tup rfl (fgs_cons (fgn 2 sc_fits.nd) (fgs_cons (fgn 3 sc_fits.nd) fgs_nil)))) (fun _ _ _ _ _ => fts_nil) (fun _ _ _ _ _ => (fc_le ⟨rfl, sc_fits.nd, hr⟩ (fv 2) (fb_fe (fv 3))).v)))) B.all)))
/-! ### added_to -/
abbrev s_added_to : Stmt := topS 10
theorem sc_added_to : FnScope ["free", "row", "there", "more"] ["free", "row"] (defScope s_added_to) := ⟨rfl, rfl, rfl, by decide +kernel, rfl, by decide +kernel, by decide +kernel⟩
noncomputable def K1_added_to : EF := (eOp dAdd (eVar 2) (eVar 3))
noncomputable def F_added_to : Fnc := mkF 4 (sRet (eUn dTuple (eFz (oComp (lZip (eVar 0) (eVar 1)) (gTupF (gsCons (gNm 2) (gsCons (gNm 3) gsNil)) 2) bYes (K1_added_to) [2, 3]))))
theorem ok_added_to {f : Addr} {fd : FuncData} (F : Fun K "added_to" "added_to" s_added_to f fd) (B : Bt mg) : FnOk P w K mg base CX0 1 f fd ["free", "row"] (spF K 2 F_added_to) :=
  def_ok F sc_added_to (by decide) fun cdv A outer s H E hr =>
    (fss_one (fs_ret (fe_tuple (fb_fe (fe_fo (fo_lc ⟨rfl, sc_added_to.nd, hr⟩ (fi_zip (fv 0) (fv 1) B.zip) (blkOk_by (own := [("there", 2), ("more", 3)]) (N := ["free", "row", "there", "more"]) (sc := defScope s_added_to) (by decide +kernel)) (fun _ _ _ _ _ => (fg_tup rfl (fgs_cons (fgn 2 sc_added_to.nd) (fgs_cons (fgn 3 sc_added_to.nd) fgs_nil)))) (fun _ _ _ _ _ => fts_nil) (fun _ _ _ _ _ => (fe_add (fv 2) (fb_fe (fv 3))))))) B.tuple)))
/-! ### safe_order -/
abbrev s_safe_order : Stmt := topS 11
theorem sc_safe_order : FnScope ["loan", "free", "held", "needed", "left", "order", "able", "helper"] ["loan"] (defScope s_safe_order) := ⟨rfl, rfl, rfl, by decide +kernel, rfl, by decide +kernel, by decide +kernel⟩
noncomputable def T1_safe_order : BF := (bE (eFz (oCall F_fits (rVal (eOp dIx (eVar 3) (eVar 7)) (rVal (eVar 1) rNil)))))
noncomputable def K2_safe_order : EF := (eVar 7)
noncomputable def T3_safe_order : BF := (bE (eOwn 4))
noncomputable def L4_safe_order : SF := (sSeq (sSet 6 (oE (eFz (oIte 4 (oCompO 4 (gNm 7) (T1_safe_order) (K2_safe_order) [7]) (oComp (lOf (eNm 4)) (gNm 7) (T1_safe_order) (K2_safe_order) [7]))))) (sSeq (sIf (bNot (bE (eVar 6))) (sRet (eTup (aCons (eC (.str "stuck")) (aCons (eUn dTuple (eOwn 4)) aNil)))) sNext) (sSeq (sDrop (eMt1 gAppend 5 (eOp dIx (eVar 6) (eC (.int 0))))) (sSeq (sDrop (eMt1 gRemove 4 (eOp dIx (eVar 6) (eC (.int 0))))) (sSet 1 (oE (eFz (oCall F_added_to (rVal (eVar 1) (rVal (eOp dIx (eVar 2) (eOp dIx (eVar 6) (eC (.int 0)))) rNil))))))))))
noncomputable def F_safe_order : Fnc := mkF 8 (sSeq (sAsg (eVar 0) (gTupF (gsCons (gNm 1) (gsCons (gNm 2) (gsCons (gNm 3) gsNil))) 3)) (sSeq (sPar [4, 5] (olCons (oUn dRngL (eUn dLen (eVar 2))) (olCons (oLst aNil) olNil))) (sSeq (sWhile (T3_safe_order) (L4_safe_order)) (sRet (eTup (aCons (eC (.str "order")) (aCons (eUn dTuple (eOwn 5)) aNil)))))))
theorem ok_safe_order {f : Addr} {fd : FuncData} (F : Fun K "safe_order" "safe_order" s_safe_order f fd) (B : Bt mg) (D_fits : Dk P w K mg base "fits" 1 2 F_fits) (D_added_to : Dk P w K mg base "added_to" 1 2 F_added_to) : FnOk P w K mg base CX0 2 f fd ["loan"] (spF K 1 F_safe_order) :=
  def_ok F sc_safe_order (by decide) fun cdv A outer s H E hr =>
    (fss_cons (fs_asg (fv 0) (fg_tup rfl (fgs_cons (fgn 1 sc_safe_order.nd) (fgs_cons (fgn 2 sc_safe_order.nd) (fgs_cons (fgn 3 sc_safe_order.nd) fgs_nil))))) (fss_cons (fpar 4 5 sc_safe_order.nd (fol_cons (fo_listRg (fb_fe (fe_len (fb_fe (fv 2)) B.len)) rfl B.list B.range) (fol_cons (fo_lst fa_nil) fol_nil))) (fss_cons (fs_while PassesOwn.never (ft_e (fo 4) (by intro _; rfl)) (fss_cons (fs_setLcZO 4 (i := 6) ⟨rfl, sc_safe_order.nd, hr⟩ rfl rfl (sw_true rfl rfl rfl (by decide +kernel)) (fi_seq (fm 4)) (blkOk_by (own := [("helper", 7)]) (N := ["loan", "free", "held", "needed", "left", "order", "able", "helper"]) (sc := defScope s_safe_order) (by decide +kernel)) (fun _ _ _ _ _ => (fgn 7 sc_safe_order.nd)) (fun _ _ _ _ _ => (fts_one (ft_e (fb_fe (fe_fo (foc D_fits (hr.mono (by decide)) (fr_val (fe_ix (fv 3) (fv 7)) (fr_val (fv 1) fr_nil))))) (by intro _; rfl)))) (fun _ _ _ _ _ => (fv 7))) (fss_cons (fs_if (ft_not (ft_e (fb_fe (fv 6)) (by intro _; rfl))) (fss_one (fs_ret (fe_tup (fa_cons fe_str (fa_cons (fe_tuple (fo 4) B.tuple) fa_nil))))) fss_nil) (fss_cons (fs_expr (fapp 5 (fe_ix (fv 6) fe_int))) (fss_cons (fs_expr (frem 4 (fe_ix (fv 6) fe_int))) (fss_one (fset 1 sc_safe_order.nd (fo_fe (fe_fo (foc D_added_to (hr.mono (by decide)) (fr_val (fv 1) (fr_val (fe_ix (fv 2) (fe_ix (fv 6) fe_int)) fr_nil)))))))))))) (fss_one (fs_ret (fe_tup (fa_cons fe_str (fa_cons (fe_tuple (fo 5) B.tuple) fa_nil))))))))
/-! ### is_safe_order -/
abbrev s_is_safe_order : Stmt := topS 12
theorem sc_is_safe_order : FnScope ["loan", "value", "free", "held", "needed", "helper"] ["loan", "value"] (defScope s_is_safe_order) := ⟨rfl, rfl, rfl, by decide +kernel, rfl, by decide +kernel, by decide +kernel⟩
noncomputable def K1_is_safe_order : EF := (eFz (oCall F_is_number (rVal (eVar 5) (rVal (eC (.int 0)) (rVal (eOp dSub (eUn dLen (eVar 3)) (eC (.int 1))) rNil)))))
noncomputable def L2_is_safe_order : SF := (sSeq (sIf (bNot (bE (eFz (oCall F_fits (rVal (eOp dIx (eVar 4) (eVar 5)) (rVal (eVar 2) rNil)))))) (sRet (eC (.bool false))) sNext) (sSet 2 (oE (eFz (oCall F_added_to (rVal (eVar 2) (rVal (eOp dIx (eVar 3) (eVar 5)) rNil)))))))
noncomputable def F_is_safe_order : Fnc := mkF 6 (sSeq (sAsg (eVar 0) (gTupF (gsCons (gNm 2) (gsCons (gNm 3) (gsCons (gNm 4) gsNil))) 3)) (sSeq (sIf (bOr (bNot (bE (eUn (dIsi isTup) (eVar 1)))) (bNot (bE (eUn dAll (eFz (oComp (lOf (eVar 1)) (gNm 5) bYes (K1_is_safe_order) [5])))))) (sRet (eC (.bool false))) sNext) (sSeq (sIf (bB (eOp dNe (eFz (oUn dSortA (eVar 1))) (eFz (oUn dRngL (eUn dLen (eVar 3)))))) (sRet (eC (.bool false))) sNext) (sSeq (sFor (lOf (eVar 1)) (gNm 5) (L2_is_safe_order)) (sRet (eC (.bool true)))))))
theorem ok_is_safe_order {f : Addr} {fd : FuncData} (F : Fun K "is_safe_order" "is_safe_order" s_is_safe_order f fd) (B : Bt mg) (D_is_number : Dk P w K mg base "is_number" 1 3 F_is_number) (D_fits : Dk P w K mg base "fits" 1 2 F_fits) (D_added_to : Dk P w K mg base "added_to" 1 2 F_added_to) : FnOk P w K mg base CX0 2 f fd ["loan", "value"] (spF K 2 F_is_safe_order) :=
  def_ok F sc_is_safe_order (by decide) fun cdv A outer s H E hr =>
    (fss_cons (fs_asg (fv 0) (fg_tup rfl (fgs_cons (fgn 2 sc_is_safe_order.nd) (fgs_cons (fgn 3 sc_is_safe_order.nd) (fgs_cons (fgn 4 sc_is_safe_order.nd) fgs_nil))))) (fss_cons (fs_if (FW.ft (fw_or (ft_not (ft_e (fb_fe (fe_isi kit_tup (fv 1) B.isinstance B.tuple (by decide +kernel))) (by intro _; rfl))) (fw_or1 (ft_not (ft_e (fb_fe (fe_all ⟨rfl, sc_is_safe_order.nd, hr⟩ (fb_fe (fe_fo (fo_lc ⟨rfl, sc_is_safe_order.nd, hr⟩ (fi_seq (fv 1)) (blkOk_by (own := [("helper", 5)]) (N := ["loan", "value", "free", "held", "needed", "helper"]) (sc := defScope s_is_safe_order) (by decide +kernel)) (fun _ _ _ _ _ => (fgn 5 sc_is_safe_order.nd)) (fun _ _ _ _ _ => fts_nil) (fun _ _ _ _ _ => (fe_fo (foc D_is_number (hr.mono (by decide)) (fr_val (fv 5) (fr_val fe_int (fr_val (fe_sub (fe_len (fb_fe (fv 3)) B.len) (fb_fe fe_int)) fr_nil))))))))) B.all)) (by intro _; rfl)))))) (fss_one (fs_ret fe_bl)) fss_nil) (fss_cons (fs_if (fc_ne ⟨rfl, sc_is_safe_order.nd, hr⟩ (fe_fo (fo_sortA (fb_fe (fv 1)) B.sorted)) (fb_fe (fe_fo (fo_listRg (fb_fe (fe_len (fb_fe (fv 3)) B.len)) rfl B.list B.range)))).t (fss_one (fs_ret fe_bl)) fss_nil) (fss_cons (fs_for PassesOwn.never rfl (fi_seq (fv 1)) (fgn 5 sc_is_safe_order.nd) (fss_cons (fs_if (ft_not (ft_e (fb_fe (fe_fo (foc D_fits (hr.mono (by decide)) (fr_val (fe_ix (fv 4) (fv 5)) (fr_val (fv 2) fr_nil))))) (by intro _; rfl))) (fss_one (fs_ret fe_bl)) fss_nil) (fss_one (fset 2 sc_is_safe_order.nd (fo_fe (fe_fo (foc D_added_to (hr.mono (by decide)) (fr_val (fv 2) (fr_val (fe_ix (fv 3) (fv 5)) fr_nil))))))))) (fss_one (fs_ret fe_bl))))))
/-! ### is_stuck -/
abbrev s_is_stuck : Stmt := topS 13
theorem sc_is_stuck : FnScope ["loan", "value", "free", "held", "needed", "helper", "row", "k"] ["loan", "value"] (defScope s_is_stuck) := ⟨rfl, rfl, rfl, by decide +kernel, rfl, by decide +kernel, by decide +kernel⟩
noncomputable def K1_is_stuck : EF := (eFz (oCall F_is_number (rVal (eVar 7) (rVal (eC (.int 0)) (rVal (eOp dSub (eUn dLen (eVar 3)) (eC (.int 1))) rNil)))))
noncomputable def L2_is_stuck : SF := (sIf (bB (eOp (dInA true) (eVar 5) (eVar 1))) (sSet 2 (oE (eFz (oCall F_added_to (rVal (eVar 2) (rVal (eVar 6) rNil)))))) sNext)
noncomputable def K3_is_stuck : EF := (eFz (oCall F_fits (rVal (eOp dIx (eVar 4) (eVar 5)) (rVal (eVar 2) rNil))))
noncomputable def F_is_stuck : Fnc := mkF 8 (sSeq (sAsg (eVar 0) (gTupF (gsCons (gNm 2) (gsCons (gNm 3) (gsCons (gNm 4) gsNil))) 3)) (sSeq (sIf (bOr (bNot (bE (eUn (dIsi isTup) (eVar 1)))) (bOr (bB (eOp dEq (eVar 1) (eTup aNil))) (bNot (bE (eUn dAll (eFz (oComp (lOf (eVar 1)) (gNm 7) bYes (K1_is_stuck) [7]))))))) (sRet (eC (.bool false))) sNext) (sSeq (sIf (bNot (bE (eFz (oCall F_is_ascending (rVal (eVar 1) rNil))))) (sRet (eC (.bool false))) sNext) (sSeq (sFor (lEnum (eVar 3)) (gTupF (gsCons (gNm 5) (gsCons (gNm 6) gsNil)) 2) (L2_is_stuck)) (sRet (eNot (eUn dAny (eFz (oComp (lOf (eVar 1)) (gNm 5) bYes (K3_is_stuck) [5])))))))))
theorem ok_is_stuck {f : Addr} {fd : FuncData} (F : Fun K "is_stuck" "is_stuck" s_is_stuck f fd) (B : Bt mg) (D_is_number : Dk P w K mg base "is_number" 1 3 F_is_number) (D_is_ascending : Dk P w K mg base "is_ascending" 1 1 F_is_ascending) (D_added_to : Dk P w K mg base "added_to" 1 2 F_added_to) (D_fits : Dk P w K mg base "fits" 1 2 F_fits) : FnOk P w K mg base CX0 2 f fd ["loan", "value"] (spF K 2 F_is_stuck) :=
  def_ok F sc_is_stuck (by decide) fun cdv A outer s H E hr =>
    (fss_cons (fs_asg (fv 0) (fg_tup rfl (fgs_cons (fgn 2 sc_is_stuck.nd) (fgs_cons (fgn 3 sc_is_stuck.nd) (fgs_cons (fgn 4 sc_is_stuck.nd) fgs_nil))))) (fss_cons (fs_if (FW.ft (fw_or (ft_not (ft_e (fb_fe (fe_isi kit_tup (fv 1) B.isinstance B.tuple (by decide +kernel))) (by intro _; rfl))) (fw_or (fc_eq ⟨rfl, sc_is_stuck.nd, hr⟩ (fv 1) (fb_fe (fe_tup fa_nil))).t (fw_or1 (ft_not (ft_e (fb_fe (fe_all ⟨rfl, sc_is_stuck.nd, hr⟩ (fb_fe (fe_fo (fo_lc ⟨rfl, sc_is_stuck.nd, hr⟩ (fi_seq (fv 1)) (blkOk_by (own := [("k", 7)]) (N := ["loan", "value", "free", "held", "needed", "helper", "row", "k"]) (sc := defScope s_is_stuck) (by decide +kernel)) (fun _ _ _ _ _ => (fgn 7 sc_is_stuck.nd)) (fun _ _ _ _ _ => fts_nil) (fun _ _ _ _ _ => (fe_fo (foc D_is_number (hr.mono (by decide)) (fr_val (fv 7) (fr_val fe_int (fr_val (fe_sub (fe_len (fb_fe (fv 3)) B.len) (fb_fe fe_int)) fr_nil))))))))) B.all)) (by intro _; rfl))))))) (fss_one (fs_ret fe_bl)) fss_nil) (fss_cons (fs_if (ft_not (ft_e (fb_fe (fe_fo (foc D_is_ascending (hr.mono (by decide)) (fr_val (fv 1) fr_nil)))) (by intro _; rfl))) (fss_one (fs_ret fe_bl)) fss_nil) (fss_cons (fs_for PassesOwn.never rfl (fi_enum (fv 3) B.enumerate) (fg_tup rfl (fgs_cons (fgn 5 sc_is_stuck.nd) (fgs_cons (fgn 6 sc_is_stuck.nd) fgs_nil))) (fss_one (fs_if (fc_notinA ⟨rfl, sc_is_stuck.nd, hr⟩ (fv 5) (fb_fe (fv 1))).t (fss_one (fset 2 sc_is_stuck.nd (fo_fe (fe_fo (foc D_added_to (hr.mono (by decide)) (fr_val (fv 2) (fr_val (fv 6) fr_nil))))))) fss_nil))) (fss_one (fs_ret (fe_not (fe_any ⟨rfl, sc_is_stuck.nd, hr⟩ (fb_fe (fe_fo (fo_lc ⟨rfl, sc_is_stuck.nd, hr⟩ (fi_seq (fv 1)) (blkOk_by (own := [("helper", 5)]) (N := ["loan", "value", "free", "held", "needed", "helper", "row", "k"]) (sc := defScope s_is_stuck) (by decide +kernel)) (fun _ _ _ _ _ => (fgn 5 sc_is_stuck.nd)) (fun _ _ _ _ _ => fts_nil) (fun _ _ _ _ _ => (fe_fo (foc D_fits (hr.mono (by decide)) (fr_val (fe_ix (fv 4) (fv 5)) (fr_val (fv 2) fr_nil)))))))) B.any))))))))
/-! ### after_asking -/
abbrev s_after_asking : Stmt := topS 14
theorem sc_after_asking : FnScope ["loan", "helper", "row", "free", "held", "needed", "less", "more", "need", "there", "given"] ["loan", "helper", "row"] (defScope s_after_asking) := ⟨rfl, rfl, rfl, by decide +kernel, rfl, by decide +kernel, by decide +kernel⟩
noncomputable def K1_after_asking : EF := (eOp dSub (eVar 8) (eVar 7))
noncomputable def K2_after_asking : EF := (eOp dSub (eVar 9) (eVar 10))
noncomputable def F_after_asking : Fnc := mkF 11 (sSeq (sAsg (eVar 0) (gTupF (gsCons (gNm 3) (gsCons (gNm 4) (gsCons (gNm 5) gsNil))) 3)) (sSeq (sSet 6 (oE (eUn dTuple (eFz (oComp (lZip (eOp dIx (eVar 5) (eVar 1)) (eVar 2)) (gTupF (gsCons (gNm 8) (gsCons (gNm 7) gsNil)) 2) bYes (K1_after_asking) [8, 7]))))) (sSeq (sSet 7 (oE (eFz (oCall F_added_to (rVal (eOp dIx (eVar 4) (eVar 1)) (rVal (eVar 2) rNil)))))) (sSeq (sSet 4 (oE (eOp dAdd (eOp dAdd (eSl (eVar 4) pNo (pSo (eVar 1))) (eTup (aCons (eVar 7) aNil))) (eSl (eVar 4) (pSo (eOp dAdd (eVar 1) (eC (.int 1)))) pNo)))) (sSeq (sSet 5 (oE (eOp dAdd (eOp dAdd (eSl (eVar 5) pNo (pSo (eVar 1))) (eTup (aCons (eVar 6) aNil))) (eSl (eVar 5) (pSo (eOp dAdd (eVar 1) (eC (.int 1)))) pNo)))) (sRet (eTup (aCons (eUn dTuple (eFz (oComp (lZip (eVar 3) (eVar 2)) (gTupF (gsCons (gNm 9) (gsCons (gNm 10) gsNil)) 2) bYes (K2_after_asking) [9, 10]))) (aCons (eVar 4) (aCons (eVar 5) aNil))))))))))
theorem ok_after_asking {f : Addr} {fd : FuncData} (F : Fun K "after_asking" "after_asking" s_after_asking f fd) (B : Bt mg) (D_added_to : Dk P w K mg base "added_to" 1 2 F_added_to) : FnOk P w K mg base CX0 2 f fd ["loan", "helper", "row"] (spF K 3 F_after_asking) :=
  def_ok F sc_after_asking (by decide) fun cdv A outer s H E hr =>
    (fss_cons (fs_asg (fv 0) (fg_tup rfl (fgs_cons (fgn 3 sc_after_asking.nd) (fgs_cons (fgn 4 sc_after_asking.nd) (fgs_cons (fgn 5 sc_after_asking.nd) fgs_nil))))) (fss_cons (fset 6 sc_after_asking.nd (fo_fe (fe_tuple (fb_fe (fe_fo (fo_lc ⟨rfl, sc_after_asking.nd, hr⟩ (fi_zip (fe_ix (fv 5) (fv 1)) (fv 2) B.zip) (blkOk_by (own := [("need", 8), ("more", 7)]) (N := ["loan", "helper", "row", "free", "held", "needed", "less", "more", "need", "there", "given"]) (sc := defScope s_after_asking) (by decide +kernel)) (fun _ _ _ _ _ => (fg_tup rfl (fgs_cons (fgn 8 sc_after_asking.nd) (fgs_cons (fgn 7 sc_after_asking.nd) fgs_nil)))) (fun _ _ _ _ _ => fts_nil) (fun _ _ _ _ _ => (fe_sub (fv 8) (fb_fe (fv 7))))))) B.tuple))) (fss_cons (fset 7 sc_after_asking.nd (fo_fe (fe_fo (foc D_added_to (hr.mono (by decide)) (fr_val (fe_ix (fv 4) (fv 1)) (fr_val (fv 2) fr_nil)))))) (fss_cons (fset 4 sc_after_asking.nd (fo_fe (fe_add (fe_add (fe_sl (fv 4) fp_no (fp_so (fv 1))) (fb_fe (fe_tup (fa_cons (fv 7) fa_nil)))) (fb_fe (fe_sl (fv 4) (fp_so (fe_add (fv 1) (fb_fe fe_int))) fp_no))))) (fss_cons (fset 5 sc_after_asking.nd (fo_fe (fe_add (fe_add (fe_sl (fv 5) fp_no (fp_so (fv 1))) (fb_fe (fe_tup (fa_cons (fv 6) fa_nil)))) (fb_fe (fe_sl (fv 5) (fp_so (fe_add (fv 1) (fb_fe fe_int))) fp_no))))) (fss_one (fs_ret (fe_tup (fa_cons (fe_tuple (fb_fe (fe_fo (fo_lc ⟨rfl, sc_after_asking.nd, hr⟩ (fi_zip (fv 3) (fv 2) B.zip) (blkOk_by (own := [("there", 9), ("given", 10)]) (N := ["loan", "helper", "row", "free", "held", "needed", "less", "more", "need", "there", "given"]) (sc := defScope s_after_asking) (by decide +kernel)) (fun _ _ _ _ _ => (fg_tup rfl (fgs_cons (fgn 9 sc_after_asking.nd) (fgs_cons (fgn 10 sc_after_asking.nd) fgs_nil)))) (fun _ _ _ _ _ => fts_nil) (fun _ _ _ _ _ => (fe_sub (fv 9) (fb_fe (fv 10))))))) B.tuple) (fa_cons (fv 4) (fa_cons (fv 5) fa_nil)))))))))))
/-! ### may_grant -/
abbrev s_may_grant : Stmt := topS 15
theorem sc_may_grant : FnScope ["loan", "helper", "row"] ["loan", "helper", "row"] (defScope s_may_grant) := ⟨rfl, rfl, rfl, by decide +kernel, rfl, by decide +kernel, by decide +kernel⟩
noncomputable def F_may_grant : Fnc := mkF 3 (sRet (eAnd (eFz (oCall F_fits (rVal (eVar 2) (rVal (eOp dIx (eVar 0) (eC (.int 0))) rNil)))) (eOp dEq (eOp dIx (eFz (oCall F_safe_order (rVal (eFz (oCall F_after_asking (rVal (eVar 0) (rVal (eVar 1) (rVal (eVar 2) rNil))))) rNil))) (eC (.int 0))) (eC (.str "order")))))
theorem ok_may_grant {f : Addr} {fd : FuncData} (F : Fun K "may_grant" "may_grant" s_may_grant f fd) (B : Bt mg) (D_fits : Dk P w K mg base "fits" 1 2 F_fits) (D_after_asking : Dk P w K mg base "after_asking" 2 3 F_after_asking) (D_safe_order : Dk P w K mg base "safe_order" 2 1 F_safe_order) : FnOk P w K mg base CX0 3 f fd ["loan", "helper", "row"] (spF K 3 F_may_grant) :=
  def_ok F sc_may_grant (by decide) fun cdv A outer s H E hr =>
    (fss_one (fs_ret (fe_and (fe_fo (foc D_fits (hr.mono (by decide)) (fr_val (fv 2) (fr_val (fe_ix (fv 0) fe_int) fr_nil)))) (fe_one (fc_eq ⟨rfl, sc_may_grant.nd, hr⟩ (fe_ix (fe_fo (foc D_safe_order (hr.mono (by decide)) (fr_val (fe_fo (foc D_after_asking (hr.mono (by decide)) (fr_val (fv 0) (fr_val (fv 1) (fr_val (fv 2) fr_nil))))) fr_nil))) fe_int) (fb_fe fe_str)).v))))
/-! ### _law_flat -/
abbrev s__law_flat : Stmt := topS 17
theorem sc__law_flat : FnScope ["rows", "found", "row"] ["rows"] (defScope s__law_flat) := ⟨rfl, rfl, rfl, by decide +kernel, rfl, by decide +kernel, by decide +kernel⟩
noncomputable def L1__law_flat : SF := (sDrop (eMt1 gExtend 1 (eVar 2)))
noncomputable def F__law_flat : Fnc := mkF 3 (sSeq (sSet 1 (oLst aNil)) (sSeq (sFor (lOf (eVar 0)) (gNm 2) (L1__law_flat)) (sRetN 1)))
theorem ok__law_flat {f : Addr} {fd : FuncData} (F : Fun K "_law_flat" "_law_flat" s__law_flat f fd) (B : Bt mg) : FnOk P w K mg base CX0 1 f fd ["rows"] (spF K 1 F__law_flat) :=
  def_ok F sc__law_flat (by decide) fun cdv A outer s H E hr =>
    (fss_cons (fset 1 sc__law_flat.nd (fo_lst fa_nil)) (fss_cons (fs_for PassesOwn.never rfl (fi_seq (fv 0)) (fgn 2 sc__law_flat.nd) (fss_one (fs_expr (fext 1 (fv 2))))) (fss_one (fretN 1))))
/-! ### _law_same -/
abbrev s__law_same : Stmt := topS 21
theorem sc__law_same : FnScope ["a", "b", "k"] ["a", "b"] (defScope s__law_same) := ⟨rfl, rfl, rfl, by decide +kernel, rfl, by decide +kernel, by decide +kernel⟩
noncomputable def K1__law_same (F : Fnc) : EF := (eFz (oCall F (rVal (eOp dIx (eVar 0) (eVar 2)) (rVal (eOp dIx (eVar 1) (eVar 2)) rNil))))
noncomputable def B__law_same (F : Fnc) : SF := (sSeq (sIf (bOr (bAnd (bE (eUn (dIsi isTup) (eVar 0))) (bE (eUn (dIsi isTup) (eVar 1)))) (bAnd (bE (eUn (dIsi isLst) (eVar 0))) (bE (eUn (dIsi isLst) (eVar 1))))) (sRet (eAnd (eOp dEq (eUn dLen (eVar 0)) (eUn dLen (eVar 1))) (eUn dAll (eFz (oComp (lRng1 (eUn dLen (eVar 0))) (gNm 2) bYes (K1__law_same F) [2]))))) sNext) (sSeq (sIf (bOr (bE (eUn (dIsi isBool) (eVar 0))) (bE (eUn (dIsi isBool) (eVar 1)))) (sRet (eAnd (eUn (dIsi isBool) (eVar 0)) (eAnd (eUn (dIsi isBool) (eVar 1)) (eOp dEq (eVar 0) (eVar 1))))) sNext) (sSeq (sIf (bOr (bAnd (bE (eUn (dIsi isIntB) (eVar 0))) (bE (eUn (dIsi isIntB) (eVar 1)))) (bAnd (bE (eUn (dIsi isStr) (eVar 0))) (bE (eUn (dIsi isStr) (eVar 1))))) (sRet (eOp dEq (eVar 0) (eVar 1))) sNext) (sRet (eAnd (eOp dIs (eVar 0) (eC .none)) (eOp dIs (eVar 1) (eC .none)))))))
noncomputable def R__law_same : Nat → Fnc
  | 0 => fun _ => none
  | k + 1 => mkF 3 (B__law_same (R__law_same k))
noncomputable def F__law_same : Fnc := R__law_same 20
theorem st__law_same {f : Addr} {fd : FuncData} {k : Nat} {G : Fnc} (F : Fun K "_law_same" "_law_same" s__law_same f fd) (B : Bt mg) (D : Dk P w K mg base "_law_same" k 2 G) (hk : 0 ≤ k) : FnOk P w K mg base CX0 (k + 1) f fd ["a", "b"] (spF K 2 (mkF 3 (B__law_same G))) :=
  def_ok F sc__law_same (by decide) fun cdv A outer s H E hr =>
    (fss_cons (fs_if (FW.ft (fw_or (FW.ft (fw_and (ft_e (fb_fe (fe_isi kit_tup (fv 0) B.isinstance B.tuple (by decide +kernel))) (by intro _; rfl)) (fw_and1 (ft_e (fb_fe (fe_isi kit_tup (fv 1) B.isinstance B.tuple (by decide +kernel))) (by intro _; rfl))))) (fw_or1 (FW.ft (fw_and (ft_e (fb_fe (fe_isi kit_lst (fv 0) B.isinstance B.list (by decide +kernel))) (by intro _; rfl)) (fw_and1 (ft_e (fb_fe (fe_isi kit_lst (fv 1) B.isinstance B.list (by decide +kernel))) (by intro _; rfl)))))))) (fss_one (fs_ret (fe_and (fc_eq ⟨rfl, sc__law_same.nd, hr⟩ (fe_len (fb_fe (fv 0)) B.len) (fb_fe (fe_len (fb_fe (fv 1)) B.len))).v (fe_one (fe_all ⟨rfl, sc__law_same.nd, hr⟩ (fb_fe (fe_fo (fo_lc ⟨rfl, sc__law_same.nd, hr⟩ (fi_rng1 (fe_len (fb_fe (fv 0)) B.len) B.range) (blkOk_by (own := [("k", 2)]) (N := ["a", "b", "k"]) (sc := defScope s__law_same) (by decide +kernel)) (fun _ _ _ _ _ => (fgn 2 sc__law_same.nd)) (fun _ _ _ _ _ => fts_nil) (fun _ _ _ _ _ => (fe_fo (foc D hr (fr_val (fe_ix (fv 0) (fv 2)) (fr_val (fe_ix (fv 1) (fv 2)) fr_nil)))))))) B.all))))) fss_nil) (fss_cons (fs_if (FW.ft (fw_or (ft_e (fb_fe (fe_isi kit_bool (fv 0) B.isinstance B.bool (by decide +kernel))) (by intro _; rfl)) (fw_or1 (ft_e (fb_fe (fe_isi kit_bool (fv 1) B.isinstance B.bool (by decide +kernel))) (by intro _; rfl))))) (fss_one (fs_ret (fe_and (fe_isi kit_bool (fv 0) B.isinstance B.bool (by decide +kernel)) (fe_and (fe_isi kit_bool (fv 1) B.isinstance B.bool (by decide +kernel)) (fe_one (fc_eq ⟨rfl, sc__law_same.nd, hr⟩ (fv 0) (fb_fe (fv 1))).v))))) fss_nil) (fss_cons (fs_if (FW.ft (fw_or (FW.ft (fw_and (ft_e (fb_fe (fe_isi kit_int (fv 0) B.isinstance B.int (by decide +kernel))) (by intro _; rfl)) (fw_and1 (ft_e (fb_fe (fe_isi kit_int (fv 1) B.isinstance B.int (by decide +kernel))) (by intro _; rfl))))) (fw_or1 (FW.ft (fw_and (ft_e (fb_fe (fe_isi kit_str (fv 0) B.isinstance B.str (by decide +kernel))) (by intro _; rfl)) (fw_and1 (ft_e (fb_fe (fe_isi kit_str (fv 1) B.isinstance B.str (by decide +kernel))) (by intro _; rfl)))))))) (fss_one (fs_ret (fc_eq ⟨rfl, sc__law_same.nd, hr⟩ (fv 0) (fb_fe (fv 1))).v)) fss_nil) (fss_one (fs_ret (fe_and (fc_is ⟨rfl, sc__law_same.nd, hr⟩ (fv 0) (fb_fe fe_non)).v (fe_one (fc_is ⟨rfl, sc__law_same.nd, hr⟩ (fv 1) (fb_fe fe_non)).v)))))))
/-! ### _law_loan -/
abbrev s__law_loan : Stmt := topS 22
theorem sc__law_loan : FnScope ["box", "kinds", "many", "most", "free", "held", "k", "j"] ["box", "kinds", "many", "most"] (defScope s__law_loan) := ⟨rfl, rfl, rfl, by decide +kernel, rfl, by decide +kernel, by decide +kernel⟩
noncomputable def K1__law_loan : EF := (eFz (oCall F__law_draw (rRef 0 (rVal (eVar 3) rNil))))
noncomputable def K2__law_loan : EF := (eFz (oCall F__law_draw (rRef 0 (rVal (eVar 3) rNil))))
noncomputable def K3__law_loan : EF := (eUn dTuple (eFz (oComp (lRng1 (eVar 1)) (gNm 6) bYes (K2__law_loan) [6])))
noncomputable def K4__law_loan : EF := (eFz (oCall F__law_draw (rRef 0 (rVal (eOp dAdd (eVar 3) (eC (.int 1))) rNil))))
noncomputable def K5__law_loan : EF := (eUn dTuple (eFz (oComp (lRng1 (eVar 1)) (gNm 6) bYes (K4__law_loan) [6])))
noncomputable def F__law_loan : Fnc := mkF 8 (sSeq (sSet 4 (oE (eUn dTuple (eFz (oComp (lRng1 (eVar 1)) (gNm 6) bYes (K1__law_loan) [6]))))) (sSeq (sSet 5 (oE (eUn dTuple (eFz (oComp (lRng1 (eVar 2)) (gNm 7) bYes (K3__law_loan) [7]))))) (sRet (eTup (aCons (eVar 4) (aCons (eVar 5) (aCons (eUn dTuple (eFz (oComp (lRng1 (eVar 2)) (gNm 7) bYes (K5__law_loan) [7]))) aNil)))))))
theorem ok__law_loan {f : Addr} {fd : FuncData} (F : Fun K "_law_loan" "_law_loan" s__law_loan f fd) (B : Bt mg) (D__law_draw : Dk P w K mg base "_law_draw" 2 2 F__law_draw) : FnOk P w K mg base CX0 3 f fd ["box", "kinds", "many", "most"] (spF K 4 F__law_loan) :=
  def_ok F sc__law_loan (by decide) fun cdv A outer s H E hr =>
    (fss_cons (fset 4 sc__law_loan.nd (fo_fe (fe_tuple (fb_fe (fe_fo (fo_lc ⟨rfl, sc__law_loan.nd, hr⟩ (fi_rng1 (fv 1) B.range) (blkOk_by (own := [("k", 6)]) (N := ["box", "kinds", "many", "most", "free", "held", "k", "j"]) (sc := defScope s__law_loan) (by decide +kernel)) (fun _ _ _ _ _ => (fgn 6 sc__law_loan.nd)) (fun _ _ _ _ _ => fts_nil) (fun _ _ _ _ _ => (fe_fo (foc D__law_draw (hr.mono (by decide)) (frf 0 (fr_val (fv 3) fr_nil)))))))) B.tuple))) (fss_cons (fset 5 sc__law_loan.nd (fo_fe (fe_tuple (fb_fe (fe_fo (fo_lc ⟨rfl, sc__law_loan.nd, hr⟩ (fi_rng1 (fv 2) B.range) (blkOk_by (own := [("j", 7)]) (N := ["box", "kinds", "many", "most", "free", "held", "k", "j"]) (sc := defScope s__law_loan) (by decide +kernel)) (fun _ _ _ _ _ => (fgn 7 sc__law_loan.nd)) (fun _ _ _ _ _ => fts_nil) (fun _ _ _ _ _ => (fe_tuple (fb_fe (fe_fo (fo_lc ⟨rfl, sc__law_loan.nd, hr⟩ (fi_rng1 (fv 1) B.range) (blkOk_by (own := [("k", 6)]) (by rfl)) (fun _ _ _ _ _ => (fgn 6 sc__law_loan.nd)) (fun _ _ _ _ _ => fts_nil) (fun _ _ _ _ _ => (fe_fo (foc D__law_draw (hr.mono (by decide)) (frf 0 (fr_val (fv 3) fr_nil)))))))) B.tuple))))) B.tuple))) (fss_one (fs_ret (fe_tup (fa_cons (fv 4) (fa_cons (fv 5) (fa_cons (fe_tuple (fb_fe (fe_fo (fo_lc ⟨rfl, sc__law_loan.nd, hr⟩ (fi_rng1 (fv 2) B.range) (blkOk_by (own := [("j", 7)]) (N := ["box", "kinds", "many", "most", "free", "held", "k", "j"]) (sc := defScope s__law_loan) (by decide +kernel)) (fun _ _ _ _ _ => (fgn 7 sc__law_loan.nd)) (fun _ _ _ _ _ => fts_nil) (fun _ _ _ _ _ => (fe_tuple (fb_fe (fe_fo (fo_lc ⟨rfl, sc__law_loan.nd, hr⟩ (fi_rng1 (fv 1) B.range) (blkOk_by (own := [("k", 6)]) (by rfl)) (fun _ _ _ _ _ => (fgn 6 sc__law_loan.nd)) (fun _ _ _ _ _ => fts_nil) (fun _ _ _ _ _ => (fe_fo (foc D__law_draw (hr.mono (by decide)) (frf 0 (fr_val (fe_add (fv 3) (fb_fe fe_int)) fr_nil)))))))) B.tuple))))) B.tuple) fa_nil))))))))
/-! ### _law_ends -/
abbrev s__law_ends : Stmt := topS 23
theorem sc__law_ends : FnScope ["loan", "order", "free", "j", "k"] ["loan", "order"] (defScope s__law_ends) := ⟨rfl, rfl, rfl, by decide +kernel, rfl, by decide +kernel, by decide +kernel⟩
noncomputable def K1__law_ends : EF := (eOp dGt (eOp dIx (eOp dIx (eOp dIx (eVar 0) (eC (.int 2))) (eVar 3)) (eVar 4)) (eOp dIx (eVar 2) (eVar 4)))
noncomputable def K2__law_ends : EF := (eOp dAdd (eOp dIx (eVar 2) (eVar 4)) (eOp dIx (eOp dIx (eOp dIx (eVar 0) (eC (.int 1))) (eVar 3)) (eVar 4)))
noncomputable def L3__law_ends : SF := (sSeq (sIf (bE (eUn dAny (eFz (oComp (lRng1 (eUn dLen (eVar 2))) (gNm 4) bYes (K1__law_ends) [4])))) (sRet (eC (.bool false))) sNext) (sSet 2 (oE (eFz (oComp (lRng1 (eUn dLen (eVar 2))) (gNm 4) bYes (K2__law_ends) [4])))))
noncomputable def F__law_ends : Fnc := mkF 5 (sSeq (sSet 2 (oE (eFz (oUn dList (eOp dIx (eVar 0) (eC (.int 0))))))) (sSeq (sFor (lOf (eVar 1)) (gNm 3) (L3__law_ends)) (sRet (eC (.bool true)))))
theorem ok__law_ends {f : Addr} {fd : FuncData} (F : Fun K "_law_ends" "_law_ends" s__law_ends f fd) (B : Bt mg) : FnOk P w K mg base CX0 1 f fd ["loan", "order"] (spF K 2 F__law_ends) :=
  def_ok F sc__law_ends (by decide) fun cdv A outer s H E hr =>
    (fss_cons (fset 2 sc__law_ends.nd (fo_fe (fe_fo (fo_list (fb_fe (fe_ix (fv 0) fe_int)) B.list)))) (fss_cons (fs_for PassesOwn.never rfl (fi_seq (fv 1)) (fgn 3 sc__law_ends.nd) (fss_cons (fs_if (ft_e (fb_fe (fe_any ⟨rfl, sc__law_ends.nd, hr⟩ (fb_fe (fe_fo (fo_lc ⟨rfl, sc__law_ends.nd, hr⟩ (fi_rng1 (fe_len (fb_fe (fv 2)) B.len) B.range) (blkOk_by (own := [("k", 4)]) (N := ["loan", "order", "free", "j", "k"]) (sc := defScope s__law_ends) (by decide +kernel)) (fun _ _ _ _ _ => (fgn 4 sc__law_ends.nd)) (fun _ _ _ _ _ => fts_nil) (fun _ _ _ _ _ => (fc_gt ⟨rfl, sc__law_ends.nd, hr⟩ (fe_ix (fe_ix (fe_ix (fv 0) fe_int) (fv 3)) (fv 4)) (fb_fe (fe_ix (fv 2) (fv 4)))).v)))) B.any)) (by intro _; rfl)) (fss_one (fs_ret fe_bl)) fss_nil) (fss_one (fset 2 sc__law_ends.nd (fo_fe (fe_fo (fo_lc ⟨rfl, sc__law_ends.nd, hr⟩ (fi_rng1 (fe_len (fb_fe (fv 2)) B.len) B.range) (blkOk_by (own := [("k", 4)]) (N := ["loan", "order", "free", "j", "k"]) (sc := defScope s__law_ends) (by decide +kernel)) (fun _ _ _ _ _ => (fgn 4 sc__law_ends.nd)) (fun _ _ _ _ _ => fts_nil) (fun _ _ _ _ _ => (fe_add (fe_ix (fv 2) (fv 4)) (fb_fe (fe_ix (fe_ix (fe_ix (fv 0) fe_int) (fv 3)) (fv 4)))))))))))) (fss_one (fs_ret fe_bl))))
/-! ### _law_orders -/
abbrev s__law_orders : Stmt := topS 24
theorem sc__law_orders : FnScope ["n", "rows", "step", "j", "row"] ["n"] (defScope s__law_orders) := ⟨rfl, rfl, rfl, by decide +kernel, rfl, by decide +kernel, by decide +kernel⟩
noncomputable def T1__law_orders : BF := (bB (eOp (dInA true) (eVar 3) (eVar 4)))
noncomputable def K2__law_orders : EF := (eOp dAdd (eVar 4) (eTup (aCons (eVar 3) aNil)))
noncomputable def K3__law_orders : EF := (eFz (oComp (lRng1 (eVar 0)) (gNm 3) (T1__law_orders) (K2__law_orders) [3]))
noncomputable def L4__law_orders : SF := (sSet 1 (oE (eFz (oCall F__law_flat (rVal (eFz (oComp (lOf (eVar 1)) (gNm 4) bYes (K3__law_orders) [4])) rNil)))))
noncomputable def F__law_orders : Fnc := mkF 5 (sSeq (sSet 1 (oE (eFz (oLst (aCons (eTup aNil) aNil))))) (sSeq (sFor (lRng1 (eVar 0)) (gNm 2) (L4__law_orders)) (sRet (eVar 1))))
theorem ok__law_orders {f : Addr} {fd : FuncData} (F : Fun K "_law_orders" "_law_orders" s__law_orders f fd) (B : Bt mg) (D__law_flat : Dk P w K mg base "_law_flat" 1 1 F__law_flat) : FnOk P w K mg base CX0 2 f fd ["n"] (spF K 1 F__law_orders) :=
  def_ok F sc__law_orders (by decide) fun cdv A outer s H E hr =>
    (fss_cons (fset 1 sc__law_orders.nd (fo_fe (fe_fo (fo_lst (fa_cons (fe_tup fa_nil) fa_nil))))) (fss_cons (fs_for PassesOwn.never rfl (fi_rng1 (fv 0) B.range) (fgn 2 sc__law_orders.nd) (fss_one (fset 1 sc__law_orders.nd (fo_fe (fe_fo (foc D__law_flat (hr.mono (by decide)) (fr_val (fe_fo (fo_lc ⟨rfl, sc__law_orders.nd, hr⟩ (fi_seq (fv 1)) (blkOk_by (own := [("row", 4)]) (N := ["n", "rows", "step", "j", "row"]) (sc := defScope s__law_orders) (by decide +kernel)) (fun _ _ _ _ _ => (fgn 4 sc__law_orders.nd)) (fun _ _ _ _ _ => fts_nil) (fun _ _ _ _ _ => (fe_fo (fo_lc ⟨rfl, sc__law_orders.nd, hr⟩ (fi_rng1 (fv 0) B.range) (blkOk_by (own := [("j", 3)]) (by rfl)) (fun _ _ _ _ _ => (fgn 3 sc__law_orders.nd)) (fun _ _ _ _ _ => (fts_one (fc_notinA ⟨rfl, sc__law_orders.nd, hr⟩ (fv 3) (fb_fe (fv 4))).t)) (fun _ _ _ _ _ => (fe_add (fv 4) (fb_fe (fe_tup (fa_cons (fv 3) fa_nil)))))))))) fr_nil))))))) (fss_one (fs_ret (fv 1)))))
/-! ### _law_sets -/
abbrev s__law_sets : Stmt := topS 25
theorem sc__law_sets : FnScope ["n", "rows", "k", "row"] ["n"] (defScope s__law_sets) := ⟨rfl, rfl, rfl, by decide +kernel, rfl, by decide +kernel, by decide +kernel⟩
noncomputable def K1__law_sets : EF := (eOp dAdd (eVar 3) (eTup (aCons (eVar 2) aNil)))
noncomputable def L2__law_sets : SF := (sSet 1 (oE (eOp dAdd (eVar 1) (eFz (oComp (lOf (eVar 1)) (gNm 3) bYes (K1__law_sets) [3])))))
noncomputable def F__law_sets : Fnc := mkF 4 (sSeq (sSet 1 (oE (eFz (oLst (aCons (eTup aNil) aNil))))) (sSeq (sFor (lRng1 (eVar 0)) (gNm 2) (L2__law_sets)) (sRet (eVar 1))))
theorem ok__law_sets {f : Addr} {fd : FuncData} (F : Fun K "_law_sets" "_law_sets" s__law_sets f fd) (B : Bt mg) : FnOk P w K mg base CX0 1 f fd ["n"] (spF K 1 F__law_sets) :=
  def_ok F sc__law_sets (by decide) fun cdv A outer s H E hr =>
    (fss_cons (fset 1 sc__law_sets.nd (fo_fe (fe_fo (fo_lst (fa_cons (fe_tup fa_nil) fa_nil))))) (fss_cons (fs_for PassesOwn.never rfl (fi_rng1 (fv 0) B.range) (fgn 2 sc__law_sets.nd) (fss_one (fset 1 sc__law_sets.nd (fo_fe (fe_add (fv 1) (fb_fe (fe_fo (fo_lc ⟨rfl, sc__law_sets.nd, hr⟩ (fi_seq (fv 1)) (blkOk_by (own := [("row", 3)]) (N := ["n", "rows", "k", "row"]) (sc := defScope s__law_sets) (by decide +kernel)) (fun _ _ _ _ _ => (fgn 3 sc__law_sets.nd)) (fun _ _ _ _ _ => fts_nil) (fun _ _ _ _ _ => (fe_add (fv 3) (fb_fe (fe_tup (fa_cons (fv 2) fa_nil))))))))))))) (fss_one (fs_ret (fv 1)))))
/-! ### _law_stuck -/
abbrev s__law_stuck : Stmt := topS 26
theorem sc__law_stuck : FnScope ["loan", "group", "free", "j", "k"] ["loan", "group"] (defScope s__law_stuck) := ⟨rfl, rfl, rfl, by decide +kernel, rfl, by decide +kernel, by decide +kernel⟩
noncomputable def T1__law_stuck : BF := (bB (eOp (dInA true) (eVar 3) (eVar 1)))
noncomputable def K2__law_stuck : EF := (eOp dIx (eOp dIx (eOp dIx (eVar 0) (eC (.int 1))) (eVar 3)) (eVar 4))
noncomputable def K3__law_stuck : EF := (eOp dAdd (eOp dIx (eOp dIx (eVar 0) (eC (.int 0))) (eVar 4)) (eUn dSum (eFz (oComp (lRng1 (eUn dLen (eOp dIx (eVar 0) (eC (.int 1))))) (gNm 3) (T1__law_stuck) (K2__law_stuck) [3]))))
noncomputable def K4__law_stuck : EF := (eOp dGt (eOp dIx (eOp dIx (eOp dIx (eVar 0) (eC (.int 2))) (eVar 3)) (eVar 4)) (eOp dIx (eVar 2) (eVar 4)))
noncomputable def K5__law_stuck : EF := (eUn dAny (eFz (oComp (lRng1 (eUn dLen (eVar 2))) (gNm 4) bYes (K4__law_stuck) [4])))
noncomputable def F__law_stuck : Fnc := mkF 5 (sSeq (sSet 2 (oE (eFz (oComp (lRng1 (eUn dLen (eOp dIx (eVar 0) (eC (.int 0))))) (gNm 4) bYes (K3__law_stuck) [4])))) (sRet (eAnd (eOp dGt (eUn dLen (eVar 1)) (eC (.int 0))) (eUn dAll (eFz (oComp (lOf (eVar 1)) (gNm 3) bYes (K5__law_stuck) [3]))))))
theorem ok__law_stuck {f : Addr} {fd : FuncData} (F : Fun K "_law_stuck" "_law_stuck" s__law_stuck f fd) (B : Bt mg) : FnOk P w K mg base CX0 1 f fd ["loan", "group"] (spF K 2 F__law_stuck) :=
  def_ok F sc__law_stuck (by decide) fun cdv A outer s H E hr =>
    (fss_cons (fset 2 sc__law_stuck.nd (fo_fe (fe_fo (fo_lc ⟨rfl, sc__law_stuck.nd, hr⟩ (fi_rng1 (fe_len (fb_fe (fe_ix (fv 0) fe_int)) B.len) B.range) (blkOk_by (own := [("k", 4)]) (N := ["loan", "group", "free", "j", "k"]) (sc := defScope s__law_stuck) (by decide +kernel)) (fun _ _ _ _ _ => (fgn 4 sc__law_stuck.nd)) (fun _ _ _ _ _ => fts_nil) (fun _ _ _ _ _ => (fe_add (fe_ix (fe_ix (fv 0) fe_int) (fv 4)) (fb_fe (fe_sum ⟨rfl, sc__law_stuck.nd, hr⟩ (fb_fe (fe_fo (fo_lc ⟨rfl, sc__law_stuck.nd, hr⟩ (fi_rng1 (fe_len (fb_fe (fe_ix (fv 0) fe_int)) B.len) B.range) (blkOk_by (own := [("j", 3)]) (by rfl)) (fun _ _ _ _ _ => (fgn 3 sc__law_stuck.nd)) (fun _ _ _ _ _ => (fts_one (fc_notinA ⟨rfl, sc__law_stuck.nd, hr⟩ (fv 3) (fb_fe (fv 1))).t)) (fun _ _ _ _ _ => (fe_ix (fe_ix (fe_ix (fv 0) fe_int) (fv 3)) (fv 4)))))) B.sum)))))))) (fss_one (fs_ret (fe_and (fc_gt ⟨rfl, sc__law_stuck.nd, hr⟩ (fe_len (fb_fe (fv 1)) B.len) (fb_fe fe_int)).v (fe_one (fe_all ⟨rfl, sc__law_stuck.nd, hr⟩ (fb_fe (fe_fo (fo_lc ⟨rfl, sc__law_stuck.nd, hr⟩ (fi_seq (fv 1)) (blkOk_by (own := [("j", 3)]) (N := ["loan", "group", "free", "j", "k"]) (sc := defScope s__law_stuck) (by decide +kernel)) (fun _ _ _ _ _ => (fgn 3 sc__law_stuck.nd)) (fun _ _ _ _ _ => fts_nil) (fun _ _ _ _ _ => (fe_any ⟨rfl, sc__law_stuck.nd, hr⟩ (fb_fe (fe_fo (fo_lc ⟨rfl, sc__law_stuck.nd, hr⟩ (fi_rng1 (fe_len (fb_fe (fv 2)) B.len) B.range) (blkOk_by (own := [("k", 4)]) (by rfl)) (fun _ _ _ _ _ => (fgn 4 sc__law_stuck.nd)) (fun _ _ _ _ _ => fts_nil) (fun _ _ _ _ _ => (fc_gt ⟨rfl, sc__law_stuck.nd, hr⟩ (fe_ix (fe_ix (fe_ix (fv 0) fe_int) (fv 3)) (fv 4)) (fb_fe (fe_ix (fv 2) (fv 4)))).v)))) B.any))))) B.all))))))
/-! ### _law_numbers -/
abbrev s__law_numbers : Stmt := topS 27
theorem sc__law_numbers : FnScope ["value", "n", "x"] ["value", "n"] (defScope s__law_numbers) := ⟨rfl, rfl, rfl, by decide +kernel, rfl, by decide +kernel, by decide +kernel⟩
noncomputable def K1__law_numbers : EF := (eAnd (eUn (dIsi isIntB) (eVar 2)) (eAnd (eNot (eUn (dIsi isBool) (eVar 2))) (eAnd (eOp dLe (eC (.int 0)) (eVar 2)) (eOp dLtA (eVar 2) (eVar 1)))))
noncomputable def F__law_numbers : Fnc := mkF 3 (sRet (eAnd (eUn (dIsi isTup) (eVar 0)) (eUn dAll (eFz (oComp (lOf (eVar 0)) (gNm 2) bYes (K1__law_numbers) [2])))))
theorem ok__law_numbers {f : Addr} {fd : FuncData} (F : Fun K "_law_numbers" "_law_numbers" s__law_numbers f fd) (B : Bt mg) : FnOk P w K mg base CX0 1 f fd ["value", "n"] (spF K 2 F__law_numbers) :=
  def_ok F sc__law_numbers (by decide) fun cdv A outer s H E hr =>
    (fss_one (fs_ret (fe_and (fe_isi kit_tup (fv 0) B.isinstance B.tuple (by decide +kernel)) (fe_one (fe_all ⟨rfl, sc__law_numbers.nd, hr⟩ (fb_fe (fe_fo (fo_lc ⟨rfl, sc__law_numbers.nd, hr⟩ (fi_seq (fv 0)) (blkOk_by (own := [("x", 2)]) (N := ["value", "n", "x"]) (sc := defScope s__law_numbers) (by decide +kernel)) (fun _ _ _ _ _ => (fgn 2 sc__law_numbers.nd)) (fun _ _ _ _ _ => fts_nil) (fun _ _ _ _ _ => (fe_and (fe_isi kit_int (fv 2) B.isinstance B.int (by decide +kernel)) (fe_and (fe_not (fe_isi kit_bool (fv 2) B.isinstance B.bool (by decide +kernel))) (fe_and (fc_le ⟨rfl, sc__law_numbers.nd, hr⟩ fe_int (fb_fe (fv 2))).v (fe_one (fc_lt ⟨rfl, sc__law_numbers.nd, hr⟩ (fv 2) (fb_fe (fv 1))).v)))))))) B.all)))))
/-! ### _law_is_loan -/
abbrev s__law_is_loan : Stmt := topS 28
theorem sc__law_is_loan : FnScope ["value", "part", "row"] ["value"] (defScope s__law_is_loan) := ⟨rfl, rfl, rfl, by decide +kernel, rfl, by decide +kernel, by decide +kernel⟩
noncomputable def K1__law_is_loan : EF := (eUn (dIsi isTup) (eVar 1))
noncomputable def K2__law_is_loan : EF := (eAnd (eFz (oCall F__law_numbers (rVal (eVar 2) (rVal (eC (.int 100)) rNil)))) (eOp dEq (eUn dLen (eVar 2)) (eUn dLen (eOp dIx (eVar 0) (eC (.int 0))))))
noncomputable def F__law_is_loan : Fnc := mkF 3 (sSeq (sIf (bOr (bNot (bE (eUn (dIsi isTup) (eVar 0)))) (bOr (bB (eOp dNe (eUn dLen (eVar 0)) (eC (.int 3)))) (bOr (bNot (bE (eUn dAll (eFz (oComp (lOf (eVar 0)) (gNm 1) bYes (K1__law_is_loan) [1]))))) (bNot (bB (eCh dLe dLe (eC (.int 1)) (eUn dLen (eOp dIx (eVar 0) (eC (.int 0)))) (eC (.int 6)))))))) (sRet (eC (.bool false))) sNext) (sSeq (sIf (bOr (bB (eOp dNe (eUn dLen (eOp dIx (eVar 0) (eC (.int 1)))) (eUn dLen (eOp dIx (eVar 0) (eC (.int 2)))))) (bB (eOp dGt (eUn dLen (eOp dIx (eVar 0) (eC (.int 1)))) (eC (.int 12))))) (sRet (eC (.bool false))) sNext) (sRet (eUn dAll (eFz (oComp (lOf (eOp dAdd (eOp dAdd (eTup (aCons (eOp dIx (eVar 0) (eC (.int 0))) aNil)) (eOp dIx (eVar 0) (eC (.int 1)))) (eOp dIx (eVar 0) (eC (.int 2))))) (gNm 2) bYes (K2__law_is_loan) [2]))))))
theorem ok__law_is_loan {f : Addr} {fd : FuncData} (F : Fun K "_law_is_loan" "_law_is_loan" s__law_is_loan f fd) (B : Bt mg) (D__law_numbers : Dk P w K mg base "_law_numbers" 1 2 F__law_numbers) : FnOk P w K mg base CX0 2 f fd ["value"] (spF K 1 F__law_is_loan) :=
  def_ok F sc__law_is_loan (by decide) fun cdv A outer s H E hr =>
    (fss_cons (fs_if (FW.ft (fw_or (ft_not (ft_e (fb_fe (fe_isi kit_tup (fv 0) B.isinstance B.tuple (by decide +kernel))) (by intro _; rfl))) (fw_or (fc_ne ⟨rfl, sc__law_is_loan.nd, hr⟩ (fe_len (fb_fe (fv 0)) B.len) (fb_fe fe_int)).t (fw_or (ft_not (ft_e (fb_fe (fe_all ⟨rfl, sc__law_is_loan.nd, hr⟩ (fb_fe (fe_fo (fo_lc ⟨rfl, sc__law_is_loan.nd, hr⟩ (fi_seq (fv 0)) (blkOk_by (own := [("part", 1)]) (N := ["value", "part", "row"]) (sc := defScope s__law_is_loan) (by decide +kernel)) (fun _ _ _ _ _ => (fgn 1 sc__law_is_loan.nd)) (fun _ _ _ _ _ => fts_nil) (fun _ _ _ _ _ => (fe_isi kit_tup (fv 1) B.isinstance B.tuple (by decide +kernel)))))) B.all)) (by intro _; rfl))) (fw_or1 (ft_not (fc_ch chLe chLe fe_int (fe_len (fb_fe (fe_ix (fv 0) fe_int)) B.len) fe_int).t)))))) (fss_one (fs_ret fe_bl)) fss_nil) (fss_cons (fs_if (FW.ft (fw_or (fc_ne ⟨rfl, sc__law_is_loan.nd, hr⟩ (fe_len (fb_fe (fe_ix (fv 0) fe_int)) B.len) (fb_fe (fe_len (fb_fe (fe_ix (fv 0) fe_int)) B.len))).t (fw_or1 (fc_gt ⟨rfl, sc__law_is_loan.nd, hr⟩ (fe_len (fb_fe (fe_ix (fv 0) fe_int)) B.len) (fb_fe fe_int)).t))) (fss_one (fs_ret fe_bl)) fss_nil) (fss_one (fs_ret (fe_all ⟨rfl, sc__law_is_loan.nd, hr⟩ (fb_fe (fe_fo (fo_lc ⟨rfl, sc__law_is_loan.nd, hr⟩ (fi_seq (fe_add (fe_add (fe_tup (fa_cons (fe_ix (fv 0) fe_int) fa_nil)) (fb_fe (fe_ix (fv 0) fe_int))) (fb_fe (fe_ix (fv 0) fe_int)))) (blkOk_by (own := [("row", 2)]) (N := ["value", "part", "row"]) (sc := defScope s__law_is_loan) (by decide +kernel)) (fun _ _ _ _ _ => (fgn 2 sc__law_is_loan.nd)) (fun _ _ _ _ _ => fts_nil) (fun _ _ _ _ _ => (fe_and (fe_fo (foc D__law_numbers (hr.mono (by decide)) (fr_val (fv 2) (fr_val fe_int fr_nil)))) (fe_one (fc_eq ⟨rfl, sc__law_is_loan.nd, hr⟩ (fe_len (fb_fe (fv 2)) B.len) (fb_fe (fe_len (fb_fe (fe_ix (fv 0) fe_int)) B.len))).v)))))) B.all)))))
/-! ### _law_bent -/
abbrev s__law_bent : Stmt := topS 29
theorem sc__law_bent : FnScope ["box", "value", "at", "pick"] ["box", "value"] (defScope s__law_bent) := ⟨rfl, rfl, rfl, by decide +kernel, rfl, by decide +kernel, by decide +kernel⟩
noncomputable def B__law_bent (F : Fnc) : SF := (sSeq (sIf (bAnd (bE (eUn (dIsi isTup) (eVar 1))) (bAnd (bB (eOp dGt (eUn dLen (eVar 1)) (eC (.int 0)))) (bB (eOp dGt (eFz (oCall F__law_draw (rRef 0 (rVal (eC (.int 5)) rNil)))) (eC (.int 0)))))) (sSeq (sSet 2 (oE (eFz (oCall F__law_draw (rRef 0 (rVal (eUn dLen (eVar 1)) rNil)))))) (sRet (eOp dAdd (eOp dAdd (eSl (eVar 1) pNo (pSo (eVar 2))) (eTup (aCons (eFz (oCall F (rRef 0 (rVal (eOp dIx (eVar 1) (eVar 2)) rNil)))) aNil))) (eSl (eVar 1) (pSo (eOp dAdd (eVar 2) (eC (.int 1)))) pNo)))) sNext) (sSeq (sSet 3 (oE (eFz (oCall F__law_draw (rRef 0 (rVal (eC (.int 8)) rNil)))))) (sSeq (sIf (bE (eUn (dIsi isTup) (eVar 1))) (sRet (eOp dIx (eFz (oLst (aCons (eOp dAdd (eVar 1) (eSl (eVar 1) pNo (pSo (eC (.int 1))))) (aCons (eSl (eVar 1) (pSo (eC (.int 1))) pNo) (aCons (eUn dRev (eVar 1)) (aCons (eOp dAdd (eVar 1) (eTup (aCons (eC (.int 0)) aNil))) (aCons (eTup (aCons (eVar 1) aNil)) (aCons (eSl (eVar 1) pNo (pSo (eUn dNeg (eC (.int 1))))) (aCons (eC .none) (aCons (eOp dAdd (eVar 1) (eTup (aCons (eTup (aCons (eC (.int 0)) (aCons (eC (.int 1)) aNil))) aNil))) aNil)))))))))) (eVar 3))) sNext) (sSeq (sIf (bAnd (bE (eUn (dIsi isIntB) (eVar 1))) (bNot (bE (eUn (dIsi isBool) (eVar 1))))) (sRet (eOp dIx (eFz (oLst (aCons (eOp dAdd (eVar 1) (eC (.int 1))) (aCons (eOp dSub (eVar 1) (eC (.int 1))) (aCons (eC (.int 0)) (aCons (eOp dEq (eVar 1) (eC (.int 1))) (aCons (eC .none) (aCons (eUn dStr (eVar 1)) (aCons (eTup (aCons (eVar 1) aNil)) (aCons (eOp dAdd (eVar 1) (eC (.int 2))) aNil)))))))))) (eVar 3))) sNext) (sSeq (sIf (bE (eUn (dIsi isStr) (eVar 1))) (sRet (eOp dIx (eFz (oLst (aCons (eOp dAdd (eVar 1) (eC (.str "s"))) (aCons (eSl (eVar 1) (pSo (eC (.int 1))) pNo) (aCons (eC (.str "jump")) (aCons (eC (.str "open")) (aCons (eC (.int 0)) (aCons (eC .none) (aCons (eC (.str "")) (aCons (eC (.str "bent")) aNil)))))))))) (eVar 3))) sNext) (sRet (eOp dIx (eFz (oLst (aCons (eC (.int 0)) (aCons (eC (.int 1)) (aCons (eC .none) (aCons (eC (.bool true)) (aCons (eC (.str "a")) (aCons (eTup aNil) (aCons (eTup (aCons (eC (.int 0)) aNil)) (aCons (eC (.str "point")) aNil)))))))))) (eVar 3))))))))
noncomputable def R__law_bent : Nat → Fnc
  | 0 => fun _ => none
  | k + 1 => mkF 4 (B__law_bent (R__law_bent k))
noncomputable def F__law_bent : Fnc := R__law_bent 20
theorem st__law_bent {f : Addr} {fd : FuncData} {k : Nat} {G : Fnc} (F : Fun K "_law_bent" "_law_bent" s__law_bent f fd) (B : Bt mg) (D__law_draw : Dk P w K mg base "_law_draw" 2 2 F__law_draw) (D : Dk P w K mg base "_law_bent" k 2 G) (hk : 2 ≤ k) : FnOk P w K mg base CX0 (k + 1) f fd ["box", "value"] (spF K 2 (mkF 4 (B__law_bent G))) :=
  def_ok F sc__law_bent (by decide) fun cdv A outer s H E hr =>
    (fss_cons (fs_if (FW.ft (fw_and (ft_e (fb_fe (fe_isi kit_tup (fv 1) B.isinstance B.tuple (by decide +kernel))) (by intro _; rfl)) (fw_and (fc_gt ⟨rfl, sc__law_bent.nd, hr⟩ (fe_len (fb_fe (fv 1)) B.len) (fb_fe fe_int)).t (fw_and1 (fc_gt ⟨rfl, sc__law_bent.nd, hr⟩ (fe_fo (foc D__law_draw (hr.mono (Nat.le_trans (by decide) hk)) (frf 0 (fr_val fe_int fr_nil)))) (fb_fe fe_int)).t)))) (fss_cons (fset 2 sc__law_bent.nd (fo_fe (fe_fo (foc D__law_draw (hr.mono (Nat.le_trans (by decide) hk)) (frf 0 (fr_val (fe_len (fb_fe (fv 1)) B.len) fr_nil)))))) (fss_one (fs_ret (fe_add (fe_add (fe_sl (fv 1) fp_no (fp_so (fv 2))) (fb_fe (fe_tup (fa_cons (fe_fo (foc D hr (frf 0 (fr_val (fe_ix (fv 1) (fv 2)) fr_nil)))) fa_nil)))) (fb_fe (fe_sl (fv 1) (fp_so (fe_add (fv 2) (fb_fe fe_int))) fp_no)))))) fss_nil) (fss_cons (fset 3 sc__law_bent.nd (fo_fe (fe_fo (foc D__law_draw (hr.mono (Nat.le_trans (by decide) hk)) (frf 0 (fr_val fe_int fr_nil)))))) (fss_cons (fs_if (ft_e (fb_fe (fe_isi kit_tup (fv 1) B.isinstance B.tuple (by decide +kernel))) (by intro _; rfl)) (fss_one (fs_ret (fe_ix (fe_fo (fo_lst (fa_cons (fe_add (fv 1) (fb_fe (fe_sl (fv 1) fp_no (fp_so fe_int)))) (fa_cons (fe_sl (fv 1) (fp_so fe_int) fp_no) (fa_cons (fe_rev (fb_fe (fv 1))) (fa_cons (fe_add (fv 1) (fb_fe (fe_tup (fa_cons fe_int fa_nil)))) (fa_cons (fe_tup (fa_cons (fv 1) fa_nil)) (fa_cons (fe_sl (fv 1) fp_no (fp_so (fe_neg (fb_fe fe_int)))) (fa_cons fe_non (fa_cons (fe_add (fv 1) (fb_fe (fe_tup (fa_cons (fe_tup (fa_cons fe_int (fa_cons fe_int fa_nil))) fa_nil)))) fa_nil)))))))))) (fv 3)))) fss_nil) (fss_cons (fs_if (FW.ft (fw_and (ft_e (fb_fe (fe_isi kit_int (fv 1) B.isinstance B.int (by decide +kernel))) (by intro _; rfl)) (fw_and1 (ft_not (ft_e (fb_fe (fe_isi kit_bool (fv 1) B.isinstance B.bool (by decide +kernel))) (by intro _; rfl)))))) (fss_one (fs_ret (fe_ix (fe_fo (fo_lst (fa_cons (fe_add (fv 1) (fb_fe fe_int)) (fa_cons (fe_sub (fv 1) (fb_fe fe_int)) (fa_cons fe_int (fa_cons (fc_eq ⟨rfl, sc__law_bent.nd, hr⟩ (fv 1) (fb_fe fe_int)).v (fa_cons fe_non (fa_cons (fe_strOf (fb_fe (fv 1)) B.str) (fa_cons (fe_tup (fa_cons (fv 1) fa_nil)) (fa_cons (fe_add (fv 1) (fb_fe fe_int)) fa_nil)))))))))) (fv 3)))) fss_nil) (fss_cons (fs_if (ft_e (fb_fe (fe_isi kit_str (fv 1) B.isinstance B.str (by decide +kernel))) (by intro _; rfl)) (fss_one (fs_ret (fe_ix (fe_fo (fo_lst (fa_cons (fe_add (fv 1) (fb_fe fe_str)) (fa_cons (fe_sl (fv 1) (fp_so fe_int) fp_no) (fa_cons fe_str (fa_cons fe_str (fa_cons fe_int (fa_cons fe_non (fa_cons fe_str (fa_cons fe_str fa_nil)))))))))) (fv 3)))) fss_nil) (fss_one (fs_ret (fe_ix (fe_fo (fo_lst (fa_cons fe_int (fa_cons fe_int (fa_cons fe_non (fa_cons fe_bl (fa_cons fe_str (fa_cons (fe_tup fa_nil) (fa_cons (fe_tup (fa_cons fe_int fa_nil)) (fa_cons fe_str fa_nil)))))))))) (fv 3)))))))))
/-! ### law -/
abbrev s_law : Stmt := topS 30
theorem sc_law : FnScope ["script", "box", "turn", "loan", "n", "fine", "groups", "word", "paper", "great", "some", "value", "right", "values", "helper", "row", "there", "enough", "more", "order", "group", "j", "step", "k", "need", "x", "part"] ["script"] (defScope s_law) := ⟨rfl, rfl, rfl, by decide +kernel, rfl, by decide +kernel, by decide +kernel⟩
noncomputable def T1_law : BF := (bE (eFz (oCall F__law_ends (rVal (eVar 3) (rVal (eVar 19) rNil)))))
noncomputable def K2_law : EF := (eVar 19)
noncomputable def T3_law : BF := (bE (eFz (oCall F__law_stuck (rVal (eVar 3) (rVal (eVar 20) rNil)))))
noncomputable def K4_law : EF := (eVar 20)
noncomputable def K5_law : EF := (eOp (dInA false) (eVar 21) (eVar 20))
noncomputable def T6_law : BF := (bE (eUn dAny (eFz (oComp (lOf (eVar 6)) (gNm 20) bYes (K5_law) [20]))))
noncomputable def K7_law : EF := (eVar 21)
noncomputable def K8_law : EF := (eFz (oCall F__law_bent (rRef 1 (rVal (eVar 10) rNil))))
noncomputable def L9_law : SF := (sSeq (sSet 12 (oE (eAnd (eFz (oCall F__law_numbers (rVal (eVar 11) (rVal (eVar 4) rNil)))) (eAnd (eOp dEq (eFz (oUn dSortA (eVar 11))) (eFz (oUn dRngL (eVar 4)))) (eFz (oCall F__law_ends (rVal (eVar 3) (rVal (eVar 11) rNil)))))))) (sIf (bNot (bE (eFz (oCall F__law_same (rVal (eFz (oCall F_is_safe_order (rVal (eVar 3) (rVal (eVar 11) rNil)))) (rVal (eVar 12) rNil)))))) (sRet (eC (.bool false))) sNext))
noncomputable def K10_law : EF := (eFz (oCall F__law_bent (rRef 1 (rVal (eVar 10) rNil))))
noncomputable def K11_law : EF := (eOp dGe (eOp dIx (eVar 11) (eVar 23)) (eOp dIx (eVar 11) (eOp dAdd (eVar 23) (eC (.int 1)))))
noncomputable def L12_law : SF := (sSeq (sSet 12 (oE (eAnd (eFz (oCall F__law_numbers (rVal (eVar 11) (rVal (eVar 4) rNil)))) (eAnd (eNot (eUn dAny (eFz (oComp (lRng1 (eOp dSub (eUn dLen (eVar 11)) (eC (.int 1)))) (gNm 23) bYes (K11_law) [23])))) (eFz (oCall F__law_stuck (rVal (eVar 3) (rVal (eVar 11) rNil)))))))) (sIf (bOr (bNot (bE (eFz (oCall F__law_same (rVal (eFz (oCall F_is_stuck (rVal (eVar 3) (rVal (eVar 11) rNil)))) (rVal (eVar 12) rNil)))))) (bAnd (bE (eVar 12)) (bB (eOp dEq (eVar 7) (eC (.str "order")))))) (sRet (eC (.bool false))) sNext))
noncomputable def K13_law : EF := (eFz (oCall F__law_bent (rRef 1 (rVal (eVar 3) rNil))))
noncomputable def L14_law : SF := (sIf (bNot (bE (eFz (oCall F__law_same (rVal (eFz (oCall F_is_loan (rVal (eVar 11) rNil))) (rVal (eFz (oCall F__law_is_loan (rVal (eVar 11) rNil))) rNil)))))) (sRet (eC (.bool false))) sNext)
noncomputable def K15_law : EF := (eFz (oCall F__law_draw (rRef 1 (rVal (eOp dAdd (eVar 24) (eC (.int 1))) rNil))))
noncomputable def K16_law : EF := (eOp dSub (eOp dIx (eOp dIx (eVar 3) (eC (.int 0))) (eVar 23)) (eOp dIx (eVar 15) (eVar 23)))
noncomputable def K17_law : EF := (eOp dAdd (eOp dIx (eOp dIx (eOp dIx (eVar 3) (eC (.int 1))) (eVar 21)) (eVar 23)) (eIf (bB (eOp dEq (eVar 21) (eVar 14))) (eOp dIx (eVar 15) (eVar 23)) (eC (.int 0))))
noncomputable def K18_law : EF := (eUn dTuple (eFz (oComp (lRng1 (eUn dLen (eVar 15))) (gNm 23) bYes (K17_law) [23])))
noncomputable def K19_law : EF := (eOp dSub (eOp dIx (eOp dIx (eOp dIx (eVar 3) (eC (.int 2))) (eVar 21)) (eVar 23)) (eIf (bB (eOp dEq (eVar 21) (eVar 14))) (eOp dIx (eVar 15) (eVar 23)) (eC (.int 0))))
noncomputable def K20_law : EF := (eUn dTuple (eFz (oComp (lRng1 (eUn dLen (eVar 15))) (gNm 23) bYes (K19_law) [23])))
noncomputable def K21_law : EF := (eOp dLe (eOp dIx (eVar 15) (eVar 23)) (eOp dIx (eOp dIx (eVar 3) (eC (.int 0))) (eVar 23)))
noncomputable def K22_law : EF := (eFz (oCall F__law_ends (rVal (eVar 16) (rVal (eVar 19) rNil))))
noncomputable def K23_law : EF := (eOp dAdd (eVar 25) (eFz (oCall F__law_draw (rRef 1 (rVal (eC (.int 2)) rNil)))))
noncomputable def K24_law : EF := (eOp dMax2 (eC (.int 0)) (eOp dSub (eVar 24) (eFz (oCall F__law_draw (rRef 1 (rVal (eC (.int 2)) rNil))))))
noncomputable def K25_law : EF := (eUn dTuple (eFz (oComp (lOf (eVar 26)) (gNm 24) bYes (K24_law) [24])))
noncomputable def S26_law : SF := (sSet 14 (oE (eFz (oCall F__law_draw (rRef 1 (rVal (eVar 4) rNil))))))
noncomputable def S27_law : SF := (sSet 15 (oE (eUn dTuple (eFz (oComp (lOf (eOp dIx (eOp dIx (eVar 3) (eC (.int 2))) (eVar 14))) (gNm 24) bYes (K15_law) [24])))))
noncomputable def S28_law : SF := (sSet 16 (oE (eTup (aCons (eUn dTuple (eFz (oComp (lRng1 (eUn dLen (eVar 15))) (gNm 23) bYes (K16_law) [23]))) (aCons (eUn dTuple (eFz (oComp (lRng1 (eVar 4)) (gNm 21) bYes (K18_law) [21]))) (aCons (eUn dTuple (eFz (oComp (lRng1 (eVar 4)) (gNm 21) bYes (K20_law) [21]))) aNil))))))
noncomputable def S29_law : SF := (sSet 17 (oE (eUn dAll (eFz (oComp (lRng1 (eUn dLen (eVar 15))) (gNm 23) bYes (K21_law) [23])))))
noncomputable def S30_law : SF := (sIf (bNot (bE (eFz (oCall F__law_same (rVal (eFz (oCall F_after_asking (rVal (eVar 3) (rVal (eVar 14) (rVal (eVar 15) rNil))))) (rVal (eVar 16) rNil)))))) (sRet (eC (.bool false))) sNext)
noncomputable def S31_law : SF := (sIf (bNot (bE (eFz (oCall F__law_same (rVal (eFz (oCall F_may_grant (rVal (eVar 3) (rVal (eVar 14) (rVal (eVar 15) rNil))))) (rVal (eAnd (eVar 17) (eUn dAny (eFz (oComp (lOf (eFz (oCall F__law_orders (rVal (eVar 4) rNil)))) (gNm 19) bYes (K22_law) [19])))) rNil)))))) (sRet (eC (.bool false))) sNext)
noncomputable def S32_law : SF := (sSet 18 (oE (eTup (aCons (eUn dTuple (eFz (oComp (lOf (eOp dIx (eVar 3) (eC (.int 0)))) (gNm 25) bYes (K23_law) [25]))) (aCons (eOp dIx (eVar 3) (eC (.int 1))) (aCons (eUn dTuple (eFz (oComp (lOf (eOp dIx (eVar 3) (eC (.int 2)))) (gNm 26) bYes (K25_law) [26]))) aNil))))))
noncomputable def S33_law : SF := (sIf (bAnd (bB (eOp dEq (eVar 7) (eC (.str "order")))) (bB (eOp dNe (eOp dIx (eFz (oCall F_safe_order (rVal (eVar 18) rNil))) (eC (.int 0))) (eC (.str "order"))))) (sRet (eC (.bool false))) sNext)
noncomputable def S34_law : SF := (sIf (bAnd (bNot (bE (eVar 17))) (bB (eOp dIsNB (eFz (oCall F_may_grant (rVal (eVar 3) (rVal (eVar 14) (rVal (eVar 15) rNil))))) (eC (.bool false))))) (sRet (eC (.bool false))) sNext)
noncomputable def S35_law : SF := (sSet 3 (oE (eFz (oCall F__law_loan (rRef 1 (rVal (eOp dAdd (eC (.int 1)) (eFz (oCall F__law_draw (rRef 1 (rVal (eC (.int 3)) rNil))))) (rVal (eFz (oCall F__law_draw (rRef 1 (rVal (eC (.int 6)) rNil)))) (rVal (eOp dAdd (eC (.int 1)) (eFz (oCall F__law_draw (rRef 1 (rVal (eC (.int 3)) rNil))))) rNil))))))))
noncomputable def S36_law : SF := (sSet 4 (oE (eUn dLen (eOp dIx (eVar 3) (eC (.int 1))))))
noncomputable def S37_law : SF := (sIf (bB (eOp dIsNB (eFz (oCall F_is_loan (rVal (eVar 3) rNil))) (eC (.bool true)))) (sRet (eC (.bool false))) sNext)
noncomputable def S38_law : SF := (sSet 5 (oE (eFz (oComp (lOf (eFz (oCall F__law_orders (rVal (eVar 4) rNil)))) (gNm 19) (T1_law) (K2_law) [19]))))
noncomputable def S39_law : SF := (sSet 6 (oE (eFz (oComp (lOf (eFz (oCall F__law_sets (rVal (eVar 4) rNil)))) (gNm 20) (T3_law) (K4_law) [20]))))
noncomputable def S40_law : SF := (sIf (bB (eOp dNe (eOp dGt (eUn dLen (eVar 5)) (eC (.int 0))) (eOp dEq (eUn dLen (eVar 6)) (eC (.int 0))))) (sRet (eC (.bool false))) sNext)
noncomputable def S41_law : SF := (sAsg (eFz (oCall F_safe_order (rVal (eVar 3) rNil))) (gTupF (gsCons (gNm 7) (gsCons (gNm 8) gsNil)) 2))
noncomputable def S42_law : SF := (sIf (bAnd (bB (eOp dGt (eUn dLen (eVar 5)) (eC (.int 0)))) (bNot (bE (eFz (oCall F__law_same (rVal (eTup (aCons (eVar 7) (aCons (eVar 8) aNil))) (rVal (eTup (aCons (eC (.str "order")) (aCons (eOp dIx (eVar 5) (eC (.int 0))) aNil))) rNil))))))) (sRet (eC (.bool false))) sNext)
noncomputable def S43_law : SF := (sIf (bB (eOp dEq (eUn dLen (eVar 5)) (eC (.int 0)))) (sSeq (sSet 9 (oE (eUn dTuple (eFz (oComp (lRng1 (eVar 4)) (gNm 21) (T6_law) (K7_law) [21]))))) (sIf (bOr (bNot (bE (eFz (oCall F__law_same (rVal (eTup (aCons (eVar 7) (aCons (eVar 8) aNil))) (rVal (eTup (aCons (eC (.str "stuck")) (aCons (eVar 9) aNil))) rNil)))))) (bB (eOp (dInA true) (eVar 9) (eVar 6)))) (sRet (eC (.bool false))) sNext)) sNext)
noncomputable def S44_law : SF := (sSet 10 (oE (eIf (bB (eOp dEq (eVar 7) (eC (.str "order")))) (eVar 8) (eUn dRngT (eVar 4)))))
noncomputable def S45_law : SF := (sFor (lOf (eOp dAdd (eFz (oLst (aCons (eVar 10) (aCons (eUn dRev (eVar 10)) (aCons (eSl (eVar 10) (pSo (eC (.int 1))) pNo) (aCons (eOp dAdd (eVar 10) (eTup (aCons (eC (.int 0)) aNil))) (aCons (eTup aNil) (aCons (eC .none) (aCons (eC (.int 0)) (aCons (eOp dMulT (eTup (aCons (eC (.bool true)) aNil)) (eVar 4)) aNil)))))))))) (eFz (oComp (lRng1 (eC (.int 5))) (gNm 22) bYes (K8_law) [22])))) (gNm 11) (L9_law))
noncomputable def S46_law : SF := (sSet 10 (oE (eIf (bB (eOp dEq (eVar 7) (eC (.str "stuck")))) (eVar 8) (eUn dRngT (eVar 4)))))
noncomputable def S47_law : SF := (sFor (lOf (eOp dAdd (eOp dAdd (eSl (eVar 6) pNo (pSo (eC (.int 3)))) (eFz (oLst (aCons (eVar 10) (aCons (eSl (eVar 10) (pSo (eC (.int 1))) pNo) (aCons (eSl (eVar 10) pNo (pSo (eUn dNeg (eC (.int 1))))) (aCons (eUn dRev (eVar 10)) (aCons (eTup aNil) (aCons (eC .none) (aCons (eC (.int 0)) (aCons (eTup (aCons (eVar 4) aNil)) aNil))))))))))) (eFz (oComp (lRng1 (eC (.int 5))) (gNm 22) bYes (K10_law) [22])))) (gNm 11) (L12_law))
noncomputable def S48_law : SF := (sSet 13 (oE (eFz (oLst (aCons (eVar 3) (aCons (eSl (eVar 3) pNo (pSo (eC (.int 2)))) (aCons (eUn dRev (eVar 3)) (aCons (eOp dAdd (eTup (aCons (eTup aNil) aNil)) (eSl (eVar 3) (pSo (eC (.int 1))) pNo)) (aCons (eTup (aCons (eOp dIx (eVar 3) (eC (.int 0))) (aCons (eOp dAdd (eOp dIx (eVar 3) (eC (.int 1))) (eSl (eOp dIx (eVar 3) (eC (.int 1))) pNo (pSo (eC (.int 1))))) (aCons (eOp dIx (eVar 3) (eC (.int 2))) aNil)))) (aCons (eTup (aCons (eTup (aCons (eC (.int 100)) aNil)) (aCons (eTup aNil) (aCons (eTup aNil) aNil)))) aNil))))))))))
noncomputable def S49_law : SF := (sSet 13 (oE (eOp dAdd (eVar 13) (eFz (oLst (aCons (eTup (aCons (eTup (aCons (eC (.int 1)) aNil)) (aCons (eOp dMulT (eTup (aCons (eTup (aCons (eC (.int 1)) aNil)) aNil)) (eC (.int 12))) (aCons (eOp dMulT (eTup (aCons (eTup (aCons (eC (.int 1)) aNil)) aNil)) (eC (.int 12))) aNil)))) (aCons (eTup (aCons (eTup (aCons (eC (.int 1)) aNil)) (aCons (eOp dMulT (eTup (aCons (eTup (aCons (eC (.int 1)) aNil)) aNil)) (eC (.int 13))) (aCons (eOp dMulT (eTup (aCons (eTup (aCons (eC (.int 1)) aNil)) aNil)) (eC (.int 13))) aNil)))) (aCons (eC .none) (aCons (eTup (aCons (eTup (aCons (eC (.bool true)) aNil)) (aCons (eTup aNil) (aCons (eTup aNil) aNil)))) aNil)))))))))
noncomputable def S50_law : SF := (sFor (lOf (eOp dAdd (eVar 13) (eFz (oComp (lRng1 (eC (.int 6))) (gNm 22) bYes (K13_law) [22])))) (gNm 11) (L14_law))
noncomputable def S51_law : SF := (sIf (bB (eOp dGt (eVar 4) (eC (.int 0)))) (sSeq S26_law (sSeq S27_law (sSeq S28_law (sSeq S29_law (sSeq S30_law (sSeq S31_law (sSeq S32_law (sSeq S33_law S34_law)))))))) sNext)
noncomputable def L52_law : SF := (sSeq S35_law (sSeq S36_law (sSeq S37_law (sSeq S38_law (sSeq S39_law (sSeq S40_law (sSeq S41_law (sSeq S42_law (sSeq S43_law (sSeq S44_law (sSeq S45_law (sSeq S46_law (sSeq S47_law (sSeq S48_law (sSeq S49_law (sSeq S50_law S51_law))))))))))))))))
noncomputable def S53_law : SF := (sFor (lRng1 (eC (.int 4))) (gNm 2) (L52_law))
noncomputable def S54_law : SF := (sSet 9 (oE (eFz (oCall F__law_loan (rRef 1 (rVal (eC (.int 4)) (rVal (eC (.int 12)) (rVal (eC (.int 9)) rNil))))))))
noncomputable def S55_law : SF := (sAsg (eFz (oCall F_safe_order (rVal (eVar 9) rNil))) (gTupF (gsCons (gNm 7) (gsCons (gNm 8) gsNil)) 2))
noncomputable def S56_law : SF := (sIf (bOr (bAnd (bB (eOp dEq (eVar 7) (eC (.str "order")))) (bNot (bE (eFz (oCall F__law_ends (rVal (eVar 9) (rVal (eVar 8) rNil))))))) (bAnd (bB (eOp dEq (eVar 7) (eC (.str "stuck")))) (bNot (bE (eFz (oCall F__law_stuck (rVal (eVar 9) (rVal (eVar 8) rNil)))))))) (sRet (eC (.bool false))) sNext)
noncomputable def S57_law : SF := (sRet (eAnd (eFz (oCall F__law_same (rVal (eFz (oCall F_safe_order (rVal (eTup (aCons (eTup (aCons (eC (.int 1)) aNil)) (aCons (eTup (aCons (eTup (aCons (eC (.int 1)) aNil)) (aCons (eTup (aCons (eC (.int 1)) aNil)) aNil))) (aCons (eTup (aCons (eTup (aCons (eC (.int 2)) aNil)) (aCons (eTup (aCons (eC (.int 1)) aNil)) aNil))) aNil)))) rNil))) (rVal (eTup (aCons (eC (.str "order")) (aCons (eTup (aCons (eC (.int 1)) (aCons (eC (.int 0)) aNil))) aNil))) rNil)))) (eFz (oCall F__law_same (rVal (eFz (oCall F_safe_order (rVal (eTup (aCons (eTup (aCons (eC (.int 0)) aNil)) (aCons (eTup (aCons (eTup (aCons (eC (.int 1)) aNil)) (aCons (eTup (aCons (eC (.int 1)) aNil)) aNil))) (aCons (eTup (aCons (eTup (aCons (eC (.int 1)) aNil)) (aCons (eTup (aCons (eC (.int 1)) aNil)) aNil))) aNil)))) rNil))) (rVal (eTup (aCons (eC (.str "stuck")) (aCons (eTup (aCons (eC (.int 0)) (aCons (eC (.int 1)) aNil))) aNil))) rNil))))))
noncomputable def F_law : SF := (sSeq S53_law (sSeq S54_law (sSeq S55_law (sSeq S56_law S57_law))))
theorem ok_law_rest {f : Addr} (B : Bt mg) (D__law_draw : Dk P w K mg base "_law_draw" 2 2 F__law_draw) (D__law_loan : Dk P w K mg base "_law_loan" 3 4 F__law_loan) (D_is_loan : Dk P w K mg base "is_loan" 3 1 F_is_loan) (D__law_orders : Dk P w K mg base "_law_orders" 2 1 F__law_orders) (D__law_ends : Dk P w K mg base "_law_ends" 1 2 F__law_ends) (D__law_sets : Dk P w K mg base "_law_sets" 1 1 F__law_sets) (D__law_stuck : Dk P w K mg base "_law_stuck" 1 2 F__law_stuck) (D_safe_order : Dk P w K mg base "safe_order" 2 1 F_safe_order) (D__law_same : Dk P w K mg base "_law_same" 20 2 F__law_same) (D__law_bent : Dk P w K mg base "_law_bent" 22 2 F__law_bent) (D__law_numbers : Dk P w K mg base "_law_numbers" 1 2 F__law_numbers) (D_is_safe_order : Dk P w K mg base "is_safe_order" 2 2 F_is_safe_order) (D_is_stuck : Dk P w K mg base "is_stuck" 2 2 F_is_stuck) (D__law_is_loan : Dk P w K mg base "_law_is_loan" 2 1 F__law_is_loan) (D_after_asking : Dk P w K mg base "after_asking" 2 3 F_after_asking) (D_may_grant : Dk P w K mg base "may_grant" 3 3 F_may_grant) (cdv : Value) (A : Around) (outer : List Env) (s : Shared) (H : Hp) (E : XK) (hr : Room 22 (A.deeper (envOfC "law" (defScope s_law) s.heap.objs.size f cdv))) :
    FSs (cxOf CX0 P w K mg base ["script", "box", "turn", "loan", "n", "fine", "groups", "word", "paper", "great", "some", "value", "right", "values", "helper", "row", "there", "enough", "more", "order", "group", "j", "step", "k", "need", "x", "part"] "law" (defScope s_law) f cdv A outer s H E).nox ((defBody s_law).drop 1) F_law :=
  (fss_cons (fs_for PassesOwn.never rfl (fi_rng1 fe_int B.range) (fgn 2 sc_law.nd) (fss_cons (fset 3 sc_law.nd (fo_fe (fe_fo (foc D__law_loan (hr.mono (by decide)) (frf 1 (fr_val (fe_add fe_int (fb_fe (fe_fo (foc D__law_draw (hr.mono (by decide)) (frf 1 (fr_val fe_int fr_nil)))))) (fr_val (fe_fo (foc D__law_draw (hr.mono (by decide)) (frf 1 (fr_val fe_int fr_nil)))) (fr_val (fe_add fe_int (fb_fe (fe_fo (foc D__law_draw (hr.mono (by decide)) (frf 1 (fr_val fe_int fr_nil)))))) fr_nil)))))))) (fss_cons (fset 4 sc_law.nd (fo_fe (fe_len (fb_fe (fe_ix (fv 3) fe_int)) B.len))) (fss_cons (fs_if (fc_isNB ⟨rfl, sc_law.nd, hr⟩ (fe_fo (foc D_is_loan (hr.mono (by decide)) (fr_val (fv 3) fr_nil))) (fb_fe fe_bl)).t (fss_one (fs_ret fe_bl)) fss_nil) (fss_cons (fs_setLcZ (i := 5) ⟨rfl, sc_law.nd, hr⟩ rfl rfl (sw_true rfl rfl rfl (by decide +kernel)) (fi_seq (fe_fo (foc D__law_orders (hr.mono (by decide)) (fr_val (fv 4) fr_nil)))) (blkOk_by (own := [("order", 19)]) (N := ["script", "box", "turn", "loan", "n", "fine", "groups", "word", "paper", "great", "some", "value", "right", "values", "helper", "row", "there", "enough", "more", "order", "group", "j", "step", "k", "need", "x", "part"]) (sc := defScope s_law) (by decide +kernel)) (fun _ _ _ _ _ => (fgn 19 sc_law.nd)) (fun _ _ _ _ _ => (fts_one (ft_e (fb_fe (fe_fo (foc D__law_ends (hr.mono (by decide)) (fr_val (fv 3) (fr_val (fv 19) fr_nil))))) (by intro _; rfl)))) (fun _ _ _ _ _ => (fv 19))) (fss_cons (fset 6 sc_law.nd (fo_fe (fe_fo (fo_lc ⟨rfl, sc_law.nd, hr⟩ (fi_seq (fe_fo (foc D__law_sets (hr.mono (by decide)) (fr_val (fv 4) fr_nil)))) (blkOk_by (own := [("group", 20)]) (N := ["script", "box", "turn", "loan", "n", "fine", "groups", "word", "paper", "great", "some", "value", "right", "values", "helper", "row", "there", "enough", "more", "order", "group", "j", "step", "k", "need", "x", "part"]) (sc := defScope s_law) (by decide +kernel)) (fun _ _ _ _ _ => (fgn 20 sc_law.nd)) (fun _ _ _ _ _ => (fts_one (ft_e (fb_fe (fe_fo (foc D__law_stuck (hr.mono (by decide)) (fr_val (fv 3) (fr_val (fv 20) fr_nil))))) (by intro _; rfl)))) (fun _ _ _ _ _ => (fv 20)))))) (fss_cons (fs_if (fc_ne ⟨rfl, sc_law.nd, hr⟩ (fc_gt ⟨rfl, sc_law.nd, hr⟩ (fe_len (fb_fe (fv 5)) B.len) (fb_fe fe_int)).v (fb_fe (fc_eq ⟨rfl, sc_law.nd, hr⟩ (fe_len (fb_fe (fv 6)) B.len) (fb_fe fe_int)).v)).t (fss_one (fs_ret fe_bl)) fss_nil) (fss_cons (fs_asg (fe_fo (foc D_safe_order (hr.mono (by decide)) (fr_val (fv 3) fr_nil))) (fg_tup rfl (fgs_cons (fgn 7 sc_law.nd) (fgs_cons (fgn 8 sc_law.nd) fgs_nil)))) (fss_cons (fs_if (FW.ft (fw_and (fc_gt ⟨rfl, sc_law.nd, hr⟩ (fe_len (fb_fe (fv 5)) B.len) (fb_fe fe_int)).t (fw_and1 (ft_not (ft_e (fb_fe (fe_fo (foc D__law_same (hr.mono (by decide)) (fr_val (fe_tup (fa_cons (fv 7) (fa_cons (fv 8) fa_nil))) (fr_val (fe_tup (fa_cons fe_str (fa_cons (fe_ix (fv 5) fe_int) fa_nil))) fr_nil))))) (by intro _; rfl)))))) (fss_one (fs_ret fe_bl)) fss_nil) (fss_cons (fs_if (fc_eq ⟨rfl, sc_law.nd, hr⟩ (fe_len (fb_fe (fv 5)) B.len) (fb_fe fe_int)).t (fss_cons (fset 9 sc_law.nd (fo_fe (fe_tuple (fb_fe (fe_fo (fo_lc ⟨rfl, sc_law.nd, hr⟩ (fi_rng1 (fv 4) B.range) (blkOk_by (own := [("j", 21)]) (N := ["script", "box", "turn", "loan", "n", "fine", "groups", "word", "paper", "great", "some", "value", "right", "values", "helper", "row", "there", "enough", "more", "order", "group", "j", "step", "k", "need", "x", "part"]) (sc := defScope s_law) (by decide +kernel)) (fun _ _ _ _ _ => (fgn 21 sc_law.nd)) (fun _ _ _ _ _ => (fts_one (ft_e (fb_fe (fe_any ⟨rfl, sc_law.nd, hr⟩ (fb_fe (fe_fo (fo_lc ⟨rfl, sc_law.nd, hr⟩ (fi_seq (fv 6)) (blkOk_by (own := [("group", 20)]) (by rfl)) (fun _ _ _ _ _ => (fgn 20 sc_law.nd)) (fun _ _ _ _ _ => fts_nil) (fun _ _ _ _ _ => (fc_inA ⟨rfl, sc_law.nd, hr⟩ (fv 21) (fb_fe (fv 20))).v)))) B.any)) (by intro _; rfl)))) (fun _ _ _ _ _ => (fv 21))))) B.tuple))) (fss_one (fs_if (FW.ft (fw_or (ft_not (ft_e (fb_fe (fe_fo (foc D__law_same (hr.mono (by decide)) (fr_val (fe_tup (fa_cons (fv 7) (fa_cons (fv 8) fa_nil))) (fr_val (fe_tup (fa_cons fe_str (fa_cons (fv 9) fa_nil))) fr_nil))))) (by intro _; rfl))) (fw_or1 (fc_notinA ⟨rfl, sc_law.nd, hr⟩ (fv 9) (fb_fe (fv 6))).t))) (fss_one (fs_ret fe_bl)) fss_nil))) fss_nil) (fss_cons (fset 10 sc_law.nd (fo_fe (fe_if (fc_eq ⟨rfl, sc_law.nd, hr⟩ (fv 7) (fb_fe fe_str)).t (fv 8) (fe_tupRg (fb_fe (fv 4)) rfl B.tuple B.range)))) (fss_cons (fs_for PassesOwn.never rfl (fi_seq (fe_add (fe_fo (fo_lst (fa_cons (fv 10) (fa_cons (fe_rev (fb_fe (fv 10))) (fa_cons (fe_sl (fv 10) (fp_so fe_int) fp_no) (fa_cons (fe_add (fv 10) (fb_fe (fe_tup (fa_cons fe_int fa_nil)))) (fa_cons (fe_tup fa_nil) (fa_cons fe_non (fa_cons fe_int (fa_cons (fe_mulT (fe_tup (fa_cons fe_bl fa_nil)) (fb_fe (fv 4))) fa_nil)))))))))) (fb_fe (fe_fo (fo_lc ⟨rfl, sc_law.nd, hr⟩ (fi_rng1 fe_int B.range) (blkOk_by (own := [("step", 22)]) (N := ["script", "box", "turn", "loan", "n", "fine", "groups", "word", "paper", "great", "some", "value", "right", "values", "helper", "row", "there", "enough", "more", "order", "group", "j", "step", "k", "need", "x", "part"]) (sc := defScope s_law) (by decide +kernel)) (fun _ _ _ _ _ => (fgn 22 sc_law.nd)) (fun _ _ _ _ _ => fts_nil) (fun _ _ _ _ _ => (fe_fo (foc D__law_bent (hr.mono (by decide)) (frf 1 (fr_val (fv 10) fr_nil)))))))))) (fgn 11 sc_law.nd) (fss_cons (fset 12 sc_law.nd (fo_fe (fe_and (fe_fo (foc D__law_numbers (hr.mono (by decide)) (fr_val (fv 11) (fr_val (fv 4) fr_nil)))) (fe_and (fc_eq ⟨rfl, sc_law.nd, hr⟩ (fe_fo (fo_sortA (fb_fe (fv 11)) B.sorted)) (fb_fe (fe_fo (fo_listRg (fb_fe (fv 4)) rfl B.list B.range)))).v (fe_one (fe_fo (foc D__law_ends (hr.mono (by decide)) (fr_val (fv 3) (fr_val (fv 11) fr_nil))))))))) (fss_one (fs_if (ft_not (ft_e (fb_fe (fe_fo (foc D__law_same (hr.mono (by decide)) (fr_val (fe_fo (foc D_is_safe_order (hr.mono (by decide)) (fr_val (fv 3) (fr_val (fv 11) fr_nil)))) (fr_val (fv 12) fr_nil))))) (by intro _; rfl))) (fss_one (fs_ret fe_bl)) fss_nil)))) (fss_cons (fset 10 sc_law.nd (fo_fe (fe_if (fc_eq ⟨rfl, sc_law.nd, hr⟩ (fv 7) (fb_fe fe_str)).t (fv 8) (fe_tupRg (fb_fe (fv 4)) rfl B.tuple B.range)))) (fss_cons (fs_for PassesOwn.never rfl (fi_seq (fe_add (fe_add (fe_sl (fv 6) fp_no (fp_so fe_int)) (fb_fe (fe_fo (fo_lst (fa_cons (fv 10) (fa_cons (fe_sl (fv 10) (fp_so fe_int) fp_no) (fa_cons (fe_sl (fv 10) fp_no (fp_so (fe_neg (fb_fe fe_int)))) (fa_cons (fe_rev (fb_fe (fv 10))) (fa_cons (fe_tup fa_nil) (fa_cons fe_non (fa_cons fe_int (fa_cons (fe_tup (fa_cons (fv 4) fa_nil)) fa_nil)))))))))))) (fb_fe (fe_fo (fo_lc ⟨rfl, sc_law.nd, hr⟩ (fi_rng1 fe_int B.range) (blkOk_by (own := [("step", 22)]) (N := ["script", "box", "turn", "loan", "n", "fine", "groups", "word", "paper", "great", "some", "value", "right", "values", "helper", "row", "there", "enough", "more", "order", "group", "j", "step", "k", "need", "x", "part"]) (sc := defScope s_law) (by decide +kernel)) (fun _ _ _ _ _ => (fgn 22 sc_law.nd)) (fun _ _ _ _ _ => fts_nil) (fun _ _ _ _ _ => (fe_fo (foc D__law_bent (hr.mono (by decide)) (frf 1 (fr_val (fv 10) fr_nil)))))))))) (fgn 11 sc_law.nd) (fss_cons (fset 12 sc_law.nd (fo_fe (fe_and (fe_fo (foc D__law_numbers (hr.mono (by decide)) (fr_val (fv 11) (fr_val (fv 4) fr_nil)))) (fe_and (fe_not (fe_any ⟨rfl, sc_law.nd, hr⟩ (fb_fe (fe_fo (fo_lc ⟨rfl, sc_law.nd, hr⟩ (fi_rng1 (fe_sub (fe_len (fb_fe (fv 11)) B.len) (fb_fe fe_int)) B.range) (blkOk_by (own := [("k", 23)]) (N := ["script", "box", "turn", "loan", "n", "fine", "groups", "word", "paper", "great", "some", "value", "right", "values", "helper", "row", "there", "enough", "more", "order", "group", "j", "step", "k", "need", "x", "part"]) (sc := defScope s_law) (by decide +kernel)) (fun _ _ _ _ _ => (fgn 23 sc_law.nd)) (fun _ _ _ _ _ => fts_nil) (fun _ _ _ _ _ => (fc_ge ⟨rfl, sc_law.nd, hr⟩ (fe_ix (fv 11) (fv 23)) (fb_fe (fe_ix (fv 11) (fe_add (fv 23) (fb_fe fe_int))))).v)))) B.any)) (fe_one (fe_fo (foc D__law_stuck (hr.mono (by decide)) (fr_val (fv 3) (fr_val (fv 11) fr_nil))))))))) (fss_one (fs_if (FW.ft (fw_or (ft_not (ft_e (fb_fe (fe_fo (foc D__law_same (hr.mono (by decide)) (fr_val (fe_fo (foc D_is_stuck (hr.mono (by decide)) (fr_val (fv 3) (fr_val (fv 11) fr_nil)))) (fr_val (fv 12) fr_nil))))) (by intro _; rfl))) (fw_or1 (FW.ft (fw_and (ft_e (fb_fe (fv 12)) (by intro _; rfl)) (fw_and1 (fc_eq ⟨rfl, sc_law.nd, hr⟩ (fv 7) (fb_fe fe_str)).t)))))) (fss_one (fs_ret fe_bl)) fss_nil)))) (fss_cons (fset 13 sc_law.nd (fo_fe (fe_fo (fo_lst (fa_cons (fv 3) (fa_cons (fe_sl (fv 3) fp_no (fp_so fe_int)) (fa_cons (fe_rev (fb_fe (fv 3))) (fa_cons (fe_add (fe_tup (fa_cons (fe_tup fa_nil) fa_nil)) (fb_fe (fe_sl (fv 3) (fp_so fe_int) fp_no))) (fa_cons (fe_tup (fa_cons (fe_ix (fv 3) fe_int) (fa_cons (fe_add (fe_ix (fv 3) fe_int) (fb_fe (fe_sl (fe_ix (fv 3) fe_int) fp_no (fp_so fe_int)))) (fa_cons (fe_ix (fv 3) fe_int) fa_nil)))) (fa_cons (fe_tup (fa_cons (fe_tup (fa_cons fe_int fa_nil)) (fa_cons (fe_tup fa_nil) (fa_cons (fe_tup fa_nil) fa_nil)))) fa_nil)))))))))) (fss_cons (fset 13 sc_law.nd (fo_fe (fe_add (fv 13) (fb_fe (fe_fo (fo_lst (fa_cons (fe_tup (fa_cons (fe_tup (fa_cons fe_int fa_nil)) (fa_cons (fe_mulT (fe_tup (fa_cons (fe_tup (fa_cons fe_int fa_nil)) fa_nil)) (fb_fe fe_int)) (fa_cons (fe_mulT (fe_tup (fa_cons (fe_tup (fa_cons fe_int fa_nil)) fa_nil)) (fb_fe fe_int)) fa_nil)))) (fa_cons (fe_tup (fa_cons (fe_tup (fa_cons fe_int fa_nil)) (fa_cons (fe_mulT (fe_tup (fa_cons (fe_tup (fa_cons fe_int fa_nil)) fa_nil)) (fb_fe fe_int)) (fa_cons (fe_mulT (fe_tup (fa_cons (fe_tup (fa_cons fe_int fa_nil)) fa_nil)) (fb_fe fe_int)) fa_nil)))) (fa_cons fe_non (fa_cons (fe_tup (fa_cons (fe_tup (fa_cons fe_bl fa_nil)) (fa_cons (fe_tup fa_nil) (fa_cons (fe_tup fa_nil) fa_nil)))) fa_nil)))))))))) (fss_cons (fs_for PassesOwn.never rfl (fi_seq (fe_add (fv 13) (fb_fe (fe_fo (fo_lc ⟨rfl, sc_law.nd, hr⟩ (fi_rng1 fe_int B.range) (blkOk_by (own := [("step", 22)]) (N := ["script", "box", "turn", "loan", "n", "fine", "groups", "word", "paper", "great", "some", "value", "right", "values", "helper", "row", "there", "enough", "more", "order", "group", "j", "step", "k", "need", "x", "part"]) (sc := defScope s_law) (by decide +kernel)) (fun _ _ _ _ _ => (fgn 22 sc_law.nd)) (fun _ _ _ _ _ => fts_nil) (fun _ _ _ _ _ => (fe_fo (foc D__law_bent (hr.mono (by decide)) (frf 1 (fr_val (fv 3) fr_nil)))))))))) (fgn 11 sc_law.nd) (fss_one (fs_if (ft_not (ft_e (fb_fe (fe_fo (foc D__law_same (hr.mono (by decide)) (fr_val (fe_fo (foc D_is_loan (hr.mono (by decide)) (fr_val (fv 11) fr_nil))) (fr_val (fe_fo (foc D__law_is_loan (hr.mono (by decide)) (fr_val (fv 11) fr_nil))) fr_nil))))) (by intro _; rfl))) (fss_one (fs_ret fe_bl)) fss_nil))) (fss_one (fs_if (fc_gt ⟨rfl, sc_law.nd, hr⟩ (fv 4) (fb_fe fe_int)).t (fss_cons (fset 14 sc_law.nd (fo_fe (fe_fo (foc D__law_draw (hr.mono (by decide)) (frf 1 (fr_val (fv 4) fr_nil)))))) (fss_cons (fset 15 sc_law.nd (fo_fe (fe_tuple (fb_fe (fe_fo (fo_lc ⟨rfl, sc_law.nd, hr⟩ (fi_seq (fe_ix (fe_ix (fv 3) fe_int) (fv 14))) (blkOk_by (own := [("need", 24)]) (N := ["script", "box", "turn", "loan", "n", "fine", "groups", "word", "paper", "great", "some", "value", "right", "values", "helper", "row", "there", "enough", "more", "order", "group", "j", "step", "k", "need", "x", "part"]) (sc := defScope s_law) (by decide +kernel)) (fun _ _ _ _ _ => (fgn 24 sc_law.nd)) (fun _ _ _ _ _ => fts_nil) (fun _ _ _ _ _ => (fe_fo (foc D__law_draw (hr.mono (by decide)) (frf 1 (fr_val (fe_add (fv 24) (fb_fe fe_int)) fr_nil)))))))) B.tuple))) (fss_cons (fset 16 sc_law.nd (fo_fe (fe_tup (fa_cons (fe_tuple (fb_fe (fe_fo (fo_lc ⟨rfl, sc_law.nd, hr⟩ (fi_rng1 (fe_len (fb_fe (fv 15)) B.len) B.range) (blkOk_by (own := [("k", 23)]) (N := ["script", "box", "turn", "loan", "n", "fine", "groups", "word", "paper", "great", "some", "value", "right", "values", "helper", "row", "there", "enough", "more", "order", "group", "j", "step", "k", "need", "x", "part"]) (sc := defScope s_law) (by decide +kernel)) (fun _ _ _ _ _ => (fgn 23 sc_law.nd)) (fun _ _ _ _ _ => fts_nil) (fun _ _ _ _ _ => (fe_sub (fe_ix (fe_ix (fv 3) fe_int) (fv 23)) (fb_fe (fe_ix (fv 15) (fv 23)))))))) B.tuple) (fa_cons (fe_tuple (fb_fe (fe_fo (fo_lc ⟨rfl, sc_law.nd, hr⟩ (fi_rng1 (fv 4) B.range) (blkOk_by (own := [("j", 21)]) (N := ["script", "box", "turn", "loan", "n", "fine", "groups", "word", "paper", "great", "some", "value", "right", "values", "helper", "row", "there", "enough", "more", "order", "group", "j", "step", "k", "need", "x", "part"]) (sc := defScope s_law) (by decide +kernel)) (fun _ _ _ _ _ => (fgn 21 sc_law.nd)) (fun _ _ _ _ _ => fts_nil) (fun _ _ _ _ _ => (fe_tuple (fb_fe (fe_fo (fo_lc ⟨rfl, sc_law.nd, hr⟩ (fi_rng1 (fe_len (fb_fe (fv 15)) B.len) B.range) (blkOk_by (own := [("k", 23)]) (by rfl)) (fun _ _ _ _ _ => (fgn 23 sc_law.nd)) (fun _ _ _ _ _ => fts_nil) (fun _ _ _ _ _ => (fe_add (fe_ix (fe_ix (fe_ix (fv 3) fe_int) (fv 21)) (fv 23)) (fb_fe (fe_if (fc_eq ⟨rfl, sc_law.nd, hr⟩ (fv 21) (fb_fe (fv 14))).t (fe_ix (fv 15) (fv 23)) fe_int))))))) B.tuple))))) B.tuple) (fa_cons (fe_tuple (fb_fe (fe_fo (fo_lc ⟨rfl, sc_law.nd, hr⟩ (fi_rng1 (fv 4) B.range) (blkOk_by (own := [("j", 21)]) (N := ["script", "box", "turn", "loan", "n", "fine", "groups", "word", "paper", "great", "some", "value", "right", "values", "helper", "row", "there", "enough", "more", "order", "group", "j", "step", "k", "need", "x", "part"]) (sc := defScope s_law) (by decide +kernel)) (fun _ _ _ _ _ => (fgn 21 sc_law.nd)) (fun _ _ _ _ _ => fts_nil) (fun _ _ _ _ _ => (fe_tuple (fb_fe (fe_fo (fo_lc ⟨rfl, sc_law.nd, hr⟩ (fi_rng1 (fe_len (fb_fe (fv 15)) B.len) B.range) (blkOk_by (own := [("k", 23)]) (by rfl)) (fun _ _ _ _ _ => (fgn 23 sc_law.nd)) (fun _ _ _ _ _ => fts_nil) (fun _ _ _ _ _ => (fe_sub (fe_ix (fe_ix (fe_ix (fv 3) fe_int) (fv 21)) (fv 23)) (fb_fe (fe_if (fc_eq ⟨rfl, sc_law.nd, hr⟩ (fv 21) (fb_fe (fv 14))).t (fe_ix (fv 15) (fv 23)) fe_int))))))) B.tuple))))) B.tuple) fa_nil)))))) (fss_cons (fset 17 sc_law.nd (fo_fe (fe_all ⟨rfl, sc_law.nd, hr⟩ (fb_fe (fe_fo (fo_lc ⟨rfl, sc_law.nd, hr⟩ (fi_rng1 (fe_len (fb_fe (fv 15)) B.len) B.range) (blkOk_by (own := [("k", 23)]) (N := ["script", "box", "turn", "loan", "n", "fine", "groups", "word", "paper", "great", "some", "value", "right", "values", "helper", "row", "there", "enough", "more", "order", "group", "j", "step", "k", "need", "x", "part"]) (sc := defScope s_law) (by decide +kernel)) (fun _ _ _ _ _ => (fgn 23 sc_law.nd)) (fun _ _ _ _ _ => fts_nil) (fun _ _ _ _ _ => (fc_le ⟨rfl, sc_law.nd, hr⟩ (fe_ix (fv 15) (fv 23)) (fb_fe (fe_ix (fe_ix (fv 3) fe_int) (fv 23)))).v)))) B.all))) (fss_cons (fs_if (ft_not (ft_e (fb_fe (fe_fo (foc D__law_same (hr.mono (by decide)) (fr_val (fe_fo (foc D_after_asking (hr.mono (by decide)) (fr_val (fv 3) (fr_val (fv 14) (fr_val (fv 15) fr_nil))))) (fr_val (fv 16) fr_nil))))) (by intro _; rfl))) (fss_one (fs_ret fe_bl)) fss_nil) (fss_cons (fs_if (ft_not (ft_e (fb_fe (fe_fo (foc D__law_same (hr.mono (by decide)) (fr_val (fe_fo (foc D_may_grant (hr.mono (by decide)) (fr_val (fv 3) (fr_val (fv 14) (fr_val (fv 15) fr_nil))))) (fr_val (fe_and (fv 17) (fe_one (fe_any ⟨rfl, sc_law.nd, hr⟩ (fb_fe (fe_fo (fo_lc ⟨rfl, sc_law.nd, hr⟩ (fi_seq (fe_fo (foc D__law_orders (hr.mono (by decide)) (fr_val (fv 4) fr_nil)))) (blkOk_by (own := [("order", 19)]) (N := ["script", "box", "turn", "loan", "n", "fine", "groups", "word", "paper", "great", "some", "value", "right", "values", "helper", "row", "there", "enough", "more", "order", "group", "j", "step", "k", "need", "x", "part"]) (sc := defScope s_law) (by decide +kernel)) (fun _ _ _ _ _ => (fgn 19 sc_law.nd)) (fun _ _ _ _ _ => fts_nil) (fun _ _ _ _ _ => (fe_fo (foc D__law_ends (hr.mono (by decide)) (fr_val (fv 16) (fr_val (fv 19) fr_nil)))))))) B.any))) fr_nil))))) (by intro _; rfl))) (fss_one (fs_ret fe_bl)) fss_nil) (fss_cons (fset 18 sc_law.nd (fo_fe (fe_tup (fa_cons (fe_tuple (fb_fe (fe_fo (fo_lc ⟨rfl, sc_law.nd, hr⟩ (fi_seq (fe_ix (fv 3) fe_int)) (blkOk_by (own := [("x", 25)]) (N := ["script", "box", "turn", "loan", "n", "fine", "groups", "word", "paper", "great", "some", "value", "right", "values", "helper", "row", "there", "enough", "more", "order", "group", "j", "step", "k", "need", "x", "part"]) (sc := defScope s_law) (by decide +kernel)) (fun _ _ _ _ _ => (fgn 25 sc_law.nd)) (fun _ _ _ _ _ => fts_nil) (fun _ _ _ _ _ => (fe_add (fv 25) (fb_fe (fe_fo (foc D__law_draw (hr.mono (by decide)) (frf 1 (fr_val fe_int fr_nil)))))))))) B.tuple) (fa_cons (fe_ix (fv 3) fe_int) (fa_cons (fe_tuple (fb_fe (fe_fo (fo_lc ⟨rfl, sc_law.nd, hr⟩ (fi_seq (fe_ix (fv 3) fe_int)) (blkOk_by (own := [("part", 26)]) (N := ["script", "box", "turn", "loan", "n", "fine", "groups", "word", "paper", "great", "some", "value", "right", "values", "helper", "row", "there", "enough", "more", "order", "group", "j", "step", "k", "need", "x", "part"]) (sc := defScope s_law) (by decide +kernel)) (fun _ _ _ _ _ => (fgn 26 sc_law.nd)) (fun _ _ _ _ _ => fts_nil) (fun _ _ _ _ _ => (fe_tuple (fb_fe (fe_fo (fo_lc ⟨rfl, sc_law.nd, hr⟩ (fi_seq (fv 26)) (blkOk_by (own := [("need", 24)]) (by rfl)) (fun _ _ _ _ _ => (fgn 24 sc_law.nd)) (fun _ _ _ _ _ => fts_nil) (fun _ _ _ _ _ => (fe_max2 ⟨rfl, sc_law.nd, hr⟩ fe_int (fb_fe (fe_sub (fv 24) (fb_fe (fe_fo (foc D__law_draw (hr.mono (by decide)) (frf 1 (fr_val fe_int fr_nil))))))) B.max))))) B.tuple))))) B.tuple) fa_nil)))))) (fss_cons (fs_if (FW.ft (fw_and (fc_eq ⟨rfl, sc_law.nd, hr⟩ (fv 7) (fb_fe fe_str)).t (fw_and1 (fc_ne ⟨rfl, sc_law.nd, hr⟩ (fe_ix (fe_fo (foc D_safe_order (hr.mono (by decide)) (fr_val (fv 18) fr_nil))) fe_int) (fb_fe fe_str)).t))) (fss_one (fs_ret fe_bl)) fss_nil) (fss_one (fs_if (FW.ft (fw_and (ft_not (ft_e (fb_fe (fv 17)) (by intro _; rfl))) (fw_and1 (fc_isNB ⟨rfl, sc_law.nd, hr⟩ (fe_fo (foc D_may_grant (hr.mono (by decide)) (fr_val (fv 3) (fr_val (fv 14) (fr_val (fv 15) fr_nil))))) (fb_fe fe_bl)).t))) (fss_one (fs_ret fe_bl)) fss_nil)))))))))) fss_nil))))))))))))))))))) (fss_cons (fset 9 sc_law.nd (fo_fe (fe_fo (foc D__law_loan (hr.mono (by decide)) (frf 1 (fr_val fe_int (fr_val fe_int (fr_val fe_int fr_nil)))))))) (fss_cons (fs_asg (fe_fo (foc D_safe_order (hr.mono (by decide)) (fr_val (fv 9) fr_nil))) (fg_tup rfl (fgs_cons (fgn 7 sc_law.nd) (fgs_cons (fgn 8 sc_law.nd) fgs_nil)))) (fss_cons (fs_if (FW.ft (fw_or (FW.ft (fw_and (fc_eq ⟨rfl, sc_law.nd, hr⟩ (fv 7) (fb_fe fe_str)).t (fw_and1 (ft_not (ft_e (fb_fe (fe_fo (foc D__law_ends (hr.mono (by decide)) (fr_val (fv 9) (fr_val (fv 8) fr_nil))))) (by intro _; rfl)))))) (fw_or1 (FW.ft (fw_and (fc_eq ⟨rfl, sc_law.nd, hr⟩ (fv 7) (fb_fe fe_str)).t (fw_and1 (ft_not (ft_e (fb_fe (fe_fo (foc D__law_stuck (hr.mono (by decide)) (fr_val (fv 9) (fr_val (fv 8) fr_nil))))) (by intro _; rfl))))))))) (fss_one (fs_ret fe_bl)) fss_nil) (fss_one (fs_ret (fe_and (fe_fo (foc D__law_same (hr.mono (by decide)) (fr_val (fe_fo (foc D_safe_order (hr.mono (by decide)) (fr_val (fe_tup (fa_cons (fe_tup (fa_cons fe_int fa_nil)) (fa_cons (fe_tup (fa_cons (fe_tup (fa_cons fe_int fa_nil)) (fa_cons (fe_tup (fa_cons fe_int fa_nil)) fa_nil))) (fa_cons (fe_tup (fa_cons (fe_tup (fa_cons fe_int fa_nil)) (fa_cons (fe_tup (fa_cons fe_int fa_nil)) fa_nil))) fa_nil)))) fr_nil))) (fr_val (fe_tup (fa_cons fe_str (fa_cons (fe_tup (fa_cons fe_int (fa_cons fe_int fa_nil))) fa_nil))) fr_nil)))) (fe_one (fe_fo (foc D__law_same (hr.mono (by decide)) (fr_val (fe_fo (foc D_safe_order (hr.mono (by decide)) (fr_val (fe_tup (fa_cons (fe_tup (fa_cons fe_int fa_nil)) (fa_cons (fe_tup (fa_cons (fe_tup (fa_cons fe_int fa_nil)) (fa_cons (fe_tup (fa_cons fe_int fa_nil)) fa_nil))) (fa_cons (fe_tup (fa_cons (fe_tup (fa_cons fe_int fa_nil)) (fa_cons (fe_tup (fa_cons fe_int fa_nil)) fa_nil))) fa_nil)))) fr_nil))) (fr_val (fe_tup (fa_cons fe_str (fa_cons (fe_tup (fa_cons fe_int (fa_cons fe_int fa_nil))) fa_nil))) fr_nil))))))))))))
end
end Fl

set_option linter.all false
set_option autoImplicit false
namespace Fl
/-! K83_Math: loans, greedy orders, stuck groups. -/
structure Loan where
  kk : Nat
  nn : Nat
  free : List Int
  held : List (List Int)
  need : List (List Int)
def Loan.H (l : Loan) (j : Nat) : List Int := l.held.getD j []
def Loan.N (l : Loan) (j : Nat) : List Int := l.need.getD j []
def rowFit (K : Nat) (a f : List Int) : Bool := (List.range K).all fun k => decide (a.getD k 0 ≤ f.getD k 0)
def rowAdd (K : Nat) (f a : List Int) : List Int := (List.range K).map fun k => f.getD k 0 + a.getD k 0
theorem rowAdd_get {K : Nat} {f a : List Int} {k : Nat} (h : k < K) : (rowAdd K f a).getD k 0 = f.getD k 0 + a.getD k 0 := by
  unfold rowAdd
  rw [List.getD_eq_getElem?_getD, List.getElem?_map, List.getElem?_range h]; rfl
theorem rowAdd_len (K : Nat) (f a : List Int) : (rowAdd K f a).length = K := by unfold rowAdd; rw [List.length_map, List.length_range]
theorem rowFit_iff {K : Nat} {a f : List Int} : rowFit K a f = true ↔ ∀ k, k < K → a.getD k 0 ≤ f.getD k 0 := by
  unfold rowFit
  rw [List.all_eq_true]
  exact ⟨fun h k hk => of_decide_eq_true (h k (List.mem_range.mpr hk)), fun h k hk => decide_eq_true (h k (List.mem_range.mp hk))⟩
def ends (l : Loan) : List Int → List Nat → Bool
  | _, [] => true
  | f, j :: r => rowFit l.kk (l.N j) f && ends l (rowAdd l.kk f (l.H j)) r
def gr (l : Loan) : Nat → List Nat → List Int → Bool × List Nat
  | 0, _, _ => (true, [])
  | m + 1, left, f => match left.filter fun j => rowFit l.kk (l.N j) f with
    | [] => (false, left)
    | j :: _ => if (gr l m (left.erase j) (rowAdd l.kk f (l.H j))).1 = true then (true, j :: (gr l m (left.erase j) (rowAdd l.kk f (l.H j))).2) else gr l m (left.erase j) (rowAdd l.kk f (l.H j))
def sumH (l : Loan) (k : Nat) : List Nat → Int
  | [] => 0
  | j :: r => (l.H j).getD k 0 + sumH l k r
def NonNeg (l : Loan) : Prop := ∀ j k, j < l.nn → k < l.kk → 0 ≤ (l.H j).getD k 0
theorem sumH_app (l : Loan) (k : Nat) : ∀ a b, sumH l k (a ++ b) = sumH l k a + sumH l k b
  | [], b => by show sumH l k b = 0 + sumH l k b; omega
  | j :: a, b => by show _ + sumH l k (a ++ b) = _ + _ + _; rw [sumH_app l k a b]; omega
theorem sumH_erase (l : Loan) (k : Nat) : ∀ (g : List Nat) (j : Nat), j ∈ g → sumH l k g = (l.H j).getD k 0 + sumH l k (g.erase j)
  | [], _, h => nomatch h
  | i :: g, j, h => by
    by_cases e : i = j
    · subst e; rw [List.erase_cons_head]; rfl
    · rw [List.erase_cons_tail (by simpa using e)]
      show _ + sumH l k g = _ + (_ + sumH l k (g.erase j))
      rw [sumH_erase l k g j ((List.mem_cons.mp h).resolve_left fun h => e h.symm)]; omega
theorem sumH_nn {l : Loan} (hh : NonNeg l) {k : Nat} (hk : k < l.kk) : ∀ g : List Nat, (∀ j ∈ g, j < l.nn) → 0 ≤ sumH l k g
  | [], _ => Int.le_refl 0
  | j :: g, h => Int.add_nonneg (hh j k (h j List.mem_cons_self) hk) (sumH_nn hh hk g fun i hi => h i (List.mem_cons_of_mem _ hi))
/-- sums over all but a group -/
def outs (n : Nat) (g : List Nat) : List Nat := (List.range n).filter fun j => !decide (j ∈ g)
def outsF (l : Loan) (g : List Nat) : List Int := (List.range l.kk).map fun k => l.free.getD k 0 + sumH l k (outs l.nn g)
def stuckB (l : Loan) (g : List Nat) : Bool := !g.isEmpty && g.all fun j => !rowFit l.kk (l.N j) (outsF l g)
theorem outsF_get {l : Loan} {g : List Nat} {k : Nat} (h : k < l.kk) : (outsF l g).getD k 0 = l.free.getD k 0 + sumH l k (outs l.nn g) := by
  unfold outsF
  rw [List.getD_eq_getElem?_getD, List.getElem?_map, List.getElem?_range h]; rfl
/-- who runs before a stuck group -/
theorem ends_stuck {l : Loan} (hh : NonNeg l) {g : List Nat} {b : List Int} (hb : ∀ j ∈ g, rowFit l.kk (l.N j) b = false) :
    ∀ (q : List Nat) (f : List Int) (R : List Nat), q.Nodup → (∀ j ∈ R, j < l.nn) → (∀ j ∈ q, j ∈ g ∨ j ∈ R) → (∀ k, k < l.kk → f.getD k 0 + sumH l k R ≤ b.getD k 0) → ends l f q = true → ∀ j ∈ q, j ∉ g
  | [], _, _, _, _, _, _, _, _, h => nomatch h
  | j :: r, f, R, hn, hR, hq, hf, he, i, hi => by
    obtain ⟨e1, e2⟩ := Bool.and_eq_true_iff.mp he
    have hjg : j ∉ g := fun hj => by
      have h1 := hb j hj
      have h2 : rowFit l.kk (l.N j) b = true := rowFit_iff.mpr fun k hk => by
        have := rowFit_iff.mp e1 k hk
        have := hf k hk
        have := sumH_nn hh hk R hR
        omega
      rw [h1] at h2; cases h2
    have hjR := (hq j List.mem_cons_self).resolve_left hjg
    rcases List.mem_cons.mp hi with rfl | hi
    · exact hjg
    · have hn' := List.nodup_cons.mp hn
      refine ends_stuck hh hb r (rowAdd l.kk f (l.H j)) (R.erase j) hn'.2 (fun i hi => hR i (List.mem_of_mem_erase hi)) (fun i hi => ?_) (fun k hk => ?_) e2 i hi
      · rcases hq i (List.mem_cons_of_mem _ hi) with h | h
        · exact .inl h
        · exact .inr ((List.mem_erase_of_ne fun e : i = j => hn'.1 (e ▸ hi)).mpr h)
      · have h1 := hf k hk
        rw [sumH_erase l k R j hjR] at h1
        rw [rowAdd_get hk]; omega
/-- a stuck group lies in what the greedy leaves -/
theorem gr_stuck {l : Loan} (hh : NonNeg l) {g : List Nat} {b : List Int} (hb : ∀ j ∈ g, rowFit l.kk (l.N j) b = false) :
    ∀ (m : Nat) (left : List Nat) (f : List Int) (R : List Nat), left.length = m → left.Nodup → (∀ j ∈ R, j < l.nn) → (∀ j ∈ g, j ∈ left) → (∀ j ∈ left, j ∈ g ∨ j ∈ R) → (∀ k, k < l.kk → f.getD k 0 + sumH l k R ≤ b.getD k 0) →
      ((gr l m left f).1 = true → g = []) ∧ ((gr l m left f).1 = false → ∀ j ∈ g, j ∈ (gr l m left f).2)
  | 0, left, f, R, hm, hN, hR, hg, hl, hf => by
    refine ⟨fun _ => ?_, fun h => by simp [gr] at h⟩
    rw [List.eq_nil_of_length_eq_zero hm] at hg
    exact List.eq_nil_iff_forall_not_mem.mpr fun j hj => nomatch hg j hj
  | m + 1, left, f, R, hm, hN, hR, hg, hl, hf => by
    unfold gr
    cases hc : left.filter fun j => rowFit l.kk (l.N j) f with
    | nil => exact ⟨fun h => (by cases h), fun _ => hg⟩
    | cons j r =>
      have hj := List.mem_filter.mp (by rw [hc]; exact List.mem_cons_self : j ∈ left.filter _)
      have hjg : j ∉ g := fun hj' => by
        have h1 := hb j hj'
        have h2 : rowFit l.kk (l.N j) b = true := rowFit_iff.mpr fun k hk => by
          have := rowFit_iff.mp hj.2 k hk
          have := hf k hk
          have := sumH_nn hh hk R hR
          omega
        rw [h1] at h2; cases h2
      have hjR := (hl j hj.1).resolve_left hjg
      have ih := gr_stuck hh hb m (left.erase j) (rowAdd l.kk f (l.H j)) (R.erase j) (by rw [List.length_erase_of_mem hj.1, hm]; rfl) (hN.erase j) (fun i hi => hR i (List.mem_of_mem_erase hi)) (fun i hi => (List.mem_erase_of_ne fun (e : i = j) => hjg (e ▸ hi)).mpr (hg i hi)) (fun i hi => by
        have e := (hN.mem_erase_iff.mp hi).1
        rcases hl i (List.mem_of_mem_erase hi) with h | h
        · exact .inl h
        · exact .inr ((List.mem_erase_of_ne e).mpr h)) (fun k hk => by
        have h1 := hf k hk
        rw [sumH_erase l k R j hjR] at h1
        rw [rowAdd_get hk]; omega)
      dsimp only
      split
      · next h => exact ⟨fun _ => ih.1 h, fun h => (by cases h)⟩
      · next h => exact ih
/-- what the greedy tells of itself -/
theorem gr_tells {l : Loan} : ∀ (m : Nat) (left : List Nat) (f : List Int), left.length = m → left.Nodup →
    ((gr l m left f).1 = true → ends l f (gr l m left f).2 = true ∧ (gr l m left f).2.Perm left) ∧
    ((gr l m left f).1 = false → (gr l m left f).2 ≠ [] ∧ (gr l m left f).2.Sublist left ∧ ∃ f' : List Int, (∀ j ∈ (gr l m left f).2, rowFit l.kk (l.N j) f' = false) ∧ ∀ k, k < l.kk → f'.getD k 0 = f.getD k 0 + sumH l k left - sumH l k (gr l m left f).2)
  | 0, left, f, hm, hN => by
    rw [List.eq_nil_of_length_eq_zero hm]
    exact ⟨fun _ => ⟨rfl, List.Perm.refl _⟩, fun h => by simp [gr] at h⟩
  | m + 1, left, f, hm, hN => by
    unfold gr
    cases hc : left.filter fun j => rowFit l.kk (l.N j) f with
    | nil =>
      refine ⟨fun h => (by cases h), fun _ => ⟨fun h => ?_, List.Sublist.refl _, f, fun j hj => ?_, fun k _ => ?_⟩⟩
      · have h' : left = [] := h
        rw [h'] at hm; cases hm
      · exact Bool.eq_false_iff.mpr (List.filter_eq_nil_iff.mp hc j hj)
      · show _ = _ + sumH l k left - sumH l k left
        omega
    | cons j r =>
      have hj := List.mem_filter.mp (by rw [hc]; exact List.mem_cons_self : j ∈ left.filter _)
      have ih := gr_tells (l := l) m (left.erase j) (rowAdd l.kk f (l.H j)) (by rw [List.length_erase_of_mem hj.1, hm]; rfl) (hN.erase j)
      dsimp only
      split
      · next h =>
        refine ⟨fun _ => ?_, fun h => (by cases h)⟩
        obtain ⟨h1, h2⟩ := ih.1 h
        exact ⟨Bool.and_eq_true_iff.mpr ⟨hj.2, h1⟩, (h2.cons j).trans (List.perm_cons_erase hj.1).symm⟩
      · next h =>
        refine ⟨fun h' => absurd h' h, fun h' => ?_⟩
        obtain ⟨h1, h2, f', h3, h4⟩ := ih.2 h'
        refine ⟨h1, h2.trans List.erase_sublist, f', h3, fun k hk => ?_⟩
        have := h4 k hk
        rw [rowAdd_get hk] at this
        rw [sumH_erase l k left j hj.1]; omega
theorem sub_filter {g : List Nat} : ∀ {xs : List Nat}, g.Sublist xs → xs.Nodup → (xs.filter fun j => decide (j ∈ g)) = g := by
  intro xs h
  induction h with
  | slnil => intro _; rfl
  | cons a h ih =>
    intro hn
    have hn' := List.nodup_cons.mp hn
    rw [List.filter_cons_of_neg (by simpa using fun k => hn'.1 (h.subset k))]
    exact ih hn'.2
  | cons_cons a h ih =>
    rename_i g' xs'
    intro hn
    have hn' := List.nodup_cons.mp hn
    rw [List.filter_cons_of_pos (by simp)]
    congr 1
    rw [← ih hn'.2]
    apply List.filter_congr
    intro x hx
    have hxa : x ≠ a := fun e => hn'.1 (e ▸ hx)
    rw [ih hn'.2]
    simp [hxa]
theorem sumH_split (l : Loan) (k : Nat) (p : Nat → Bool) : ∀ xs : List Nat, sumH l k xs = sumH l k (xs.filter p) + sumH l k (xs.filter fun j => !p j)
  | [] => rfl
  | x :: xs => by
    have ih := sumH_split l k p xs
    cases h : p x with
    | true =>
      rw [List.filter_cons_of_pos h, List.filter_cons_of_neg (by simp [h])]
      show _ + _ = _ + _ + _
      omega
    | false =>
      rw [List.filter_cons_of_neg (by simp [h]), List.filter_cons_of_pos (by simp [h])]
      show _ + _ = _ + (_ + _)
      omega
/-- the greedy's own -/
def grd (l : Loan) : Bool × List Nat := gr l l.nn (List.range l.nn) l.free
theorem grd_order {l : Loan} (h : (grd l).1 = true) : ends l l.free (grd l).2 = true ∧ (grd l).2.Perm (List.range l.nn) := (gr_tells (l := l) l.nn (List.range l.nn) l.free (List.length_range) List.nodup_range).1 h
theorem grd_stuck {l : Loan} (h : (grd l).1 = false) : (grd l).2.Sublist (List.range l.nn) ∧ stuckB l (grd l).2 = true := by
  obtain ⟨h1, h2, f', h3, h4⟩ := (gr_tells (l := l) l.nn (List.range l.nn) l.free (List.length_range) List.nodup_range).2 h
  refine ⟨h2, ?_⟩
  have h1' : (grd l).2 ≠ [] := h1
  have h3' : ∀ j ∈ (grd l).2, rowFit l.kk (l.N j) f' = false := h3
  have h2' : (grd l).2.Sublist (List.range l.nn) := h2
  have h4' : ∀ k, k < l.kk → f'.getD k 0 = l.free.getD k 0 + sumH l k (List.range l.nn) - sumH l k (grd l).2 := h4
  unfold stuckB
  rw [Bool.and_eq_true_iff]
  refine ⟨by cases hg : (grd l).2 with
    | nil => exact absurd hg h1'
    | cons a b => rfl, List.all_eq_true.mpr fun j hj => ?_⟩
  have h5 : rowFit l.kk (l.N j) (outsF l (grd l).2) = rowFit l.kk (l.N j) f' := by
    rw [Bool.eq_iff_iff, rowFit_iff, rowFit_iff]
    have h6 : ∀ k, k < l.kk → (outsF l (grd l).2).getD k 0 = f'.getD k 0 := fun k hk => by
      rw [outsF_get hk, h4' k hk, sumH_split l k (fun j => decide (j ∈ (grd l).2)) (List.range l.nn), sub_filter h2' List.nodup_range]
      unfold outs
      omega
    exact ⟨fun h k hk => h6 k hk ▸ h k hk, fun h k hk => (h6 k hk).symm ▸ h k hk⟩
  rw [h5, h3' j hj]; rfl
theorem outs_sum_le {l : Loan} (g : List Nat) : ∀ k, k < l.kk → l.free.getD k 0 + sumH l k (outs l.nn g) ≤ (outsF l g).getD k 0 := fun k hk => by rw [outsF_get hk]; exact Int.le_refl _
theorem stuck_all {l : Loan} {g : List Nat} (h : stuckB l g = true) : g ≠ [] ∧ ∀ j ∈ g, rowFit l.kk (l.N j) (outsF l g) = false := by
  obtain ⟨h1, h2⟩ := Bool.and_eq_true_iff.mp h
  exact ⟨fun e => (by rw [e] at h1; cases h1), fun j hj => by
    have := List.all_eq_true.mp h2 j hj
    simpa using this⟩
theorem mem_outs {n : Nat} {g : List Nat} {j : Nat} : j ∈ outs n g ↔ j < n ∧ j ∉ g := by
  unfold outs
  rw [List.mem_filter, List.mem_range]
  simp
/-- a stuck group of the law's, and the greedy -/
theorem grd_of_stuck {l : Loan} (hh : NonNeg l) {g : List Nat} (hg : ∀ j ∈ g, j < l.nn) (h : stuckB l g = true) : (grd l).1 = false ∧ ∀ j ∈ g, j ∈ (grd l).2 := by
  obtain ⟨h1, h2⟩ := stuck_all h
  have k := gr_stuck hh h2 l.nn (List.range l.nn) l.free (outs l.nn g) List.length_range List.nodup_range (fun j hj => (mem_outs.mp hj).1) (fun j hj => List.mem_range.mpr (hg j hj)) (fun j hj => by
    by_cases hd : j ∈ g
    · exact .inl hd
    · exact .inr (mem_outs.mpr ⟨List.mem_range.mp hj, hd⟩)) (outs_sum_le g)
  cases hc : (grd l).1 with
  | true => exact absurd (k.1 hc) h1
  | false => exact ⟨rfl, k.2 hc⟩
/-- an order of all, and the greedy -/
theorem grd_of_order {l : Loan} (hh : NonNeg l) {q : List Nat} (hq : q.Perm (List.range l.nn)) (h : ends l l.free q = true) : (grd l).1 = true := by
  cases hc : (grd l).1 with
  | true => rfl
  | false =>
    obtain ⟨h1, h2⟩ := grd_stuck hc
    obtain ⟨h3, h4⟩ := stuck_all h2
    have hn : q.Nodup := hq.symm.nodup List.nodup_range
    have key := ends_stuck hh h4 q l.free (outs l.nn (grd l).2) hn (fun j hj => (mem_outs.mp hj).1) (fun j hj => by
      by_cases hd : j ∈ (grd l).2
      · exact .inl hd
      · exact .inr (mem_outs.mpr ⟨List.mem_range.mp (hq.subset hj), hd⟩)) (outs_sum_le _) h
    cases hg : (grd l).2 with
    | nil => exact absurd hg h3
    | cons a b =>
      have ha : a ∈ (grd l).2 := by rw [hg]; exact List.mem_cons_self
      exact absurd ha (key a (hq.symm.subset (h1.subset ha)))
/-! ### orders -/
def stp (n : Nat) (row : List Nat) : List (List Nat) := ((List.range n).filter fun j => !decide (j ∈ row)).map fun j => row ++ [j]
def ordL (n : Nat) : Nat → List (List Nat)
  | 0 => [[]]
  | m + 1 => (ordL n m).flatMap (stp n)
def dfs (n : Nat) : Nat → List Nat → List (List Nat)
  | 0, p => [p]
  | m + 1, p => (stp n p).flatMap (dfs n m)
theorem dfs_end (n : Nat) : ∀ m p, (dfs n m p).flatMap (stp n) = dfs n (m + 1) p
  | 0, p => by
    show [p].flatMap (stp n) = (stp n p).flatMap fun q => [q]
    simp [List.flatMap_cons]
  | m + 1, p => by
    show ((stp n p).flatMap (dfs n m)).flatMap (stp n) = (stp n p).flatMap (dfs n (m + 1))
    rw [List.flatMap_assoc]
    congr 1
    funext q
    exact dfs_end n m q
theorem ordL_dfs (n : Nat) : ∀ m, ordL n m = dfs n m []
  | 0 => rfl
  | m + 1 => by
    show (ordL n m).flatMap (stp n) = _
    rw [ordL_dfs n m, dfs_end]
theorem stp_mem {n : Nat} {p q : List Nat} (h : q ∈ stp n p) : ∃ j, j < n ∧ j ∉ p ∧ q = p ++ [j] := by
  obtain ⟨j, hj, rfl⟩ := List.mem_map.mp h
  obtain ⟨h1, h2⟩ := List.mem_filter.mp hj
  exact ⟨j, List.mem_range.mp h1, by simpa using h2, rfl⟩
theorem dfs_pre {n : Nat} : ∀ {m : Nat} {p q : List Nat}, q ∈ dfs n m p → ∃ r, q = p ++ r
  | 0, p, q, h => ⟨[], by rw [List.mem_singleton.mp h]; simp⟩
  | m + 1, p, q, h => by
    obtain ⟨p', h1, h2⟩ := List.mem_flatMap.mp h
    obtain ⟨j, _, _, rfl⟩ := stp_mem h1
    obtain ⟨r, rfl⟩ := dfs_pre h2
    exact ⟨j :: r, by simp⟩
theorem ordL_mem {n : Nat} : ∀ {m : Nat} {q : List Nat}, q ∈ ordL n m → q.length = m ∧ q.Nodup ∧ ∀ j ∈ q, j < n
  | 0, q, h => by rw [List.mem_singleton.mp h]; exact ⟨rfl, List.nodup_nil, fun _ h => nomatch h⟩
  | m + 1, q, h => by
    obtain ⟨p, h1, h2⟩ := List.mem_flatMap.mp h
    obtain ⟨j, hj, hp, rfl⟩ := stp_mem h2
    obtain ⟨k1, k2, k3⟩ := ordL_mem h1
    refine ⟨by rw [List.length_append, k1]; rfl, List.nodup_append.mpr ⟨k2, by simp, fun a ha b hb e => ?_⟩, fun i hi => ?_⟩
    · rw [List.mem_singleton.mp hb] at e; exact hp (e ▸ ha)
    · rcases List.mem_append.mp hi with hi | hi
      · exact k3 i hi
      · rw [List.mem_singleton.mp hi]; exact hj
theorem ordL_len (n : Nat) : ∀ m, (ordL n m).length ≤ n ^ m
  | 0 => Nat.le_refl _
  | m + 1 => by
    have ih := ordL_len n m
    have key : ∀ rows : List (List Nat), (rows.flatMap (stp n)).length ≤ rows.length * n := fun rows => by
      induction rows with
      | nil => exact Nat.zero_le _
      | cons r rows ihr =>
        rw [List.flatMap_cons, List.length_append, List.length_cons, Nat.succ_mul]
        have : (stp n r).length ≤ n := by
          unfold stp
          rw [List.length_map]
          exact Nat.le_trans (List.length_filter_le _ _) (by rw [List.length_range]; exact Nat.le_refl _)
        omega
    exact Nat.le_trans (key _) (Nat.mul_le_mul_right n ih)
theorem perm_sub : ∀ (q l : List Nat), q.Nodup → (∀ j ∈ q, j ∈ l) → q.length = l.length → q.Perm l
  | [], l, _, _, h => by rw [List.eq_nil_of_length_eq_zero h.symm]
  | x :: q, l, hn, hs, h => by
    have hx := hs x List.mem_cons_self
    have hn' := List.nodup_cons.mp hn
    exact ((perm_sub q (l.erase x) hn'.2 (fun j hj => (List.mem_erase_of_ne fun e : j = x => hn'.1 (e ▸ hj)).mpr (hs j (List.mem_cons_of_mem _ hj))) (by rw [List.length_erase_of_mem hx, ← h]; rfl)).cons x).trans (List.perm_cons_erase hx).symm
theorem perm_range {n : Nat} {q : List Nat} (h1 : q.length = n) (h2 : q.Nodup) (h3 : ∀ j ∈ q, j < n) : q.Perm (List.range n) := by
  exact perm_sub q (List.range n) h2 (fun j hj => List.mem_range.mpr (h3 j hj)) (by rw [h1, List.length_range])
def after (l : Loan) : List Int → List Nat → List Int
  | f, [] => f
  | f, j :: r => after l (rowAdd l.kk f (l.H j)) r
theorem ends_app (l : Loan) : ∀ (p r : List Nat) (f : List Int), ends l f (p ++ r) = (ends l f p && ends l (after l f p) r)
  | [], r, f => by simp [ends, after]
  | j :: p, r, f => by
    show (_ && ends l _ (p ++ r)) = (_ && _ && _)
    rw [ends_app l p r, Bool.and_assoc]; rfl
theorem filter_flat {α β : Type} (p : β → Bool) (F : α → List β) : ∀ xs : List α, (xs.flatMap F).filter p = xs.flatMap fun x => (F x).filter p
  | [] => rfl
  | x :: xs => by rw [List.flatMap_cons, List.filter_append, filter_flat p F xs, List.flatMap_cons]
theorem flat_nil {α β : Type} (F : α → List β) : ∀ xs : List α, (∀ x ∈ xs, F x = []) → xs.flatMap F = []
  | [], _ => rfl
  | x :: xs, h => by rw [List.flatMap_cons, h x List.mem_cons_self, flat_nil F xs fun y hy => h y (List.mem_cons_of_mem _ hy)]; rfl
theorem filter_split {α : Type} (p : α → Bool) : ∀ {xs : List α} {j : α} {r : List α}, xs.filter p = j :: r → ∃ a b, xs = a ++ j :: b ∧ ∀ x ∈ a, p x = false
  | [], _, _, h => by cases h
  | x :: xs, j, r, h => by
    cases hp : p x with
    | true =>
      rw [List.filter_cons_of_pos hp] at h
      cases h
      exact ⟨[], xs, rfl, fun _ h => nomatch h⟩
    | false =>
      rw [List.filter_cons_of_neg (by simp [hp])] at h
      obtain ⟨a, b, h1, h2⟩ := filter_split p h
      exact ⟨x :: a, b, by rw [h1]; rfl, fun y hy => by
        rcases List.mem_cons.mp hy with rfl | hy
        · exact hp
        · exact h2 y hy⟩
/-- the first of the orders that end -/
theorem dfs_first {l : Loan} : ∀ (m : Nat) (p : List Nat), ends l l.free p = true → p.Nodup → (∀ j ∈ p, j < l.nn) → p.length + m = l.nn →
    (gr l m (outs l.nn p) (after l l.free p)).1 = true → ((dfs l.nn m p).filter (ends l l.free)).head? = some (p ++ (gr l m (outs l.nn p) (after l l.free p)).2)
  | 0, p, he, _, _, _, _ => by
    show (List.filter _ [p]).head? = some (p ++ [])
    rw [List.filter_cons_of_pos he, List.append_nil]; rfl
  | m + 1, p, he, hn, hb, hl, hg => by
    unfold gr at hg ⊢
    cases hc : (outs l.nn p).filter fun j => rowFit l.kk (l.N j) (after l l.free p) with
    | nil => rw [hc] at hg; cases hg
    | cons j r =>
      rw [hc] at hg
      dsimp only at hg ⊢
      have hj := List.mem_filter.mp (by rw [hc]; exact List.mem_cons_self : j ∈ (outs l.nn p).filter _)
      have hj2 := mem_outs.mp hj.1
      have hap : ∀ i, after l l.free (p ++ [i]) = rowAdd l.kk (after l l.free p) (l.H i) := fun i => by
        have : ∀ (p : List Nat) f, after l f (p ++ [i]) = rowAdd l.kk (after l f p) (l.H i) := fun p => by
          induction p with
          | nil => intro f; rfl
          | cons a p ih => intro f; exact ih _
        exact this p _
      have hou : (outs l.nn p).erase j = outs l.nn (p ++ [j]) := by
        have hnd : (outs l.nn p).Nodup := List.nodup_range.filter _
        rw [hnd.erase_eq_filter]
        unfold outs
        rw [List.filter_filter]
        apply List.filter_congr
        intro x _
        by_cases h1 : x = j
        · subst h1; simp
        · by_cases h2 : x ∈ p
          · simp [h2]
          · simp [h1, h2]
      have hgt : (gr l m ((outs l.nn p).erase j) (rowAdd l.kk (after l l.free p) (l.H j))).1 = true := by
        by_cases h : (gr l m ((outs l.nn p).erase j) (rowAdd l.kk (after l l.free p) (l.H j))).1 = true
        · exact h
        · rw [if_neg h] at hg; exact hg
      rw [if_pos hgt]
      have he' : ends l l.free (p ++ [j]) = true := by
        rw [ends_app, he]
        show (rowFit l.kk (l.N j) (after l l.free p) && true) = true
        rw [hj.2]; rfl
      rw [hou, ← hap j] at hgt ⊢
      have ih := dfs_first m (p ++ [j]) he' (List.nodup_append.mpr ⟨hn, by simp, fun a ha b hb' e => by rw [List.mem_singleton.mp hb'] at e; exact hj2.2 (e ▸ ha)⟩) (fun i hi => by
        rcases List.mem_append.mp hi with hi | hi
        · exact hb i hi
        · rw [List.mem_singleton.mp hi]; exact hj2.1) (by rw [List.length_append]; simp only [List.length_cons, List.length_nil]; omega) hgt
      obtain ⟨a, b, hab, ha⟩ := filter_split _ hc
      show (List.filter _ ((stp l.nn p).flatMap (dfs l.nn m))).head? = _
      rw [filter_flat]
      have hstp : stp l.nn p = (outs l.nn p).map fun j => p ++ [j] := rfl
      rw [hstp, hab, List.map_append, List.flatMap_append, List.map_cons, List.flatMap_cons]
      rw [flat_nil _ (a.map fun j => p ++ [j]) (fun x hx => by
        obtain ⟨i, hi, rfl⟩ := List.mem_map.mp hx
        refine List.filter_eq_nil_iff.mpr fun q hq => ?_
        obtain ⟨r, rfl⟩ := dfs_pre hq
        rw [List.append_assoc, ends_app, he]
        show ¬ (true && (rowFit l.kk (l.N i) (after l l.free p) && _)) = true
        rw [ha i hi]; simp), List.nil_append]
      cases hX : (dfs l.nn m (p ++ [j])).filter (ends l l.free) with
      | nil => rw [hX] at ih; cases ih
      | cons x xs =>
        rw [hX] at ih
        show some x = _
        have ih' : some x = some (p ++ [j] ++ _) := ih
        rw [ih', List.append_assoc]; rfl
def fine (l : Loan) : List (List Nat) := (ordL l.nn l.nn).filter (ends l l.free)
theorem fine_perm {l : Loan} {q : List Nat} (h : q ∈ fine l) : q.Perm (List.range l.nn) ∧ ends l l.free q = true := by
  obtain ⟨h1, h2⟩ := List.mem_filter.mp h
  obtain ⟨k1, k2, k3⟩ := ordL_mem h1
  exact ⟨perm_range k1 k2 k3, h2⟩
theorem fine_head {l : Loan} (h : (grd l).1 = true) : (fine l).head? = some (grd l).2 := by
  unfold fine
  rw [ordL_dfs]
  have h0 : outs l.nn [] = List.range l.nn := List.filter_eq_self.mpr fun _ _ => rfl
  have k := dfs_first (l := l) l.nn [] rfl List.nodup_nil (fun _ h => nomatch h) (by simp) (by rw [h0]; exact h)
  rw [h0] at k
  exact k
theorem fine_nil {l : Loan} (hh : NonNeg l) (h : (grd l).1 = false) : fine l = [] := by
  cases hf : fine l with
  | nil => rfl
  | cons q r =>
    obtain ⟨h1, h2⟩ := fine_perm (l := l) (q := q) (by rw [hf]; exact List.mem_cons_self)
    rw [grd_of_order hh h1 h2] at h; cases h
/-! ### groups -/
def setL : Nat → List (List Nat)
  | 0 => [[]]
  | k + 1 => setL k ++ (setL k).map fun g => g ++ [k]
theorem setL_mem : ∀ (n : Nat) (g : List Nat), g ∈ setL n ↔ g.Sublist (List.range n)
  | 0, g => by simp [setL]
  | n + 1, g => by
    rw [List.range_succ, List.sublist_append_iff]
    unfold setL
    rw [List.mem_append, setL_mem n g]
    constructor
    · rintro (h | h)
      · exact ⟨g, [], by simp, h, List.nil_sublist _⟩
      · obtain ⟨g', h1, rfl⟩ := List.mem_map.mp h
        exact ⟨g', [n], rfl, (setL_mem n g').mp h1, List.Sublist.refl _⟩
    · rintro ⟨g1, g2, rfl, h1, h2⟩
      have h2' : g2 = [] ∨ g2 = [n] := by
        cases h2 with
        | cons _ h => exact .inl (List.sublist_nil.mp h)
        | cons_cons _ h => exact .inr (by rw [List.sublist_nil.mp h])
      rcases h2' with rfl | rfl
      · left; simpa using h1
      · right; exact List.mem_map.mpr ⟨g1, (setL_mem n g1).mpr h1, rfl⟩
theorem setL_len : ∀ n, (setL n).length = 2 ^ n
  | 0 => rfl
  | n + 1 => by unfold setL; rw [List.length_append, List.length_map, setL_len n]; omega
def groups (l : Loan) : List (List Nat) := (setL l.nn).filter (stuckB l)
theorem groups_nil {l : Loan} (hh : NonNeg l) (h : (grd l).1 = true) : groups l = [] := by
  refine List.filter_eq_nil_iff.mpr fun g hg hs => ?_
  have := (grd_of_stuck hh (fun j hj => List.mem_range.mp (((setL_mem l.nn g).mp hg).subset hj)) hs).1
  rw [h] at this; cases this
theorem groups_great {l : Loan} (hh : NonNeg l) (h : (grd l).1 = false) : (grd l).2 ∈ groups l ∧ ((List.range l.nn).filter fun j => (groups l).any fun g => decide (j ∈ g)) = (grd l).2 := by
  obtain ⟨h1, h2⟩ := grd_stuck h
  have hm : (grd l).2 ∈ groups l := List.mem_filter.mpr ⟨(setL_mem l.nn _).mpr h1, h2⟩
  refine ⟨hm, ?_⟩
  have key : ∀ j ∈ List.range l.nn, ((groups l).any fun g => decide (j ∈ g)) = decide (j ∈ (grd l).2) := fun j hj => by
    by_cases hd : j ∈ (grd l).2
    · rw [decide_eq_true hd]
      exact List.any_eq_true.mpr ⟨_, hm, decide_eq_true hd⟩
    · rw [decide_eq_false hd]
      refine List.any_eq_false.mpr fun g hg => ?_
      obtain ⟨k1, k2⟩ := List.mem_filter.mp hg
      have := (grd_of_stuck hh (fun j hj => List.mem_range.mp (((setL_mem l.nn g).mp k1).subset hj)) k2).2 j
      simpa using fun h => hd (this h)
  rw [List.filter_congr key]
  exact sub_filter h1 List.nodup_range
/-! ### less needed, more free -/
theorem ends_more {l l' : Loan} (hk : l'.kk = l.kk) (hH : ∀ j, l'.H j = l.H j) (hN : ∀ j k, k < l.kk → (l'.N j).getD k 0 ≤ (l.N j).getD k 0) : ∀ (q : List Nat) (f f' : List Int), (∀ k, k < l.kk → f.getD k 0 ≤ f'.getD k 0) → ends l f q = true → ends l' f' q = true
  | [], _, _, _, _ => rfl
  | j :: q, f, f', hf, he => by
    obtain ⟨h1, h2⟩ := Bool.and_eq_true_iff.mp he
    refine Bool.and_eq_true_iff.mpr ⟨?_, ?_⟩
    · rw [hk]
      exact rowFit_iff.mpr fun k hk' => Int.le_trans (hN j k hk') (Int.le_trans (rowFit_iff.mp h1 k hk') (hf k hk'))
    · rw [hk, hH]
      refine ends_more hk hH hN q _ _ (fun k hk' => ?_) h2
      rw [rowAdd_get hk', rowAdd_get hk']
      have := hf k hk'
      omega
theorem grd_more {l l' : Loan} (hh : NonNeg l') (hk : l'.kk = l.kk) (hn : l'.nn = l.nn) (hH : ∀ j, l'.H j = l.H j) (hN : ∀ j k, k < l.kk → (l'.N j).getD k 0 ≤ (l.N j).getD k 0) (hF : ∀ k, k < l.kk → l.free.getD k 0 ≤ l'.free.getD k 0) (h : (grd l).1 = true) : (grd l').1 = true := by
  obtain ⟨h1, h2⟩ := grd_order h
  exact grd_of_order hh (by rw [hn]; exact h2) (ends_more hk hH hN _ _ _ hF h1)
end Fl

set_option Elab.async false
set_option linter.all false
set_option maxRecDepth 100000
set_option maxHeartbeats 4000000
set_option autoImplicit false
namespace Fl
open PySem PySem.Spec PyProof.Rows L2
local macro_rules | `(tactic| walk_at "ev") => `(tactic| simp -implicitDefEqProofs only [prE_ev, eVar_ev, varC_ev, eNm_ev, nmC_va, nmC_li, eC_ev, vw_va, vw_li, eOwn_ev, eIxO_ev, ixoC_ev, ixoC2_ev, ixoC3_ev, eOp_ev, opC_ev, opC2_ev, eUn_ev, unC_ev, bE_ev, bEC_ev, bB_ev, bBC_ev, bNot_ev, notC_ev, bAnd_ev, andC_t, andC_f, bOr_ev, orC_t, orC_f, bYes_ev, eAnd_ev, eandC_t, eandC_f, eOr_ev, eorC_t, eorC_f, eNot_ev, enotC_ev, eIf_ev, ifC_t, ifC_f, eTup_ev, tupC_ev, aNil_ev, aCons_ev, aconsC_ev, aconsC2_ev, oLst_ev, lstC_ev, oE_ev, oEC_ev, eFz_ev, fzC_va, fzC_li, oUn_ev, ounC_ev, prL_ev, eSl_ev, slC_ev, slC2_ev, slC3_ev, eSlO_ev, sloC_ev, sloC2_ev, sloC3_ev, sloC4_ev, lEnum_ev, enC_tup, enC_lst, pNo_ev, pSo_ev, psoC_ev, lOf_ev, lofC_tup, lofC_lst, lRng1_ev, rng1C_ev, lRng2_ev, rng2C_ev, rng2C2_ev, oRep_ev, repC_ev, repC2_ev, oCall_ev, callC_0, callC_1, callC_2, callC_3, callC_4, callC_5, callC_rv, callC_rv4, arSl_vl, arSl_rf, callC2_ev, arBack_nil, arBack_vl, arBack_rf, rNil_ev, rVal_ev, rvC_ev, rvC2_ev, rRef_ev, rrC_ev, oComp_ev, compC2_ev, wipeE_nil, wipeE_cons, backE_nil, backE_cons, gNm_ev, gTupF_ev, gsNil_ev, gsCons_ev, sNext_ev, sBreak_ev, sCont_ev, sSeq_ev, seqC_nx, seqC_bk, seqC_ct, seqC_rt, sSet_ev, setC_ev, sPar_ev, parC_ev, setAll_nil, setAll_cons, olNil_ev, olCons_ev, olC_ev, olC2_ev, sAsg_ev, asgC_ev, sIf_ev, sifC_t, sifC_f, sFor_ev, forC_ev, sDrop_ev, dropC_ev, sRet_ev, retC_ev, sRetN_ev, retnC_va, retnC_li, liOf_li, eMt1_ev, mt1C_ev, mt1C2_ev, mt1C3_ev, mt1C4_ev, eMt0_ev, mt0C_ev, sSub_ev, subC_ev, subC1_ev, subC2_ev, subC3_ev, subC4_ev, sAug_ev, augC_ev, augC2_ev, augC3_ev, mkF_ev, mkC_rt, mkC_nx, keepE_nil, keepE_va, keepE_ow', dTru_bool, dTru_int, dTru_none, dTru_list, dTru_tuple, dAdd_int, dAdd_tup, dAdd_lst, dIadd_int, dSub_int, dMul_int, dDiv_int, dMod_int, dNeg_int, dMin2_int, dMax2_int, dLtA_int, dLe_int, dLt_int, dGt_int, dGe_int, shaped_int, shaped_bool, shaped_none, eqv_int, eqv_bool, dEq_int, dNe_int, dEq_bool, dIs_none, dIsN_none, isNon_none, isNon_int, isNon_tup, isNon_bool, dLen_tup, dLen_lst, dIx_tup, dIx_lst, at0, at1, at2, at3, gExtend_lst, dTuple_lst, dTuple_tup, dList_lst, dList_tup, dInt_int, dSl_tup, dSl_lst, isTup, isLst, isBool, isIntB, isStr, beq_self_eq_true, decide_true, decide_false, isi_tup, isi_lst, isi_int, isi_bool, isi_str, isi_none, sz0, sz1, sz2, sz3, sz4, sz5, sz6, sz7, sz8, sz9, sz10, sz11, sz12, isOw_no, isOw_va, isOw_li, isOw_di, isOw_dt, isOw_ow, isOw_none, isOw_sl,
  Option.bind_some, Option.map_some, Option.bind_none, Option.map_none, Option.getD_some, Option.getD_none, List.getElem?_cons_zero, List.getElem?_cons_succ, List.set_cons_zero, List.set_cons_succ, List.map_cons, List.map_nil, List.headD_cons, List.headD_nil, List.tail_cons, List.tail_nil, List.isEmpty_nil, List.isEmpty_cons, List.length_nil, List.length_cons, List.nil_append, List.cons_append, List.replicate_succ, List.replicate_zero, Nat.reduceSub, Nat.reduceAdd, Bool.false_eq_true, if_false, if_true, reduceIte, Bool.not_true, Bool.not_false, and_true, true_and, and_self, Int.toNat_natCast, Int.zero_add, eCh_ev, chC_ev, chC2_ev, chC3_t, chC3_f, chC4_ev, lZip_ev, zipC_ev, zipC2_tup, zipC2_lst, dRev_tup, dRev_lst, dRngL_int, dRngT_int, oIte_ev, oiteC_li, oiteC_va, oCompO_ev, callC_rv2, callC_rv3])
local macro_rules | `(tactic| walk_at "evh") => `(tactic| simp -implicitDefEqProofs only [prE_ev, eVar_ev, varC_ev, eNm_ev, nmC_va, nmC_li, eC_ev, vw_va, vw_li, eOwn_ev, eIxO_ev, ixoC_ev, ixoC2_ev, ixoC3_ev, eOp_ev, opC_ev, opC2_ev, eUn_ev, unC_ev, bE_ev, bEC_ev, bB_ev, bBC_ev, bNot_ev, notC_ev, bAnd_ev, andC_t, andC_f, bOr_ev, orC_t, orC_f, bYes_ev, eAnd_ev, eandC_t, eandC_f, eOr_ev, eorC_t, eorC_f, eNot_ev, enotC_ev, eIf_ev, ifC_t, ifC_f, eTup_ev, tupC_ev, aNil_ev, aCons_ev, aconsC_ev, aconsC2_ev, oLst_ev, lstC_ev, oE_ev, oEC_ev, eFz_ev, fzC_va, fzC_li, oUn_ev, ounC_ev, prL_ev, eSl_ev, slC_ev, slC2_ev, slC3_ev, eSlO_ev, sloC_ev, sloC2_ev, sloC3_ev, sloC4_ev, lEnum_ev, enC_tup, enC_lst, pNo_ev, pSo_ev, psoC_ev, lOf_ev, lofC_tup, lofC_lst, lRng1_ev, rng1C_ev, lRng2_ev, rng2C_ev, rng2C2_ev, oRep_ev, repC_ev, repC2_ev, oCall_ev, callC_0, callC_1, callC_2, callC_3, callC_4, callC_5, callC_rv, callC_rv4, arSl_vl, arSl_rf, callC2_ev, arBack_nil, arBack_vl, arBack_rf, rNil_ev, rVal_ev, rvC_ev, rvC2_ev, rRef_ev, rrC_ev, oComp_ev, compC2_ev, wipeE_nil, wipeE_cons, backE_nil, backE_cons, gNm_ev, gTupF_ev, gsNil_ev, gsCons_ev, sNext_ev, sBreak_ev, sCont_ev, sSeq_ev, seqC_nx, seqC_bk, seqC_ct, seqC_rt, sSet_ev, setC_ev, sPar_ev, parC_ev, setAll_nil, setAll_cons, olNil_ev, olCons_ev, olC_ev, olC2_ev, sAsg_ev, asgC_ev, sIf_ev, sifC_t, sifC_f, sFor_ev, forC_ev, sDrop_ev, dropC_ev, sRet_ev, retC_ev, sRetN_ev, retnC_va, retnC_li, liOf_li, eMt1_ev, mt1C_ev, mt1C2_ev, mt1C3_ev, mt1C4_ev, eMt0_ev, mt0C_ev, sSub_ev, subC_ev, subC1_ev, subC2_ev, subC3_ev, subC4_ev, sAug_ev, augC_ev, augC2_ev, augC3_ev, mkF_ev, mkC_rt, mkC_nx, keepE_nil, keepE_va, keepE_ow', dTru_bool, dTru_int, dTru_none, dTru_list, dTru_tuple, dAdd_int, dAdd_tup, dAdd_lst, dIadd_int, dSub_int, dMul_int, dDiv_int, dMod_int, dNeg_int, dMin2_int, dMax2_int, dLtA_int, dLe_int, dLt_int, dGt_int, dGe_int, shaped_int, shaped_bool, shaped_none, eqv_int, eqv_bool, dEq_int, dNe_int, dEq_bool, dIs_none, dIsN_none, isNon_none, isNon_int, isNon_tup, isNon_bool, dLen_tup, dLen_lst, dIx_tup, dIx_lst, at0, at1, at2, at3, gExtend_lst, dTuple_lst, dTuple_tup, dList_lst, dList_tup, dInt_int, dSl_tup, dSl_lst, isTup, isLst, isBool, isIntB, isStr, beq_self_eq_true, decide_true, decide_false, isi_tup, isi_lst, isi_int, isi_bool, isi_str, isi_none, sz0, sz1, sz2, sz3, sz4, sz5, sz6, sz7, sz8, sz9, sz10, sz11, sz12, isOw_no, isOw_va, isOw_li, isOw_di, isOw_dt, isOw_ow, isOw_none, isOw_sl,
  Option.bind_some, Option.map_some, Option.bind_none, Option.map_none, Option.getD_some, Option.getD_none, List.getElem?_cons_zero, List.getElem?_cons_succ, List.set_cons_zero, List.set_cons_succ, List.map_cons, List.map_nil, List.headD_cons, List.headD_nil, List.tail_cons, List.tail_nil, List.isEmpty_nil, List.isEmpty_cons, List.length_nil, List.length_cons, List.nil_append, List.cons_append, List.replicate_succ, List.replicate_zero, Nat.reduceSub, Nat.reduceAdd, Bool.false_eq_true, if_false, if_true, reduceIte, Bool.not_true, Bool.not_false, and_true, true_and, and_self, Int.toNat_natCast, Int.zero_add, eCh_ev, chC_ev, chC2_ev, chC3_t, chC3_f, chC4_ev, lZip_ev, zipC_ev, zipC2_tup, zipC2_lst, dRev_tup, dRev_lst, dRngL_int, dRngT_int, oIte_ev, oiteC_li, oiteC_va, oCompO_ev, callC_rv2, callC_rv3, *])
/-! K83_Fun: what the program's functions compute. -/
abbrev rwD (r : List Int) : D := .tuple (iL r)
abbrev rwsD (rs : List (List Int)) : D := .tuple (rs.map rwD)
def loD (l : Loan) : D := .tuple [rwD l.free, rwsD l.held, rwsD l.need]
abbrev nL (q : List Nat) : List D := q.map fun j => PyData.int (j : Nat)
abbrev nT (q : List Nat) : D := .tuple (nL q)
structure WL (l : Loan) : Prop where
  f : l.free.length = l.kk
  h : l.held.length = l.nn
  n : l.need.length = l.nn
  hr : ∀ r ∈ l.held, r.length = l.kk
  nr : ∀ r ∈ l.need, r.length = l.kk
  k : l.kk ≤ 1000
  m : l.nn ≤ 1000
theorem WL.H {l : Loan} (w : WL l) {j : Nat} (h : j < l.nn) : (l.held)[j]? = some (l.H j) ∧ (l.H j).length = l.kk := by
  have hj : j < l.held.length := by rw [w.h]; exact h
  have e : l.H j = l.held[j] := by unfold Loan.H; rw [List.getD_eq_getElem?_getD, List.getElem?_eq_getElem hj]; rfl
  rw [e]
  exact ⟨List.getElem?_eq_getElem hj, w.hr _ (List.getElem_mem hj)⟩
theorem WL.N {l : Loan} (w : WL l) {j : Nat} (h : j < l.nn) : (l.need)[j]? = some (l.N j) ∧ (l.N j).length = l.kk := by
  have hj : j < l.need.length := by rw [w.n]; exact h
  have e : l.N j = l.need[j] := by unfold Loan.N; rw [List.getD_eq_getElem?_getD, List.getElem?_eq_getElem hj]; rfl
  rw [e]
  exact ⟨List.getElem?_eq_getElem hj, w.nr _ (List.getElem_mem hj)⟩
theorem held_at {l : Loan} (w : WL l) {j : Nat} (h : j < l.nn) : atI (l.held.map rwD) (j : Int) = some (rwD (l.H j)) := atI_ofNat (by rw [List.getElem?_map, (w.H h).1]; rfl)
theorem need_at {l : Loan} (w : WL l) {j : Nat} (h : j < l.nn) : atI (l.need.map rwD) (j : Int) = some (rwD (l.N j)) := atI_ofNat (by rw [List.getElem?_map, (w.N h).1]; rfl)
theorem row_at {r : List Int} {k : Nat} (h : k < r.length) : atI (iL r) (k : Int) = some (.int (r.getD k 0)) := atI_iL' h
/-! ### rows side by side -/
theorem zip_rows (a b : List Int) : zipD (iL a) (iL b) = (a.zip b).map fun p => PyData.tuple [.int p.1, .int p.2] := by
  unfold zipD
  rw [List.zip_eq_zipWith, List.map_zipWith, List.zipWith_map]
theorem zip_all {K : Nat} {a f : List Int} (ha : a.length = K) (hf : f.length = K) : ((a.zip f).all fun p => decide (p.1 ≤ p.2)) = rowFit K a f := by
  rw [Bool.eq_iff_iff, rowFit_iff, List.all_eq_true]
  constructor
  · intro h k hk
    have h1 : (a.zip f)[k]? = some (a[k], f[k]) := by rw [List.getElem?_zip_eq_some]; exact ⟨List.getElem?_eq_getElem (by omega), List.getElem?_eq_getElem (by omega)⟩
    have := of_decide_eq_true (h _ (List.mem_of_getElem? h1))
    rw [List.getD_eq_getElem?_getD, List.getD_eq_getElem?_getD, List.getElem?_eq_getElem (by omega : k < a.length), List.getElem?_eq_getElem (by omega : k < f.length)]
    exact this
  · intro h p hp
    obtain ⟨k, hk⟩ := List.getElem?_of_mem hp
    rw [List.getElem?_zip_eq_some] at hk
    have hk1 := (List.getElem?_eq_some_iff.mp hk.1).1
    have := h k (by omega)
    rw [List.getD_eq_getElem?_getD, List.getD_eq_getElem?_getD, hk.1, hk.2] at this
    exact decide_eq_true this
theorem zip_op {K : Nat} {a f : List Int} (g : Int → Int → Int) (ha : a.length = K) (hf : f.length = K) : ((a.zip f).map fun p => g p.1 p.2) = (List.range K).map fun k => g (a.getD k 0) (f.getD k 0) := by
  apply List.ext_getElem?
  intro k
  rw [List.getElem?_map, List.getElem?_map]
  by_cases hk : k < K
  · have h1 : (a.zip f)[k]? = some (a[k], f[k]) := by rw [List.getElem?_zip_eq_some]; exact ⟨List.getElem?_eq_getElem (by omega), List.getElem?_eq_getElem (by omega)⟩
    rw [h1, List.getElem?_range hk]
    show some (g a[k] f[k]) = some (g (a.getD k 0) (f.getD k 0))
    rw [List.getD_eq_getElem?_getD, List.getD_eq_getElem?_getD, List.getElem?_eq_getElem (by omega : k < a.length), List.getElem?_eq_getElem (by omega : k < f.length)]
    rfl
  · rw [List.getElem?_eq_none (by rw [List.length_zip]; omega), List.getElem?_eq_none (by rw [List.length_range]; omega)]
    rfl
theorem fits_ok {K : Nat} {a f : List Int} (ha : a.length = K) (hf : f.length = K) (hK : K ≤ 1000) : F_fits [.va (rwD a), .va (rwD f)] = some (.va (.bool (rowFit K a f)), [.no, .no]) := by
  have hc := comp2y (f := K1_fits) (v := 2) (w := 3) (e := [.va (rwD a), .va (rwD f), .no, .no]) (fun p : Int × Int => PyData.int p.1) (fun p => PyData.int p.2) (fun p => PyData.bool (decide (p.1 ≤ p.2))) (a.zip f) (by rw [List.length_zip]; omega) (by decide) rfl rfl (Nat.le_of_ble_eq_true rfl) (Nat.le_of_ble_eq_true rfl) (fun p _ => by unfold K1_fits; walk_at "ev")
  have hz := zip_rows a f
  have hall := dAll_map (fun p : Int × Int => decide (p.1 ≤ p.2)) (a.zip f)
  rw [zip_all ha hf] at hall
  unfold F_fits
  repeat (first | walk_at "ev" | simp only [hz, hc, hall])
theorem added_ok {K : Nat} {a f : List Int} (ha : a.length = K) (hf : f.length = K) (hK : K ≤ 1000) : F_added_to [.va (rwD a), .va (rwD f)] = some (.va (rwD (rowAdd K a f)), [.no, .no]) := by
  have hc := comp2y (f := K1_added_to) (v := 2) (w := 3) (e := [.va (rwD a), .va (rwD f), .no, .no]) (fun p : Int × Int => PyData.int p.1) (fun p => PyData.int p.2) (fun p => PyData.int (p.1 + p.2)) (a.zip f) (by rw [List.length_zip]; omega) (by decide) rfl rfl (Nat.le_of_ble_eq_true rfl) (Nat.le_of_ble_eq_true rfl) (fun p _ => by unfold K1_added_to; walk_at "ev")
  have hz := zip_rows a f
  have hs : ((a.zip f).map fun p => PyData.int (p.1 + p.2)) = iL (rowAdd K a f) := by
    unfold rowAdd iL
    rw [← zip_op (fun x y => x + y) ha hf, List.map_map]; rfl
  rw [hs] at hc
  unfold F_added_to
  repeat (first | walk_at "ev" | simp only [hz, hc])
/-! ### the greedy order -/
theorem asInts_nL (q : List Nat) : asInts (nL q) = some (q.map fun j => ((j : Nat) : Int)) := by
  have : nL q = (q.map fun j => ((j : Nat) : Int)).map PyData.int := by rw [List.map_map]; rfl
  rw [this]; exact asInts_map _
theorem rem_idx : ∀ (q : List Nat) (j : Nat), j ∈ q → ∃ i, (q.map fun j => ((j : Nat) : Int)).findIdx? (· == (j : Int)) = some i ∧ (q.map fun j => ((j : Nat) : Int)).eraseIdx i = (q.erase j).map fun j => ((j : Nat) : Int)
  | [], _, h => nomatch h
  | x :: q, j, h => by
    by_cases e : x = j
    · subst e
      exact ⟨0, by rw [List.map_cons, List.findIdx?_cons, beq_self_eq_true]; rfl, by simp⟩
    · obtain ⟨i, h1, h2⟩ := rem_idx q j ((List.mem_cons.mp h).resolve_left fun h => e h.symm)
      refine ⟨i + 1, ?_, ?_⟩
      · rw [List.map_cons, List.findIdx?_cons, h1]
        have : (((x : Nat) : Int) == (j : Int)) = false := beq_eq_false_iff_ne.mpr (by omega)
        rw [this]; rfl
      · rw [List.map_cons, List.eraseIdx_cons_succ, h2, List.erase_cons_tail (by simpa using e)]; rfl
theorem gRemove_nL {q : List Nat} {j : Nat} (h : j ∈ q) : gRemove (nL q) (.int (j : Int)) = some (.none, nL (q.erase j)) := by
  obtain ⟨i, h1, h2⟩ := rem_idx q j h
  unfold gRemove
  show ((asInts (nL q)).bind _) = _
  rw [asInts_nL, Option.bind_some]
  show ((List.findIdx? (· == (j : Int)) _).map _) = _
  rw [h1]
  show some (_, _) = _
  rw [h2, List.map_map]; rfl
theorem nL_cat (q : List Nat) (j : Nat) : nL q ++ [PyData.int (j : Nat)] = nL (q ++ [j]) := by simp [nL]
def encS (l : Loan) (left order : List Nat) (f : List Int) (s6 : Sl) : Ev := [.va (loD l), .va (rwD f), .va (rwsD l.held), .va (rwsD l.need), .li (nL left), .li (nL order), s6, .no]
def sdO : Bool × List Nat → D := fun r => .tuple [.str (if r.1 = true then "order" else "stuck"), nT r.2]
theorem safe_while {l : Loan} (w : WL l) : ∀ (m : Nat) (left order : List Nat) (f : List Int) (s6 : Sl), left.length = m → (∀ j ∈ left, j < l.nn) → f.length = l.kk → order.length + m ≤ 1000 → isOw (some s6) = false →
    ((gr l m left f).1 = true → ∃ f' s', sWhile T3_safe_order L4_safe_order (encS l left order f s6) = some (.nx (encS l [] (order ++ (gr l m left f).2) f' s'))) ∧
    ((gr l m left f).1 = false → ∃ e', sWhile T3_safe_order L4_safe_order (encS l left order f s6) = some (.rt (.va (.tuple [.str "stuck", nT (gr l m left f).2])) e'))
  | 0, left, order, f, s6, hm, hj, hf, ho, h6 => by
    rw [List.eq_nil_of_length_eq_zero hm]
    refine ⟨fun _ => ⟨f, s6, ?_⟩, fun h => by simp [gr] at h⟩
    show _ = some (O.nx (encS l [] (order ++ []) f s6))
    rw [List.append_nil, sWhile_eq]
    rfl
  | m + 1, left, order, f, s6, hm, hj, hf, ho, h6 => by
    have hc : T3_safe_order (encS l left order f s6) = some (true, encS l left order f s6) := by
      cases left with
      | nil => cases hm
      | cons a b => rfl
    have hmap : coC 4 (gNm 7) T1_safe_order K2_safe_order [7] (encS l left order f s6) (nL left) = some (.li (nL (left.filter fun j => rowFit l.kk (l.N j) f)), encS l left order f s6) := by
      refine compO (fun j : Nat => PyData.int (j : Nat)) (fun j => rowFit l.kk (l.N j) f) (fun j : Nat => PyData.int (j : Nat)) left (by omega) (by decide) rfl (Nat.le_of_ble_eq_true rfl) (Nat.le_of_ble_eq_true rfl) fun j hjm => ?_
      have ha := need_at w (hj j hjm)
      have hfit := fits_ok (w.N (hj j hjm)).2 hf w.k
      constructor
      · unfold encS T1_safe_order
        repeat (first | walk_at "ev" | simp only [ha, hfit])
      · intro _
        unfold encS K2_safe_order
        walk_at "ev"
    unfold gr
    cases hfl : left.filter fun j => rowFit l.kk (l.N j) f with
    | nil =>
      rw [hfl] at hmap
      refine ⟨fun h => (by cases h), fun _ => ⟨encS l left order f (.va (.list [])), ?_⟩⟩
      have hb : L4_safe_order (encS l left order f s6) = some (.rt (.va (.tuple [.str "stuck", nT left])) (encS l left order f (.va (.list [])))) := by
        unfold L4_safe_order
        unfold encS at *
        repeat (first | walk_at "ev" | simp only [hmap, h6])
      rw [sWhile_eq, hc, Option.bind_some]
      dsimp only
      rw [if_pos rfl, hb]
      rfl
    | cons j r =>
      have hjf := List.mem_filter.mp (by rw [hfl]; exact List.mem_cons_self : j ∈ left.filter _)
      rw [hfl] at hmap
      have hat : atI (nL (j :: r)) 0 = some (.int (j : Int)) := at0 _ _
      have hemp : (nL (j :: r)).isEmpty = false := rfl
      generalize nL (j :: r) = ab at hmap hat hemp
      have hap : gAppend (nL order) (.int (j : Int)) = some (.none, nL (order ++ [j])) := by rw [← nL_cat]; exact gAppend_ok (by rw [List.length_map]; omega)
      have hrm := gRemove_nL hjf.1
      have hat2 := held_at w (hj j hjf.1)
      have had := added_ok hf (w.H (hj j hjf.1)).2 w.k
      have hb : L4_safe_order (encS l left order f s6) = some (.nx (encS l (left.erase j) (order ++ [j]) (rowAdd l.kk f (l.H j)) (.va (.list ab)))) := by
        unfold L4_safe_order
        unfold encS at *
        repeat (first | walk_at "ev" | simp only [hmap, h6, hemp, hat, hap, hrm, hat2, had])
      obtain ⟨ih1, ih2⟩ := safe_while w m (left.erase j) (order ++ [j]) (rowAdd l.kk f (l.H j)) (.va (.list ab)) (by rw [List.length_erase_of_mem hjf.1, hm]; rfl) (fun i hi => hj i (List.mem_of_mem_erase hi)) (rowAdd_len _ _ _) (by rw [List.length_append]; simp only [List.length_cons, List.length_nil]; omega) rfl
      have hw : sWhile T3_safe_order L4_safe_order (encS l left order f s6) = sWhile T3_safe_order L4_safe_order (encS l (left.erase j) (order ++ [j]) (rowAdd l.kk f (l.H j)) (.va (.list ab))) := by
        rw [sWhile_eq, hc, Option.bind_some]
        dsimp only
        rw [if_pos rfl, hb]
        rfl
      dsimp only
      split
      · next h =>
        refine ⟨fun _ => ?_, fun h => (by cases h)⟩
        obtain ⟨f', s', k⟩ := ih1 h
        refine ⟨f', s', ?_⟩
        rw [hw, k, List.append_assoc]
        rfl
      · next h =>
        refine ⟨fun h' => absurd h' h, fun h' => ?_⟩
        obtain ⟨e', k⟩ := ih2 h'
        exact ⟨e', hw.trans k⟩
theorem safe_ok {l : Loan} (w : WL l) : F_safe_order [.va (loD l)] = some (.va (sdO (grd l)), [.no]) := by
  have hl : (l.held.map rwD).length = l.nn := by rw [List.length_map, w.h]
  have hrl : Rl (l.nn : Int) := rl_of (by have := w.m; omega) (by have := w.m; omega)
  have hr : rngD 0 l.nn = nL (List.range l.nn) := by rw [rngD_nat]
  have hsl : (List.range l.nn).length = l.nn := List.length_range
  obtain ⟨k1, k2⟩ := safe_while w l.nn (List.range l.nn) [] l.free .no hsl (fun j hj => List.mem_range.mp hj) w.f (by have := w.m; simpa using this) rfl
  unfold encS at k1 k2
  have hlo : loD l = .tuple [rwD l.free, rwsD l.held, rwsD l.need] := rfl
  unfold F_safe_order
  cases hg : (grd l).1 with
  | true =>
    obtain ⟨f', s', k⟩ := k1 hg
    have hs : sdO (grd l) = .tuple [.str "order", nT (grd l).2] := by unfold sdO; rw [hg]; rfl
    rw [hs, hlo]
    rw [hlo] at k
    have k' : sWhile T3_safe_order L4_safe_order [.va (.tuple [rwD l.free, rwsD l.held, rwsD l.need]), .va (rwD l.free), .va (rwsD l.held), .va (rwsD l.need), .li (nL (List.range l.nn)), .li [], .no, .no] = some (.nx [.va (.tuple [rwD l.free, rwsD l.held, rwsD l.need]), .va (rwD f'), .va (rwsD l.held), .va (rwsD l.need), .li [], .li (nL (grd l).2), s', .no]) := k
    repeat (first | walk_at "ev" | simp only [hl, hrl, hr, k', reduceIte])
  | false =>
    obtain ⟨e', k⟩ := k2 hg
    have hs : sdO (grd l) = .tuple [.str "stuck", nT (grd l).2] := by unfold sdO; rw [hg]; rfl
    rw [hs, hlo]
    rw [hlo] at k
    have k' : sWhile T3_safe_order L4_safe_order [.va (.tuple [rwD l.free, rwsD l.held, rwsD l.need]), .va (rwD l.free), .va (rwsD l.held), .va (rwsD l.need), .li (nL (List.range l.nn)), .li [], .no, .no] = some (.rt (.va (.tuple [.str "stuck", nT (grd l).2])) e') := k
    repeat (first | walk_at "ev" | simp only [hl, hrl, hr, k', reduceIte])
end Fl

set_option Elab.async false
set_option linter.all false
set_option maxRecDepth 100000
set_option maxHeartbeats 4000000
set_option autoImplicit false
namespace Fl
open PySem PySem.Spec PyProof.Rows L2
local macro_rules | `(tactic| walk_at "ev") => `(tactic| simp -implicitDefEqProofs only [prE_ev, eVar_ev, varC_ev, eNm_ev, nmC_va, nmC_li, eC_ev, vw_va, vw_li, eOwn_ev, eIxO_ev, ixoC_ev, ixoC2_ev, ixoC3_ev, eOp_ev, opC_ev, opC2_ev, eUn_ev, unC_ev, bE_ev, bEC_ev, bB_ev, bBC_ev, bNot_ev, notC_ev, bAnd_ev, andC_t, andC_f, bOr_ev, orC_t, orC_f, bYes_ev, eAnd_ev, eandC_t, eandC_f, eOr_ev, eorC_t, eorC_f, eNot_ev, enotC_ev, eIf_ev, ifC_t, ifC_f, eTup_ev, tupC_ev, aNil_ev, aCons_ev, aconsC_ev, aconsC2_ev, oLst_ev, lstC_ev, oE_ev, oEC_ev, eFz_ev, fzC_va, fzC_li, oUn_ev, ounC_ev, prL_ev, eSl_ev, slC_ev, slC2_ev, slC3_ev, eSlO_ev, sloC_ev, sloC2_ev, sloC3_ev, sloC4_ev, lEnum_ev, enC_tup, enC_lst, pNo_ev, pSo_ev, psoC_ev, lOf_ev, lofC_tup, lofC_lst, lRng1_ev, rng1C_ev, lRng2_ev, rng2C_ev, rng2C2_ev, oRep_ev, repC_ev, repC2_ev, oCall_ev, callC_0, callC_1, callC_2, callC_3, callC_4, callC_5, callC_rv, callC_rv4, arSl_vl, arSl_rf, callC2_ev, arBack_nil, arBack_vl, arBack_rf, rNil_ev, rVal_ev, rvC_ev, rvC2_ev, rRef_ev, rrC_ev, oComp_ev, compC2_ev, wipeE_nil, wipeE_cons, backE_nil, backE_cons, gNm_ev, gTupF_ev, gsNil_ev, gsCons_ev, sNext_ev, sBreak_ev, sCont_ev, sSeq_ev, seqC_nx, seqC_bk, seqC_ct, seqC_rt, sSet_ev, setC_ev, sPar_ev, parC_ev, setAll_nil, setAll_cons, olNil_ev, olCons_ev, olC_ev, olC2_ev, sAsg_ev, asgC_ev, sIf_ev, sifC_t, sifC_f, sFor_ev, forC_ev, sDrop_ev, dropC_ev, sRet_ev, retC_ev, sRetN_ev, retnC_va, retnC_li, liOf_li, eMt1_ev, mt1C_ev, mt1C2_ev, mt1C3_ev, mt1C4_ev, eMt0_ev, mt0C_ev, sSub_ev, subC_ev, subC1_ev, subC2_ev, subC3_ev, subC4_ev, sAug_ev, augC_ev, augC2_ev, augC3_ev, mkF_ev, mkC_rt, mkC_nx, keepE_nil, keepE_va, keepE_ow', dTru_bool, dTru_int, dTru_none, dTru_list, dTru_tuple, dAdd_int, dAdd_tup, dAdd_lst, dIadd_int, dSub_int, dMul_int, dDiv_int, dMod_int, dNeg_int, dMin2_int, dMax2_int, dLtA_int, dLe_int, dLt_int, dGt_int, dGe_int, shaped_int, shaped_bool, shaped_none, eqv_int, eqv_bool, dEq_int, dNe_int, dEq_bool, dIs_none, dIsN_none, isNon_none, isNon_int, isNon_tup, isNon_bool, dLen_tup, dLen_lst, dIx_tup, dIx_lst, at0, at1, at2, at3, gExtend_lst, dTuple_lst, dTuple_tup, dList_lst, dList_tup, dInt_int, dSl_tup, dSl_lst, isTup, isLst, isBool, isIntB, isStr, beq_self_eq_true, decide_true, decide_false, isi_tup, isi_lst, isi_int, isi_bool, isi_str, isi_none, sz0, sz1, sz2, sz3, sz4, sz5, sz6, sz7, sz8, sz9, sz10, sz11, sz12, isOw_no, isOw_va, isOw_li, isOw_di, isOw_dt, isOw_ow, isOw_none, isOw_sl,
  Option.bind_some, Option.map_some, Option.bind_none, Option.map_none, Option.getD_some, Option.getD_none, List.getElem?_cons_zero, List.getElem?_cons_succ, List.set_cons_zero, List.set_cons_succ, List.map_cons, List.map_nil, List.headD_cons, List.headD_nil, List.tail_cons, List.tail_nil, List.isEmpty_nil, List.isEmpty_cons, List.length_nil, List.length_cons, List.nil_append, List.cons_append, List.replicate_succ, List.replicate_zero, Nat.reduceSub, Nat.reduceAdd, Bool.false_eq_true, if_false, if_true, reduceIte, Bool.not_true, Bool.not_false, and_true, true_and, and_self, Int.toNat_natCast, Int.zero_add, eCh_ev, chC_ev, chC2_ev, chC3_t, chC3_f, chC4_ev, lZip_ev, zipC_ev, zipC2_tup, zipC2_lst, dRev_tup, dRev_lst, dRngL_int, dRngT_int, oIte_ev, oiteC_li, oiteC_va, oCompO_ev, callC_rv2, callC_rv3])
local macro_rules | `(tactic| walk_at "evh") => `(tactic| simp -implicitDefEqProofs only [prE_ev, eVar_ev, varC_ev, eNm_ev, nmC_va, nmC_li, eC_ev, vw_va, vw_li, eOwn_ev, eIxO_ev, ixoC_ev, ixoC2_ev, ixoC3_ev, eOp_ev, opC_ev, opC2_ev, eUn_ev, unC_ev, bE_ev, bEC_ev, bB_ev, bBC_ev, bNot_ev, notC_ev, bAnd_ev, andC_t, andC_f, bOr_ev, orC_t, orC_f, bYes_ev, eAnd_ev, eandC_t, eandC_f, eOr_ev, eorC_t, eorC_f, eNot_ev, enotC_ev, eIf_ev, ifC_t, ifC_f, eTup_ev, tupC_ev, aNil_ev, aCons_ev, aconsC_ev, aconsC2_ev, oLst_ev, lstC_ev, oE_ev, oEC_ev, eFz_ev, fzC_va, fzC_li, oUn_ev, ounC_ev, prL_ev, eSl_ev, slC_ev, slC2_ev, slC3_ev, eSlO_ev, sloC_ev, sloC2_ev, sloC3_ev, sloC4_ev, lEnum_ev, enC_tup, enC_lst, pNo_ev, pSo_ev, psoC_ev, lOf_ev, lofC_tup, lofC_lst, lRng1_ev, rng1C_ev, lRng2_ev, rng2C_ev, rng2C2_ev, oRep_ev, repC_ev, repC2_ev, oCall_ev, callC_0, callC_1, callC_2, callC_3, callC_4, callC_5, callC_rv, callC_rv4, arSl_vl, arSl_rf, callC2_ev, arBack_nil, arBack_vl, arBack_rf, rNil_ev, rVal_ev, rvC_ev, rvC2_ev, rRef_ev, rrC_ev, oComp_ev, compC2_ev, wipeE_nil, wipeE_cons, backE_nil, backE_cons, gNm_ev, gTupF_ev, gsNil_ev, gsCons_ev, sNext_ev, sBreak_ev, sCont_ev, sSeq_ev, seqC_nx, seqC_bk, seqC_ct, seqC_rt, sSet_ev, setC_ev, sPar_ev, parC_ev, setAll_nil, setAll_cons, olNil_ev, olCons_ev, olC_ev, olC2_ev, sAsg_ev, asgC_ev, sIf_ev, sifC_t, sifC_f, sFor_ev, forC_ev, sDrop_ev, dropC_ev, sRet_ev, retC_ev, sRetN_ev, retnC_va, retnC_li, liOf_li, eMt1_ev, mt1C_ev, mt1C2_ev, mt1C3_ev, mt1C4_ev, eMt0_ev, mt0C_ev, sSub_ev, subC_ev, subC1_ev, subC2_ev, subC3_ev, subC4_ev, sAug_ev, augC_ev, augC2_ev, augC3_ev, mkF_ev, mkC_rt, mkC_nx, keepE_nil, keepE_va, keepE_ow', dTru_bool, dTru_int, dTru_none, dTru_list, dTru_tuple, dAdd_int, dAdd_tup, dAdd_lst, dIadd_int, dSub_int, dMul_int, dDiv_int, dMod_int, dNeg_int, dMin2_int, dMax2_int, dLtA_int, dLe_int, dLt_int, dGt_int, dGe_int, shaped_int, shaped_bool, shaped_none, eqv_int, eqv_bool, dEq_int, dNe_int, dEq_bool, dIs_none, dIsN_none, isNon_none, isNon_int, isNon_tup, isNon_bool, dLen_tup, dLen_lst, dIx_tup, dIx_lst, at0, at1, at2, at3, gExtend_lst, dTuple_lst, dTuple_tup, dList_lst, dList_tup, dInt_int, dSl_tup, dSl_lst, isTup, isLst, isBool, isIntB, isStr, beq_self_eq_true, decide_true, decide_false, isi_tup, isi_lst, isi_int, isi_bool, isi_str, isi_none, sz0, sz1, sz2, sz3, sz4, sz5, sz6, sz7, sz8, sz9, sz10, sz11, sz12, isOw_no, isOw_va, isOw_li, isOw_di, isOw_dt, isOw_ow, isOw_none, isOw_sl,
  Option.bind_some, Option.map_some, Option.bind_none, Option.map_none, Option.getD_some, Option.getD_none, List.getElem?_cons_zero, List.getElem?_cons_succ, List.set_cons_zero, List.set_cons_succ, List.map_cons, List.map_nil, List.headD_cons, List.headD_nil, List.tail_cons, List.tail_nil, List.isEmpty_nil, List.isEmpty_cons, List.length_nil, List.length_cons, List.nil_append, List.cons_append, List.replicate_succ, List.replicate_zero, Nat.reduceSub, Nat.reduceAdd, Bool.false_eq_true, if_false, if_true, reduceIte, Bool.not_true, Bool.not_false, and_true, true_and, and_self, Int.toNat_natCast, Int.zero_add, eCh_ev, chC_ev, chC2_ev, chC3_t, chC3_f, chC4_ev, lZip_ev, zipC_ev, zipC2_tup, zipC2_lst, dRev_tup, dRev_lst, dRngL_int, dRngT_int, oIte_ev, oiteC_li, oiteC_va, oCompO_ev, callC_rv2, callC_rv3, *])
/-! K83_Jdg: what judges and the law's own functions compute. -/
def numB (lo hi : Int) : D → Bool
  | .int i => decide (lo ≤ i) && decide (i ≤ hi)
  | _ => false
theorem isnum_ok {k : Nat} {x : D} (lo hi : Int) (hp : Plain k x) : F_is_number [.va x, .va (.int lo), .va (.int hi)] = some (.va (.bool (numB lo hi x)), [.no, .no, .no]) := by
  cases x with
  | int i =>
    show _ = some (Sl.va (.bool (decide (lo ≤ i) && decide (i ≤ hi))), _)
    unfold F_is_number
    cases h1 : decide (lo ≤ i) <;> cases h2 : decide (i ≤ hi) <;> repeat (first | walk_at "ev" | simp only [h1, h2, Bool.and_true, Bool.and_false])
  | none => show _ = some (Sl.va (.bool false), _); unfold F_is_number; walk_at "ev"
  | bool b => show _ = some (Sl.va (.bool false), _); unfold F_is_number; walk_at "ev"
  | str _ => show _ = some (Sl.va (.bool false), _); unfold F_is_number; walk_at "ev"
  | tuple _ => show _ = some (Sl.va (.bool false), _); unfold F_is_number; walk_at "ev"
  | list _ => show _ = some (Sl.va (.bool false), _); unfold F_is_number; walk_at "ev"
  | dict _ => cases k <;> exact hp.elim
theorem plain_items {k : Nat} {ds : List D} (hp : Plain k (.tuple ds)) : ds.length ≤ 1000000 ∧ ∃ j, k = j + 1 ∧ ∀ d ∈ ds, Plain j d := by
  cases k with
  | zero => exact hp.elim
  | succ j => exact ⟨hp.1, j, rfl, hp.2⟩
def isT : D → Bool
  | .tuple _ => true
  | _ => false
def itsT : D → List D
  | .tuple ds => ds
  | _ => []
def numsB (n : Int) (v : D) : Bool := isT v && (itsT v).all (numB 0 (n - 1))
theorem numb_law {k : Nat} {x : D} (n : Int) (s0 s1 : Sl) (hp : Plain k x) (h1 : s1 = .va (.int n)) : K1__law_numbers [s0, s1, .va x] = some (.bool (numB 0 (n - 1) x), [s0, s1, .va x]) := by
  subst h1
  unfold K1__law_numbers
  cases x with
  | int i =>
    have e : numB 0 (n - 1) (.int i) = (decide (0 ≤ i) && decide (i < n)) := by
      show (decide (0 ≤ i) && decide (i ≤ n - 1)) = _
      congr 1
      exact decide_eq_decide.mpr ⟨fun h => by omega, fun h => by omega⟩
    rw [e]
    cases h1 : decide (0 ≤ i) <;> cases h2 : decide (i < n) <;> repeat (first | walk_at "ev" | simp only [h1, h2, Bool.and_true, Bool.and_false])
  | none => show _ = some (PyData.bool false, _); walk_at "ev"
  | bool b => show _ = some (PyData.bool false, _); walk_at "ev"
  | str _ => show _ = some (PyData.bool false, _); walk_at "ev"
  | tuple _ => show _ = some (PyData.bool false, _); walk_at "ev"
  | list _ => show _ = some (PyData.bool false, _); walk_at "ev"
  | dict _ => cases k <;> exact hp.elim
theorem numbers_ok {k : Nat} {v : D} (n : Int) (hp : Plain k v) : F__law_numbers [.va v, .va (.int n)] = some (.va (.bool (numsB n v)), [.no, .no]) := by
  unfold F__law_numbers
  cases v with
  | tuple ds =>
    obtain ⟨hl, j, rfl, hd⟩ := plain_items hp
    have hc := comp1v (f := K1__law_numbers) (v := 2) (e := [.va (.tuple ds), .va (.int n), .no]) (fun d => .bool (numB 0 (n - 1) d)) ds hl rfl (Nat.le_of_ble_eq_true rfl) fun x hx => numb_law n _ _ (hd x hx) rfl
    have ha := dAll_map (numB 0 (n - 1)) ds
    show _ = some (Sl.va (.bool (ds.all (numB 0 (n - 1)))), _)
    repeat (first | walk_at "ev" | simp only [hc, ha])
  | none => show _ = some (Sl.va (.bool false), _); walk_at "ev"
  | bool b => show _ = some (Sl.va (.bool false), _); walk_at "ev"
  | str _ => show _ = some (Sl.va (.bool false), _); walk_at "ev"
  | int _ => show _ = some (Sl.va (.bool false), _); walk_at "ev"
  | list _ => show _ = some (Sl.va (.bool false), _); walk_at "ev"
  | dict _ => cases k <;> exact hp.elim
theorem nums_list {n : Nat} : ∀ {ds : List D}, ds.all (numB 0 ((n : Int) - 1)) = true → ∃ q : List Nat, ds = nL q ∧ ∀ j ∈ q, j < n
  | [], _ => ⟨[], rfl, fun _ h => nomatch h⟩
  | d :: ds, h => by
    obtain ⟨h1, h2⟩ := Bool.and_eq_true_iff.mp h
    obtain ⟨q, rfl, hq⟩ := nums_list h2
    cases d with
    | int i =>
      obtain ⟨h3, h4⟩ := Bool.and_eq_true_iff.mp (show (decide (0 ≤ i) && decide (i ≤ (n : Int) - 1)) = true from h1)
      have h3 := of_decide_eq_true h3
      have h4 := of_decide_eq_true h4
      obtain ⟨j, rfl⟩ : ∃ j : Nat, i = (j : Int) := ⟨i.toNat, by omega⟩
      exact ⟨j :: q, rfl, fun x hx => by
        rcases List.mem_cons.mp hx with rfl | hx
        · omega
        · exact hq x hx⟩
    | none => cases h1
    | bool _ => cases h1
    | str _ => cases h1
    | tuple _ => cases h1
    | list _ => cases h1
    | dict _ => cases h1
theorem nL_nums {n : Nat} {q : List Nat} (h : ∀ j ∈ q, j < n) : (nL q).all (numB 0 ((n : Int) - 1)) = true := by
  rw [List.all_eq_true]
  intro d hd
  obtain ⟨j, hj, rfl⟩ := List.mem_map.mp hd
  have := h j hj
  show (decide ((0 : Int) ≤ (j : Int)) && decide ((j : Int) ≤ (n : Int) - 1)) = true
  rw [decide_eq_true (by omega), decide_eq_true (by omega)]; rfl
theorem nL_iL (q : List Nat) : nL q = iL (q.map fun j => ((j : Nat) : Int)) := by unfold nL iL; rw [List.map_map]; rfl
/-! lists of ints compared -/
theorem eqv_ints : ∀ a b : List Int, PyData.eqvAll (iL a) (iL b) = decide (a = b)
  | [], [] => by show PyData.eqvAll [] [] = _; simp [PyData.eqvAll]
  | [], _ :: _ => by show PyData.eqvAll [] (_ :: _) = _; simp [PyData.eqvAll]
  | _ :: _, [] => by show PyData.eqvAll (_ :: _) [] = _; simp [PyData.eqvAll]
  | x :: a, y :: b => by
    show PyData.eqvAll (.int x :: iL a) (.int y :: iL b) = _
    rw [PyData.eqvAll, eqv_ints a b, eqv_int]
    by_cases h : x = y
    · subst h
      by_cases k : a = b
      · subst k; simp
      · simp [k]
    · have : (x == y) = false := by simpa using h
      rw [this]
      simp [h]
theorem eqv_listI (a b : List Int) : PyData.eqv (.list (iL a)) (.list (iL b)) = decide (a = b) := by rw [PyData.eqv, eqv_ints]
theorem eqv_tupI (a b : List Int) : PyData.eqv (.tuple (iL a)) (.tuple (iL b)) = decide (a = b) := by rw [PyData.eqv, eqv_ints]
theorem dEq_listI {a b : List Int} (ha : a.length ≤ 1000000) (hb : b.length ≤ 1000000) : dEq (.list (iL a)) (.list (iL b)) = some (.bool (decide (a = b))) := by
  unfold dEq
  rw [if_pos ⟨plain_shaped (n := 1) (plain_intsL ha) (by decide), plain_shaped (n := 1) (plain_intsL hb) (by decide)⟩, eqv_listI]
theorem dNe_listI {a b : List Int} (ha : a.length ≤ 1000000) (hb : b.length ≤ 1000000) : dNe (.list (iL a)) (.list (iL b)) = some (.bool (!decide (a = b))) := by
  unfold dNe
  rw [if_pos ⟨plain_shaped (n := 1) (plain_intsL ha) (by decide), plain_shaped (n := 1) (plain_intsL hb) (by decide)⟩, eqv_listI]
theorem dSortA_iL (ns : List Int) : dSortA (.tuple (iL ns)) = some (iL (sortI ns)) := by
  show ((asInts (iL ns)).map _) = _
  rw [show asInts (iL ns) = some ns from asInts_map ns]; rfl
def rgI (n : Nat) : List Int := (List.range n).map fun j => ((j : Nat) : Int)
theorem rngD_rgI (n : Nat) : rngD 0 n = iL (rgI n) := by rw [rngD_nat]; unfold rgI iL; rw [List.map_map]; rfl
theorem sortI_len (ns : List Int) : (sortI ns).length = ns.length := (sortI_perm ns).length_eq
/-- an order that is judged -/
def qI (q : List Nat) : List Int := q.map fun j => ((j : Nat) : Int)
def srtB (n : Nat) (q : List Nat) : Bool := decide (sortI (qI q) = rgI n)
theorem safe_for {l : Loan} (w : WL l) (v : Sl) : ∀ (q : List Nat) (f : List Int) (s5 : Sl), (∀ j ∈ q, j < l.nn) → f.length = l.kk → isOw (some s5) = false →
    (ends l f q = true → ∃ f' s', forL (gNm 5) L2_is_safe_order (nL q) [.va (loD l), v, .va (rwD f), .va (rwsD l.held), .va (rwsD l.need), s5] = some (.nx [.va (loD l), v, .va (rwD f'), .va (rwsD l.held), .va (rwsD l.need), s'])) ∧
    (ends l f q = false → ∃ e', forL (gNm 5) L2_is_safe_order (nL q) [.va (loD l), v, .va (rwD f), .va (rwsD l.held), .va (rwsD l.need), s5] = some (.rt (.va (.bool false)) e'))
  | [], f, s5, _, _, _ => ⟨fun _ => ⟨f, s5, rfl⟩, fun h => by cases h⟩
  | j :: q, f, s5, hq, hf, h5 => by
    have hj := hq j List.mem_cons_self
    have ha := need_at w hj
    have hb := held_at w hj
    have had := added_ok hf (w.H hj).2 w.k
    have hfit := fits_ok (w.N hj).2 hf w.k
    have hfl : ends l f (j :: q) = (rowFit l.kk (l.N j) f && ends l (rowAdd l.kk f (l.H j)) q) := rfl
    rw [hfl]
    cases h : rowFit l.kk (l.N j) f with
    | true =>
      rw [h] at hfit
      obtain ⟨ih1, ih2⟩ := safe_for w v q (rowAdd l.kk f (l.H j)) (.va (.int (j : Int))) (fun i hi => hq i (List.mem_cons_of_mem _ hi)) (rowAdd_len _ _ _) rfl
      have hs : (gNm 5 (.int (j : Int)) [.va (loD l), v, .va (rwD f), .va (rwsD l.held), .va (rwsD l.need), s5]).bind L2_is_safe_order = some (.nx [.va (loD l), v, .va (rwD (rowAdd l.kk f (l.H j))), .va (rwsD l.held), .va (rwsD l.need), .va (.int (j : Int))]) := by
        unfold L2_is_safe_order
        repeat (first | walk_at "ev" | simp only [h5, ha, hb, had, hfit, reduceIte])
      rw [Bool.true_and]
      show (_ → ∃ f' s', forL _ _ (PyData.int (j : Int) :: nL q) _ = _) ∧ (_ → ∃ e', forL _ _ (PyData.int (j : Int) :: nL q) _ = _)
      rw [forL_stepB hs]
      exact ⟨ih1, ih2⟩
    | false =>
      rw [h] at hfit
      refine ⟨fun h => (by cases h), fun _ => ⟨[.va (loD l), v, .va (rwD f), .va (rwsD l.held), .va (rwsD l.need), .va (.int (j : Int))], ?_⟩⟩
      refine forL_ret ?_
      unfold L2_is_safe_order
      repeat (first | walk_at "ev" | simp only [h5, ha, hfit, reduceIte])
def natD : D → Nat
  | .int i => i.toNat
  | _ => 0
def natsOf (v : D) : List Nat := (itsT v).map natD
theorem natsOf_nT (q : List Nat) : natsOf (nT q) = q := by
  show (q.map fun j => PyData.int (j : Nat)).map natD = q
  rw [List.map_map]
  have : (natD ∘ fun j : Nat => PyData.int (j : Nat)) = id := by funext j; show ((j : Int)).toNat = j; omega
  rw [this, List.map_id]
theorem nums_nT {n : Nat} {v : D} (h : numsB (n : Int) v = true) : v = nT (natsOf v) ∧ ∀ j ∈ natsOf v, j < n := by
  obtain ⟨h1, h2⟩ := Bool.and_eq_true_iff.mp h
  cases v with
  | tuple ds =>
    obtain ⟨q, rfl, hq⟩ := nums_list h2
    have := natsOf_nT q
    rw [this]
    exact ⟨rfl, hq⟩
  | none => cases h1
  | bool _ => cases h1
  | str _ => cases h1
  | int _ => cases h1
  | list _ => cases h1
  | dict _ => cases h1
theorem numsB_nT {n : Nat} {q : List Nat} (h : ∀ j ∈ q, j < n) : numsB (n : Int) (nT q) = true := nL_nums h
def safeB (l : Loan) (v : D) : Bool := numsB l.nn v && (srtB l.nn (natsOf v) && ends l l.free (natsOf v))
theorem nT_iL (q : List Nat) : nT q = .tuple (iL (qI q)) := by show PyData.tuple (nL q) = _; rw [nL_iL]; rfl
theorem qI_len (q : List Nat) : (qI q).length = q.length := List.length_map _
theorem rgI_len (n : Nat) : (rgI n).length = n := by unfold rgI; rw [List.length_map, List.length_range]
theorem is_safe_ok {l : Loan} (w : WL l) {k : Nat} {v : D} (hp : Plain k v) : F_is_safe_order [.va (loD l), .va v] = some (.va (.bool (safeB l v)), [.no, .no]) := by
  have hm := w.m
  have hlo : loD l = .tuple [rwD l.free, rwsD l.held, rwsD l.need] := rfl
  cases hT : isT v with
  | false =>
    have e : safeB l v = false := by unfold safeB numsB; rw [hT]; rfl
    rw [e, hlo]
    unfold F_is_safe_order
    cases v <;> first | (cases hT; done) | (walk_at "ev"; done) | (cases k <;> exact hp.elim)
  | true =>
    cases v with
    | tuple ds =>
      obtain ⟨hl, jj, rfl, hd⟩ := plain_items hp
      have hll : (l.held.map rwD).length = l.nn := by rw [List.length_map, w.h]
      have hc := comp1v (f := K1_is_safe_order) (v := 5) (e := [.va (loD l), .va (.tuple ds), .va (rwD l.free), .va (rwsD l.held), .va (rwsD l.need), .no]) (fun d => .bool (numB 0 ((l.nn : Int) - 1) d)) ds hl rfl (Nat.le_of_ble_eq_true rfl) fun x hx => by
        have := isnum_ok 0 ((l.nn : Int) - 1) (hd x hx)
        unfold K1_is_safe_order
        repeat (first | walk_at "ev" | simp only [hll, this])
      rw [hlo] at hc
      have ha := dAll_map (numB 0 ((l.nn : Int) - 1)) ds
      cases hn : numsB (l.nn : Int) (.tuple ds) with
      | false =>
        have e : safeB l (.tuple ds) = false := by unfold safeB; rw [hn]; rfl
        have hn' : ds.all (numB 0 ((l.nn : Int) - 1)) = false := hn
        rw [hn'] at ha
        rw [e, hlo]
        unfold F_is_safe_order
        repeat (first | walk_at "ev" | simp only [hc, ha])
      | true =>
        obtain ⟨hv, hq⟩ := nums_nT hn
        have hn' : ds.all (numB 0 ((l.nn : Int) - 1)) = true := hn
        have hds : ds = iL (qI (natsOf (.tuple ds))) := by rw [nT_iL] at hv; exact (PyData.tuple.inj hv)
        rw [hn'] at ha
        have e : safeB l (.tuple ds) = (srtB l.nn (natsOf (.tuple ds)) && ends l l.free (natsOf (.tuple ds))) := by unfold safeB; rw [hn, Bool.true_and]
        rw [e]
        have hql : (natsOf (.tuple ds)).length ≤ 1000000 := by
          have : (natsOf (.tuple ds)).length = ds.length := List.length_map _
          omega
        generalize natsOf (.tuple ds) = q at hds hq hql
        subst hds
        have hso := dSortA_iL (qI q)
        have hrl : Rl (l.nn : Int) := rl_of (by omega) (by omega)
        have hne := dNe_listI (a := sortI (qI q)) (b := rgI l.nn) (by rw [sortI_len, qI_len]; exact hql) (by rw [rgI_len]; omega)
        have hrd := rngD_rgI l.nn
        have hs : srtB l.nn q = decide (sortI (qI q) = rgI l.nn) := rfl
        rw [← hs] at hne
        cases hsb : srtB l.nn q with
        | false =>
          rw [hsb] at hne
          rw [Bool.false_and, hlo]
          unfold F_is_safe_order
          repeat (first | walk_at "ev" | simp only [hc, ha, hso, hll, hrl, hrd, hne, reduceIte])
        | true =>
          rw [hsb] at hne
          obtain ⟨f1, f2⟩ := safe_for w (.va (.tuple (iL (qI q)))) q l.free .no hq w.f rfl
          rw [Bool.true_and]
          rw [hlo, show nL q = iL (qI q) from nL_iL q] at f1 f2
          cases he : ends l l.free q with
          | true =>
            obtain ⟨f', s', k1⟩ := f1 he
            rw [hlo]
            unfold F_is_safe_order
            repeat (first | walk_at "ev" | simp only [hc, ha, hso, hll, hrl, hrd, hne, k1, reduceIte])
          | false =>
            obtain ⟨e', k1⟩ := f2 he
            rw [hlo]
            unfold F_is_safe_order
            repeat (first | walk_at "ev" | simp only [hc, ha, hso, hll, hrl, hrd, hne, k1, reduceIte])
    | none => cases hT
    | bool _ => cases hT
    | str _ => cases hT
    | int _ => cases hT
    | list _ => cases hT
    | dict _ => cases hT
end Fl

set_option Elab.async false
set_option linter.all false
set_option maxRecDepth 100000
set_option maxHeartbeats 4000000
set_option autoImplicit false
namespace Fl
open PySem PySem.Spec PyProof.Rows L2
local macro_rules | `(tactic| walk_at "ev") => `(tactic| simp -implicitDefEqProofs only [prE_ev, eVar_ev, varC_ev, eNm_ev, nmC_va, nmC_li, eC_ev, vw_va, vw_li, eOwn_ev, eIxO_ev, ixoC_ev, ixoC2_ev, ixoC3_ev, eOp_ev, opC_ev, opC2_ev, eUn_ev, unC_ev, bE_ev, bEC_ev, bB_ev, bBC_ev, bNot_ev, notC_ev, bAnd_ev, andC_t, andC_f, bOr_ev, orC_t, orC_f, bYes_ev, eAnd_ev, eandC_t, eandC_f, eOr_ev, eorC_t, eorC_f, eNot_ev, enotC_ev, eIf_ev, ifC_t, ifC_f, eTup_ev, tupC_ev, aNil_ev, aCons_ev, aconsC_ev, aconsC2_ev, oLst_ev, lstC_ev, oE_ev, oEC_ev, eFz_ev, fzC_va, fzC_li, oUn_ev, ounC_ev, prL_ev, eSl_ev, slC_ev, slC2_ev, slC3_ev, eSlO_ev, sloC_ev, sloC2_ev, sloC3_ev, sloC4_ev, lEnum_ev, enC_tup, enC_lst, pNo_ev, pSo_ev, psoC_ev, lOf_ev, lofC_tup, lofC_lst, lRng1_ev, rng1C_ev, lRng2_ev, rng2C_ev, rng2C2_ev, oRep_ev, repC_ev, repC2_ev, oCall_ev, callC_0, callC_1, callC_2, callC_3, callC_4, callC_5, callC_rv, callC_rv4, arSl_vl, arSl_rf, callC2_ev, arBack_nil, arBack_vl, arBack_rf, rNil_ev, rVal_ev, rvC_ev, rvC2_ev, rRef_ev, rrC_ev, oComp_ev, compC2_ev, wipeE_nil, wipeE_cons, backE_nil, backE_cons, gNm_ev, gTupF_ev, gsNil_ev, gsCons_ev, sNext_ev, sBreak_ev, sCont_ev, sSeq_ev, seqC_nx, seqC_bk, seqC_ct, seqC_rt, sSet_ev, setC_ev, sPar_ev, parC_ev, setAll_nil, setAll_cons, olNil_ev, olCons_ev, olC_ev, olC2_ev, sAsg_ev, asgC_ev, sIf_ev, sifC_t, sifC_f, sFor_ev, forC_ev, sDrop_ev, dropC_ev, sRet_ev, retC_ev, sRetN_ev, retnC_va, retnC_li, liOf_li, eMt1_ev, mt1C_ev, mt1C2_ev, mt1C3_ev, mt1C4_ev, eMt0_ev, mt0C_ev, sSub_ev, subC_ev, subC1_ev, subC2_ev, subC3_ev, subC4_ev, sAug_ev, augC_ev, augC2_ev, augC3_ev, mkF_ev, mkC_rt, mkC_nx, keepE_nil, keepE_va, keepE_ow', dTru_bool, dTru_int, dTru_none, dTru_list, dTru_tuple, dAdd_int, dAdd_tup, dAdd_lst, dIadd_int, dSub_int, dMul_int, dDiv_int, dMod_int, dNeg_int, dMin2_int, dMax2_int, dLtA_int, dLe_int, dLt_int, dGt_int, dGe_int, shaped_int, shaped_bool, shaped_none, eqv_int, eqv_bool, dEq_int, dNe_int, dEq_bool, dIs_none, dIsN_none, isNon_none, isNon_int, isNon_tup, isNon_bool, dLen_tup, dLen_lst, dIx_tup, dIx_lst, at0, at1, at2, at3, gExtend_lst, dTuple_lst, dTuple_tup, dList_lst, dList_tup, dInt_int, dSl_tup, dSl_lst, isTup, isLst, isBool, isIntB, isStr, beq_self_eq_true, decide_true, decide_false, isi_tup, isi_lst, isi_int, isi_bool, isi_str, isi_none, sz0, sz1, sz2, sz3, sz4, sz5, sz6, sz7, sz8, sz9, sz10, sz11, sz12, isOw_no, isOw_va, isOw_li, isOw_di, isOw_dt, isOw_ow, isOw_none, isOw_sl,
  Option.bind_some, Option.map_some, Option.bind_none, Option.map_none, Option.getD_some, Option.getD_none, List.getElem?_cons_zero, List.getElem?_cons_succ, List.set_cons_zero, List.set_cons_succ, List.map_cons, List.map_nil, List.headD_cons, List.headD_nil, List.tail_cons, List.tail_nil, List.isEmpty_nil, List.isEmpty_cons, List.length_nil, List.length_cons, List.nil_append, List.cons_append, List.replicate_succ, List.replicate_zero, Nat.reduceSub, Nat.reduceAdd, Bool.false_eq_true, if_false, if_true, reduceIte, Bool.not_true, Bool.not_false, and_true, true_and, and_self, Int.toNat_natCast, Int.zero_add, eCh_ev, chC_ev, chC2_ev, chC3_t, chC3_f, chC4_ev, lZip_ev, zipC_ev, zipC2_tup, zipC2_lst, dRev_tup, dRev_lst, dRngL_int, dRngT_int, oIte_ev, oiteC_li, oiteC_va, oCompO_ev, callC_rv2, callC_rv3])
local macro_rules | `(tactic| walk_at "evh") => `(tactic| simp -implicitDefEqProofs only [prE_ev, eVar_ev, varC_ev, eNm_ev, nmC_va, nmC_li, eC_ev, vw_va, vw_li, eOwn_ev, eIxO_ev, ixoC_ev, ixoC2_ev, ixoC3_ev, eOp_ev, opC_ev, opC2_ev, eUn_ev, unC_ev, bE_ev, bEC_ev, bB_ev, bBC_ev, bNot_ev, notC_ev, bAnd_ev, andC_t, andC_f, bOr_ev, orC_t, orC_f, bYes_ev, eAnd_ev, eandC_t, eandC_f, eOr_ev, eorC_t, eorC_f, eNot_ev, enotC_ev, eIf_ev, ifC_t, ifC_f, eTup_ev, tupC_ev, aNil_ev, aCons_ev, aconsC_ev, aconsC2_ev, oLst_ev, lstC_ev, oE_ev, oEC_ev, eFz_ev, fzC_va, fzC_li, oUn_ev, ounC_ev, prL_ev, eSl_ev, slC_ev, slC2_ev, slC3_ev, eSlO_ev, sloC_ev, sloC2_ev, sloC3_ev, sloC4_ev, lEnum_ev, enC_tup, enC_lst, pNo_ev, pSo_ev, psoC_ev, lOf_ev, lofC_tup, lofC_lst, lRng1_ev, rng1C_ev, lRng2_ev, rng2C_ev, rng2C2_ev, oRep_ev, repC_ev, repC2_ev, oCall_ev, callC_0, callC_1, callC_2, callC_3, callC_4, callC_5, callC_rv, callC_rv4, arSl_vl, arSl_rf, callC2_ev, arBack_nil, arBack_vl, arBack_rf, rNil_ev, rVal_ev, rvC_ev, rvC2_ev, rRef_ev, rrC_ev, oComp_ev, compC2_ev, wipeE_nil, wipeE_cons, backE_nil, backE_cons, gNm_ev, gTupF_ev, gsNil_ev, gsCons_ev, sNext_ev, sBreak_ev, sCont_ev, sSeq_ev, seqC_nx, seqC_bk, seqC_ct, seqC_rt, sSet_ev, setC_ev, sPar_ev, parC_ev, setAll_nil, setAll_cons, olNil_ev, olCons_ev, olC_ev, olC2_ev, sAsg_ev, asgC_ev, sIf_ev, sifC_t, sifC_f, sFor_ev, forC_ev, sDrop_ev, dropC_ev, sRet_ev, retC_ev, sRetN_ev, retnC_va, retnC_li, liOf_li, eMt1_ev, mt1C_ev, mt1C2_ev, mt1C3_ev, mt1C4_ev, eMt0_ev, mt0C_ev, sSub_ev, subC_ev, subC1_ev, subC2_ev, subC3_ev, subC4_ev, sAug_ev, augC_ev, augC2_ev, augC3_ev, mkF_ev, mkC_rt, mkC_nx, keepE_nil, keepE_va, keepE_ow', dTru_bool, dTru_int, dTru_none, dTru_list, dTru_tuple, dAdd_int, dAdd_tup, dAdd_lst, dIadd_int, dSub_int, dMul_int, dDiv_int, dMod_int, dNeg_int, dMin2_int, dMax2_int, dLtA_int, dLe_int, dLt_int, dGt_int, dGe_int, shaped_int, shaped_bool, shaped_none, eqv_int, eqv_bool, dEq_int, dNe_int, dEq_bool, dIs_none, dIsN_none, isNon_none, isNon_int, isNon_tup, isNon_bool, dLen_tup, dLen_lst, dIx_tup, dIx_lst, at0, at1, at2, at3, gExtend_lst, dTuple_lst, dTuple_tup, dList_lst, dList_tup, dInt_int, dSl_tup, dSl_lst, isTup, isLst, isBool, isIntB, isStr, beq_self_eq_true, decide_true, decide_false, isi_tup, isi_lst, isi_int, isi_bool, isi_str, isi_none, sz0, sz1, sz2, sz3, sz4, sz5, sz6, sz7, sz8, sz9, sz10, sz11, sz12, isOw_no, isOw_va, isOw_li, isOw_di, isOw_dt, isOw_ow, isOw_none, isOw_sl,
  Option.bind_some, Option.map_some, Option.bind_none, Option.map_none, Option.getD_some, Option.getD_none, List.getElem?_cons_zero, List.getElem?_cons_succ, List.set_cons_zero, List.set_cons_succ, List.map_cons, List.map_nil, List.headD_cons, List.headD_nil, List.tail_cons, List.tail_nil, List.isEmpty_nil, List.isEmpty_cons, List.length_nil, List.length_cons, List.nil_append, List.cons_append, List.replicate_succ, List.replicate_zero, Nat.reduceSub, Nat.reduceAdd, Bool.false_eq_true, if_false, if_true, reduceIte, Bool.not_true, Bool.not_false, and_true, true_and, and_self, Int.toNat_natCast, Int.zero_add, eCh_ev, chC_ev, chC2_ev, chC3_t, chC3_f, chC4_ev, lZip_ev, zipC_ev, zipC2_tup, zipC2_lst, dRev_tup, dRev_lst, dRngL_int, dRngT_int, oIte_ev, oiteC_li, oiteC_va, oCompO_ev, callC_rv2, callC_rv3, *])
/-! K83_Law: the law's own functions of loans; who is stuck. -/
theorem inA_iL (s : Int) (os : List Int) : dInA false (.int s) (.tuple (iL os)) = some (.bool (decide (s ∈ os))) := by unfold dInA; rw [inB_tup]; rfl
theorem ninA_iL (s : Int) (os : List Int) : dInA true (.int s) (.tuple (iL os)) = some (.bool (!decide (s ∈ os))) := by unfold dInA; rw [ninB_tup]; rfl
theorem mem_qI {q : List Nat} {j : Nat} : ((j : Int) ∈ qI q) ↔ j ∈ q := by
  unfold qI
  rw [List.mem_map]
  exact ⟨fun ⟨i, h, e⟩ => by have : i = j := by omega
                             exact this ▸ h, fun h => ⟨j, h, rfl⟩⟩
theorem inA_nL (j : Nat) (q : List Nat) : dInA false (.int (j : Int)) (.tuple (nL q)) = some (.bool (decide (j ∈ q))) := by
  rw [nL_iL, inA_iL]
  congr 2
  exact decide_eq_decide.mpr mem_qI
theorem ninA_nL (j : Nat) (q : List Nat) : dInA true (.int (j : Int)) (.tuple (nL q)) = some (.bool (!decide (j ∈ q))) := by
  rw [nL_iL, ninA_iL]
  congr 3
  exact decide_eq_decide.mpr mem_qI
theorem any_not {α : Type} (p : α → Bool) (xs : List α) : (xs.any fun x => !p x) = !xs.all p := by
  induction xs with
  | nil => rfl
  | cons x xs ih => rw [List.any_cons, List.all_cons, ih, Bool.not_and]
/-! the law's own walk of an order -/
theorem gt_any {K : Nat} (a f : List Int) : ((List.range K).any fun k => decide (f.getD k 0 < a.getD k 0)) = !rowFit K a f := by
  unfold rowFit
  rw [← any_not]
  congr 1
  funext k
  by_cases h : a.getD k 0 ≤ f.getD k 0
  · rw [decide_eq_true h, decide_eq_false (by omega)]; rfl
  · rw [decide_eq_false h, decide_eq_true (by omega)]; rfl
theorem lends_for {l : Loan} (w : WL l) (v : Sl) : ∀ (q : List Nat) (f : List Int) (s3 : Sl), (∀ j ∈ q, j < l.nn) → f.length = l.kk → isOw (some s3) = false →
    (ends l f q = true → ∃ e', forL (gNm 3) L3__law_ends (nL q) [.va (loD l), v, .va (.list (iL f)), s3, .no] = some (.nx ((.va (loD l)) :: v :: e'))) ∧
    (ends l f q = false → ∃ e', forL (gNm 3) L3__law_ends (nL q) [.va (loD l), v, .va (.list (iL f)), s3, .no] = some (.rt (.va (.bool false)) e'))
  | [], f, s3, _, _, _ => ⟨fun _ => ⟨[.va (.list (iL f)), s3, .no], rfl⟩, fun h => by cases h⟩
  | j :: q, f, s3, hq, hf, h3 => by
    have hK := w.k
    have hj := hq j List.mem_cons_self
    have ha := need_at w hj
    have hb := held_at w hj
    have hfl : ends l f (j :: q) = (rowFit l.kk (l.N j) f && ends l (rowAdd l.kk f (l.H j)) q) := rfl
    have hrg : Rg (f.length : Int) := rg_of (by omega) (by omega)
    have hlo : loD l = .tuple [rwD l.free, rwsD l.held, rwsD l.need] := rfl
    have hc1 := compRy (f := K1__law_ends) (v := 4) (n := f.length) (e := [.va (loD l), v, .va (.list (iL f)), .va (.int (j : Int)), .no]) (fun k => .bool (decide (f.getD k 0 < (l.N j).getD k 0))) (by omega) rfl (Nat.le_of_ble_eq_true rfl) fun k hk => by
      have h1 := row_at (r := f) hk
      have h2 := row_at (r := l.N j) (k := k) (by rw [(w.N hj).2]; omega)
      rw [hlo]
      unfold K1__law_ends
      repeat (first | walk_at "ev" | simp only [ha, h1, h2])
    have hc2 := compRy (f := K2__law_ends) (v := 4) (n := f.length) (e := [.va (loD l), v, .va (.list (iL f)), .va (.int (j : Int)), .no]) (fun k => .int (f.getD k 0 + (l.H j).getD k 0)) (by omega) rfl (Nat.le_of_ble_eq_true rfl) fun k hk => by
      have h1 := row_at (r := f) hk
      have h2 := row_at (r := l.H j) (k := k) (by rw [(w.H hj).2]; omega)
      rw [hlo]
      unfold K2__law_ends
      repeat (first | walk_at "ev" | simp only [hb, h1, h2])
    have hs : ((List.range f.length).map fun k => PyData.int (f.getD k 0 + (l.H j).getD k 0)) = iL (rowAdd l.kk f (l.H j)) := by
      unfold rowAdd iL
      rw [hf, List.map_map]; rfl
    rw [hs] at hc2
    have hany := dAny_map (fun k => decide (f.getD k 0 < (l.N j).getD k 0)) (List.range f.length)
    rw [gt_any, show rowFit f.length (l.N j) f = rowFit l.kk (l.N j) f by rw [hf]] at hany
    have hle : ((iL f).length : Int) = (f.length : Int) := by rw [iL_len]
    rw [hfl]
    cases h : rowFit l.kk (l.N j) f with
    | true =>
      rw [h] at hany
      obtain ⟨ih1, ih2⟩ := lends_for w v q (rowAdd l.kk f (l.H j)) (.va (.int (j : Int))) (fun i hi => hq i (List.mem_cons_of_mem _ hi)) (rowAdd_len _ _ _) rfl
      have hs : (gNm 3 (.int (j : Int)) [.va (loD l), v, .va (.list (iL f)), s3, .no]).bind L3__law_ends = some (.nx [.va (loD l), v, .va (.list (iL (rowAdd l.kk f (l.H j)))), .va (.int (j : Int)), .no]) := by
        unfold L3__law_ends
        repeat (first | walk_at "ev" | simp only [h3, iL_len, hrg, hc1, hc2, hany, reduceIte])
      rw [Bool.true_and]
      show (_ → ∃ e', forL _ _ (PyData.int (j : Int) :: nL q) _ = _) ∧ (_ → ∃ e', forL _ _ (PyData.int (j : Int) :: nL q) _ = _)
      rw [forL_stepB hs]
      exact ⟨ih1, ih2⟩
    | false =>
      rw [h] at hany
      refine ⟨fun h => (by cases h), fun _ => ⟨[.va (loD l), v, .va (.list (iL f)), .va (.int (j : Int)), .no], ?_⟩⟩
      refine forL_ret ?_
      unfold L3__law_ends
      repeat (first | walk_at "ev" | simp only [h3, iL_len, hrg, hc1, hany, reduceIte])
theorem lends_ok {l : Loan} (w : WL l) {q : List Nat} (hq : ∀ j ∈ q, j < l.nn) : F__law_ends [.va (loD l), .va (nT q)] = some (.va (.bool (ends l l.free q)), [.no, .no]) := by
  have hlo : loD l = .tuple [rwD l.free, rwsD l.held, rwsD l.need] := rfl
  obtain ⟨f1, f2⟩ := lends_for w (.va (nT q)) q l.free .no hq w.f rfl
  rw [hlo] at f1 f2 ⊢
  cases h : ends l l.free q with
  | true =>
    obtain ⟨e', k⟩ := f1 h
    unfold F__law_ends
    repeat (first | walk_at "ev" | simp only [k, reduceIte])
  | false =>
    obtain ⟨e', k⟩ := f2 h
    unfold F__law_ends
    repeat (first | walk_at "ev" | simp only [k, reduceIte])
/-! the law's own stuck groups -/
theorem sum_outs (l : Loan) (k : Nat) : ∀ xs : List Nat, (xs.map fun j => (l.H j).getD k 0).sum = sumH l k xs
  | [] => rfl
  | j :: xs => by rw [List.map_cons, List.sum_cons, sum_outs l k xs]; rfl
theorem lstuck_ok {l : Loan} (w : WL l) {q : List Nat} (hq : ∀ j ∈ q, j < l.nn) (hql : q.length ≤ 1000000) : F__law_stuck [.va (loD l), .va (nT q)] = some (.va (.bool (stuckB l q)), [.no, .no]) := by
  have hK := w.k
  have hm := w.m
  have hlo : loD l = .tuple [rwD l.free, rwsD l.held, rwsD l.need] := rfl
  have hrk : Rg (l.kk : Int) := rg_of (by omega) (by omega)
  have hrn : Rg (l.nn : Int) := rg_of (by omega) (by omega)
  have hfl : l.free.length = l.kk := w.f
  have hhl : (l.held.map rwD).length = l.nn := by rw [List.length_map, w.h]
  have hin : ∀ k, k < l.kk → compC (gNm 3) T1__law_stuck K2__law_stuck [3] (rngD 0 l.nn, [.va (.tuple [rwD l.free, rwsD l.held, rwsD l.need]), .va (nT q), .no, .no, .va (.int (k : Int))]) = some (.li (iL ((outs l.nn q).map fun j => (l.H j).getD k 0)), [.va (.tuple [rwD l.free, rwsD l.held, rwsD l.need]), .va (nT q), .no, .no, .va (.int (k : Int))]) := fun k hk => by
    have hc := compR (c := T1__law_stuck) (f := K2__law_stuck) (v := 3) (n := l.nn) (e := [.va (.tuple [rwD l.free, rwsD l.held, rwsD l.need]), .va (nT q), .no, .no, .va (.int (k : Int))]) (fun j => !decide (j ∈ q)) (fun j => .int ((l.H j).getD k 0)) (by omega) rfl (Nat.le_of_ble_eq_true rfl) fun j hj => by
      have h1 := ninA_nL j q
      have h2 := held_at w hj
      have h3 := row_at (r := l.H j) (k := k) (by rw [(w.H hj).2]; exact hk)
      constructor
      · unfold T1__law_stuck
        repeat (first | walk_at "ev" | simp only [h1])
      · intro _
        unfold K2__law_stuck
        repeat (first | walk_at "ev" | simp only [h2, h3])
    rw [hc]
    unfold outs iL
    rw [List.map_map]; rfl
  have hc := compRy (f := K3__law_stuck) (v := 4) (n := l.kk) (e := [.va (.tuple [rwD l.free, rwsD l.held, rwsD l.need]), .va (nT q), .no, .no, .no]) (fun k => .int (l.free.getD k 0 + sumH l k (outs l.nn q))) (by omega) rfl (Nat.le_of_ble_eq_true rfl) fun k hk => by
    have h1 := row_at (r := l.free) (k := k) (by omega)
    have h2 := dSum_lst ((outs l.nn q).map fun j => (l.H j).getD k 0)
    rw [sum_outs] at h2
    have h3 := hin k hk
    unfold K3__law_stuck
    repeat (first | walk_at "ev" | simp only [hhl, hrn, h1, h2, h3, reduceIte])
  have hs : ((List.range l.kk).map fun k => PyData.int (l.free.getD k 0 + sumH l k (outs l.nn q))) = iL (outsF l q) := by unfold outsF iL; rw [List.map_map]; rfl
  rw [hs] at hc
  have hol : (outsF l q).length = l.kk := by unfold outsF; rw [List.length_map, List.length_range]
  have hc2 := comp1y (f := K5__law_stuck) (v := 3) (e := [.va (.tuple [rwD l.free, rwsD l.held, rwsD l.need]), .va (nT q), .va (.list (iL (outsF l q))), .no, .no]) (fun j : Nat => PyData.int (j : Nat)) (fun j => .bool (!rowFit l.kk (l.N j) (outsF l q))) q hql rfl (Nat.le_of_ble_eq_true rfl) fun j hj => by
    have hj' := hq j hj
    have h2 := need_at w hj'
    have hi := compRy (f := K4__law_stuck) (v := 4) (n := l.kk) (e := [.va (.tuple [rwD l.free, rwsD l.held, rwsD l.need]), .va (nT q), .va (.list (iL (outsF l q))), .va (.int (j : Int)), .no]) (fun k => .bool (decide ((outsF l q).getD k 0 < (l.N j).getD k 0))) (by omega) rfl (Nat.le_of_ble_eq_true rfl) fun k hk => by
      have h3 := row_at (r := l.N j) (k := k) (by rw [(w.N hj').2]; exact hk)
      have h4 := row_at (r := outsF l q) (k := k) (by omega)
      unfold K4__law_stuck
      repeat (first | walk_at "ev" | simp only [h2, h3, h4])
    have hany := dAny_map (fun k => decide ((outsF l q).getD k 0 < (l.N j).getD k 0)) (List.range l.kk)
    rw [gt_any] at hany
    unfold K5__law_stuck
    repeat (first | walk_at "ev" | simp only [hol, iL_len, hrk, hi, hany, reduceIte])
  have hall := dAll_map (fun j => !rowFit l.kk (l.N j) (outsF l q)) q
  have hst : stuckB l q = (!q.isEmpty && q.all fun j => !rowFit l.kk (l.N j) (outsF l q)) := rfl
  rw [hst, hlo]
  unfold F__law_stuck
  cases q with
  | nil =>
    repeat (first | walk_at "ev" | simp only [hfl, iL_len, hrk, hc, reduceIte])
    rfl
  | cons a b =>
    have hpos : decide ((0 : Int) < ((nL (a :: b)).length : Int)) = true := decide_eq_true (by rw [List.length_map, List.length_cons]; omega)
    have hem : (a :: b).isEmpty = false := rfl
    rw [hem]
    generalize a :: b = q at *
    repeat (first | walk_at "ev" | simp only [hfl, iL_len, hrk, hc, hpos, hc2, hall, reduceIte, Bool.true_and])
end Fl

set_option Elab.async false
set_option linter.all false
set_option maxRecDepth 100000
set_option maxHeartbeats 4000000
set_option autoImplicit false
namespace Fl
open PySem PySem.Spec PyProof.Rows L2
local macro_rules | `(tactic| walk_at "ev") => `(tactic| simp -implicitDefEqProofs only [prE_ev, eVar_ev, varC_ev, eNm_ev, nmC_va, nmC_li, eC_ev, vw_va, vw_li, eOwn_ev, eIxO_ev, ixoC_ev, ixoC2_ev, ixoC3_ev, eOp_ev, opC_ev, opC2_ev, eUn_ev, unC_ev, bE_ev, bEC_ev, bB_ev, bBC_ev, bNot_ev, notC_ev, bAnd_ev, andC_t, andC_f, bOr_ev, orC_t, orC_f, bYes_ev, eAnd_ev, eandC_t, eandC_f, eOr_ev, eorC_t, eorC_f, eNot_ev, enotC_ev, eIf_ev, ifC_t, ifC_f, eTup_ev, tupC_ev, aNil_ev, aCons_ev, aconsC_ev, aconsC2_ev, oLst_ev, lstC_ev, oE_ev, oEC_ev, eFz_ev, fzC_va, fzC_li, oUn_ev, ounC_ev, prL_ev, eSl_ev, slC_ev, slC2_ev, slC3_ev, eSlO_ev, sloC_ev, sloC2_ev, sloC3_ev, sloC4_ev, lEnum_ev, enC_tup, enC_lst, pNo_ev, pSo_ev, psoC_ev, lOf_ev, lofC_tup, lofC_lst, lRng1_ev, rng1C_ev, lRng2_ev, rng2C_ev, rng2C2_ev, oRep_ev, repC_ev, repC2_ev, oCall_ev, callC_0, callC_1, callC_2, callC_3, callC_4, callC_5, callC_rv, callC_rv4, arSl_vl, arSl_rf, callC2_ev, arBack_nil, arBack_vl, arBack_rf, rNil_ev, rVal_ev, rvC_ev, rvC2_ev, rRef_ev, rrC_ev, oComp_ev, compC2_ev, wipeE_nil, wipeE_cons, backE_nil, backE_cons, gNm_ev, gTupF_ev, gsNil_ev, gsCons_ev, sNext_ev, sBreak_ev, sCont_ev, sSeq_ev, seqC_nx, seqC_bk, seqC_ct, seqC_rt, sSet_ev, setC_ev, sPar_ev, parC_ev, setAll_nil, setAll_cons, olNil_ev, olCons_ev, olC_ev, olC2_ev, sAsg_ev, asgC_ev, sIf_ev, sifC_t, sifC_f, sFor_ev, forC_ev, sDrop_ev, dropC_ev, sRet_ev, retC_ev, sRetN_ev, retnC_va, retnC_li, liOf_li, eMt1_ev, mt1C_ev, mt1C2_ev, mt1C3_ev, mt1C4_ev, eMt0_ev, mt0C_ev, sSub_ev, subC_ev, subC1_ev, subC2_ev, subC3_ev, subC4_ev, sAug_ev, augC_ev, augC2_ev, augC3_ev, mkF_ev, mkC_rt, mkC_nx, keepE_nil, keepE_va, keepE_ow', dTru_bool, dTru_int, dTru_none, dTru_list, dTru_tuple, dAdd_int, dAdd_tup, dAdd_lst, dIadd_int, dSub_int, dMul_int, dDiv_int, dMod_int, dNeg_int, dMin2_int, dMax2_int, dLtA_int, dLe_int, dLt_int, dGt_int, dGe_int, shaped_int, shaped_bool, shaped_none, eqv_int, eqv_bool, dEq_int, dNe_int, dEq_bool, dIs_none, dIsN_none, isNon_none, isNon_int, isNon_tup, isNon_bool, dLen_tup, dLen_lst, dIx_tup, dIx_lst, at0, at1, at2, at3, gExtend_lst, dTuple_lst, dTuple_tup, dList_lst, dList_tup, dInt_int, dSl_tup, dSl_lst, isTup, isLst, isBool, isIntB, isStr, beq_self_eq_true, decide_true, decide_false, isi_tup, isi_lst, isi_int, isi_bool, isi_str, isi_none, sz0, sz1, sz2, sz3, sz4, sz5, sz6, sz7, sz8, sz9, sz10, sz11, sz12, isOw_no, isOw_va, isOw_li, isOw_di, isOw_dt, isOw_ow, isOw_none, isOw_sl,
  Option.bind_some, Option.map_some, Option.bind_none, Option.map_none, Option.getD_some, Option.getD_none, List.getElem?_cons_zero, List.getElem?_cons_succ, List.set_cons_zero, List.set_cons_succ, List.map_cons, List.map_nil, List.headD_cons, List.headD_nil, List.tail_cons, List.tail_nil, List.isEmpty_nil, List.isEmpty_cons, List.length_nil, List.length_cons, List.nil_append, List.cons_append, List.replicate_succ, List.replicate_zero, Nat.reduceSub, Nat.reduceAdd, Bool.false_eq_true, if_false, if_true, reduceIte, Bool.not_true, Bool.not_false, and_true, true_and, and_self, Int.toNat_natCast, Int.zero_add, eCh_ev, chC_ev, chC2_ev, chC3_t, chC3_f, chC4_ev, lZip_ev, zipC_ev, zipC2_tup, zipC2_lst, dRev_tup, dRev_lst, dRngL_int, dRngT_int, oIte_ev, oiteC_li, oiteC_va, oCompO_ev, callC_rv2, callC_rv3])
local macro_rules | `(tactic| walk_at "evh") => `(tactic| simp -implicitDefEqProofs only [prE_ev, eVar_ev, varC_ev, eNm_ev, nmC_va, nmC_li, eC_ev, vw_va, vw_li, eOwn_ev, eIxO_ev, ixoC_ev, ixoC2_ev, ixoC3_ev, eOp_ev, opC_ev, opC2_ev, eUn_ev, unC_ev, bE_ev, bEC_ev, bB_ev, bBC_ev, bNot_ev, notC_ev, bAnd_ev, andC_t, andC_f, bOr_ev, orC_t, orC_f, bYes_ev, eAnd_ev, eandC_t, eandC_f, eOr_ev, eorC_t, eorC_f, eNot_ev, enotC_ev, eIf_ev, ifC_t, ifC_f, eTup_ev, tupC_ev, aNil_ev, aCons_ev, aconsC_ev, aconsC2_ev, oLst_ev, lstC_ev, oE_ev, oEC_ev, eFz_ev, fzC_va, fzC_li, oUn_ev, ounC_ev, prL_ev, eSl_ev, slC_ev, slC2_ev, slC3_ev, eSlO_ev, sloC_ev, sloC2_ev, sloC3_ev, sloC4_ev, lEnum_ev, enC_tup, enC_lst, pNo_ev, pSo_ev, psoC_ev, lOf_ev, lofC_tup, lofC_lst, lRng1_ev, rng1C_ev, lRng2_ev, rng2C_ev, rng2C2_ev, oRep_ev, repC_ev, repC2_ev, oCall_ev, callC_0, callC_1, callC_2, callC_3, callC_4, callC_5, callC_rv, callC_rv4, arSl_vl, arSl_rf, callC2_ev, arBack_nil, arBack_vl, arBack_rf, rNil_ev, rVal_ev, rvC_ev, rvC2_ev, rRef_ev, rrC_ev, oComp_ev, compC2_ev, wipeE_nil, wipeE_cons, backE_nil, backE_cons, gNm_ev, gTupF_ev, gsNil_ev, gsCons_ev, sNext_ev, sBreak_ev, sCont_ev, sSeq_ev, seqC_nx, seqC_bk, seqC_ct, seqC_rt, sSet_ev, setC_ev, sPar_ev, parC_ev, setAll_nil, setAll_cons, olNil_ev, olCons_ev, olC_ev, olC2_ev, sAsg_ev, asgC_ev, sIf_ev, sifC_t, sifC_f, sFor_ev, forC_ev, sDrop_ev, dropC_ev, sRet_ev, retC_ev, sRetN_ev, retnC_va, retnC_li, liOf_li, eMt1_ev, mt1C_ev, mt1C2_ev, mt1C3_ev, mt1C4_ev, eMt0_ev, mt0C_ev, sSub_ev, subC_ev, subC1_ev, subC2_ev, subC3_ev, subC4_ev, sAug_ev, augC_ev, augC2_ev, augC3_ev, mkF_ev, mkC_rt, mkC_nx, keepE_nil, keepE_va, keepE_ow', dTru_bool, dTru_int, dTru_none, dTru_list, dTru_tuple, dAdd_int, dAdd_tup, dAdd_lst, dIadd_int, dSub_int, dMul_int, dDiv_int, dMod_int, dNeg_int, dMin2_int, dMax2_int, dLtA_int, dLe_int, dLt_int, dGt_int, dGe_int, shaped_int, shaped_bool, shaped_none, eqv_int, eqv_bool, dEq_int, dNe_int, dEq_bool, dIs_none, dIsN_none, isNon_none, isNon_int, isNon_tup, isNon_bool, dLen_tup, dLen_lst, dIx_tup, dIx_lst, at0, at1, at2, at3, gExtend_lst, dTuple_lst, dTuple_tup, dList_lst, dList_tup, dInt_int, dSl_tup, dSl_lst, isTup, isLst, isBool, isIntB, isStr, beq_self_eq_true, decide_true, decide_false, isi_tup, isi_lst, isi_int, isi_bool, isi_str, isi_none, sz0, sz1, sz2, sz3, sz4, sz5, sz6, sz7, sz8, sz9, sz10, sz11, sz12, isOw_no, isOw_va, isOw_li, isOw_di, isOw_dt, isOw_ow, isOw_none, isOw_sl,
  Option.bind_some, Option.map_some, Option.bind_none, Option.map_none, Option.getD_some, Option.getD_none, List.getElem?_cons_zero, List.getElem?_cons_succ, List.set_cons_zero, List.set_cons_succ, List.map_cons, List.map_nil, List.headD_cons, List.headD_nil, List.tail_cons, List.tail_nil, List.isEmpty_nil, List.isEmpty_cons, List.length_nil, List.length_cons, List.nil_append, List.cons_append, List.replicate_succ, List.replicate_zero, Nat.reduceSub, Nat.reduceAdd, Bool.false_eq_true, if_false, if_true, reduceIte, Bool.not_true, Bool.not_false, and_true, true_and, and_self, Int.toNat_natCast, Int.zero_add, eCh_ev, chC_ev, chC2_ev, chC3_t, chC3_f, chC4_ev, lZip_ev, zipC_ev, zipC2_tup, zipC2_lst, dRev_tup, dRev_lst, dRngL_int, dRngT_int, oIte_ev, oiteC_li, oiteC_va, oCompO_ev, callC_rv2, callC_rv3, *])
/-! K83_Stk: is_stuck; lists of orders and of groups. -/
theorem nL_at {q : List Nat} {k : Nat} (h : k < q.length) : atI (nL q) (k : Int) = some (.int ((q.getD k 0 : Nat) : Int)) := atI_ofNat (by rw [List.getElem?_map, List.getElem?_eq_getElem h, List.getD_eq_getElem?_getD, List.getElem?_eq_getElem h]; rfl)
theorem nL_at1 {q : List Nat} {k : Nat} (h : k + 1 < q.length) : atI (nL q) ((k : Int) + 1) = some (.int ((q.getD (k + 1) 0 : Nat) : Int)) := nL_at (k := k + 1) h
theorem nL_len (q : List Nat) : (nL q).length = q.length := List.length_map _
def ascB (q : List Nat) : Bool := (List.range (q.length - 1)).all fun k => decide (((q.getD k 0 : Nat) : Int) < ((q.getD (k + 1) 0 : Nat) : Int))
theorem asc_ok {q : List Nat} (hl : q.length ≤ 1000000) : F_is_ascending [.va (nT q)] = some (.va (.bool (ascB q)), [.no]) := by
  have ht : ((q.length : Int) - 1).toNat = q.length - 1 := by omega
  have hr : Rg ((q.length : Int) - 1) := rg_of (by omega) (by omega)
  have hc := compRy (f := K1_is_ascending) (v := 1) (n := q.length - 1) (e := [.va (nT q), .no]) (fun k => .bool (decide (((q.getD k 0 : Nat) : Int) < ((q.getD (k + 1) 0 : Nat) : Int)))) (by omega) rfl (Nat.le_of_ble_eq_true rfl) fun k hk => by
    have h1 := nL_at (q := q) (k := k) (by omega)
    have h2 := nL_at1 (q := q) (k := k) (by omega)
    unfold K1_is_ascending
    repeat (first | walk_at "ev" | simp only [h1, h2])
  have ha := dAll_map (fun k => decide (((q.getD k 0 : Nat) : Int) < ((q.getD (k + 1) 0 : Nat) : Int))) (List.range (q.length - 1))
  unfold ascB F_is_ascending
  repeat (first | walk_at "ev" | simp only [nL_len, hr, ht, hc, ha, reduceIte])
theorem lasc_ok {q : List Nat} (hl : q.length ≤ 1000000) : dAny (.list ((List.range (q.length - 1)).map fun k => PyData.bool (decide (((q.getD (k + 1) 0 : Nat) : Int) ≤ ((q.getD k 0 : Nat) : Int))))) = some (.bool (!ascB q)) := by
  rw [dAny_map]
  unfold ascB
  rw [← any_not]
  congr 3
  funext k
  by_cases h : ((q.getD (k + 1) 0 : Nat) : Int) ≤ ((q.getD k 0 : Nat) : Int)
  · rw [decide_eq_true h, decide_eq_false (by omega)]; rfl
  · rw [decide_eq_false h, decide_eq_true (by omega)]; rfl
/-! all but a group add what they hold -/
def fR (l : Loan) (q : List Nat) (i : Nat) : List Int := (List.range l.kk).map fun k => l.free.getD k 0 + sumH l k ((List.range i).filter fun j => !decide (j ∈ q))
theorem fR_get {l : Loan} {q : List Nat} {i k : Nat} (h : k < l.kk) : (fR l q i).getD k 0 = l.free.getD k 0 + sumH l k ((List.range i).filter fun j => !decide (j ∈ q)) := by
  unfold fR
  rw [List.getD_eq_getElem?_getD, List.getElem?_map, List.getElem?_range h]; rfl
theorem fR_len (l : Loan) (q : List Nat) (i : Nat) : (fR l q i).length = l.kk := by unfold fR; rw [List.length_map, List.length_range]
theorem fR_zero {l : Loan} (w : WL l) (q : List Nat) : fR l q 0 = l.free := by
  apply List.ext_getElem?
  intro k
  unfold fR
  rw [List.getElem?_map]
  by_cases h : k < l.kk
  · rw [List.getElem?_range h, List.getElem?_eq_getElem (by rw [w.f]; exact h)]
    show some (_ + 0) = _
    rw [Int.add_zero, List.getD_eq_getElem?_getD, List.getElem?_eq_getElem (by rw [w.f]; exact h)]; rfl
  · rw [List.getElem?_eq_none (by rw [List.length_range]; omega), List.getElem?_eq_none (by rw [w.f]; omega)]; rfl
theorem fR_in {l : Loan} {q : List Nat} {i : Nat} (h : i ∈ q) : fR l q (i + 1) = fR l q i := by
  unfold fR
  rw [range_filter_succ, if_neg (by simp [h]), List.append_nil]
theorem fR_out {l : Loan} {q : List Nat} {i : Nat} (h : i ∉ q) : fR l q (i + 1) = rowAdd l.kk (fR l q i) (l.H i) := by
  unfold rowAdd
  show List.map _ _ = _
  apply List.map_congr_left
  intro k hk
  have hk := List.mem_range.mp hk
  rw [fR_get hk, range_filter_succ, if_pos (by simp [h]), sumH_app]
  show _ + (_ + (_ + 0)) = _
  omega
theorem fR_end (l : Loan) (q : List Nat) : fR l q l.nn = outsF l q := rfl
theorem stk_for {l : Loan} (w : WL l) (q : List Nat) : ∃ s5 s6, forL (gTupF (gsCons (gNm 5) (gsCons (gNm 6) gsNil)) 2) L2_is_stuck (enD (l.held.map rwD)) [.va (loD l), .va (nT q), .va (rwD l.free), .va (rwsD l.held), .va (rwsD l.need), .no, .no, .no] = some (.nx [.va (loD l), .va (nT q), .va (rwD (outsF l q)), .va (rwsD l.held), .va (rwsD l.need), s5, s6, .no]) ∧ isOw (some s5) = false ∧ isOw (some s6) = false := by
  have hel : (enD (l.held.map rwD)).length = l.nn := by rw [enD_len, List.length_map, w.h]
  obtain ⟨⟨s5, s6⟩, h1, h2, h3⟩ := forL_at (t := gTupF (gsCons (gNm 5) (gsCons (gNm 6) gsNil)) 2) (b := L2_is_stuck) (ds := enD (l.held.map rwD)) (A := Sl × Sl) (fun i a => [.va (loD l), .va (nT q), .va (rwD (fR l q i)), .va (rwsD l.held), .va (rwsD l.need), a.1, a.2, .no]) (fun _ a => isOw (some a.1) = false ∧ isOw (some a.2) = false) (fun i ⟨s5, s6⟩ d hd ⟨h5, h6⟩ => by
    have h5 : isOw (some s5) = false := h5
    have h6 : isOw (some s6) = false := h6
    have hi : i < l.nn := by have := (List.getElem?_eq_some_iff.mp hd).1; omega
    have hg := enD_get (xs := l.held.map rwD) (i := i) (d := rwD (l.H i)) (by rw [List.getElem?_map, (w.H hi).1]; rfl)
    rw [hg] at hd
    cases hd
    have hni := ninA_nL i q
    have had := added_ok (fR_len l q i) (w.H hi).2 w.k
    refine ⟨(.va (.int (i : Int)), .va (rwD (l.H i))), ?_, rfl, rfl⟩
    by_cases hq : i ∈ q
    · rw [decide_eq_true hq] at hni
      rw [fR_in hq]
      unfold L2_is_stuck
      repeat (first | walk_at "ev" | simp only [h5, h6, hni, reduceIte])
    · rw [decide_eq_false hq] at hni
      rw [fR_out hq]
      unfold L2_is_stuck
      repeat (first | walk_at "ev" | simp only [h5, h6, hni, had, reduceIte])) (.no, .no) ⟨rfl, rfl⟩
  rw [hel, fR_end] at h1
  rw [fR_zero w q] at h1
  exact ⟨s5, s6, h1, h2, h3⟩
def stkB (l : Loan) (v : D) : Bool := numsB l.nn v && (ascB (natsOf v) && stuckB l (natsOf v))
theorem dEq_nilT {n : Nat} {xs : List D} (h : Plain n (.tuple xs)) (hn : n ≤ 64) : dEq (.tuple xs) (.tuple []) = some (.bool xs.isEmpty) := by
  have h0 : SeqAt.shaped (.tuple []) = true := plain_shaped (n := 1) ⟨Nat.zero_le _, fun _ h => nomatch h⟩ (by decide)
  unfold dEq
  rw [if_pos ⟨plain_shaped h hn, h0⟩]
  cases xs with
  | nil => rw [PyData.eqv]; rfl
  | cons x xs => rw [PyData.eqv]; rfl
theorem is_stuck_ok {l : Loan} (w : WL l) {k : Nat} {v : D} (hp : Plain k v) (hk : k ≤ 64) : F_is_stuck [.va (loD l), .va v] = some (.va (.bool (stkB l v)), [.no, .no]) := by
  have hm := w.m
  have hlo : loD l = .tuple [rwD l.free, rwsD l.held, rwsD l.need] := rfl
  cases hT : isT v with
  | false =>
    have e : stkB l v = false := by unfold stkB numsB; rw [hT]; rfl
    rw [e, hlo]
    unfold F_is_stuck
    cases v <;> first | (cases hT; done) | (walk_at "ev"; done) | (cases k <;> exact hp.elim)
  | true =>
    cases v with
    | tuple ds =>
      have hnil := dEq_nilT hp hk
      obtain ⟨hl, jj, rfl, hd⟩ := plain_items hp
      have hll : (l.held.map rwD).length = l.nn := by rw [List.length_map, w.h]
      have hc := comp1v (f := K1_is_stuck) (v := 7) (e := [.va (loD l), .va (.tuple ds), .va (rwD l.free), .va (rwsD l.held), .va (rwsD l.need), .no, .no, .no]) (fun d => .bool (numB 0 ((l.nn : Int) - 1) d)) ds hl rfl (Nat.le_of_ble_eq_true rfl) fun x hx => by
        have := isnum_ok 0 ((l.nn : Int) - 1) (hd x hx)
        unfold K1_is_stuck
        repeat (first | walk_at "ev" | simp only [hll, this])
      rw [hlo] at hc
      have ha := dAll_map (numB 0 ((l.nn : Int) - 1)) ds
      rcases nilCons ds with rfl | ⟨d0, dr, hds0⟩
      · have e : stkB l (.tuple []) = false := by unfold stkB; show (_ && (_ && stuckB l [])) = false; rw [show stuckB l [] = false from rfl, Bool.and_false, Bool.and_false]
        have hnil' : dEq (.tuple []) (.tuple []) = some (.bool true) := hnil
        rw [e, hlo]
        unfold F_is_stuck
        repeat (first | walk_at "ev" | simp only [hnil'])
      · have hem : ds.isEmpty = false := by rw [hds0]; rfl
        rw [hem] at hnil
        cases hn : numsB (l.nn : Int) (.tuple ds) with
        | false =>
          have e : stkB l (.tuple ds) = false := by unfold stkB; rw [hn]; rfl
          have hn' : ds.all (numB 0 ((l.nn : Int) - 1)) = false := hn
          rw [hn'] at ha
          rw [e, hlo]
          unfold F_is_stuck
          repeat (first | walk_at "ev" | simp only [hnil, hc, ha])
        | true =>
          obtain ⟨hv, hq⟩ := nums_nT hn
          have hn' : ds.all (numB 0 ((l.nn : Int) - 1)) = true := hn
          have hds : ds = nL (natsOf (.tuple ds)) := PyData.tuple.inj hv
          rw [hn'] at ha
          have e : stkB l (.tuple ds) = (ascB (natsOf (.tuple ds)) && stuckB l (natsOf (.tuple ds))) := by unfold stkB; rw [hn, Bool.true_and]
          rw [e]
          have hql : (natsOf (.tuple ds)).length ≤ 1000000 := by
            have : (natsOf (.tuple ds)).length = ds.length := List.length_map _
            omega
          have hqe : (natsOf (.tuple ds)).isEmpty = false := by rw [hds0]; rfl
          generalize natsOf (.tuple ds) = q at hds hq hql hqe
          subst hds
          have has := asc_ok hql
          cases hasc : ascB q with
          | false =>
            rw [hasc] at has
            rw [Bool.false_and, hlo]
            unfold F_is_stuck
            repeat (first | walk_at "ev" | simp only [hnil, hc, ha, has])
          | true =>
            rw [hasc] at has
            obtain ⟨s5, s6, f1, f5, f6⟩ := stk_for w q
            have hc2 := comp1y (f := K3_is_stuck) (v := 5) (e := [.va (loD l), .va (nT q), .va (rwD (outsF l q)), .va (rwsD l.held), .va (rwsD l.need), s5, s6, .no]) (fun j : Nat => PyData.int (j : Nat)) (fun j => .bool (rowFit l.kk (l.N j) (outsF l q))) q hql f5 (Nat.le_of_ble_eq_true rfl) fun j hj => by
              have h2 := need_at w (hq j hj)
              have h3 := fits_ok (w.N (hq j hj)).2 (by unfold outsF; rw [List.length_map, List.length_range] : (outsF l q).length = l.kk) w.k
              unfold K3_is_stuck
              repeat (first | walk_at "ev" | simp only [h2, h3])
            have hany := dAny_map (fun j => rowFit l.kk (l.N j) (outsF l q)) q
            have hst : stuckB l q = !(q.any fun j => rowFit l.kk (l.N j) (outsF l q)) := by
              unfold stuckB
              rw [hqe, Bool.not_false, Bool.true_and]
              have := any_not (fun j => !rowFit l.kk (l.N j) (outsF l q)) q
              rw [← Bool.not_not (q.all _), ← this]
              congr 2
              funext j
              rw [Bool.not_not]
            rw [Bool.true_and, hst]
            rw [hlo] at f1 hc2 ⊢
            unfold F_is_stuck
            repeat (first | walk_at "ev" | simp only [hnil, hc, ha, has, f1, hc2, hany, f5, f6])
    | none => cases hT
    | bool _ => cases hT
    | str _ => cases hT
    | int _ => cases hT
    | list _ => cases hT
    | dict _ => cases hT
end Fl

set_option Elab.async false
set_option linter.all false
set_option maxRecDepth 100000
set_option maxHeartbeats 4000000
set_option autoImplicit false
namespace Fl
open PySem PySem.Spec PyProof.Rows L2
local macro_rules | `(tactic| walk_at "ev") => `(tactic| simp -implicitDefEqProofs only [prE_ev, eVar_ev, varC_ev, eNm_ev, nmC_va, nmC_li, eC_ev, vw_va, vw_li, eOwn_ev, eIxO_ev, ixoC_ev, ixoC2_ev, ixoC3_ev, eOp_ev, opC_ev, opC2_ev, eUn_ev, unC_ev, bE_ev, bEC_ev, bB_ev, bBC_ev, bNot_ev, notC_ev, bAnd_ev, andC_t, andC_f, bOr_ev, orC_t, orC_f, bYes_ev, eAnd_ev, eandC_t, eandC_f, eOr_ev, eorC_t, eorC_f, eNot_ev, enotC_ev, eIf_ev, ifC_t, ifC_f, eTup_ev, tupC_ev, aNil_ev, aCons_ev, aconsC_ev, aconsC2_ev, oLst_ev, lstC_ev, oE_ev, oEC_ev, eFz_ev, fzC_va, fzC_li, oUn_ev, ounC_ev, prL_ev, eSl_ev, slC_ev, slC2_ev, slC3_ev, eSlO_ev, sloC_ev, sloC2_ev, sloC3_ev, sloC4_ev, lEnum_ev, enC_tup, enC_lst, pNo_ev, pSo_ev, psoC_ev, lOf_ev, lofC_tup, lofC_lst, lRng1_ev, rng1C_ev, lRng2_ev, rng2C_ev, rng2C2_ev, oRep_ev, repC_ev, repC2_ev, oCall_ev, callC_0, callC_1, callC_2, callC_3, callC_4, callC_5, callC_rv, callC_rv4, arSl_vl, arSl_rf, callC2_ev, arBack_nil, arBack_vl, arBack_rf, rNil_ev, rVal_ev, rvC_ev, rvC2_ev, rRef_ev, rrC_ev, oComp_ev, compC2_ev, wipeE_nil, wipeE_cons, backE_nil, backE_cons, gNm_ev, gTupF_ev, gsNil_ev, gsCons_ev, sNext_ev, sBreak_ev, sCont_ev, sSeq_ev, seqC_nx, seqC_bk, seqC_ct, seqC_rt, sSet_ev, setC_ev, sPar_ev, parC_ev, setAll_nil, setAll_cons, olNil_ev, olCons_ev, olC_ev, olC2_ev, sAsg_ev, asgC_ev, sIf_ev, sifC_t, sifC_f, sFor_ev, forC_ev, sDrop_ev, dropC_ev, sRet_ev, retC_ev, sRetN_ev, retnC_va, retnC_li, liOf_li, eMt1_ev, mt1C_ev, mt1C2_ev, mt1C3_ev, mt1C4_ev, eMt0_ev, mt0C_ev, sSub_ev, subC_ev, subC1_ev, subC2_ev, subC3_ev, subC4_ev, sAug_ev, augC_ev, augC2_ev, augC3_ev, mkF_ev, mkC_rt, mkC_nx, keepE_nil, keepE_va, keepE_ow', dTru_bool, dTru_int, dTru_none, dTru_list, dTru_tuple, dAdd_int, dAdd_tup, dAdd_lst, dIadd_int, dSub_int, dMul_int, dDiv_int, dMod_int, dNeg_int, dMin2_int, dMax2_int, dLtA_int, dLe_int, dLt_int, dGt_int, dGe_int, shaped_int, shaped_bool, shaped_none, eqv_int, eqv_bool, dEq_int, dNe_int, dEq_bool, dIs_none, dIsN_none, isNon_none, isNon_int, isNon_tup, isNon_bool, dLen_tup, dLen_lst, dIx_tup, dIx_lst, at0, at1, at2, at3, gExtend_lst, dTuple_lst, dTuple_tup, dList_lst, dList_tup, dInt_int, dSl_tup, dSl_lst, isTup, isLst, isBool, isIntB, isStr, beq_self_eq_true, decide_true, decide_false, isi_tup, isi_lst, isi_int, isi_bool, isi_str, isi_none, sz0, sz1, sz2, sz3, sz4, sz5, sz6, sz7, sz8, sz9, sz10, sz11, sz12, isOw_no, isOw_va, isOw_li, isOw_di, isOw_dt, isOw_ow, isOw_none, isOw_sl,
  Option.bind_some, Option.map_some, Option.bind_none, Option.map_none, Option.getD_some, Option.getD_none, List.getElem?_cons_zero, List.getElem?_cons_succ, List.set_cons_zero, List.set_cons_succ, List.map_cons, List.map_nil, List.headD_cons, List.headD_nil, List.tail_cons, List.tail_nil, List.isEmpty_nil, List.isEmpty_cons, List.length_nil, List.length_cons, List.nil_append, List.cons_append, List.replicate_succ, List.replicate_zero, Nat.reduceSub, Nat.reduceAdd, Bool.false_eq_true, if_false, if_true, reduceIte, Bool.not_true, Bool.not_false, and_true, true_and, and_self, Int.toNat_natCast, Int.zero_add, eCh_ev, chC_ev, chC2_ev, chC3_t, chC3_f, chC4_ev, lZip_ev, zipC_ev, zipC2_tup, zipC2_lst, dRev_tup, dRev_lst, dRngL_int, dRngT_int, oIte_ev, oiteC_li, oiteC_va, oCompO_ev, callC_rv2, callC_rv3])
local macro_rules | `(tactic| walk_at "evh") => `(tactic| simp -implicitDefEqProofs only [prE_ev, eVar_ev, varC_ev, eNm_ev, nmC_va, nmC_li, eC_ev, vw_va, vw_li, eOwn_ev, eIxO_ev, ixoC_ev, ixoC2_ev, ixoC3_ev, eOp_ev, opC_ev, opC2_ev, eUn_ev, unC_ev, bE_ev, bEC_ev, bB_ev, bBC_ev, bNot_ev, notC_ev, bAnd_ev, andC_t, andC_f, bOr_ev, orC_t, orC_f, bYes_ev, eAnd_ev, eandC_t, eandC_f, eOr_ev, eorC_t, eorC_f, eNot_ev, enotC_ev, eIf_ev, ifC_t, ifC_f, eTup_ev, tupC_ev, aNil_ev, aCons_ev, aconsC_ev, aconsC2_ev, oLst_ev, lstC_ev, oE_ev, oEC_ev, eFz_ev, fzC_va, fzC_li, oUn_ev, ounC_ev, prL_ev, eSl_ev, slC_ev, slC2_ev, slC3_ev, eSlO_ev, sloC_ev, sloC2_ev, sloC3_ev, sloC4_ev, lEnum_ev, enC_tup, enC_lst, pNo_ev, pSo_ev, psoC_ev, lOf_ev, lofC_tup, lofC_lst, lRng1_ev, rng1C_ev, lRng2_ev, rng2C_ev, rng2C2_ev, oRep_ev, repC_ev, repC2_ev, oCall_ev, callC_0, callC_1, callC_2, callC_3, callC_4, callC_5, callC_rv, callC_rv4, arSl_vl, arSl_rf, callC2_ev, arBack_nil, arBack_vl, arBack_rf, rNil_ev, rVal_ev, rvC_ev, rvC2_ev, rRef_ev, rrC_ev, oComp_ev, compC2_ev, wipeE_nil, wipeE_cons, backE_nil, backE_cons, gNm_ev, gTupF_ev, gsNil_ev, gsCons_ev, sNext_ev, sBreak_ev, sCont_ev, sSeq_ev, seqC_nx, seqC_bk, seqC_ct, seqC_rt, sSet_ev, setC_ev, sPar_ev, parC_ev, setAll_nil, setAll_cons, olNil_ev, olCons_ev, olC_ev, olC2_ev, sAsg_ev, asgC_ev, sIf_ev, sifC_t, sifC_f, sFor_ev, forC_ev, sDrop_ev, dropC_ev, sRet_ev, retC_ev, sRetN_ev, retnC_va, retnC_li, liOf_li, eMt1_ev, mt1C_ev, mt1C2_ev, mt1C3_ev, mt1C4_ev, eMt0_ev, mt0C_ev, sSub_ev, subC_ev, subC1_ev, subC2_ev, subC3_ev, subC4_ev, sAug_ev, augC_ev, augC2_ev, augC3_ev, mkF_ev, mkC_rt, mkC_nx, keepE_nil, keepE_va, keepE_ow', dTru_bool, dTru_int, dTru_none, dTru_list, dTru_tuple, dAdd_int, dAdd_tup, dAdd_lst, dIadd_int, dSub_int, dMul_int, dDiv_int, dMod_int, dNeg_int, dMin2_int, dMax2_int, dLtA_int, dLe_int, dLt_int, dGt_int, dGe_int, shaped_int, shaped_bool, shaped_none, eqv_int, eqv_bool, dEq_int, dNe_int, dEq_bool, dIs_none, dIsN_none, isNon_none, isNon_int, isNon_tup, isNon_bool, dLen_tup, dLen_lst, dIx_tup, dIx_lst, at0, at1, at2, at3, gExtend_lst, dTuple_lst, dTuple_tup, dList_lst, dList_tup, dInt_int, dSl_tup, dSl_lst, isTup, isLst, isBool, isIntB, isStr, beq_self_eq_true, decide_true, decide_false, isi_tup, isi_lst, isi_int, isi_bool, isi_str, isi_none, sz0, sz1, sz2, sz3, sz4, sz5, sz6, sz7, sz8, sz9, sz10, sz11, sz12, isOw_no, isOw_va, isOw_li, isOw_di, isOw_dt, isOw_ow, isOw_none, isOw_sl,
  Option.bind_some, Option.map_some, Option.bind_none, Option.map_none, Option.getD_some, Option.getD_none, List.getElem?_cons_zero, List.getElem?_cons_succ, List.set_cons_zero, List.set_cons_succ, List.map_cons, List.map_nil, List.headD_cons, List.headD_nil, List.tail_cons, List.tail_nil, List.isEmpty_nil, List.isEmpty_cons, List.length_nil, List.length_cons, List.nil_append, List.cons_append, List.replicate_succ, List.replicate_zero, Nat.reduceSub, Nat.reduceAdd, Bool.false_eq_true, if_false, if_true, reduceIte, Bool.not_true, Bool.not_false, and_true, true_and, and_self, Int.toNat_natCast, Int.zero_add, eCh_ev, chC_ev, chC2_ev, chC3_t, chC3_f, chC4_ev, lZip_ev, zipC_ev, zipC2_tup, zipC2_lst, dRev_tup, dRev_lst, dRngL_int, dRngT_int, oIte_ev, oiteC_li, oiteC_va, oCompO_ev, callC_rv2, callC_rv3, *])
/-! K83_Lst: all orders, all groups. -/
theorem flat_for (s0 : Sl) : ∀ (rs : List (List D)) (acc : List D) (s2 : Sl), acc.length + rs.flatten.length ≤ 1000000 → isOw (some s2) = false → ∃ s', forL (gNm 2) L1__law_flat (rs.map PyData.list) [s0, .li acc, s2] = some (.nx [s0, .li (acc ++ rs.flatten), s'])
  | [], acc, s2, _, _ => ⟨s2, by rw [List.flatten_nil, List.append_nil]; rfl⟩
  | r :: rs, acc, s2, hl, h2 => by
    rw [List.flatten_cons, List.length_append] at hl
    have hsz : acc.length + r.length ≤ sizeLine := small1Me (by omega)
    have hs : (gNm 2 (.list r) [s0, .li acc, s2]).bind L1__law_flat = some (.nx [s0, .li (acc ++ r), .va (.list r)]) := by
      unfold L1__law_flat
      repeat (first | walk_at "ev" | simp only [h2, hsz, reduceIte])
    obtain ⟨s', ih⟩ := flat_for s0 rs (acc ++ r) (.va (.list r)) (by rw [List.length_append]; omega) rfl
    refine ⟨s', ?_⟩
    rw [List.map_cons, forL_stepB hs, ih, List.flatten_cons, List.append_assoc]
theorem flat_ok {rs : List (List D)} (hl : rs.flatten.length ≤ 1000000) : F__law_flat [.va (.list (rs.map PyData.list))] = some (.li rs.flatten, [.no]) := by
  obtain ⟨s', h⟩ := flat_for (.va (.list (rs.map PyData.list))) rs [] .no (by simpa using hl) rfl
  rw [List.nil_append] at h
  unfold F__law_flat
  repeat (first | walk_at "ev" | simp only [h])
theorem flat_map_nT (F : List Nat → List (List Nat)) : ∀ rows : List (List Nat), (rows.map fun p => (F p).map nT).flatten = (rows.flatMap F).map nT
  | [] => rfl
  | p :: rows => by rw [List.map_cons, List.flatten_cons, flat_map_nT F rows, List.flatMap_cons, List.map_append]
theorem ord_len5 {n : Nat} (hn : n ≤ 5) : ∀ m, m ≤ 5 → (ordL n m).length ≤ 3125 := fun m hm => by
  refine Nat.le_trans (ordL_len n m) (Nat.le_trans (Nat.pow_le_pow_left hn m) ?_)
  exact Nat.le_trans (Nat.pow_le_pow_right (by decide) hm) (by decide)
theorem orders_ok {n : Nat} (hn : n ≤ 5) : F__law_orders [.va (.int (n : Int))] = some (.va (.list ((ordL n n).map nT)), [.no]) := by
  have hrg : Rg (n : Int) := rg_of (by omega) (by omega)
  obtain ⟨s2, h1, h2⟩ := forL_at (t := gNm 2) (b := L4__law_orders) (ds := rngD 0 n) (A := Sl) (fun m a => [.va (.int (n : Int)), .va (.list ((ordL n m).map nT)), a, .no, .no]) (fun _ a => isOw (some a) = false) (fun m s2 d hd h2 => by
    have h2 : isOw (some s2) = false := h2
    have hm : m < n := by have := (List.getElem?_eq_some_iff.mp hd).1; rwa [rngD_len] at this
    rw [rngD_get hm, Int.zero_add] at hd
    cases hd
    have hlen := ord_len5 hn m (by omega)
    have hlen1 := ord_len5 hn (m + 1) (by omega)
    have hin : ∀ p ∈ ordL n m, K3__law_orders [.va (.int (n : Int)), .va (.list ((ordL n m).map nT)), .va (.int (m : Int)), .no, .va (nT p)] = some (.list ((stp n p).map nT), [.va (.int (n : Int)), .va (.list ((ordL n m).map nT)), .va (.int (m : Int)), .no, .va (nT p)]) := fun p hp => by
      have hpl := (ordL_mem hp).1
      have hc := compR (c := T1__law_orders) (f := K2__law_orders) (v := 3) (n := n) (e := [.va (.int (n : Int)), .va (.list ((ordL n m).map nT)), .va (.int (m : Int)), .no, .va (nT p)]) (fun j => !decide (j ∈ p)) (fun j => nT (p ++ [j])) (by omega) rfl (Nat.le_of_ble_eq_true rfl) fun j hj => by
        have h3 := ninA_nL j p
        have hsz : (nL p).length + 1 ≤ sizeLine := small1Me (by rw [nL_len]; omega)
        constructor
        · unfold T1__law_orders
          repeat (first | walk_at "ev" | simp only [h3])
        · intro _
          unfold K2__law_orders
          repeat (first | walk_at "ev" | simp only [hsz, nL_cat, reduceIte])
      have hs : (((List.range n).filter fun j => !decide (j ∈ p)).map fun j => nT (p ++ [j])) = (stp n p).map nT := by unfold stp; rw [List.map_map]; rfl
      rw [hs] at hc
      unfold K3__law_orders
      repeat (first | walk_at "ev" | simp only [hrg, hc, reduceIte])
    have hc := comp1y (f := K3__law_orders) (v := 4) (e := [.va (.int (n : Int)), .va (.list ((ordL n m).map nT)), .va (.int (m : Int)), .no, .no]) nT (fun p => .list ((stp n p).map nT)) (ordL n m) (by omega) rfl (Nat.le_of_ble_eq_true rfl) fun p hp => hin p hp
    have hfl := flat_map_nT (stp n) (ordL n m)
    have hf := flat_ok (rs := (ordL n m).map fun p => (stp n p).map nT) (by rw [hfl, List.length_map]; exact Nat.le_trans hlen1 (by decide))
    rw [hfl, List.map_map] at hf
    have hf' : F__law_flat [.va (.list ((ordL n m).map fun p => .list ((stp n p).map nT)))] = some (.li ((ordL n (m + 1)).map nT), [.no]) := hf
    refine ⟨.va (.int (m : Int)), ?_, rfl⟩
    unfold L4__law_orders
    repeat (first | walk_at "ev" | simp only [h2, hc, hf', reduceIte])) .no rfl
  rw [rngD_len] at h1
  have h1' : forL (gNm 2) L4__law_orders (rngD 0 n) [.va (.int (n : Int)), .va (.list [.tuple []]), .no, .no, .no] = some (.nx [.va (.int (n : Int)), .va (.list ((ordL n n).map nT)), s2, .no, .no]) := h1
  unfold F__law_orders
  repeat (first | walk_at "ev" | simp only [hrg, h1', reduceIte])
theorem sets_ok {n : Nat} (hn : n ≤ 5) : F__law_sets [.va (.int (n : Int))] = some (.va (.list ((setL n).map nT)), [.no]) := by
  have hrg : Rg (n : Int) := rg_of (by omega) (by omega)
  obtain ⟨s2, h1, h2⟩ := forL_at (t := gNm 2) (b := L2__law_sets) (ds := rngD 0 n) (A := Sl) (fun m a => [.va (.int (n : Int)), .va (.list ((setL m).map nT)), a, .no]) (fun _ a => isOw (some a) = false) (fun m s2 d hd h2 => by
    have h2 : isOw (some s2) = false := h2
    have hm : m < n := by have := (List.getElem?_eq_some_iff.mp hd).1; rwa [rngD_len] at this
    rw [rngD_get hm, Int.zero_add] at hd
    cases hd
    have hlen : (setL m).length ≤ 32 := by rw [setL_len]; exact Nat.le_trans (Nat.pow_le_pow_right (by decide) (by omega : m ≤ 5)) (by decide)
    have hc := comp1y (f := K1__law_sets) (v := 3) (e := [.va (.int (n : Int)), .va (.list ((setL m).map nT)), .va (.int (m : Int)), .no]) nT (fun p => nT (p ++ [m])) (setL m) (by omega) rfl (Nat.le_of_ble_eq_true rfl) fun p hp => by
      have hpl : p.length ≤ m := by have := ((setL_mem m p).mp hp).length_le; rwa [List.length_range] at this
      have hsz : (nL p).length + 1 ≤ sizeLine := small1Me (by rw [nL_len]; omega)
      unfold K1__law_sets
      repeat (first | walk_at "ev" | simp only [hsz, nL_cat, reduceIte])
    have hs : ((setL m).map nT) ++ ((setL m).map fun p => nT (p ++ [m])) = (setL (m + 1)).map nT := by
      show _ = ((setL m) ++ (setL m).map fun g => g ++ [m]).map nT
      rw [List.map_append, List.map_map]; rfl
    have hsz : ((setL m).map nT).length + ((setL m).map fun p => nT (p ++ [m])).length ≤ sizeLine := small1Me (by rw [List.length_map, List.length_map]; omega)
    refine ⟨.va (.int (m : Int)), ?_, rfl⟩
    unfold L2__law_sets
    repeat (first | walk_at "ev" | simp only [h2, hc, hsz, hs, reduceIte])) .no rfl
  rw [rngD_len] at h1
  have h1' : forL (gNm 2) L2__law_sets (rngD 0 n) [.va (.int (n : Int)), .va (.list [.tuple []]), .no, .no] = some (.nx [.va (.int (n : Int)), .va (.list ((setL n).map nT)), s2, .no]) := h1
  unfold F__law_sets
  repeat (first | walk_at "ev" | simp only [hrg, h1', reduceIte])
end Fl

set_option Elab.async false
set_option linter.all false
set_option maxRecDepth 100000
set_option maxHeartbeats 4000000
set_option autoImplicit false
namespace Fl
open PySem PySem.Spec PyProof.Rows L2
local macro_rules | `(tactic| walk_at "ev") => `(tactic| simp -implicitDefEqProofs only [prE_ev, eVar_ev, varC_ev, eNm_ev, nmC_va, nmC_li, eC_ev, vw_va, vw_li, eOwn_ev, eIxO_ev, ixoC_ev, ixoC2_ev, ixoC3_ev, eOp_ev, opC_ev, opC2_ev, eUn_ev, unC_ev, bE_ev, bEC_ev, bB_ev, bBC_ev, bNot_ev, notC_ev, bAnd_ev, andC_t, andC_f, bOr_ev, orC_t, orC_f, bYes_ev, eAnd_ev, eandC_t, eandC_f, eOr_ev, eorC_t, eorC_f, eNot_ev, enotC_ev, eIf_ev, ifC_t, ifC_f, eTup_ev, tupC_ev, aNil_ev, aCons_ev, aconsC_ev, aconsC2_ev, oLst_ev, lstC_ev, oE_ev, oEC_ev, eFz_ev, fzC_va, fzC_li, oUn_ev, ounC_ev, prL_ev, eSl_ev, slC_ev, slC2_ev, slC3_ev, eSlO_ev, sloC_ev, sloC2_ev, sloC3_ev, sloC4_ev, lEnum_ev, enC_tup, enC_lst, pNo_ev, pSo_ev, psoC_ev, lOf_ev, lofC_tup, lofC_lst, lRng1_ev, rng1C_ev, lRng2_ev, rng2C_ev, rng2C2_ev, oRep_ev, repC_ev, repC2_ev, oCall_ev, callC_0, callC_1, callC_2, callC_3, callC_4, callC_5, callC_rv, callC_rv4, arSl_vl, arSl_rf, callC2_ev, arBack_nil, arBack_vl, arBack_rf, rNil_ev, rVal_ev, rvC_ev, rvC2_ev, rRef_ev, rrC_ev, oComp_ev, compC2_ev, wipeE_nil, wipeE_cons, backE_nil, backE_cons, gNm_ev, gTupF_ev, gsNil_ev, gsCons_ev, sNext_ev, sBreak_ev, sCont_ev, sSeq_ev, seqC_nx, seqC_bk, seqC_ct, seqC_rt, sSet_ev, setC_ev, sPar_ev, parC_ev, setAll_nil, setAll_cons, olNil_ev, olCons_ev, olC_ev, olC2_ev, sAsg_ev, asgC_ev, sIf_ev, sifC_t, sifC_f, sFor_ev, forC_ev, sDrop_ev, dropC_ev, sRet_ev, retC_ev, sRetN_ev, retnC_va, retnC_li, liOf_li, eMt1_ev, mt1C_ev, mt1C2_ev, mt1C3_ev, mt1C4_ev, eMt0_ev, mt0C_ev, sSub_ev, subC_ev, subC1_ev, subC2_ev, subC3_ev, subC4_ev, sAug_ev, augC_ev, augC2_ev, augC3_ev, mkF_ev, mkC_rt, mkC_nx, keepE_nil, keepE_va, keepE_ow', dTru_bool, dTru_int, dTru_none, dTru_list, dTru_tuple, dAdd_int, dAdd_tup, dAdd_lst, dIadd_int, dSub_int, dMul_int, dDiv_int, dMod_int, dNeg_int, dMin2_int, dMax2_int, dLtA_int, dLe_int, dLt_int, dGt_int, dGe_int, shaped_int, shaped_bool, shaped_none, eqv_int, eqv_bool, dEq_int, dNe_int, dEq_bool, dIs_none, dIsN_none, isNon_none, isNon_int, isNon_tup, isNon_bool, dLen_tup, dLen_lst, dIx_tup, dIx_lst, at0, at1, at2, at3, gExtend_lst, dTuple_lst, dTuple_tup, dList_lst, dList_tup, dInt_int, dSl_tup, dSl_lst, isTup, isLst, isBool, isIntB, isStr, beq_self_eq_true, decide_true, decide_false, isi_tup, isi_lst, isi_int, isi_bool, isi_str, isi_none, sz0, sz1, sz2, sz3, sz4, sz5, sz6, sz7, sz8, sz9, sz10, sz11, sz12, isOw_no, isOw_va, isOw_li, isOw_di, isOw_dt, isOw_ow, isOw_none, isOw_sl,
  Option.bind_some, Option.map_some, Option.bind_none, Option.map_none, Option.getD_some, Option.getD_none, List.getElem?_cons_zero, List.getElem?_cons_succ, List.set_cons_zero, List.set_cons_succ, List.map_cons, List.map_nil, List.headD_cons, List.headD_nil, List.tail_cons, List.tail_nil, List.isEmpty_nil, List.isEmpty_cons, List.length_nil, List.length_cons, List.nil_append, List.cons_append, List.replicate_succ, List.replicate_zero, Nat.reduceSub, Nat.reduceAdd, Bool.false_eq_true, if_false, if_true, reduceIte, Bool.not_true, Bool.not_false, and_true, true_and, and_self, Int.toNat_natCast, Int.zero_add, eCh_ev, chC_ev, chC2_ev, chC3_t, chC3_f, chC4_ev, lZip_ev, zipC_ev, zipC2_tup, zipC2_lst, dRev_tup, dRev_lst, dRngL_int, dRngT_int, oIte_ev, oiteC_li, oiteC_va, oCompO_ev, callC_rv2, callC_rv3])
local macro_rules | `(tactic| walk_at "evh") => `(tactic| simp -implicitDefEqProofs only [prE_ev, eVar_ev, varC_ev, eNm_ev, nmC_va, nmC_li, eC_ev, vw_va, vw_li, eOwn_ev, eIxO_ev, ixoC_ev, ixoC2_ev, ixoC3_ev, eOp_ev, opC_ev, opC2_ev, eUn_ev, unC_ev, bE_ev, bEC_ev, bB_ev, bBC_ev, bNot_ev, notC_ev, bAnd_ev, andC_t, andC_f, bOr_ev, orC_t, orC_f, bYes_ev, eAnd_ev, eandC_t, eandC_f, eOr_ev, eorC_t, eorC_f, eNot_ev, enotC_ev, eIf_ev, ifC_t, ifC_f, eTup_ev, tupC_ev, aNil_ev, aCons_ev, aconsC_ev, aconsC2_ev, oLst_ev, lstC_ev, oE_ev, oEC_ev, eFz_ev, fzC_va, fzC_li, oUn_ev, ounC_ev, prL_ev, eSl_ev, slC_ev, slC2_ev, slC3_ev, eSlO_ev, sloC_ev, sloC2_ev, sloC3_ev, sloC4_ev, lEnum_ev, enC_tup, enC_lst, pNo_ev, pSo_ev, psoC_ev, lOf_ev, lofC_tup, lofC_lst, lRng1_ev, rng1C_ev, lRng2_ev, rng2C_ev, rng2C2_ev, oRep_ev, repC_ev, repC2_ev, oCall_ev, callC_0, callC_1, callC_2, callC_3, callC_4, callC_5, callC_rv, callC_rv4, arSl_vl, arSl_rf, callC2_ev, arBack_nil, arBack_vl, arBack_rf, rNil_ev, rVal_ev, rvC_ev, rvC2_ev, rRef_ev, rrC_ev, oComp_ev, compC2_ev, wipeE_nil, wipeE_cons, backE_nil, backE_cons, gNm_ev, gTupF_ev, gsNil_ev, gsCons_ev, sNext_ev, sBreak_ev, sCont_ev, sSeq_ev, seqC_nx, seqC_bk, seqC_ct, seqC_rt, sSet_ev, setC_ev, sPar_ev, parC_ev, setAll_nil, setAll_cons, olNil_ev, olCons_ev, olC_ev, olC2_ev, sAsg_ev, asgC_ev, sIf_ev, sifC_t, sifC_f, sFor_ev, forC_ev, sDrop_ev, dropC_ev, sRet_ev, retC_ev, sRetN_ev, retnC_va, retnC_li, liOf_li, eMt1_ev, mt1C_ev, mt1C2_ev, mt1C3_ev, mt1C4_ev, eMt0_ev, mt0C_ev, sSub_ev, subC_ev, subC1_ev, subC2_ev, subC3_ev, subC4_ev, sAug_ev, augC_ev, augC2_ev, augC3_ev, mkF_ev, mkC_rt, mkC_nx, keepE_nil, keepE_va, keepE_ow', dTru_bool, dTru_int, dTru_none, dTru_list, dTru_tuple, dAdd_int, dAdd_tup, dAdd_lst, dIadd_int, dSub_int, dMul_int, dDiv_int, dMod_int, dNeg_int, dMin2_int, dMax2_int, dLtA_int, dLe_int, dLt_int, dGt_int, dGe_int, shaped_int, shaped_bool, shaped_none, eqv_int, eqv_bool, dEq_int, dNe_int, dEq_bool, dIs_none, dIsN_none, isNon_none, isNon_int, isNon_tup, isNon_bool, dLen_tup, dLen_lst, dIx_tup, dIx_lst, at0, at1, at2, at3, gExtend_lst, dTuple_lst, dTuple_tup, dList_lst, dList_tup, dInt_int, dSl_tup, dSl_lst, isTup, isLst, isBool, isIntB, isStr, beq_self_eq_true, decide_true, decide_false, isi_tup, isi_lst, isi_int, isi_bool, isi_str, isi_none, sz0, sz1, sz2, sz3, sz4, sz5, sz6, sz7, sz8, sz9, sz10, sz11, sz12, isOw_no, isOw_va, isOw_li, isOw_di, isOw_dt, isOw_ow, isOw_none, isOw_sl,
  Option.bind_some, Option.map_some, Option.bind_none, Option.map_none, Option.getD_some, Option.getD_none, List.getElem?_cons_zero, List.getElem?_cons_succ, List.set_cons_zero, List.set_cons_succ, List.map_cons, List.map_nil, List.headD_cons, List.headD_nil, List.tail_cons, List.tail_nil, List.isEmpty_nil, List.isEmpty_cons, List.length_nil, List.length_cons, List.nil_append, List.cons_append, List.replicate_succ, List.replicate_zero, Nat.reduceSub, Nat.reduceAdd, Bool.false_eq_true, if_false, if_true, reduceIte, Bool.not_true, Bool.not_false, and_true, true_and, and_self, Int.toNat_natCast, Int.zero_add, eCh_ev, chC_ev, chC2_ev, chC3_t, chC3_f, chC4_ev, lZip_ev, zipC_ev, zipC2_tup, zipC2_lst, dRev_tup, dRev_lst, dRngL_int, dRngT_int, oIte_ev, oiteC_li, oiteC_va, oCompO_ev, callC_rv2, callC_rv3, *])
/-! K83_Bent: bent values are plain. -/
def IT : Nat → D → Prop
  | _, .int i => 0 ≤ i ∧ i ≤ 99
  | k + 1, .tuple ds => ds.length ≤ 1000 ∧ ∀ d ∈ ds, IT k d
  | _, _ => False
theorem plain_up : ∀ {n : Nat} {d : D}, Plain n d → Plain (n + 1) d
  | _, .none, _ => trivial
  | _, .bool _, _ => trivial
  | _, .int _, _ => trivial
  | n, .str s, h => by have h' : SeqAt.shaped (.str s) = true := by cases n <;> exact h
                       exact h'
  | 0, .tuple _, h => h.elim
  | 0, .list _, h => h.elim
  | n + 1, .tuple ds, h => ⟨h.1, fun d hd => plain_up (h.2 d hd)⟩
  | n + 1, .list ds, h => ⟨h.1, fun d hd => plain_up (h.2 d hd)⟩
  | 0, .dict _, h => h.elim
  | n + 1, .dict _, h => h.elim
theorem plain_le {n m : Nat} {d : D} (h : Plain n d) (hm : n ≤ m) : Plain m d := by
  induction hm with
  | refl => exact h
  | step _ ih => exact plain_up ih
theorem it_plain : ∀ {k : Nat} {d : D}, IT k d → Plain k d
  | 0, .int _, _ => trivial
  | k + 1, .int _, _ => trivial
  | k + 1, .tuple ds, h => ⟨by have := h.1; omega, fun d hd => it_plain (h.2 d hd)⟩
  | 0, .tuple _, h => h.elim
  | 0, .none, h => h.elim
  | 0, .bool _, h => h.elim
  | 0, .str _, h => h.elim
  | 0, .list _, h => h.elim
  | 0, .dict _, h => h.elim
  | k + 1, .none, h => h.elim
  | k + 1, .bool _, h => h.elim
  | k + 1, .str _, h => h.elim
  | k + 1, .list _, h => h.elim
  | k + 1, .dict _, h => h.elim
theorem str_small : ∀ i : Nat, i < 100 → SeqAt.shaped (.str (Str.ofString (toString (i : Int)))) = true ∧ ((i : Int)).natAbs.log2 < 1920 := by decide +kernel
theorem dStr_small {i : Int} (h : 0 ≤ i ∧ i ≤ 99) : ∃ s, dStr (.int i) = some (.str s) ∧ SeqAt.shaped (.str s) = true := by
  obtain ⟨j, rfl⟩ : ∃ j : Nat, i = (j : Int) := ⟨i.toNat, by omega⟩
  obtain ⟨h1, h2⟩ := str_small j (by omega)
  exact ⟨_, if_pos h2, h1⟩
theorem draw83 (b : Box) {m : Int} (h : 0 < m) (h2 : m < 1073741824) : ∃ (d : Int) (b' : Box), F__law_draw [.ow b.ot, .va (.int m)] = some (.va (.int d), [.ow b'.ot, .no]) ∧ 0 ≤ d ∧ d < m := fDraw_ex b h h2
theorem pick_at {xs : List D} {d : Int} (h0 : 0 ≤ d) (h1 : d < xs.length) : ∃ v, atI xs d = some v ∧ v ∈ xs := by
  obtain ⟨j, rfl⟩ : ∃ j : Nat, d = (j : Int) := ⟨d.toNat, by omega⟩
  have hj : j < xs.length := by omega
  exact ⟨xs[j], atI_nat (List.getElem?_eq_getElem hj), List.getElem_mem hj⟩
theorem cut_sub {α : Type} (xs : List α) (lo hi : Option Int) : (cutD xs lo hi).length ≤ xs.length ∧ ∀ x ∈ cutD xs lo hi, x ∈ xs := by
  unfold cutD
  exact ⟨by rw [List.length_take, List.length_drop]; omega, fun x hx => List.mem_of_mem_drop (List.mem_of_mem_take hx)⟩
theorem bent_ok : ∀ (k : Nat) (v : D) (b : Box), IT k v → ∃ (v' : D) (b' : Box), R__law_bent (k + 1) [.ow b.ot, .va v] = some (.va v', [.ow b'.ot, .no]) ∧ Plain (k + 3) v' := by
  intro k
  induction k with
  | zero =>
    intro v b hv
    cases v with
    | int i =>
      have hi : 0 ≤ i ∧ i ≤ 99 := hv
      obtain ⟨s, hs1, hs2⟩ := dStr_small hi
      obtain ⟨d, b1, e1, d0, d1⟩ := draw83 b (m := 8) (by decide) (by decide)
      obtain ⟨v', p1, p2⟩ := pick_at (xs := [PyData.int (i + 1), .int (i - 1), .int 0, .bool (i == 1), .none, .str s, .tuple [.int i], .int (i + 2)]) d0 (by simpa using d1)
      refine ⟨v', b1, ?_, ?_⟩
      · show mkF 4 (B__law_bent (R__law_bent 0)) _ = _
        unfold B__law_bent
        repeat (first | walk_at "ev" | simp only [e1, hs1, p1])
      · simp only [List.mem_cons, List.not_mem_nil, or_false] at p2
        rcases p2 with rfl | rfl | rfl | rfl | rfl | rfl | rfl | rfl
        · trivial
        · trivial
        · trivial
        · trivial
        · trivial
        · exact hs2
        · exact ⟨by simp, fun d hd => by rw [List.mem_singleton.mp hd]; trivial⟩
        · trivial
    | none => exact hv.elim
    | bool _ => exact hv.elim
    | str _ => exact hv.elim
    | list _ => exact hv.elim
    | tuple _ => exact hv.elim
    | dict _ => exact hv.elim
  | succ k ih =>
    intro v b hv
    cases v with
    | int i =>
      have hi : 0 ≤ i ∧ i ≤ 99 := hv
      obtain ⟨s, hs1, hs2⟩ := dStr_small hi
      obtain ⟨d, b1, e1, d0, d1⟩ := draw83 b (m := 8) (by decide) (by decide)
      obtain ⟨v', p1, p2⟩ := pick_at (xs := [PyData.int (i + 1), .int (i - 1), .int 0, .bool (i == 1), .none, .str s, .tuple [.int i], .int (i + 2)]) d0 (by simpa using d1)
      refine ⟨v', b1, ?_, ?_⟩
      · show mkF 4 (B__law_bent (R__law_bent (k + 1))) _ = _
        unfold B__law_bent
        repeat (first | walk_at "ev" | simp only [e1, hs1, p1])
      · simp only [List.mem_cons, List.not_mem_nil, or_false] at p2
        rcases p2 with rfl | rfl | rfl | rfl | rfl | rfl | rfl | rfl
        · trivial
        · trivial
        · trivial
        · trivial
        · trivial
        · exact hs2
        · exact ⟨by simp, fun d hd => by rw [List.mem_singleton.mp hd]; trivial⟩
        · trivial
    | tuple ds =>
      obtain ⟨hl, hd⟩ := hv
      have hdp : ∀ d ∈ ds, Plain (k + 2) d := fun d h => plain_le (it_plain (hd d h)) (by omega)
      have hvp : Plain (k + 3) (.tuple ds) := ⟨by omega, hdp⟩
      have hz1 : ds.length + (cutD ds none (some 1)).length ≤ sizeLine := small1Me (by have := (cut_sub ds none (some 1)).1; omega)
      have hz2 : ds.length + 1 ≤ sizeLine := small1Me (by omega)
      have pk : ∀ bx : Box, ∃ (d : Int) (v' : D) (b' : Box), F__law_draw [.ow bx.ot, .va (.int 8)] = some (.va (.int d), [.ow b'.ot, .no]) ∧ atI [PyData.tuple (ds ++ cutD ds none (some 1)), .tuple (cutD ds (some 1) none), .tuple ds.reverse, .tuple (ds ++ [.int 0]), .tuple [.tuple ds], .tuple (cutD ds none (some (-1))), .none, .tuple (ds ++ [.tuple [.int 0, .int 1]])] d = some v' ∧ Plain (k + 4) v' := fun bx => by
        obtain ⟨d, b1, e1, d0, d1⟩ := draw83 bx (m := 8) (by decide) (by decide)
        obtain ⟨v', p1, p2⟩ := pick_at (xs := [PyData.tuple (ds ++ cutD ds none (some 1)), .tuple (cutD ds (some 1) none), .tuple ds.reverse, .tuple (ds ++ [.int 0]), .tuple [.tuple ds], .tuple (cutD ds none (some (-1))), .none, .tuple (ds ++ [.tuple [.int 0, .int 1]])]) d0 (by simpa using d1)
        refine ⟨d, v', b1, e1, p1, ?_⟩
        have c1 := cut_sub ds none (some 1)
        have c2 := cut_sub ds (some 1) none
        have c3 := cut_sub ds none (some (-1))
        have hdq : ∀ d ∈ ds, Plain (k + 3) d := fun d h => plain_up (hdp d h)
        simp only [List.mem_cons, List.not_mem_nil, or_false] at p2
        rcases p2 with rfl | rfl | rfl | rfl | rfl | rfl | rfl | rfl
        · exact ⟨by rw [List.length_append]; omega, fun d h => (List.mem_append.mp h).elim (hdq d) fun h => hdq d (c1.2 d h)⟩
        · exact ⟨by omega, fun d h => hdq d (c2.2 d h)⟩
        · exact ⟨by rw [List.length_reverse]; omega, fun d h => hdq d (List.mem_reverse.mp h)⟩
        · exact ⟨by rw [List.length_append]; simp only [List.length_cons, List.length_nil]; omega, fun d h => (List.mem_append.mp h).elim (hdq d) fun h => by rw [List.mem_singleton.mp h]; trivial⟩
        · exact ⟨by simp, fun d h => by rw [List.mem_singleton.mp h]; exact hvp⟩
        · exact ⟨by omega, fun d h => hdq d (c3.2 d h)⟩
        · trivial
        · refine ⟨by rw [List.length_append]; simp only [List.length_cons, List.length_nil]; omega, fun d h => (List.mem_append.mp h).elim (hdq d) fun h => ?_⟩
          rw [List.mem_singleton.mp h]
          refine ⟨by simp, fun d h => ?_⟩
          simp only [List.mem_cons, List.not_mem_nil, or_false] at h
          rcases h with rfl | rfl <;> trivial
      show ∃ (v' : D) (b' : Box), mkF 4 (B__law_bent (R__law_bent (k + 1))) _ = _ ∧ _
      by_cases hne : decide ((0 : Int) < (ds.length : Int)) = true
      · obtain ⟨d5, b1, e5, d50, d51⟩ := draw83 b (m := 5) (by decide) (by decide)
        have hpos := of_decide_eq_true hne
        by_cases h5 : decide ((0 : Int) < d5) = true
        · obtain ⟨da, b2, e2, d20, d21⟩ := draw83 b1 (m := (ds.length : Int)) hpos (by omega)
          obtain ⟨j, rfl⟩ : ∃ j : Nat, da = (j : Int) := ⟨da.toNat, by omega⟩
          have hj : j < ds.length := by omega
          obtain ⟨v', b3, e3, p3⟩ := ih ds[j] b2 (hd _ (List.getElem_mem hj))
          have hat : atI ds (j : Int) = some ds[j] := atI_nat (List.getElem?_eq_getElem hj)
          have c1 := cut_sub ds none (some (j : Int))
          have c2 := cut_sub ds (some ((j : Int) + 1)) none
          have hz3 : (cutD ds none (some (j : Int))).length + 1 ≤ sizeLine := small1Me (by omega)
          have hz4 : (cutD ds none (some (j : Int)) ++ [v']).length + (cutD ds (some ((j : Int) + 1)) none).length ≤ sizeLine := small1Me (by rw [List.length_append]; simp only [List.length_cons, List.length_nil]; omega)
          generalize ds[j] = dj at e3 hat
          refine ⟨.tuple ((cutD ds none (some (j : Int)) ++ [v']) ++ cutD ds (some ((j : Int) + 1)) none), b3, ?_, ?_⟩
          · unfold B__law_bent
            repeat (first | walk_at "ev" | simp only [hne, e5, h5, e2, hat, e3, hz3, hz4, reduceIte])
          · refine ⟨by rw [List.length_append, List.length_append]; simp only [List.length_cons, List.length_nil]; omega, fun d h => ?_⟩
            rcases List.mem_append.mp h with h | h
            · rcases List.mem_append.mp h with h | h
              · exact plain_up (hdp d (c1.2 d h))
              · rw [List.mem_singleton.mp h]; exact p3
            · exact plain_up (hdp d (c2.2 d h))
        · have h5 : decide ((0 : Int) < d5) = false := by simpa using h5
          obtain ⟨d, v', b', e8, p1, p2⟩ := pk b1
          refine ⟨v', b', ?_, p2⟩
          unfold B__law_bent
          repeat (first | walk_at "ev" | simp only [hne, e5, h5, e8, hz1, hz2, p1, reduceIte])
      · have hne : decide ((0 : Int) < (ds.length : Int)) = false := by simpa using hne
        obtain ⟨d, v', b', e8, p1, p2⟩ := pk b
        refine ⟨v', b', ?_, p2⟩
        unfold B__law_bent
        repeat (first | walk_at "ev" | simp only [hne, e8, hz1, hz2, p1, reduceIte])
    | none => exact hv.elim
    | bool _ => exact hv.elim
    | str _ => exact hv.elim
    | list _ => exact hv.elim
    | dict _ => exact hv.elim
theorem it_up : ∀ {n : Nat} {d : D}, IT n d → IT (n + 1) d
  | 0, .int _, h => h
  | n + 1, .int _, h => h
  | n + 1, .tuple ds, h => ⟨h.1, fun d hd => it_up (h.2 d hd)⟩
  | 0, .tuple _, h => h.elim
  | 0, .none, h => h.elim
  | 0, .bool _, h => h.elim
  | 0, .str _, h => h.elim
  | 0, .list _, h => h.elim
  | 0, .dict _, h => h.elim
  | k + 1, .none, h => h.elim
  | k + 1, .bool _, h => h.elim
  | k + 1, .str _, h => h.elim
  | k + 1, .list _, h => h.elim
  | k + 1, .dict _, h => h.elim
theorem it_le {n m : Nat} {d : D} (h : IT n d) (hm : n ≤ m) : IT m d := by
  induction hm with
  | refl => exact h
  | step _ ih => exact it_up ih
theorem bent83 (v : D) (b : Box) (h : IT 3 v) : ∃ (v' : D) (b' : Box), F__law_bent [.ow b.ot, .va v] = some (.va v', [.ow b'.ot, .no]) ∧ Plain 22 v' :=
  bent_ok 19 v b (it_le h (by decide))
end Fl

set_option Elab.async false
set_option linter.all false
set_option maxRecDepth 100000
set_option maxHeartbeats 4000000
set_option autoImplicit false
namespace Fl
open PySem PySem.Spec PyProof.Rows L2
local macro_rules | `(tactic| walk_at "ev") => `(tactic| simp -implicitDefEqProofs only [prE_ev, eVar_ev, varC_ev, eNm_ev, nmC_va, nmC_li, eC_ev, vw_va, vw_li, eOwn_ev, eIxO_ev, ixoC_ev, ixoC2_ev, ixoC3_ev, eOp_ev, opC_ev, opC2_ev, eUn_ev, unC_ev, bE_ev, bEC_ev, bB_ev, bBC_ev, bNot_ev, notC_ev, bAnd_ev, andC_t, andC_f, bOr_ev, orC_t, orC_f, bYes_ev, eAnd_ev, eandC_t, eandC_f, eOr_ev, eorC_t, eorC_f, eNot_ev, enotC_ev, eIf_ev, ifC_t, ifC_f, eTup_ev, tupC_ev, aNil_ev, aCons_ev, aconsC_ev, aconsC2_ev, oLst_ev, lstC_ev, oE_ev, oEC_ev, eFz_ev, fzC_va, fzC_li, oUn_ev, ounC_ev, prL_ev, eSl_ev, slC_ev, slC2_ev, slC3_ev, eSlO_ev, sloC_ev, sloC2_ev, sloC3_ev, sloC4_ev, lEnum_ev, enC_tup, enC_lst, pNo_ev, pSo_ev, psoC_ev, lOf_ev, lofC_tup, lofC_lst, lRng1_ev, rng1C_ev, lRng2_ev, rng2C_ev, rng2C2_ev, oRep_ev, repC_ev, repC2_ev, oCall_ev, callC_0, callC_1, callC_2, callC_3, callC_4, callC_5, callC_rv, callC_rv4, arSl_vl, arSl_rf, callC2_ev, arBack_nil, arBack_vl, arBack_rf, rNil_ev, rVal_ev, rvC_ev, rvC2_ev, rRef_ev, rrC_ev, oComp_ev, compC2_ev, wipeE_nil, wipeE_cons, backE_nil, backE_cons, gNm_ev, gTupF_ev, gsNil_ev, gsCons_ev, sNext_ev, sBreak_ev, sCont_ev, sSeq_ev, seqC_nx, seqC_bk, seqC_ct, seqC_rt, sSet_ev, setC_ev, sPar_ev, parC_ev, setAll_nil, setAll_cons, olNil_ev, olCons_ev, olC_ev, olC2_ev, sAsg_ev, asgC_ev, sIf_ev, sifC_t, sifC_f, sFor_ev, forC_ev, sDrop_ev, dropC_ev, sRet_ev, retC_ev, sRetN_ev, retnC_va, retnC_li, liOf_li, eMt1_ev, mt1C_ev, mt1C2_ev, mt1C3_ev, mt1C4_ev, eMt0_ev, mt0C_ev, sSub_ev, subC_ev, subC1_ev, subC2_ev, subC3_ev, subC4_ev, sAug_ev, augC_ev, augC2_ev, augC3_ev, mkF_ev, mkC_rt, mkC_nx, keepE_nil, keepE_va, keepE_ow', dTru_bool, dTru_int, dTru_none, dTru_list, dTru_tuple, dAdd_int, dAdd_tup, dAdd_lst, dIadd_int, dSub_int, dMul_int, dDiv_int, dMod_int, dNeg_int, dMin2_int, dMax2_int, dLtA_int, dLe_int, dLt_int, dGt_int, dGe_int, shaped_int, shaped_bool, shaped_none, eqv_int, eqv_bool, dEq_int, dNe_int, dEq_bool, dIs_none, dIsN_none, isNon_none, isNon_int, isNon_tup, isNon_bool, dLen_tup, dLen_lst, dIx_tup, dIx_lst, at0, at1, at2, at3, gExtend_lst, dTuple_lst, dTuple_tup, dList_lst, dList_tup, dInt_int, dSl_tup, dSl_lst, isTup, isLst, isBool, isIntB, isStr, beq_self_eq_true, decide_true, decide_false, isi_tup, isi_lst, isi_int, isi_bool, isi_str, isi_none, sz0, sz1, sz2, sz3, sz4, sz5, sz6, sz7, sz8, sz9, sz10, sz11, sz12, isOw_no, isOw_va, isOw_li, isOw_di, isOw_dt, isOw_ow, isOw_none, isOw_sl,
  Option.bind_some, Option.map_some, Option.bind_none, Option.map_none, Option.getD_some, Option.getD_none, List.getElem?_cons_zero, List.getElem?_cons_succ, List.set_cons_zero, List.set_cons_succ, List.map_cons, List.map_nil, List.headD_cons, List.headD_nil, List.tail_cons, List.tail_nil, List.isEmpty_nil, List.isEmpty_cons, List.length_nil, List.length_cons, List.nil_append, List.cons_append, List.replicate_succ, List.replicate_zero, Nat.reduceSub, Nat.reduceAdd, Bool.false_eq_true, if_false, if_true, reduceIte, Bool.not_true, Bool.not_false, and_true, true_and, and_self, Int.toNat_natCast, Int.zero_add, eCh_ev, chC_ev, chC2_ev, chC3_t, chC3_f, chC4_ev, lZip_ev, zipC_ev, zipC2_tup, zipC2_lst, dRev_tup, dRev_lst, dRngL_int, dRngT_int, oIte_ev, oiteC_li, oiteC_va, oCompO_ev, callC_rv2, callC_rv3])
local macro_rules | `(tactic| walk_at "evh") => `(tactic| simp -implicitDefEqProofs only [prE_ev, eVar_ev, varC_ev, eNm_ev, nmC_va, nmC_li, eC_ev, vw_va, vw_li, eOwn_ev, eIxO_ev, ixoC_ev, ixoC2_ev, ixoC3_ev, eOp_ev, opC_ev, opC2_ev, eUn_ev, unC_ev, bE_ev, bEC_ev, bB_ev, bBC_ev, bNot_ev, notC_ev, bAnd_ev, andC_t, andC_f, bOr_ev, orC_t, orC_f, bYes_ev, eAnd_ev, eandC_t, eandC_f, eOr_ev, eorC_t, eorC_f, eNot_ev, enotC_ev, eIf_ev, ifC_t, ifC_f, eTup_ev, tupC_ev, aNil_ev, aCons_ev, aconsC_ev, aconsC2_ev, oLst_ev, lstC_ev, oE_ev, oEC_ev, eFz_ev, fzC_va, fzC_li, oUn_ev, ounC_ev, prL_ev, eSl_ev, slC_ev, slC2_ev, slC3_ev, eSlO_ev, sloC_ev, sloC2_ev, sloC3_ev, sloC4_ev, lEnum_ev, enC_tup, enC_lst, pNo_ev, pSo_ev, psoC_ev, lOf_ev, lofC_tup, lofC_lst, lRng1_ev, rng1C_ev, lRng2_ev, rng2C_ev, rng2C2_ev, oRep_ev, repC_ev, repC2_ev, oCall_ev, callC_0, callC_1, callC_2, callC_3, callC_4, callC_5, callC_rv, callC_rv4, arSl_vl, arSl_rf, callC2_ev, arBack_nil, arBack_vl, arBack_rf, rNil_ev, rVal_ev, rvC_ev, rvC2_ev, rRef_ev, rrC_ev, oComp_ev, compC2_ev, wipeE_nil, wipeE_cons, backE_nil, backE_cons, gNm_ev, gTupF_ev, gsNil_ev, gsCons_ev, sNext_ev, sBreak_ev, sCont_ev, sSeq_ev, seqC_nx, seqC_bk, seqC_ct, seqC_rt, sSet_ev, setC_ev, sPar_ev, parC_ev, setAll_nil, setAll_cons, olNil_ev, olCons_ev, olC_ev, olC2_ev, sAsg_ev, asgC_ev, sIf_ev, sifC_t, sifC_f, sFor_ev, forC_ev, sDrop_ev, dropC_ev, sRet_ev, retC_ev, sRetN_ev, retnC_va, retnC_li, liOf_li, eMt1_ev, mt1C_ev, mt1C2_ev, mt1C3_ev, mt1C4_ev, eMt0_ev, mt0C_ev, sSub_ev, subC_ev, subC1_ev, subC2_ev, subC3_ev, subC4_ev, sAug_ev, augC_ev, augC2_ev, augC3_ev, mkF_ev, mkC_rt, mkC_nx, keepE_nil, keepE_va, keepE_ow', dTru_bool, dTru_int, dTru_none, dTru_list, dTru_tuple, dAdd_int, dAdd_tup, dAdd_lst, dIadd_int, dSub_int, dMul_int, dDiv_int, dMod_int, dNeg_int, dMin2_int, dMax2_int, dLtA_int, dLe_int, dLt_int, dGt_int, dGe_int, shaped_int, shaped_bool, shaped_none, eqv_int, eqv_bool, dEq_int, dNe_int, dEq_bool, dIs_none, dIsN_none, isNon_none, isNon_int, isNon_tup, isNon_bool, dLen_tup, dLen_lst, dIx_tup, dIx_lst, at0, at1, at2, at3, gExtend_lst, dTuple_lst, dTuple_tup, dList_lst, dList_tup, dInt_int, dSl_tup, dSl_lst, isTup, isLst, isBool, isIntB, isStr, beq_self_eq_true, decide_true, decide_false, isi_tup, isi_lst, isi_int, isi_bool, isi_str, isi_none, sz0, sz1, sz2, sz3, sz4, sz5, sz6, sz7, sz8, sz9, sz10, sz11, sz12, isOw_no, isOw_va, isOw_li, isOw_di, isOw_dt, isOw_ow, isOw_none, isOw_sl,
  Option.bind_some, Option.map_some, Option.bind_none, Option.map_none, Option.getD_some, Option.getD_none, List.getElem?_cons_zero, List.getElem?_cons_succ, List.set_cons_zero, List.set_cons_succ, List.map_cons, List.map_nil, List.headD_cons, List.headD_nil, List.tail_cons, List.tail_nil, List.isEmpty_nil, List.isEmpty_cons, List.length_nil, List.length_cons, List.nil_append, List.cons_append, List.replicate_succ, List.replicate_zero, Nat.reduceSub, Nat.reduceAdd, Bool.false_eq_true, if_false, if_true, reduceIte, Bool.not_true, Bool.not_false, and_true, true_and, and_self, Int.toNat_natCast, Int.zero_add, eCh_ev, chC_ev, chC2_ev, chC3_t, chC3_f, chC4_ev, lZip_ev, zipC_ev, zipC2_tup, zipC2_lst, dRev_tup, dRev_lst, dRngL_int, dRngT_int, oIte_ev, oiteC_li, oiteC_va, oCompO_ev, callC_rv2, callC_rv3, *])
/-! K83_Loan: drawn loans; what is a loan; askings. -/
/-- a comprehension whose items draw -/
theorem compL_dr {f : EF} {v : Nat} (enc : Box → Ev) (P : D → D → Prop) : ∀ (ds : List D) (b : Box), (∀ d ∈ ds, ∀ b : Box, ∃ (x : D) (b' : Box), f ((enc b).set v (.va d)) = some (x, (enc b').set v (.va d)) ∧ P d x) →
    ∃ (rs : List D) (b' : Box), compL (gNm v) bYes f [v] ds ((enc b).set v .no) = some (rs, (enc b').set v .no) ∧ rs.length = ds.length ∧ ∀ (i : Nat) d x, ds[i]? = some d → rs[i]? = some x → P d x
  | [], b, _ => ⟨[], b, rfl, rfl, fun i d x h => by simp at h⟩
  | d :: ds, b, h => by
    obtain ⟨x, b1, h1, h2⟩ := h d List.mem_cons_self b
    obtain ⟨rs, b2, k1, k2, k3⟩ := compL_dr enc P ds b1 fun d hd => h d (List.mem_cons_of_mem _ hd)
    refine ⟨x :: rs, b2, ?_, by rw [List.length_cons, List.length_cons, k2], fun i d' x' e1 e2 => ?_⟩
    · rw [compL_take gNm_set rfl h1, wipe1, k1]; rfl
    · cases i with
      | zero => cases e1; cases e2; exact h2
      | succ i => exact k3 i d' x' (by simpa using e1) (by simpa using e2)
theorem compD {f : EF} {v : Nat} (enc : Box → Ev) (P : D → D → Prop) (ds : List D) (b : Box) (hl : ds.length ≤ 1000000) (hv : ∀ b, isOw (enc b)[v]? = false) (hn : ∀ b, v < (enc b).length) (hs : ∀ b b' : Box, (enc b)[v]? = (enc b')[v]?)
    (h : ∀ d ∈ ds, ∀ b : Box, ∃ (x : D) (b' : Box), f ((enc b).set v (.va d)) = some (x, (enc b').set v (.va d)) ∧ P d x) :
    ∃ (rs : List D) (b' : Box), compC (gNm v) bYes f [v] (ds, enc b) = some (.li rs, enc b') ∧ rs.length = ds.length ∧ ∀ (i : Nat) d x, ds[i]? = some d → rs[i]? = some x → P d x := by
  obtain ⟨rs, b', k1, k2, k3⟩ := compL_dr enc P ds b h
  refine ⟨rs, b', ?_, k2, k3⟩
  rw [compC_ev _ _ _ _ _ _ (small1Me hl) (by show (!isOw (enc b)[v]? && true) = true; rw [hv]; rfl)]
  show ((compL _ _ _ _ _ ((enc b).set v .no)).map _) = _
  rw [k1]
  show some (Sl.li rs, (((enc b').set v .no).set v (((enc b)[v]?).getD .no))) = _
  rw [List.set_set, hs b b', set_self (hn b')]
def InR (m : Int) (r : List Int) : Prop := ∀ x ∈ r, 0 ≤ x ∧ x < m
theorem rs_ints {ds rs : List D} {m : Int} (hl : rs.length = ds.length) (h : ∀ (i : Nat) d x, ds[i]? = some d → rs[i]? = some x → ∃ y : Int, x = .int y ∧ 0 ≤ y ∧ y < m) : ∃ r : List Int, rs = iL r ∧ r.length = ds.length ∧ InR m r := by
  obtain ⟨r, h1, h2⟩ := listInts (ds := rs) (P := fun y => 0 ≤ y ∧ y < m) fun x hx => by
    obtain ⟨i, hi⟩ := List.getElem?_of_mem hx
    have hi2 : i < ds.length := by have := (List.getElem?_eq_some_iff.mp hi).1; omega
    exact h i ds[i] x (List.getElem?_eq_getElem hi2) hi
  exact ⟨r, h1, by rw [← hl, h1, iL_len], h2⟩
theorem rs_rows {ds rs : List D} {m : Int} {K : Nat} (hl : rs.length = ds.length) (h : ∀ (i : Nat) d x, ds[i]? = some d → rs[i]? = some x → ∃ y : List Int, x = rwD y ∧ y.length = K ∧ InR m y) : ∃ r : List (List Int), rs = r.map rwD ∧ r.length = ds.length ∧ ∀ y ∈ r, y.length = K ∧ InR m y := by
  have key : ∀ xs : List D, (∀ x ∈ xs, ∃ y : List Int, x = rwD y ∧ y.length = K ∧ InR m y) → ∃ r : List (List Int), xs = r.map rwD ∧ ∀ y ∈ r, y.length = K ∧ InR m y := fun xs => by
    induction xs with
    | nil => exact fun _ => ⟨[], rfl, fun _ h => nomatch h⟩
    | cons x xs ih =>
      intro hx
      obtain ⟨y, h1, h2⟩ := hx x List.mem_cons_self
      obtain ⟨r, h3, h4⟩ := ih fun z hz => hx z (List.mem_cons_of_mem _ hz)
      exact ⟨y :: r, by rw [h1, h3]; rfl, fun z hz => by
        rcases List.mem_cons.mp hz with rfl | hz
        · exact h2
        · exact h4 z hz⟩
  obtain ⟨r, h1, h2⟩ := key rs fun x hx => by
    obtain ⟨i, hi⟩ := List.getElem?_of_mem hx
    have hi2 : i < ds.length := by have := (List.getElem?_eq_some_iff.mp hi).1; omega
    exact h i ds[i] x (List.getElem?_eq_getElem hi2) hi
  exact ⟨r, h1, by rw [← hl, h1, List.length_map], h2⟩
/-- a loan with small numbers -/
structure BL (l : Loan) (mh mn : Int) : Prop where
  f : InR mh l.free
  h : ∀ r ∈ l.held, InR mh r
  n : ∀ r ∈ l.need, InR mn r
theorem loan_ok (b : Box) {K n : Nat} {m : Int} (hK : K ≤ 1000) (hn : n ≤ 1000) (hm : 0 < m) (hm2 : m < 1000) : ∃ (l : Loan) (b' : Box), F__law_loan [.ow b.ot, .va (.int (K : Int)), .va (.int (n : Int)), .va (.int m)] = some (.va (loD l), [.ow b'.ot, .no, .no, .no]) ∧ WL l ∧ l.kk = K ∧ l.nn = n ∧ BL l m (m + 1) := by
  have hrk : Rg (K : Int) := rg_of (by omega) (by omega)
  have hrn : Rg (n : Int) := rg_of (by omega) (by omega)
  -- free
  obtain ⟨rs0, b1, f1, f2, f3⟩ := compD (f := K1__law_loan) (v := 6) (fun b => [.ow b.ot, .va (.int (K : Int)), .va (.int (n : Int)), .va (.int m), .no, .no, .no, .no]) (fun _ x => ∃ y : Int, x = .int y ∧ 0 ≤ y ∧ y < m) (rngD 0 K) b (by rw [rngD_len]; omega) (fun _ => rfl) (fun _ => Nat.le_of_ble_eq_true rfl) (fun _ _ => rfl) fun d _ b => by
    obtain ⟨x, b', e, x0, x1⟩ := draw83 b hm (by omega)
    refine ⟨.int x, b', ?_, x, rfl, x0, x1⟩
    unfold K1__law_loan
    repeat (first | walk_at "ev" | simp only [e])
  obtain ⟨fr, rfl, fl, fI⟩ := rs_ints f2 f3
  -- held
  obtain ⟨rs1, b2, h1, h2, h3⟩ := compD (f := K3__law_loan) (v := 7) (fun b => [.ow b.ot, .va (.int (K : Int)), .va (.int (n : Int)), .va (.int m), .va (rwD fr), .no, .no, .no]) (fun _ x => ∃ y : List Int, x = rwD y ∧ y.length = K ∧ InR m y) (rngD 0 n) b1 (by rw [rngD_len]; omega) (fun _ => rfl) (fun _ => Nat.le_of_ble_eq_true rfl) (fun _ _ => rfl) fun d _ b => by
    obtain ⟨rs, b', g1, g2, g3⟩ := compD (f := K2__law_loan) (v := 6) (fun b => [.ow b.ot, .va (.int (K : Int)), .va (.int (n : Int)), .va (.int m), .va (rwD fr), .no, .no, .va d]) (fun _ x => ∃ y : Int, x = .int y ∧ 0 ≤ y ∧ y < m) (rngD 0 K) b (by rw [rngD_len]; omega) (fun _ => rfl) (fun _ => Nat.le_of_ble_eq_true rfl) (fun _ _ => rfl) fun d2 _ b => by
      obtain ⟨x, b', e, x0, x1⟩ := draw83 b hm (by omega)
      refine ⟨.int x, b', ?_, x, rfl, x0, x1⟩
      unfold K2__law_loan
      repeat (first | walk_at "ev" | simp only [e])
    obtain ⟨y, rfl, yl, yI⟩ := rs_ints g2 g3
    refine ⟨rwD y, b', ?_, y, rfl, by rw [yl, rngD_len], yI⟩
    unfold K3__law_loan
    repeat (first | walk_at "ev" | simp only [hrk, g1, reduceIte])
  obtain ⟨hd, rfl, hl, hI⟩ := rs_rows h2 h3
  obtain ⟨rs2, b3, n1, n2, n3⟩ := compD (f := K5__law_loan) (v := 7) (fun b => [.ow b.ot, .va (.int (K : Int)), .va (.int (n : Int)), .va (.int m), .va (rwD fr), .va (rwsD hd), .no, .no]) (fun _ x => ∃ y : List Int, x = rwD y ∧ y.length = K ∧ InR (m + 1) y) (rngD 0 n) b2 (by rw [rngD_len]; omega) (fun _ => rfl) (fun _ => Nat.le_of_ble_eq_true rfl) (fun _ _ => rfl) fun d _ b => by
    obtain ⟨rs, b', g1, g2, g3⟩ := compD (f := K4__law_loan) (v := 6) (fun b => [.ow b.ot, .va (.int (K : Int)), .va (.int (n : Int)), .va (.int m), .va (rwD fr), .va (rwsD hd), .no, .va d]) (fun _ x => ∃ y : Int, x = .int y ∧ 0 ≤ y ∧ y < m + 1) (rngD 0 K) b (by rw [rngD_len]; omega) (fun _ => rfl) (fun _ => Nat.le_of_ble_eq_true rfl) (fun _ _ => rfl) fun d2 _ b => by
      obtain ⟨x, b', e, x0, x1⟩ := draw83 b (m := m + 1) (by omega) (by omega)
      refine ⟨.int x, b', ?_, x, rfl, x0, x1⟩
      unfold K4__law_loan
      repeat (first | walk_at "ev" | simp only [e])
    obtain ⟨y, rfl, yl, yI⟩ := rs_ints g2 g3
    refine ⟨rwD y, b', ?_, y, rfl, by rw [yl, rngD_len], yI⟩
    unfold K5__law_loan
    repeat (first | walk_at "ev" | simp only [hrk, g1, reduceIte])
  obtain ⟨nd, rfl, nl, nI⟩ := rs_rows n2 n3
  rw [rngD_len] at fl hl nl
  refine ⟨⟨K, n, fr, hd, nd⟩, b3, ?_, ⟨fl, hl, nl, fun r hr => (hI r hr).1, fun r hr => (nI r hr).1, hK, hn⟩, rfl, rfl, ⟨fI, fun r hr => (hI r hr).2, fun r hr => (nI r hr).2⟩⟩
  show _ = some (Sl.va (.tuple [rwD fr, rwsD hd, rwsD nd]), _)
  unfold F__law_loan
  repeat (first | walk_at "ev" | simp only [hrk, hrn, f1, h1, n1, reduceIte])
end Fl

set_option Elab.async false
set_option linter.all false
set_option maxRecDepth 100000
set_option maxHeartbeats 4000000
set_option autoImplicit false
namespace Fl
open PySem PySem.Spec PyProof.Rows L2
local macro_rules | `(tactic| walk_at "ev") => `(tactic| simp -implicitDefEqProofs only [prE_ev, eVar_ev, varC_ev, eNm_ev, nmC_va, nmC_li, eC_ev, vw_va, vw_li, eOwn_ev, eIxO_ev, ixoC_ev, ixoC2_ev, ixoC3_ev, eOp_ev, opC_ev, opC2_ev, eUn_ev, unC_ev, bE_ev, bEC_ev, bB_ev, bBC_ev, bNot_ev, notC_ev, bAnd_ev, andC_t, andC_f, bOr_ev, orC_t, orC_f, bYes_ev, eAnd_ev, eandC_t, eandC_f, eOr_ev, eorC_t, eorC_f, eNot_ev, enotC_ev, eIf_ev, ifC_t, ifC_f, eTup_ev, tupC_ev, aNil_ev, aCons_ev, aconsC_ev, aconsC2_ev, oLst_ev, lstC_ev, oE_ev, oEC_ev, eFz_ev, fzC_va, fzC_li, oUn_ev, ounC_ev, prL_ev, eSl_ev, slC_ev, slC2_ev, slC3_ev, eSlO_ev, sloC_ev, sloC2_ev, sloC3_ev, sloC4_ev, lEnum_ev, enC_tup, enC_lst, pNo_ev, pSo_ev, psoC_ev, lOf_ev, lofC_tup, lofC_lst, lRng1_ev, rng1C_ev, lRng2_ev, rng2C_ev, rng2C2_ev, oRep_ev, repC_ev, repC2_ev, oCall_ev, callC_0, callC_1, callC_2, callC_3, callC_4, callC_5, callC_rv, callC_rv4, arSl_vl, arSl_rf, callC2_ev, arBack_nil, arBack_vl, arBack_rf, rNil_ev, rVal_ev, rvC_ev, rvC2_ev, rRef_ev, rrC_ev, oComp_ev, compC2_ev, wipeE_nil, wipeE_cons, backE_nil, backE_cons, gNm_ev, gTupF_ev, gsNil_ev, gsCons_ev, sNext_ev, sBreak_ev, sCont_ev, sSeq_ev, seqC_nx, seqC_bk, seqC_ct, seqC_rt, sSet_ev, setC_ev, sPar_ev, parC_ev, setAll_nil, setAll_cons, olNil_ev, olCons_ev, olC_ev, olC2_ev, sAsg_ev, asgC_ev, sIf_ev, sifC_t, sifC_f, sFor_ev, forC_ev, sDrop_ev, dropC_ev, sRet_ev, retC_ev, sRetN_ev, retnC_va, retnC_li, liOf_li, eMt1_ev, mt1C_ev, mt1C2_ev, mt1C3_ev, mt1C4_ev, eMt0_ev, mt0C_ev, sSub_ev, subC_ev, subC1_ev, subC2_ev, subC3_ev, subC4_ev, sAug_ev, augC_ev, augC2_ev, augC3_ev, mkF_ev, mkC_rt, mkC_nx, keepE_nil, keepE_va, keepE_ow', dTru_bool, dTru_int, dTru_none, dTru_list, dTru_tuple, dAdd_int, dAdd_tup, dAdd_lst, dIadd_int, dSub_int, dMul_int, dDiv_int, dMod_int, dNeg_int, dMin2_int, dMax2_int, dLtA_int, dLe_int, dLt_int, dGt_int, dGe_int, shaped_int, shaped_bool, shaped_none, eqv_int, eqv_bool, dEq_int, dNe_int, dEq_bool, dIs_none, dIsN_none, isNon_none, isNon_int, isNon_tup, isNon_bool, dLen_tup, dLen_lst, dIx_tup, dIx_lst, at0, at1, at2, at3, gExtend_lst, dTuple_lst, dTuple_tup, dList_lst, dList_tup, dInt_int, dSl_tup, dSl_lst, isTup, isLst, isBool, isIntB, isStr, beq_self_eq_true, decide_true, decide_false, isi_tup, isi_lst, isi_int, isi_bool, isi_str, isi_none, sz0, sz1, sz2, sz3, sz4, sz5, sz6, sz7, sz8, sz9, sz10, sz11, sz12, isOw_no, isOw_va, isOw_li, isOw_di, isOw_dt, isOw_ow, isOw_none, isOw_sl,
  Option.bind_some, Option.map_some, Option.bind_none, Option.map_none, Option.getD_some, Option.getD_none, List.getElem?_cons_zero, List.getElem?_cons_succ, List.set_cons_zero, List.set_cons_succ, List.map_cons, List.map_nil, List.headD_cons, List.headD_nil, List.tail_cons, List.tail_nil, List.isEmpty_nil, List.isEmpty_cons, List.length_nil, List.length_cons, List.nil_append, List.cons_append, List.replicate_succ, List.replicate_zero, Nat.reduceSub, Nat.reduceAdd, Bool.false_eq_true, if_false, if_true, reduceIte, Bool.not_true, Bool.not_false, and_true, true_and, and_self, Int.toNat_natCast, Int.zero_add, eCh_ev, chC_ev, chC2_ev, chC3_t, chC3_f, chC4_ev, lZip_ev, zipC_ev, zipC2_tup, zipC2_lst, dRev_tup, dRev_lst, dRngL_int, dRngT_int, oIte_ev, oiteC_li, oiteC_va, oCompO_ev, callC_rv2, callC_rv3])
local macro_rules | `(tactic| walk_at "evh") => `(tactic| simp -implicitDefEqProofs only [prE_ev, eVar_ev, varC_ev, eNm_ev, nmC_va, nmC_li, eC_ev, vw_va, vw_li, eOwn_ev, eIxO_ev, ixoC_ev, ixoC2_ev, ixoC3_ev, eOp_ev, opC_ev, opC2_ev, eUn_ev, unC_ev, bE_ev, bEC_ev, bB_ev, bBC_ev, bNot_ev, notC_ev, bAnd_ev, andC_t, andC_f, bOr_ev, orC_t, orC_f, bYes_ev, eAnd_ev, eandC_t, eandC_f, eOr_ev, eorC_t, eorC_f, eNot_ev, enotC_ev, eIf_ev, ifC_t, ifC_f, eTup_ev, tupC_ev, aNil_ev, aCons_ev, aconsC_ev, aconsC2_ev, oLst_ev, lstC_ev, oE_ev, oEC_ev, eFz_ev, fzC_va, fzC_li, oUn_ev, ounC_ev, prL_ev, eSl_ev, slC_ev, slC2_ev, slC3_ev, eSlO_ev, sloC_ev, sloC2_ev, sloC3_ev, sloC4_ev, lEnum_ev, enC_tup, enC_lst, pNo_ev, pSo_ev, psoC_ev, lOf_ev, lofC_tup, lofC_lst, lRng1_ev, rng1C_ev, lRng2_ev, rng2C_ev, rng2C2_ev, oRep_ev, repC_ev, repC2_ev, oCall_ev, callC_0, callC_1, callC_2, callC_3, callC_4, callC_5, callC_rv, callC_rv4, arSl_vl, arSl_rf, callC2_ev, arBack_nil, arBack_vl, arBack_rf, rNil_ev, rVal_ev, rvC_ev, rvC2_ev, rRef_ev, rrC_ev, oComp_ev, compC2_ev, wipeE_nil, wipeE_cons, backE_nil, backE_cons, gNm_ev, gTupF_ev, gsNil_ev, gsCons_ev, sNext_ev, sBreak_ev, sCont_ev, sSeq_ev, seqC_nx, seqC_bk, seqC_ct, seqC_rt, sSet_ev, setC_ev, sPar_ev, parC_ev, setAll_nil, setAll_cons, olNil_ev, olCons_ev, olC_ev, olC2_ev, sAsg_ev, asgC_ev, sIf_ev, sifC_t, sifC_f, sFor_ev, forC_ev, sDrop_ev, dropC_ev, sRet_ev, retC_ev, sRetN_ev, retnC_va, retnC_li, liOf_li, eMt1_ev, mt1C_ev, mt1C2_ev, mt1C3_ev, mt1C4_ev, eMt0_ev, mt0C_ev, sSub_ev, subC_ev, subC1_ev, subC2_ev, subC3_ev, subC4_ev, sAug_ev, augC_ev, augC2_ev, augC3_ev, mkF_ev, mkC_rt, mkC_nx, keepE_nil, keepE_va, keepE_ow', dTru_bool, dTru_int, dTru_none, dTru_list, dTru_tuple, dAdd_int, dAdd_tup, dAdd_lst, dIadd_int, dSub_int, dMul_int, dDiv_int, dMod_int, dNeg_int, dMin2_int, dMax2_int, dLtA_int, dLe_int, dLt_int, dGt_int, dGe_int, shaped_int, shaped_bool, shaped_none, eqv_int, eqv_bool, dEq_int, dNe_int, dEq_bool, dIs_none, dIsN_none, isNon_none, isNon_int, isNon_tup, isNon_bool, dLen_tup, dLen_lst, dIx_tup, dIx_lst, at0, at1, at2, at3, gExtend_lst, dTuple_lst, dTuple_tup, dList_lst, dList_tup, dInt_int, dSl_tup, dSl_lst, isTup, isLst, isBool, isIntB, isStr, beq_self_eq_true, decide_true, decide_false, isi_tup, isi_lst, isi_int, isi_bool, isi_str, isi_none, sz0, sz1, sz2, sz3, sz4, sz5, sz6, sz7, sz8, sz9, sz10, sz11, sz12, isOw_no, isOw_va, isOw_li, isOw_di, isOw_dt, isOw_ow, isOw_none, isOw_sl,
  Option.bind_some, Option.map_some, Option.bind_none, Option.map_none, Option.getD_some, Option.getD_none, List.getElem?_cons_zero, List.getElem?_cons_succ, List.set_cons_zero, List.set_cons_succ, List.map_cons, List.map_nil, List.headD_cons, List.headD_nil, List.tail_cons, List.tail_nil, List.isEmpty_nil, List.isEmpty_cons, List.length_nil, List.length_cons, List.nil_append, List.cons_append, List.replicate_succ, List.replicate_zero, Nat.reduceSub, Nat.reduceAdd, Bool.false_eq_true, if_false, if_true, reduceIte, Bool.not_true, Bool.not_false, and_true, true_and, and_self, Int.toNat_natCast, Int.zero_add, eCh_ev, chC_ev, chC2_ev, chC3_t, chC3_f, chC4_ev, lZip_ev, zipC_ev, zipC2_tup, zipC2_lst, dRev_tup, dRev_lst, dRngL_int, dRngT_int, oIte_ev, oiteC_li, oiteC_va, oCompO_ev, callC_rv2, callC_rv3, *])
/-! K83_Isl: is_loan, twice; askings. -/
def rowB (n : Int) (r : D) : Bool := isT r && (((itsT r).length : Int) == n && (itsT r).all (numB 0 99))
theorem thing_ok {k : Nat} {r : D} (n : Int) (hp : Plain k r) : F_is_thing_row [.va (.int n), .va r] = some (.va (.bool (rowB n r)), [.no, .no]) := by
  unfold F_is_thing_row
  cases r with
  | tuple ds =>
    obtain ⟨hl, j, rfl, hd⟩ := plain_items hp
    have hc := comp1v (f := K1_is_thing_row) (v := 2) (e := [.va (.int n), .va (.tuple ds), .no]) (fun d => .bool (numB 0 99 d)) ds hl rfl (Nat.le_of_ble_eq_true rfl) fun x hx => by
      have := isnum_ok 0 99 (hd x hx)
      unfold K1_is_thing_row
      repeat (first | walk_at "ev" | simp only [this])
    have ha := dAll_map (numB 0 99) ds
    show _ = some (Sl.va (.bool (((ds.length : Nat) : Int) == n && ds.all (numB 0 99))), _)
    cases hq : (((ds.length : Nat) : Int) == n) <;> repeat (first | walk_at "ev" | simp only [hq, hc, ha, Bool.true_and, Bool.false_and])
  | none => show _ = some (Sl.va (.bool false), _); walk_at "ev"
  | bool b => show _ = some (Sl.va (.bool false), _); walk_at "ev"
  | str _ => show _ = some (Sl.va (.bool false), _); walk_at "ev"
  | int _ => show _ = some (Sl.va (.bool false), _); walk_at "ev"
  | list _ => show _ = some (Sl.va (.bool false), _); walk_at "ev"
  | dict _ => cases k <;> exact hp.elim
theorem lrow_ok {k : Nat} {r : D} {A : List D} {B' C' : D} {s1 : Sl} (hp : Plain k r) : K2__law_is_loan [.va (.tuple [.tuple A, B', C']), s1, .va r] = some (.bool (rowB (A.length : Int) r), [.va (.tuple [.tuple A, B', C']), s1, .va r]) := by
  have hn := numbers_ok 100 hp
  have hn' : F__law_numbers [.va r, .va (.int 100)] = some (.va (.bool (isT r && (itsT r).all (numB 0 99))), [.no, .no]) := hn
  unfold K2__law_is_loan
  cases r with
  | tuple ds =>
    show _ = some (PyData.bool (((ds.length : Nat) : Int) == (A.length : Int) && ds.all (numB 0 99)), _)
    have hn2 : F__law_numbers [.va (.tuple ds), .va (.int 100)] = some (.va (.bool (ds.all (numB 0 99))), [.no, .no]) := hn'
    cases hq : (((ds.length : Nat) : Int) == (A.length : Int)) <;> cases ha : ds.all (numB 0 99) <;> rw [ha] at hn2 <;> repeat (first | walk_at "ev" | simp only [hq, hn2, Bool.true_and, Bool.false_and, Bool.and_true, Bool.and_false])
  | none => 
    have hn2 : F__law_numbers [.va .none, .va (.int 100)] = some (.va (.bool false), [.no, .no]) := hn'
    show _ = some (PyData.bool false, _)
    repeat (first | walk_at "ev" | simp only [hn2])
  | bool b =>
    have hn2 : F__law_numbers [.va (.bool b), .va (.int 100)] = some (.va (.bool false), [.no, .no]) := hn'
    show _ = some (PyData.bool false, _)
    repeat (first | walk_at "ev" | simp only [hn2])
  | str b =>
    have hn2 : F__law_numbers [.va (.str b), .va (.int 100)] = some (.va (.bool false), [.no, .no]) := hn'
    show _ = some (PyData.bool false, _)
    repeat (first | walk_at "ev" | simp only [hn2])
  | int b =>
    have hn2 : F__law_numbers [.va (.int b), .va (.int 100)] = some (.va (.bool false), [.no, .no]) := hn'
    show _ = some (PyData.bool false, _)
    repeat (first | walk_at "ev" | simp only [hn2])
  | list b =>
    have hn2 : F__law_numbers [.va (.list b), .va (.int 100)] = some (.va (.bool false), [.no, .no]) := hn'
    show _ = some (PyData.bool false, _)
    repeat (first | walk_at "ev" | simp only [hn2])
  | dict _ => cases k <;> exact hp.elim
def loan3B (A B C : List D) : Bool := decide ((1 : Int) ≤ (A.length : Int)) && (decide ((A.length : Int) ≤ 6) && (((B.length : Int) == (C.length : Int)) && (!decide ((12 : Int) < (B.length : Int)) && ((PyData.tuple A :: B) ++ C).all (rowB (A.length : Int)))))
def islB : D → Bool
  | .tuple [.tuple A, .tuple B, .tuple C] => loan3B A B C
  | _ => false
theorem three {α : Type} : ∀ {xs : List α}, xs.length = 3 → ∃ a b c, xs = [a, b, c]
  | [a, b, c], _ => ⟨a, b, c, rfl⟩
theorem isT_tup {d : D} (h : isT d = true) : ∃ ds, d = .tuple ds := by
  cases d with
  | tuple ds => exact ⟨ds, rfl⟩
  | none => cases h
  | bool _ => cases h
  | str _ => cases h
  | int _ => cases h
  | list _ => cases h
  | dict _ => cases h
theorem isTup_isT (d : D) : isTup d = isT d := by cases d <;> rfl
theorem islB_none {ds : List D} (h : ds.all isT = false) : islB (.tuple ds) = false := by
  unfold islB
  split
  · next A B C e => cases e; cases h
  · rfl
theorem islB_len {ds : List D} (h : ds.length ≠ 3) : islB (.tuple ds) = false := by
  unfold islB
  split
  · next A B C e => cases e; exact absurd rfl h
  · rfl
theorem isi_val {k : Nat} {d : D} (hp : Plain k d) : dIsi isTup d = some (.bool (isT d)) := by
  cases d with
  | dict _ => cases k <;> exact hp.elim
  | tuple ds => rfl
  | none => rfl
  | bool _ => rfl
  | str _ => rfl
  | int _ => rfl
  | list _ => rfl
theorem is_loan_ok {k : Nat} {v : D} (hp : Plain k v) : F_is_loan [.va v] = some (.va (.bool (islB v)), [.no]) := by
  cases hT : isT v with
  | false =>
    have e : islB v = false := by cases v <;> first | (cases hT; done) | rfl
    rw [e]
    unfold F_is_loan
    cases v <;> first | (cases hT; done) | (walk_at "ev"; done) | (cases k <;> exact hp.elim)
  | true =>
    obtain ⟨ds, rfl⟩ := isT_tup hT
    obtain ⟨hl, j, rfl, hd⟩ := plain_items hp
    by_cases h3 : ds.length = 3
    · have hc := comp1v (f := K1_is_loan) (v := 4) (e := [.va (.tuple ds), .no, .no, .no, .no, .no]) (fun d => .bool (isT d)) ds hl rfl (Nat.le_of_ble_eq_true rfl) fun x hx => by
        have := isi_val (hd x hx)
        unfold K1_is_loan
        repeat (first | walk_at "ev" | simp only [this])
      have ha := dAll_map isT ds
      have h3' : (((ds.length : Nat) : Int) == 3) = true := by rw [h3]; rfl
      cases hA : ds.all isT with
      | false =>
        rw [hA] at ha
        rw [islB_none hA]
        unfold F_is_loan
        repeat (first | walk_at "ev" | simp only [h3', hc, ha])
      | true =>
        rw [hA] at ha
        obtain ⟨a, b, c, rfl⟩ := three h3
        have hA' : isT a = true ∧ isT b = true ∧ isT c = true := by simpa using hA
        obtain ⟨A, rfl⟩ := isT_tup hA'.1
        obtain ⟨B, rfl⟩ := isT_tup hA'.2.1
        obtain ⟨C, rfl⟩ := isT_tup hA'.2.2
        obtain ⟨hAl, j', rfl, hAd⟩ := plain_items (hd _ List.mem_cons_self)
        have hA2 : Plain (j' + 1) (.tuple A) := hd _ List.mem_cons_self
        have hB : B.length ≤ 1000000 ∧ ∀ d ∈ B, Plain j' d := hd (.tuple B) (List.mem_cons_of_mem _ List.mem_cons_self)
        have hC : C.length ≤ 1000000 ∧ ∀ d ∈ C, Plain j' d := hd (.tuple C) (List.mem_cons_of_mem _ (List.mem_cons_of_mem _ List.mem_cons_self))
        have hall : ∀ d ∈ PyData.tuple A :: (B ++ C), Plain (j' + 1) d := fun d h => by
          rcases List.mem_cons.mp h with rfl | h
          · exact hA2
          · exact plain_up ((List.mem_append.mp h).elim (hB.2 d) (hC.2 d))
        have h33 : (((3 : Nat) : Int) == 3) = true := rfl
        generalize hX3 : List.map (fun d => PyData.bool (isT d)) [PyData.tuple A, .tuple B, .tuple C] = X3 at hc ha
        have hallA := dAll_map (rowB (A.length : Int)) (PyData.tuple A :: (B ++ C))
        show _ = some (Sl.va (.bool (loan3B A B C)), _)
        unfold loan3B F_is_loan
        cases b1 : decide ((1 : Int) ≤ (A.length : Int)) with
        | false => repeat (first | walk_at "ev" | simp only [hc, ha, h33, b1, Bool.false_and])
        | true =>
        cases b2 : decide ((A.length : Int) ≤ 6) with
        | false => repeat (first | walk_at "ev" | simp only [hc, ha, h33, b1, b2, Bool.false_and, Bool.true_and])
        | true =>
        cases b3 : ((B.length : Int) == (C.length : Int)) with
        | false => repeat (first | walk_at "ev" | simp only [hc, ha, h33, b1, b2, b3, Bool.false_and, Bool.true_and, Bool.not_false])
        | true =>
        cases b4 : decide ((12 : Int) < (B.length : Int)) with
        | true => repeat (first | walk_at "ev" | simp only [hc, ha, h33, b1, b2, b3, b4, Bool.false_and, Bool.true_and, Bool.not_false, Bool.not_true])
        | false =>
        have hB12 : B.length ≤ 12 := by have := of_decide_eq_false b4; omega
        have hC12 : C.length ≤ 12 := by have := eq_of_beq b3; omega
        have hz1 : 1 + B.length ≤ sizeLine := small1Me (by omega)
        have hz1' : 0 + 1 + B.length ≤ sizeLine := small1Me (by omega)
        have hz2 : B.length + 1 + C.length ≤ sizeLine := small1Me (by omega)
        have hc2 := comp1v (f := K2_is_loan) (v := 5) (e := [.va (.tuple [.tuple A, .tuple B, .tuple C]), .va (.tuple A), .va (.tuple B), .va (.tuple C), .no, .no]) (fun d => .bool (rowB (A.length : Int) d)) (.tuple A :: (B ++ C)) (by rw [List.length_cons, List.length_append]; omega) rfl (Nat.le_of_ble_eq_true rfl) fun x hx => by
          have := thing_ok (A.length : Int) (hall x hx)
          unfold K2_is_loan
          repeat (first | walk_at "ev" | simp only [this])
        generalize hX : List.map (fun d => PyData.bool (rowB (A.length : Int) d)) (.tuple A :: (B ++ C)) = X at *
        generalize hY : (PyData.tuple A :: (B ++ C)).all (rowB (A.length : Int)) = Y at *
        have hY' : ((PyData.tuple A :: B) ++ C).all (rowB (A.length : Int)) = Y := hY
        repeat (first | walk_at "ev" | simp only [hc, ha, h33, b1, b2, b3, b4, hz1, hz1', hz2, hc2, hallA, hY, hY', Bool.false_and, Bool.true_and, Bool.not_false, reduceIte])
    · have h3' : (((ds.length : Nat) : Int) == 3) = false := beq_eq_false_iff_ne.mpr (by omega)
      rw [islB_len h3]
      unfold F_is_loan
      repeat (first | walk_at "ev" | simp only [h3'])
theorem law_is_loan_ok {k : Nat} {v : D} (hp : Plain k v) : F__law_is_loan [.va v] = some (.va (.bool (islB v)), [.no]) := by
  cases hT : isT v with
  | false =>
    have e : islB v = false := by cases v <;> first | (cases hT; done) | rfl
    rw [e]
    unfold F__law_is_loan
    cases v <;> first | (cases hT; done) | (walk_at "ev"; done) | (cases k <;> exact hp.elim)
  | true =>
    obtain ⟨ds, rfl⟩ := isT_tup hT
    obtain ⟨hl, j, rfl, hd⟩ := plain_items hp
    by_cases h3 : ds.length = 3
    · have hc := comp1v (f := K1__law_is_loan) (v := 1) (e := [.va (.tuple ds), .no, .no]) (fun d => .bool (isT d)) ds hl rfl (Nat.le_of_ble_eq_true rfl) fun x hx => by
        have := isi_val (hd x hx)
        unfold K1__law_is_loan
        repeat (first | walk_at "ev" | simp only [this])
      have ha := dAll_map isT ds
      have h3' : (((ds.length : Nat) : Int) == 3) = true := by rw [h3]; rfl
      cases hA : ds.all isT with
      | false =>
        rw [hA] at ha
        rw [islB_none hA]
        unfold F__law_is_loan
        repeat (first | walk_at "ev" | simp only [h3', hc, ha])
      | true =>
        rw [hA] at ha
        obtain ⟨a, b, c, rfl⟩ := three h3
        have hA' : isT a = true ∧ isT b = true ∧ isT c = true := by simpa using hA
        obtain ⟨A, rfl⟩ := isT_tup hA'.1
        obtain ⟨B, rfl⟩ := isT_tup hA'.2.1
        obtain ⟨C, rfl⟩ := isT_tup hA'.2.2
        obtain ⟨hAl, j', rfl, hAd⟩ := plain_items (hd _ List.mem_cons_self)
        have hA2 : Plain (j' + 1) (.tuple A) := hd _ List.mem_cons_self
        have hB : B.length ≤ 1000000 ∧ ∀ d ∈ B, Plain j' d := hd (.tuple B) (List.mem_cons_of_mem _ List.mem_cons_self)
        have hC : C.length ≤ 1000000 ∧ ∀ d ∈ C, Plain j' d := hd (.tuple C) (List.mem_cons_of_mem _ (List.mem_cons_of_mem _ List.mem_cons_self))
        have hall : ∀ d ∈ PyData.tuple A :: (B ++ C), Plain (j' + 1) d := fun d h => by
          rcases List.mem_cons.mp h with rfl | h
          · exact hA2
          · exact plain_up ((List.mem_append.mp h).elim (hB.2 d) (hC.2 d))
        have h33 : (((3 : Nat) : Int) == 3) = true := rfl
        generalize hX3 : List.map (fun d => PyData.bool (isT d)) [PyData.tuple A, .tuple B, .tuple C] = X3 at hc ha
        have hallA := dAll_map (rowB (A.length : Int)) (PyData.tuple A :: (B ++ C))
        show _ = some (Sl.va (.bool (loan3B A B C)), _)
        unfold loan3B F__law_is_loan
        cases b1 : decide ((1 : Int) ≤ (A.length : Int)) with
        | false => repeat (first | walk_at "ev" | simp only [hc, ha, h33, b1, Bool.false_and])
        | true =>
        cases b2 : decide ((A.length : Int) ≤ 6) with
        | false => repeat (first | walk_at "ev" | simp only [hc, ha, h33, b1, b2, Bool.false_and, Bool.true_and])
        | true =>
        cases b3 : ((B.length : Int) == (C.length : Int)) with
        | false => repeat (first | walk_at "ev" | simp only [hc, ha, h33, b1, b2, b3, Bool.false_and, Bool.true_and, Bool.not_false])
        | true =>
        cases b4 : decide ((12 : Int) < (B.length : Int)) with
        | true => repeat (first | walk_at "ev" | simp only [hc, ha, h33, b1, b2, b3, b4, Bool.false_and, Bool.true_and, Bool.not_false, Bool.not_true])
        | false =>
        have hB12 : B.length ≤ 12 := by have := of_decide_eq_false b4; omega
        have hC12 : C.length ≤ 12 := by have := eq_of_beq b3; omega
        have hz1 : 1 + B.length ≤ sizeLine := small1Me (by omega)
        have hz1' : 0 + 1 + B.length ≤ sizeLine := small1Me (by omega)
        have hz2 : B.length + 1 + C.length ≤ sizeLine := small1Me (by omega)
        have hc2 := comp1v (f := K2__law_is_loan) (v := 2) (e := [.va (.tuple [.tuple A, .tuple B, .tuple C]), .no, .no]) (fun d => .bool (rowB (A.length : Int) d)) (.tuple A :: (B ++ C)) (by rw [List.length_cons, List.length_append]; omega) rfl (Nat.le_of_ble_eq_true rfl) fun x hx => lrow_ok (hall x hx)
        generalize hX : List.map (fun d => PyData.bool (rowB (A.length : Int) d)) (.tuple A :: (B ++ C)) = X at *
        generalize hY : (PyData.tuple A :: (B ++ C)).all (rowB (A.length : Int)) = Y at *
        have hY' : ((PyData.tuple A :: B) ++ C).all (rowB (A.length : Int)) = Y := hY
        repeat (first | walk_at "ev" | simp only [hc, ha, h33, b1, b2, b3, b4, hz1, hz1', hz2, hc2, hallA, hY, hY', Bool.false_and, Bool.true_and, Bool.not_false, reduceIte])
    · have h3' : (((ds.length : Nat) : Int) == 3) = false := beq_eq_false_iff_ne.mpr (by omega)
      rw [islB_len h3]
      unfold F__law_is_loan
      repeat (first | walk_at "ev" | simp only [h3'])
end Fl

set_option Elab.async false
set_option linter.all false
set_option maxRecDepth 100000
set_option maxHeartbeats 4000000
set_option autoImplicit false
namespace Fl
open PySem PySem.Spec PyProof.Rows L2
local macro_rules | `(tactic| walk_at "ev") => `(tactic| simp -implicitDefEqProofs only [prE_ev, eVar_ev, varC_ev, eNm_ev, nmC_va, nmC_li, eC_ev, vw_va, vw_li, eOwn_ev, eIxO_ev, ixoC_ev, ixoC2_ev, ixoC3_ev, eOp_ev, opC_ev, opC2_ev, eUn_ev, unC_ev, bE_ev, bEC_ev, bB_ev, bBC_ev, bNot_ev, notC_ev, bAnd_ev, andC_t, andC_f, bOr_ev, orC_t, orC_f, bYes_ev, eAnd_ev, eandC_t, eandC_f, eOr_ev, eorC_t, eorC_f, eNot_ev, enotC_ev, eIf_ev, ifC_t, ifC_f, eTup_ev, tupC_ev, aNil_ev, aCons_ev, aconsC_ev, aconsC2_ev, oLst_ev, lstC_ev, oE_ev, oEC_ev, eFz_ev, fzC_va, fzC_li, oUn_ev, ounC_ev, prL_ev, eSl_ev, slC_ev, slC2_ev, slC3_ev, eSlO_ev, sloC_ev, sloC2_ev, sloC3_ev, sloC4_ev, lEnum_ev, enC_tup, enC_lst, pNo_ev, pSo_ev, psoC_ev, lOf_ev, lofC_tup, lofC_lst, lRng1_ev, rng1C_ev, lRng2_ev, rng2C_ev, rng2C2_ev, oRep_ev, repC_ev, repC2_ev, oCall_ev, callC_0, callC_1, callC_2, callC_3, callC_4, callC_5, callC_rv, callC_rv4, arSl_vl, arSl_rf, callC2_ev, arBack_nil, arBack_vl, arBack_rf, rNil_ev, rVal_ev, rvC_ev, rvC2_ev, rRef_ev, rrC_ev, oComp_ev, compC2_ev, wipeE_nil, wipeE_cons, backE_nil, backE_cons, gNm_ev, gTupF_ev, gsNil_ev, gsCons_ev, sNext_ev, sBreak_ev, sCont_ev, sSeq_ev, seqC_nx, seqC_bk, seqC_ct, seqC_rt, sSet_ev, setC_ev, sPar_ev, parC_ev, setAll_nil, setAll_cons, olNil_ev, olCons_ev, olC_ev, olC2_ev, sAsg_ev, asgC_ev, sIf_ev, sifC_t, sifC_f, sFor_ev, forC_ev, sDrop_ev, dropC_ev, sRet_ev, retC_ev, sRetN_ev, retnC_va, retnC_li, liOf_li, eMt1_ev, mt1C_ev, mt1C2_ev, mt1C3_ev, mt1C4_ev, eMt0_ev, mt0C_ev, sSub_ev, subC_ev, subC1_ev, subC2_ev, subC3_ev, subC4_ev, sAug_ev, augC_ev, augC2_ev, augC3_ev, mkF_ev, mkC_rt, mkC_nx, keepE_nil, keepE_va, keepE_ow', dTru_bool, dTru_int, dTru_none, dTru_list, dTru_tuple, dAdd_int, dAdd_tup, dAdd_lst, dIadd_int, dSub_int, dMul_int, dDiv_int, dMod_int, dNeg_int, dMin2_int, dMax2_int, dLtA_int, dLe_int, dLt_int, dGt_int, dGe_int, shaped_int, shaped_bool, shaped_none, eqv_int, eqv_bool, dEq_int, dNe_int, dEq_bool, dIs_none, dIsN_none, isNon_none, isNon_int, isNon_tup, isNon_bool, dLen_tup, dLen_lst, dIx_tup, dIx_lst, at0, at1, at2, at3, gExtend_lst, dTuple_lst, dTuple_tup, dList_lst, dList_tup, dInt_int, dSl_tup, dSl_lst, isTup, isLst, isBool, isIntB, isStr, beq_self_eq_true, decide_true, decide_false, isi_tup, isi_lst, isi_int, isi_bool, isi_str, isi_none, sz0, sz1, sz2, sz3, sz4, sz5, sz6, sz7, sz8, sz9, sz10, sz11, sz12, isOw_no, isOw_va, isOw_li, isOw_di, isOw_dt, isOw_ow, isOw_none, isOw_sl,
  Option.bind_some, Option.map_some, Option.bind_none, Option.map_none, Option.getD_some, Option.getD_none, List.getElem?_cons_zero, List.getElem?_cons_succ, List.set_cons_zero, List.set_cons_succ, List.map_cons, List.map_nil, List.headD_cons, List.headD_nil, List.tail_cons, List.tail_nil, List.isEmpty_nil, List.isEmpty_cons, List.length_nil, List.length_cons, List.nil_append, List.cons_append, List.replicate_succ, List.replicate_zero, Nat.reduceSub, Nat.reduceAdd, Bool.false_eq_true, if_false, if_true, reduceIte, Bool.not_true, Bool.not_false, and_true, true_and, and_self, Int.toNat_natCast, Int.zero_add, eCh_ev, chC_ev, chC2_ev, chC3_t, chC3_f, chC4_ev, lZip_ev, zipC_ev, zipC2_tup, zipC2_lst, dRev_tup, dRev_lst, dRngL_int, dRngT_int, oIte_ev, oiteC_li, oiteC_va, oCompO_ev, callC_rv2, callC_rv3])
local macro_rules | `(tactic| walk_at "evh") => `(tactic| simp -implicitDefEqProofs only [prE_ev, eVar_ev, varC_ev, eNm_ev, nmC_va, nmC_li, eC_ev, vw_va, vw_li, eOwn_ev, eIxO_ev, ixoC_ev, ixoC2_ev, ixoC3_ev, eOp_ev, opC_ev, opC2_ev, eUn_ev, unC_ev, bE_ev, bEC_ev, bB_ev, bBC_ev, bNot_ev, notC_ev, bAnd_ev, andC_t, andC_f, bOr_ev, orC_t, orC_f, bYes_ev, eAnd_ev, eandC_t, eandC_f, eOr_ev, eorC_t, eorC_f, eNot_ev, enotC_ev, eIf_ev, ifC_t, ifC_f, eTup_ev, tupC_ev, aNil_ev, aCons_ev, aconsC_ev, aconsC2_ev, oLst_ev, lstC_ev, oE_ev, oEC_ev, eFz_ev, fzC_va, fzC_li, oUn_ev, ounC_ev, prL_ev, eSl_ev, slC_ev, slC2_ev, slC3_ev, eSlO_ev, sloC_ev, sloC2_ev, sloC3_ev, sloC4_ev, lEnum_ev, enC_tup, enC_lst, pNo_ev, pSo_ev, psoC_ev, lOf_ev, lofC_tup, lofC_lst, lRng1_ev, rng1C_ev, lRng2_ev, rng2C_ev, rng2C2_ev, oRep_ev, repC_ev, repC2_ev, oCall_ev, callC_0, callC_1, callC_2, callC_3, callC_4, callC_5, callC_rv, callC_rv4, arSl_vl, arSl_rf, callC2_ev, arBack_nil, arBack_vl, arBack_rf, rNil_ev, rVal_ev, rvC_ev, rvC2_ev, rRef_ev, rrC_ev, oComp_ev, compC2_ev, wipeE_nil, wipeE_cons, backE_nil, backE_cons, gNm_ev, gTupF_ev, gsNil_ev, gsCons_ev, sNext_ev, sBreak_ev, sCont_ev, sSeq_ev, seqC_nx, seqC_bk, seqC_ct, seqC_rt, sSet_ev, setC_ev, sPar_ev, parC_ev, setAll_nil, setAll_cons, olNil_ev, olCons_ev, olC_ev, olC2_ev, sAsg_ev, asgC_ev, sIf_ev, sifC_t, sifC_f, sFor_ev, forC_ev, sDrop_ev, dropC_ev, sRet_ev, retC_ev, sRetN_ev, retnC_va, retnC_li, liOf_li, eMt1_ev, mt1C_ev, mt1C2_ev, mt1C3_ev, mt1C4_ev, eMt0_ev, mt0C_ev, sSub_ev, subC_ev, subC1_ev, subC2_ev, subC3_ev, subC4_ev, sAug_ev, augC_ev, augC2_ev, augC3_ev, mkF_ev, mkC_rt, mkC_nx, keepE_nil, keepE_va, keepE_ow', dTru_bool, dTru_int, dTru_none, dTru_list, dTru_tuple, dAdd_int, dAdd_tup, dAdd_lst, dIadd_int, dSub_int, dMul_int, dDiv_int, dMod_int, dNeg_int, dMin2_int, dMax2_int, dLtA_int, dLe_int, dLt_int, dGt_int, dGe_int, shaped_int, shaped_bool, shaped_none, eqv_int, eqv_bool, dEq_int, dNe_int, dEq_bool, dIs_none, dIsN_none, isNon_none, isNon_int, isNon_tup, isNon_bool, dLen_tup, dLen_lst, dIx_tup, dIx_lst, at0, at1, at2, at3, gExtend_lst, dTuple_lst, dTuple_tup, dList_lst, dList_tup, dInt_int, dSl_tup, dSl_lst, isTup, isLst, isBool, isIntB, isStr, beq_self_eq_true, decide_true, decide_false, isi_tup, isi_lst, isi_int, isi_bool, isi_str, isi_none, sz0, sz1, sz2, sz3, sz4, sz5, sz6, sz7, sz8, sz9, sz10, sz11, sz12, isOw_no, isOw_va, isOw_li, isOw_di, isOw_dt, isOw_ow, isOw_none, isOw_sl,
  Option.bind_some, Option.map_some, Option.bind_none, Option.map_none, Option.getD_some, Option.getD_none, List.getElem?_cons_zero, List.getElem?_cons_succ, List.set_cons_zero, List.set_cons_succ, List.map_cons, List.map_nil, List.headD_cons, List.headD_nil, List.tail_cons, List.tail_nil, List.isEmpty_nil, List.isEmpty_cons, List.length_nil, List.length_cons, List.nil_append, List.cons_append, List.replicate_succ, List.replicate_zero, Nat.reduceSub, Nat.reduceAdd, Bool.false_eq_true, if_false, if_true, reduceIte, Bool.not_true, Bool.not_false, and_true, true_and, and_self, Int.toNat_natCast, Int.zero_add, eCh_ev, chC_ev, chC2_ev, chC3_t, chC3_f, chC4_ev, lZip_ev, zipC_ev, zipC2_tup, zipC2_lst, dRev_tup, dRev_lst, dRngL_int, dRngT_int, oIte_ev, oiteC_li, oiteC_va, oCompO_ev, callC_rv2, callC_rv3, *])
/-! K83_Ask: a drawn loan is one; askings. -/
theorem row_yes {K : Nat} {m : Int} {r : List Int} (hl : r.length = K) (h : InR m r) (hm : m ≤ 100) : rowB (K : Int) (rwD r) = true := by
  show (((iL r).length : Int) == (K : Int) && (iL r).all (numB 0 99)) = true
  rw [iL_len, hl, beq_self_eq_true, Bool.true_and, List.all_eq_true]
  intro d hd
  obtain ⟨i, hi, rfl⟩ := List.mem_map.mp hd
  have := h i hi
  show (decide (0 ≤ i) && decide (i ≤ 99)) = true
  rw [decide_eq_true this.1, decide_eq_true (by omega)]; rfl
theorem lo_plain {l : Loan} (w : WL l) : Plain 3 (loD l) := by
  have hm := w.m
  have hk := w.k
  have hrow : ∀ r : List Int, r.length = l.kk → Plain 1 (rwD r) := fun r h => plain_ints (by omega)
  have hrows : ∀ rs : List (List Int), rs.length = l.nn → (∀ r ∈ rs, r.length = l.kk) → Plain 2 (rwsD rs) := fun rs h1 h2 => ⟨by rw [List.length_map]; omega, fun d hd => by
    obtain ⟨r, hr, rfl⟩ := List.mem_map.mp hd
    exact hrow r (h2 r hr)⟩
  refine ⟨Nat.le_of_ble_eq_true rfl, fun d hd => ?_⟩
  simp only [List.mem_cons, List.not_mem_nil, or_false] at hd
  rcases hd with rfl | rfl | rfl
  · exact plain_up (hrow _ w.f)
  · exact hrows _ w.h w.hr
  · exact hrows _ w.n w.nr
theorem isl_yes {l : Loan} (w : WL l) {mh mn : Int} (bl : BL l mh mn) (h1 : mh ≤ 100) (h2 : mn ≤ 100) (hk : 1 ≤ l.kk ∧ l.kk ≤ 6) (hn : l.nn ≤ 12) : islB (loD l) = true := by
  show loan3B (iL l.free) (l.held.map rwD) (l.need.map rwD) = true
  unfold loan3B
  rw [iL_len, List.length_map, List.length_map, w.f, w.h, w.n, decide_eq_true (by omega), decide_eq_true (by omega), beq_self_eq_true, decide_eq_false (by omega)]
  simp only [Bool.true_and, Bool.not_false]
  rw [List.all_eq_true]
  intro d hd
  rcases List.mem_append.mp hd with hd | hd
  · rcases List.mem_cons.mp hd with rfl | hd
    · exact row_yes w.f bl.f h1
    · obtain ⟨r, hr, rfl⟩ := List.mem_map.mp hd
      exact row_yes (w.hr r hr) (bl.h r hr) h1
  · obtain ⟨r, hr, rfl⟩ := List.mem_map.mp hd
    exact row_yes (w.nr r hr) (bl.n r hr) h2
theorem lo_it {l : Loan} (w : WL l) {mh mn : Int} (bl : BL l mh mn) (h1 : mh ≤ 100) (h2 : mn ≤ 100) : IT 3 (loD l) := by
  have hm := w.m
  have hk := w.k
  have hrow : ∀ (m : Int) (r : List Int), m ≤ 100 → r.length = l.kk → InR m r → IT 1 (rwD r) := fun m r hm h hi => ⟨by rw [iL_len]; omega, fun d hd => by
    obtain ⟨i, hi', rfl⟩ := List.mem_map.mp hd
    have := hi i hi'
    exact ⟨this.1, by omega⟩⟩
  refine ⟨Nat.le_of_ble_eq_true rfl, fun d hd => ?_⟩
  simp only [List.mem_cons, List.not_mem_nil, or_false] at hd
  rcases hd with rfl | rfl | rfl
  · exact it_up (hrow _ _ h1 w.f bl.f)
  · exact ⟨by rw [List.length_map, w.h]; omega, fun d hd => by
      obtain ⟨r, hr, rfl⟩ := List.mem_map.mp hd
      exact hrow _ r h1 (w.hr r hr) (bl.h r hr)⟩
  · exact ⟨by rw [List.length_map, w.n]; omega, fun d hd => by
      obtain ⟨r, hr, rfl⟩ := List.mem_map.mp hd
      exact hrow _ r h2 (w.nr r hr) (bl.n r hr)⟩
theorem bl_nn {l : Loan} (w : WL l) {mh mn : Int} (bl : BL l mh mn) : NonNeg l := fun j k hj hk => by
  obtain ⟨h1, h2⟩ := w.H hj
  have hm := List.mem_of_getElem? h1
  have hk' : k < (l.H j).length := by omega
  rw [List.getD_eq_getElem?_getD, List.getElem?_eq_getElem hk']
  exact (bl.h _ hm _ (List.getElem_mem hk')).1
theorem dEq_str {a b : Str} (ha : SeqAt.shaped (.str a) = true) (hb : SeqAt.shaped (.str b) = true) : dEq (.str a) (.str b) = some (.bool (a == b)) := by
  unfold dEq
  rw [if_pos ⟨ha, hb⟩, PyData.eqv]
theorem sh_order : SeqAt.shaped (.str "order") = true := by decide +kernel
theorem sh_stuck : SeqAt.shaped (.str "stuck") = true := by decide +kernel
theorem so_eq : dEq (.str "stuck") (.str "order") = some (.bool false) := by rw [dEq_str sh_stuck sh_order]; exact congrArg (fun b => some (PyData.bool b)) (by decide +kernel)
theorem oo_eq : dEq (.str "order") (.str "order") = some (.bool true) := by rw [dEq_str sh_order sh_order]; exact congrArg (fun b => some (PyData.bool b)) (by decide +kernel)
theorem os_eq : dEq (.str "order") (.str "stuck") = some (.bool false) := by rw [dEq_str sh_order sh_stuck]; exact congrArg (fun b => some (PyData.bool b)) (by decide +kernel)
theorem ss_eq : dEq (.str "stuck") (.str "stuck") = some (.bool true) := by rw [dEq_str sh_stuck sh_stuck]; exact congrArg (fun b => some (PyData.bool b)) (by decide +kernel)
/-! askings -/
def rowSub (K : Nat) (f a : List Int) : List Int := (List.range K).map fun k => f.getD k 0 - a.getD k 0
theorem rowSub_len (K : Nat) (f a : List Int) : (rowSub K f a).length = K := by unfold rowSub; rw [List.length_map, List.length_range]
def ask (l : Loan) (h : Nat) (row : List Int) : Loan := ⟨l.kk, l.nn, rowSub l.kk l.free row, l.held.set h (rowAdd l.kk (l.H h) row), l.need.set h (rowSub l.kk (l.N h) row)⟩
theorem mem_set {α : Type} {xs : List α} {i : Nat} {v x : α} (h : x ∈ xs.set i v) : x ∈ xs ∨ x = v := List.mem_or_eq_of_mem_set h
theorem ask_wl {l : Loan} (w : WL l) {h : Nat} {row : List Int} : WL (ask l h row) := by
  refine ⟨rowSub_len _ _ _, (List.length_set ..).trans w.h, (List.length_set ..).trans w.n, fun r hr => ?_, fun r hr => ?_, w.k, w.m⟩
  · rcases mem_set hr with hr | rfl
    · exact w.hr r hr
    · exact rowAdd_len _ _ _
  · rcases mem_set hr with hr | rfl
    · exact w.nr r hr
    · exact rowSub_len _ _ _
theorem ask_H {l : Loan} (w : WL l) {h : Nat} {row : List Int} (hh : h < l.nn) (j : Nat) : (ask l h row).H j = if j = h then rowAdd l.kk (l.H h) row else l.H j := by
  show (l.held.set h _).getD j [] = _
  rw [List.getD_eq_getElem?_getD]
  by_cases e : j = h
  · subst e
    rw [if_pos rfl, List.getElem?_set_self (by rw [w.h]; exact hh)]; rfl
  · rw [if_neg e, List.getElem?_set_ne (Ne.symm e)]
    show _ = l.held.getD j []
    rw [List.getD_eq_getElem?_getD]
theorem ask_N {l : Loan} (w : WL l) {h : Nat} {row : List Int} (hh : h < l.nn) (j : Nat) : (ask l h row).N j = if j = h then rowSub l.kk (l.N h) row else l.N j := by
  show (l.need.set h _).getD j [] = _
  rw [List.getD_eq_getElem?_getD]
  by_cases e : j = h
  · subst e
    rw [if_pos rfl, List.getElem?_set_self (by rw [w.n]; exact hh)]; rfl
  · rw [if_neg e, List.getElem?_set_ne (Ne.symm e)]
    show _ = l.need.getD j []
    rw [List.getD_eq_getElem?_getD]
theorem set_cut {α : Type} {xs : List α} {h : Nat} {v : α} (hh : h < xs.length) : (cutD xs none (some (h : Int)) ++ [v]) ++ cutD xs (some ((h : Int) + 1)) none = xs.set h v := by
  have e : ((h : Int) + 1) = ((h + 1 : Nat) : Int) := by omega
  rw [e, cutD_to, cutD_from, List.append_assoc, List.set_eq_take_append_cons_drop, if_pos hh]
  rfl
theorem zip_sub (a b : List Int) {K : Nat} (ha : a.length = K) (hb : b.length = K) : ((a.zip b).map fun p => PyData.int (p.1 - p.2)) = iL (rowSub K a b) := by
  unfold rowSub iL
  rw [← zip_op (fun x y => x - y) ha hb, List.map_map]; rfl
theorem map_set {α β : Type} (f : α → β) (xs : List α) (i : Nat) (v : α) : (xs.set i v).map f = (xs.map f).set i (f v) := by rw [List.map_set]
theorem after_ok {l : Loan} (w : WL l) {h : Nat} (hh : h < l.nn) {row : List Int} (hr : row.length = l.kk) : F_after_asking [.va (loD l), .va (.int (h : Int)), .va (rwD row)] = some (.va (loD (ask l h row)), [.no, .no, .no]) := by
  have hk := w.k
  have hm := w.m
  have hN := w.N hh
  have hH := w.H hh
  have hlo : loD l = .tuple [rwD l.free, rwsD l.held, rwsD l.need] := rfl
  have hla : loD (ask l h row) = .tuple [rwD (rowSub l.kk l.free row), .tuple ((l.held.map rwD).set h (rwD (rowAdd l.kk (l.H h) row))), .tuple ((l.need.map rwD).set h (rwD (rowSub l.kk (l.N h) row)))] := by
    show PyData.tuple [_, PyData.tuple ((l.held.set h _).map rwD), PyData.tuple ((l.need.set h _).map rwD)] = _
    rw [map_set, map_set]; rfl
  have hz1 := zip_rows (l.N h) row
  have hz2 := zip_rows l.free row
  have hc1 := comp2y (f := K1_after_asking) (v := 8) (w := 7) (e := [.va (loD l), .va (.int (h : Int)), .va (rwD row), .va (rwD l.free), .va (rwsD l.held), .va (rwsD l.need), .no, .no, .no, .no, .no]) (fun p : Int × Int => PyData.int p.1) (fun p => PyData.int p.2) (fun p => PyData.int (p.1 - p.2)) ((l.N h).zip row) (by rw [List.length_zip]; omega) (by decide) rfl rfl (Nat.le_of_ble_eq_true rfl) (Nat.le_of_ble_eq_true rfl) (fun p _ => by unfold K1_after_asking; walk_at "ev")
  rw [zip_sub _ _ hN.2 hr] at hc1
  have had := added_ok hH.2 hr w.k
  have ha1 := need_at w hh
  have ha2 := held_at w hh
  have hs1 := set_cut (xs := l.held.map rwD) (h := h) (v := rwD (rowAdd l.kk (l.H h) row)) (by rw [List.length_map, w.h]; exact hh)
  have hs2 := set_cut (xs := l.need.map rwD) (h := h) (v := rwD (rowSub l.kk (l.N h) row)) (by rw [List.length_map, w.n]; exact hh)
  have hlh : (l.held.map rwD).length = l.nn := by rw [List.length_map, w.h]
  have hln : (l.need.map rwD).length = l.nn := by rw [List.length_map, w.n]
  have q1 : (cutD (l.held.map rwD) none (some (h : Int))).length + 1 ≤ sizeLine := small1Me (by have := (cut_sub (l.held.map rwD) none (some (h : Int))).1; omega)
  have q2 : (cutD (l.need.map rwD) none (some (h : Int))).length + 1 ≤ sizeLine := small1Me (by have := (cut_sub (l.need.map rwD) none (some (h : Int))).1; omega)
  have q3 : (cutD (l.held.map rwD) none (some (h : Int)) ++ [rwD (rowAdd l.kk (l.H h) row)]).length + (cutD (l.held.map rwD) (some ((h : Int) + 1)) none).length ≤ sizeLine := small1Me (by
    rw [← List.length_append, hs1, List.length_set]; omega)
  have q4 : (cutD (l.need.map rwD) none (some (h : Int)) ++ [rwD (rowSub l.kk (l.N h) row)]).length + (cutD (l.need.map rwD) (some ((h : Int) + 1)) none).length ≤ sizeLine := small1Me (by
    rw [← List.length_append, hs2, List.length_set]; omega)
  have hc2 := comp2y (f := K2_after_asking) (v := 9) (w := 10) (e := [.va (loD l), .va (.int (h : Int)), .va (rwD row), .va (rwD l.free), .va (.tuple ((l.held.map rwD).set h (rwD (rowAdd l.kk (l.H h) row)))), .va (.tuple ((l.need.map rwD).set h (rwD (rowSub l.kk (l.N h) row)))), .va (rwD (rowSub l.kk (l.N h) row)), .va (rwD (rowAdd l.kk (l.H h) row)), .no, .no, .no]) (fun p : Int × Int => PyData.int p.1) (fun p => PyData.int p.2) (fun p => PyData.int (p.1 - p.2)) (l.free.zip row) (by have := w.f; rw [List.length_zip]; omega) (by decide) rfl rfl (Nat.le_of_ble_eq_true rfl) (Nat.le_of_ble_eq_true rfl) (fun p _ => by unfold K2_after_asking; walk_at "ev")
  rw [zip_sub _ _ w.f hr] at hc2
  rw [hla]
  rw [hlo] at hc1 hc2 ⊢
  unfold F_after_asking
  repeat (first | walk_at "ev" | simp only [hz1, hz2, hc1, had, ha1, ha2, q1, q2, q3, q4, hs1, hs2, hc2, reduceIte])
theorem may_ok {l : Loan} (w : WL l) {h : Nat} (hh : h < l.nn) {row : List Int} (hr : row.length = l.kk) : F_may_grant [.va (loD l), .va (.int (h : Int)), .va (rwD row)] = some (.va (.bool (rowFit l.kk row l.free && (grd (ask l h row)).1)), [.no, .no, .no]) := by
  have hlo : loD l = .tuple [rwD l.free, rwsD l.held, rwsD l.need] := rfl
  have hf := fits_ok hr w.f w.k
  have ha := after_ok w hh hr
  have hs := safe_ok (ask_wl w (h := h) (row := row))
  rw [hlo] at ha ⊢
  unfold F_may_grant
  cases hx : rowFit l.kk row l.free with
  | false =>
    rw [hx] at hf
    repeat (first | walk_at "ev" | simp only [hf, Bool.false_and])
  | true =>
    rw [hx] at hf
    cases hg : (grd (ask l h row)).1 with
    | false =>
      have hsd : sdO (grd (ask l h row)) = .tuple [.str "stuck", nT (grd (ask l h row)).2] := by unfold sdO; rw [hg]; rfl
      rw [hsd] at hs
      have he := so_eq
      repeat (first | walk_at "ev" | simp only [hf, ha, hs, he, Bool.true_and])
    | true =>
      have hsd : sdO (grd (ask l h row)) = .tuple [.str "order", nT (grd (ask l h row)).2] := by unfold sdO; rw [hg]; rfl
      rw [hsd] at hs
      have he := oo_eq
      repeat (first | walk_at "ev" | simp only [hf, ha, hs, he, Bool.true_and])
end Fl

set_option Elab.async false
set_option linter.all false
set_option maxRecDepth 100000
set_option maxHeartbeats 4000000
set_option autoImplicit false
namespace Fl
open PySem PySem.Spec PyProof.Rows L2
theorem gset_ne {e : Ev} {i j : Nat} {s : Sl} (h : (i == j) = false) : (e.set i s)[j]? = e[j]? := List.getElem?_set_ne (by simpa using h)
theorem gset_self {e : Ev} {i : Nat} {s : Sl} (h : i < e.length) : (e.set i s)[i]? = some s := List.getElem?_set_self h
local macro_rules | `(tactic| walk_at "ev") => `(tactic| simp -implicitDefEqProofs only [prE_ev, eVar_ev, varC_ev, eNm_ev, nmC_va, nmC_li, eC_ev, vw_va, vw_li, eOwn_ev, eIxO_ev, ixoC_ev, ixoC2_ev, ixoC3_ev, eOp_ev, opC_ev, opC2_ev, eUn_ev, unC_ev, bE_ev, bEC_ev, bB_ev, bBC_ev, bNot_ev, notC_ev, bAnd_ev, andC_t, andC_f, bOr_ev, orC_t, orC_f, bYes_ev, eAnd_ev, eandC_t, eandC_f, eOr_ev, eorC_t, eorC_f, eNot_ev, enotC_ev, eIf_ev, ifC_t, ifC_f, eTup_ev, tupC_ev, aNil_ev, aCons_ev, aconsC_ev, aconsC2_ev, oLst_ev, lstC_ev, oE_ev, oEC_ev, eFz_ev, fzC_va, fzC_li, oUn_ev, ounC_ev, prL_ev, eSl_ev, slC_ev, slC2_ev, slC3_ev, eSlO_ev, sloC_ev, sloC2_ev, sloC3_ev, sloC4_ev, lEnum_ev, enC_tup, enC_lst, pNo_ev, pSo_ev, psoC_ev, lOf_ev, lofC_tup, lofC_lst, lRng1_ev, rng1C_ev, lRng2_ev, rng2C_ev, rng2C2_ev, oRep_ev, repC_ev, repC2_ev, oCall_ev, callC_0, callC_1, callC_2, callC_3, callC_4, callC_5, callC_rv, callC_rv4, arSl_vl, arSl_rf, callC2_ev, arBack_nil, arBack_vl, arBack_rf, rNil_ev, rVal_ev, rvC_ev, rvC2_ev, rRef_ev, rrC_ev, oComp_ev, compC2_ev, wipeE_nil, wipeE_cons, backE_nil, backE_cons, gNm_ev, gTupF_ev, gsNil_ev, gsCons_ev, sNext_ev, sBreak_ev, sCont_ev, sSeq_ev, seqC_nx, seqC_bk, seqC_ct, seqC_rt, sSet_ev, setC_ev, sPar_ev, parC_ev, setAll_nil, setAll_cons, olNil_ev, olCons_ev, olC_ev, olC2_ev, sAsg_ev, asgC_ev, sIf_ev, sifC_t, sifC_f, sFor_ev, forC_ev, sDrop_ev, dropC_ev, sRet_ev, retC_ev, sRetN_ev, retnC_va, retnC_li, liOf_li, eMt1_ev, mt1C_ev, mt1C2_ev, mt1C3_ev, mt1C4_ev, eMt0_ev, mt0C_ev, sSub_ev, subC_ev, subC1_ev, subC2_ev, subC3_ev, subC4_ev, sAug_ev, augC_ev, augC2_ev, augC3_ev, mkF_ev, mkC_rt, mkC_nx, keepE_nil, keepE_va, keepE_ow', dTru_bool, dTru_int, dTru_none, dTru_list, dTru_tuple, dAdd_int, dAdd_tup, dAdd_lst, dIadd_int, dSub_int, dMul_int, dDiv_int, dMod_int, dNeg_int, dMin2_int, dMax2_int, dLtA_int, dLe_int, dLt_int, dGt_int, dGe_int, shaped_int, shaped_bool, shaped_none, eqv_int, eqv_bool, dEq_int, dNe_int, dEq_bool, dIs_none, dIsN_none, isNon_none, isNon_int, isNon_tup, isNon_bool, dLen_tup, dLen_lst, dIx_tup, dIx_lst, at0, at1, at2, at3, gExtend_lst, dTuple_lst, dTuple_tup, dList_lst, dList_tup, dInt_int, dSl_tup, dSl_lst, isTup, isLst, isBool, isIntB, isStr, beq_self_eq_true, decide_true, decide_false, isi_tup, isi_lst, isi_int, isi_bool, isi_str, isi_none, sz0, sz1, sz2, sz3, sz4, sz5, sz6, sz7, sz8, sz9, sz10, sz11, sz12, isOw_no, isOw_va, isOw_li, isOw_di, isOw_dt, isOw_ow, isOw_none, isOw_sl,
  Option.bind_some, Option.map_some, Option.bind_none, Option.map_none, Option.getD_some, Option.getD_none, List.getElem?_cons_zero, List.getElem?_cons_succ, List.set_cons_zero, List.set_cons_succ, List.map_cons, List.map_nil, List.headD_cons, List.headD_nil, List.tail_cons, List.tail_nil, List.isEmpty_nil, List.isEmpty_cons, List.length_nil, List.length_cons, List.nil_append, List.cons_append, List.replicate_succ, List.replicate_zero, Nat.reduceSub, Nat.reduceAdd, Bool.false_eq_true, if_false, if_true, reduceIte, Bool.not_true, Bool.not_false, and_true, true_and, and_self, Int.toNat_natCast, Int.zero_add, eCh_ev, chC_ev, chC2_ev, chC3_t, chC3_f, chC4_ev, lZip_ev, zipC_ev, zipC2_tup, zipC2_lst, dRev_tup, dRev_lst, dRngL_int, dRngT_int, oIte_ev, oiteC_li, oiteC_va, oCompO_ev, callC_rv2, callC_rv3, gset_ne, gset_self, List.length_set, Nat.reduceBEq, Nat.reduceLT])
local macro_rules | `(tactic| walk_at "evh") => `(tactic| simp -implicitDefEqProofs only [prE_ev, eVar_ev, varC_ev, eNm_ev, nmC_va, nmC_li, eC_ev, vw_va, vw_li, eOwn_ev, eIxO_ev, ixoC_ev, ixoC2_ev, ixoC3_ev, eOp_ev, opC_ev, opC2_ev, eUn_ev, unC_ev, bE_ev, bEC_ev, bB_ev, bBC_ev, bNot_ev, notC_ev, bAnd_ev, andC_t, andC_f, bOr_ev, orC_t, orC_f, bYes_ev, eAnd_ev, eandC_t, eandC_f, eOr_ev, eorC_t, eorC_f, eNot_ev, enotC_ev, eIf_ev, ifC_t, ifC_f, eTup_ev, tupC_ev, aNil_ev, aCons_ev, aconsC_ev, aconsC2_ev, oLst_ev, lstC_ev, oE_ev, oEC_ev, eFz_ev, fzC_va, fzC_li, oUn_ev, ounC_ev, prL_ev, eSl_ev, slC_ev, slC2_ev, slC3_ev, eSlO_ev, sloC_ev, sloC2_ev, sloC3_ev, sloC4_ev, lEnum_ev, enC_tup, enC_lst, pNo_ev, pSo_ev, psoC_ev, lOf_ev, lofC_tup, lofC_lst, lRng1_ev, rng1C_ev, lRng2_ev, rng2C_ev, rng2C2_ev, oRep_ev, repC_ev, repC2_ev, oCall_ev, callC_0, callC_1, callC_2, callC_3, callC_4, callC_5, callC_rv, callC_rv4, arSl_vl, arSl_rf, callC2_ev, arBack_nil, arBack_vl, arBack_rf, rNil_ev, rVal_ev, rvC_ev, rvC2_ev, rRef_ev, rrC_ev, oComp_ev, compC2_ev, wipeE_nil, wipeE_cons, backE_nil, backE_cons, gNm_ev, gTupF_ev, gsNil_ev, gsCons_ev, sNext_ev, sBreak_ev, sCont_ev, sSeq_ev, seqC_nx, seqC_bk, seqC_ct, seqC_rt, sSet_ev, setC_ev, sPar_ev, parC_ev, setAll_nil, setAll_cons, olNil_ev, olCons_ev, olC_ev, olC2_ev, sAsg_ev, asgC_ev, sIf_ev, sifC_t, sifC_f, sFor_ev, forC_ev, sDrop_ev, dropC_ev, sRet_ev, retC_ev, sRetN_ev, retnC_va, retnC_li, liOf_li, eMt1_ev, mt1C_ev, mt1C2_ev, mt1C3_ev, mt1C4_ev, eMt0_ev, mt0C_ev, sSub_ev, subC_ev, subC1_ev, subC2_ev, subC3_ev, subC4_ev, sAug_ev, augC_ev, augC2_ev, augC3_ev, mkF_ev, mkC_rt, mkC_nx, keepE_nil, keepE_va, keepE_ow', dTru_bool, dTru_int, dTru_none, dTru_list, dTru_tuple, dAdd_int, dAdd_tup, dAdd_lst, dIadd_int, dSub_int, dMul_int, dDiv_int, dMod_int, dNeg_int, dMin2_int, dMax2_int, dLtA_int, dLe_int, dLt_int, dGt_int, dGe_int, shaped_int, shaped_bool, shaped_none, eqv_int, eqv_bool, dEq_int, dNe_int, dEq_bool, dIs_none, dIsN_none, isNon_none, isNon_int, isNon_tup, isNon_bool, dLen_tup, dLen_lst, dIx_tup, dIx_lst, at0, at1, at2, at3, gExtend_lst, dTuple_lst, dTuple_tup, dList_lst, dList_tup, dInt_int, dSl_tup, dSl_lst, isTup, isLst, isBool, isIntB, isStr, beq_self_eq_true, decide_true, decide_false, isi_tup, isi_lst, isi_int, isi_bool, isi_str, isi_none, sz0, sz1, sz2, sz3, sz4, sz5, sz6, sz7, sz8, sz9, sz10, sz11, sz12, isOw_no, isOw_va, isOw_li, isOw_di, isOw_dt, isOw_ow, isOw_none, isOw_sl,
  Option.bind_some, Option.map_some, Option.bind_none, Option.map_none, Option.getD_some, Option.getD_none, List.getElem?_cons_zero, List.getElem?_cons_succ, List.set_cons_zero, List.set_cons_succ, List.map_cons, List.map_nil, List.headD_cons, List.headD_nil, List.tail_cons, List.tail_nil, List.isEmpty_nil, List.isEmpty_cons, List.length_nil, List.length_cons, List.nil_append, List.cons_append, List.replicate_succ, List.replicate_zero, Nat.reduceSub, Nat.reduceAdd, Bool.false_eq_true, if_false, if_true, reduceIte, Bool.not_true, Bool.not_false, and_true, true_and, and_self, Int.toNat_natCast, Int.zero_add, eCh_ev, chC_ev, chC2_ev, chC3_t, chC3_f, chC4_ev, lZip_ev, zipC_ev, zipC2_tup, zipC2_lst, dRev_tup, dRev_lst, dRngL_int, dRngT_int, oIte_ev, oiteC_li, oiteC_va, oCompO_ev, callC_rv2, callC_rv3, gset_ne, gset_self, List.length_set, Nat.reduceBEq, Nat.reduceLT, *])
/-! K83_Tn: a turn of the law, statement by statement. -/
theorem rsame83 : ∀ n, R__law_same n = R_same n
  | 0 => rfl
  | n + 1 => by
    show mkF 3 (B__law_same (R__law_same n)) = mkF 3 (B_same (R_same n))
    rw [rsame83 n]; rfl
theorem same83 {x : D} (h : Plain 19 x) : F__law_same [.va x, .va x] = some (.va (.bool true), [.no, .no]) := by
  show R__law_same 20 _ = _
  rw [rsame83]
  exact same_refl 19 x h
structure Tz (e : Ev) (b : Box) : Prop where
  len : e.length = 27
  ow : e[1]? = some (.ow b.ot)
  no : ∀ i, i ≠ 1 → isOw e[i]? = false
theorem Tz.set {e : Ev} {b : Box} (t : Tz e b) {i : Nat} {s : Sl} (hi : i ≠ 1) (hs : isOw (some s) = false) : Tz (e.set i s) b := by
  refine ⟨(List.length_set ..).trans t.len, by rw [List.getElem?_set_ne hi]; exact t.ow, fun j hj => ?_⟩
  by_cases e1 : i = j
  · subst e1
    by_cases hl : i < e.length
    · rw [List.getElem?_set_self hl]; exact hs
    · rw [List.getElem?_eq_none (by rw [List.length_set]; omega)]; rfl
  · rw [List.getElem?_set_ne e1]; exact t.no j hj
theorem Tz.box {e : Ev} {b b' : Box} (t : Tz e b) : Tz (e.set 1 (.ow b'.ot)) b' :=
  ⟨(List.length_set ..).trans t.len, List.getElem?_set_self (by rw [t.len]; decide), fun j hj => by rw [List.getElem?_set_ne (Ne.symm hj)]; exact t.no j hj⟩
structure Tn (e : Ev) (b : Box) (l : Loan) : Prop extends Tz e b where
  l3 : e[3]? = some (.va (loD l))
  n4 : e[4]? = some (.va (.int (l.nn : Int)))
/-- a loan of a turn -/
structure LL (l : Loan) : Prop where
  w : WL l
  bl : BL l 4 5
  k : 1 ≤ l.kk ∧ l.kk ≤ 3
  n : l.nn ≤ 5
theorem LL.nn {l : Loan} (h : LL l) : NonNeg l := bl_nn h.w h.bl
theorem S35_ok {e : Ev} {b : Box} (t : Tz e b) : ∃ (l : Loan) (e' : Ev) (b' : Box), S35_law e = some (.nx e') ∧ Tz e' b' ∧ e'[3]? = some (.va (loD l)) ∧ LL l := by
  obtain ⟨d1, b1, e1, d10, d11⟩ := draw83 b (m := 3) (by decide) (by decide)
  obtain ⟨d2, b2, e2, d20, d21⟩ := draw83 b1 (m := 6) (by decide) (by decide)
  obtain ⟨d3, b3, e3, d30, d31⟩ := draw83 b2 (m := 3) (by decide) (by decide)
  obtain ⟨k, rfl⟩ : ∃ k : Nat, d1 = (k : Int) := ⟨d1.toNat, by omega⟩
  obtain ⟨n, rfl⟩ : ∃ n : Nat, d2 = (n : Int) := ⟨d2.toNat, by omega⟩
  obtain ⟨l, b4, e4, w, hk, hn, bl⟩ := loan_ok b3 (K := 1 + k) (n := n) (m := 1 + d3) (by omega) (by omega) (by omega) (by omega)
  have e4' : F__law_loan [.ow b3.ot, .va (.int (1 + (k : Int))), .va (.int (n : Int)), .va (.int (1 + d3))] = some (.va (loD l), [.ow b4.ot, .no, .no, .no]) := by
    have : ((1 + k : Nat) : Int) = 1 + (k : Int) := by omega
    rw [← this]; exact e4
  have ho := t.ow
  have hl := t.len
  have h3 := t.no 3 (by decide)
  refine ⟨l, _, b4, ?_, (((t.box (b' := b1)).box (b' := b2)).box (b' := b3)).box (b' := b4) |>.set (i := 3) (s := .va (loD l)) (by decide) rfl, ?_, ⟨w, ⟨fun x hx => ?_, fun r hr x hx => ?_, fun r hr x hx => ?_⟩, by omega, by omega⟩⟩
  · unfold S35_law
    repeat (first | walk_at "ev" | simp only [gset_ne, gset_self, List.length_set, Nat.reduceLT, Nat.reduceBEq, hl, ho, h3, e1, e2, e3, e4', reduceIte])
  · rw [List.getElem?_set_self (by simp [hl])]
  · have := bl.f x hx; omega
  · have := bl.h r hr x hx; omega
  · have := bl.n r hr x hx; omega
/-! loops over any values -/
theorem loop_inv {L : SF} {v : Nat} (I : Ev → Prop) (P : D → Prop) (h : ∀ d e, P d → I e → ∃ e', (gNm v d e).bind L = some (.nx e') ∧ I e') : ∀ (ds : List D) (e : Ev), (∀ d ∈ ds, P d) → I e → ∃ e', forL (gNm v) L ds e = some (.nx e') ∧ I e'
  | [], e, _, hi => ⟨e, rfl, hi⟩
  | d :: ds, e, hd, hi => by
    obtain ⟨e1, h1, h2⟩ := h d e (hd d List.mem_cons_self) hi
    obtain ⟨e2, h3, h4⟩ := loop_inv I P h ds e1 (fun x hx => hd x (List.mem_cons_of_mem _ hx)) h2
    exact ⟨e2, by rw [forL_stepB h1]; exact h3, h4⟩
theorem gN_ok {e : Ev} {b : Box} (t : Tz e b) {v : Nat} (d : D) (hv : v ≠ 1) : gNm v d e = some (e.set v (.va d)) := by
  unfold gNm
  rw [t.no v hv]; rfl
theorem ow_self {e : Ev} {b : Box} (t : Tz e b) : e.set 1 (.ow b.ot) = e := by
  have h : 1 < e.length := by rw [t.len]; decide
  have := set_self h
  rw [t.ow] at this
  exact this
theorem dNe_bool (k j : Bool) : dNe (.bool k) (.bool j) = some (.bool (!(k == j))) := by unfold dNe; rw [if_pos ⟨shaped_bool k, shaped_bool j⟩, eqv_bool]
structure Tg (e : Ev) (b : Box) (l : Loan) : Prop extends Tn e b l where
  f5 : e[5]? = some (.va (.list ((fine l).map nT)))
  g6 : e[6]? = some (.va (.list ((groups l).map nT)))
  w7 : e[7]? = some (.va (.str (if (grd l).1 = true then "order" else "stuck")))
  p8 : e[8]? = some (.va (nT (grd l).2))
theorem Tg.put {e : Ev} {b : Box} {l : Loan} (t : Tg e b l) {i : Nat} {s : Sl} (hi : 9 ≤ i) (hs : isOw (some s) = false) : Tg (e.set i s) b l :=
  ⟨⟨t.toTz.set (by omega) hs, by rw [List.getElem?_set_ne (by omega)]; exact t.l3, by rw [List.getElem?_set_ne (by omega)]; exact t.n4⟩, by rw [List.getElem?_set_ne (by omega)]; exact t.f5, by rw [List.getElem?_set_ne (by omega)]; exact t.g6, by rw [List.getElem?_set_ne (by omega)]; exact t.w7, by rw [List.getElem?_set_ne (by omega)]; exact t.p8⟩
theorem Tg.bx {e : Ev} {b b' : Box} {l : Loan} (t : Tg e b l) : Tg (e.set 1 (.ow b'.ot)) b' l :=
  ⟨⟨t.toTz.box, by rw [List.getElem?_set_ne (by decide)]; exact t.l3, by rw [List.getElem?_set_ne (by decide)]; exact t.n4⟩, by rw [List.getElem?_set_ne (by decide)]; exact t.f5, by rw [List.getElem?_set_ne (by decide)]; exact t.g6, by rw [List.getElem?_set_ne (by decide)]; exact t.w7, by rw [List.getElem?_set_ne (by decide)]; exact t.p8⟩
theorem fine_lt {l : Loan} {q : List Nat} (h : q ∈ ordL l.nn l.nn) : ∀ j ∈ q, j < l.nn := (ordL_mem h).2.2
theorem set_lt {n : Nat} {q : List Nat} (h : q ∈ setL n) : (∀ j ∈ q, j < n) ∧ q.length ≤ n := by
  have hs := (setL_mem n q).mp h
  exact ⟨fun j hj => List.mem_range.mp (hs.subset hj), by have := hs.length_le; rwa [List.length_range] at this⟩
theorem grd_lt {l : Loan} : (∀ j ∈ (grd l).2, j < l.nn) ∧ (grd l).2.length ≤ l.nn := by
  cases h : (grd l).1 with
  | true =>
    have hp := (grd_order h).2
    exact ⟨fun j hj => List.mem_range.mp (hp.subset hj), by have := hp.length_eq; rw [List.length_range] at this; omega⟩
  | false =>
    have hs := (grd_stuck h).1
    exact ⟨fun j hj => List.mem_range.mp (hs.subset hj), by have := hs.length_le; rwa [List.length_range] at this⟩
theorem plain_nT {n : Nat} {q : List Nat} (h : q.length ≤ 1000000) : Plain (n + 1) (nT q) := by rw [nT_iL]; exact plain_ints (by rw [qI_len]; exact h)
theorem plain_listT {n : Nat} {qs : List (List Nat)} (h : qs.length ≤ 1000000) (hq : ∀ q ∈ qs, q.length ≤ 1000000) : Plain (n + 2) (.list (qs.map nT)) := ⟨by rw [List.length_map]; exact h, fun d hd => by
  obtain ⟨q, hq', rfl⟩ := List.mem_map.mp hd
  exact plain_nT (hq q hq')⟩
theorem groups_len {l : Loan} (h : l.nn ≤ 5) : (groups l).length ≤ 32 ∧ ∀ g ∈ groups l, g.length ≤ l.nn := by
  refine ⟨Nat.le_trans (List.length_filter_le _ _) ?_, fun g hg => (set_lt (List.mem_filter.mp hg).1).2⟩
  rw [setL_len]
  exact Nat.le_trans (Nat.pow_le_pow_right (by decide) h) (by decide)
/-- the first seven statements -/
theorem head_ok {e : Ev} {b : Box} {l : Loan} (t : Tz e b) (h3 : e[3]? = some (.va (loD l))) (L : LL l) (R : SF) : ∃ e', sSeq S36_law (sSeq S37_law (sSeq S38_law (sSeq S39_law (sSeq S40_law (sSeq S41_law R))))) e = R e' ∧ Tg e' b l := by
  have hl := t.len
  have ho := t.ow
  have hn5 := L.n
  have hlo : loD l = .tuple [rwD l.free, rwsD l.held, rwsD l.need] := rfl
  have h3' := h3
  rw [hlo] at h3'
  have hlh : (l.held.map rwD).length = l.nn := by rw [List.length_map, L.w.h]
  have hno := t.no
  have n4 := hno 4 (by decide)
  have n5 := hno 5 (by decide)
  have n6 := hno 6 (by decide)
  have n7 := hno 7 (by decide)
  have n8 := hno 8 (by decide)
  -- n
  have s36 : S36_law e = some (.nx (e.set 4 (.va (.int (l.nn : Int))))) := by
    unfold S36_law
    repeat (first | walk_at "ev" | simp only [gset_ne, gset_self, List.length_set, Nat.reduceLT, Nat.reduceBEq, hl, h3', n4, hlh, reduceIte])
  -- is it a loan
  have hisl := is_loan_ok (lo_plain L.w)
  rw [isl_yes L.w L.bl (by decide) (by decide) ⟨L.k.1, by have := L.k.2; omega⟩ (by omega)] at hisl
  have hbb : dIsNB (.bool true) (.bool true) = some (.bool false) := rfl
  have s37 : S37_law (e.set 4 (.va (.int (l.nn : Int)))) = some (.nx (e.set 4 (.va (.int (l.nn : Int))))) := by
    unfold S37_law
    repeat (first | walk_at "ev" | simp only [gset_ne, gset_self, List.length_set, Nat.reduceLT, Nat.reduceBEq, hl, h3, hisl, hbb, reduceIte])
  -- fine
  have hor := orders_ok hn5
  have hol := ord_len5 hn5 l.nn hn5
  have c5 := comp1 (c := T1_law) (f := K2_law) (v := 19) (e := e.set 4 (.va (.int (l.nn : Int)))) nT (fun q => ends l l.free q) nT (ordL l.nn l.nn) (by omega) (by rw [gset_ne rfl]; exact hno 19 (by decide)) (by rw [List.length_set, hl]; decide) fun q hq => by
    have := lends_ok L.w (fine_lt hq)
    constructor
    · unfold T1_law
      repeat (first | walk_at "ev" | simp only [gset_ne, gset_self, List.length_set, Nat.reduceLT, Nat.reduceBEq, hl, h3, this])
    · intro _
      unfold K2_law
      repeat (first | walk_at "ev" | simp only [gset_ne, gset_self, List.length_set, Nat.reduceLT, Nat.reduceBEq, hl])
  have s38 : S38_law (e.set 4 (.va (.int (l.nn : Int)))) = some (.nx ((e.set 4 (.va (.int (l.nn : Int)))).set 5 (.va (.list ((fine l).map nT))))) := by
    unfold S38_law fine
    repeat (first | walk_at "ev" | simp only [gset_ne, gset_self, List.length_set, Nat.reduceLT, Nat.reduceBEq, hl, hor, c5, n5, reduceIte])
  -- groups
  have hse := sets_ok hn5
  have hsl : (setL l.nn).length ≤ 32 := by rw [setL_len]; exact Nat.le_trans (Nat.pow_le_pow_right (by decide) hn5) (by decide)
  have c6 := comp1 (c := T3_law) (f := K4_law) (v := 20) (e := (e.set 4 (.va (.int (l.nn : Int)))).set 5 (.va (.list ((fine l).map nT)))) nT (fun q => stuckB l q) nT (setL l.nn) (by omega) (by rw [gset_ne rfl, gset_ne rfl]; exact hno 20 (by decide)) (by rw [List.length_set, List.length_set, hl]; decide) fun q hq => by
    have := lstuck_ok L.w (set_lt hq).1 (by have := (set_lt hq).2; omega)
    constructor
    · unfold T3_law
      repeat (first | walk_at "ev" | simp only [gset_ne, gset_self, List.length_set, Nat.reduceLT, Nat.reduceBEq, hl, h3, this])
    · intro _
      unfold K4_law
      repeat (first | walk_at "ev" | simp only [gset_ne, gset_self, List.length_set, Nat.reduceLT, Nat.reduceBEq, hl])
  have s39 : S39_law ((e.set 4 (.va (.int (l.nn : Int)))).set 5 (.va (.list ((fine l).map nT)))) = some (.nx (((e.set 4 (.va (.int (l.nn : Int)))).set 5 (.va (.list ((fine l).map nT)))).set 6 (.va (.list ((groups l).map nT))))) := by
    unfold S39_law groups
    repeat (first | walk_at "ev" | simp only [gset_ne, gset_self, List.length_set, Nat.reduceLT, Nat.reduceBEq, hl, hse, c6, n6, reduceIte])
  -- either some order or some group
  have hfg : decide ((0 : Int) < (((fine l).map nT).length : Int)) = (grd l).1 ∧ ((((groups l).map nT).length : Int) == 0) = (grd l).1 := by
    rw [List.length_map, List.length_map]
    cases hg : (grd l).1 with
    | true =>
      have h1 := fine_head hg
      rw [groups_nil L.nn hg]
      refine ⟨decide_eq_true ?_, rfl⟩
      cases hf : fine l with
      | nil => rw [hf] at h1; cases h1
      | cons a r => rw [List.length_cons]; omega
    | false =>
      rw [fine_nil L.nn hg]
      refine ⟨rfl, beq_eq_false_iff_ne.mpr ?_⟩
      have := (groups_great L.nn hg).1
      cases hf : groups l with
      | nil => rw [hf] at this; cases this
      | cons a r => rw [List.length_cons]; omega
  have hbx := dNe_bool (grd l).1 (grd l).1
  rw [beq_self_eq_true] at hbx
  have s40 : S40_law (((e.set 4 (.va (.int (l.nn : Int)))).set 5 (.va (.list ((fine l).map nT)))).set 6 (.va (.list ((groups l).map nT)))) = some (.nx (((e.set 4 (.va (.int (l.nn : Int)))).set 5 (.va (.list ((fine l).map nT)))).set 6 (.va (.list ((groups l).map nT))))) := by
    unfold S40_law
    have d0 : ∀ x : Int, dEq (.int x) (.int 0) = some (.bool (x == 0)) := fun x => dEq_int x 0
    repeat (first | walk_at "ev" | simp only [gset_ne, gset_self, List.length_set, Nat.reduceLT, Nat.reduceBEq, hl, hfg.1, hfg.2, hbx, reduceIte])
  -- word and paper
  have hsafe := safe_ok L.w
  have hsd : sdO (grd l) = .tuple [.str (if (grd l).1 = true then "order" else "stuck"), nT (grd l).2] := rfl
  rw [hsd] at hsafe
  generalize hE : ((e.set 4 (.va (.int (l.nn : Int)))).set 5 (.va (.list ((fine l).map nT)))).set 6 (.va (.list ((groups l).map nT))) = E at s39 s40
  have hEl : E.length = 27 := by rw [← hE, List.length_set, List.length_set, List.length_set, hl]
  have tE : Tz E b := by rw [← hE]; exact ((t.set (by decide) rfl).set (by decide) rfl).set (by decide) rfl
  have E3 : E[3]? = some (.va (loD l)) := by rw [← hE, gset_ne rfl, gset_ne rfl, gset_ne rfl]; exact h3
  have E4 : E[4]? = some (.va (.int (l.nn : Int))) := by rw [← hE, gset_ne rfl, gset_ne rfl, gset_self (by rw [hl]; decide)]
  have E5 : E[5]? = some (.va (.list ((fine l).map nT))) := by rw [← hE, gset_ne rfl, gset_self (by rw [List.length_set, hl]; decide)]
  have E6 : E[6]? = some (.va (.list ((groups l).map nT))) := by rw [← hE, gset_self (by rw [List.length_set, List.length_set, hl]; decide)]
  have n7 := tE.no 7 (by decide)
  have n8 := tE.no 8 (by decide)
  have s41 : S41_law E = some (.nx ((E.set 7 (.va (.str (if (grd l).1 = true then "order" else "stuck")))).set 8 (.va (nT (grd l).2)))) := by
    generalize (if (grd l).1 = true then ("order" : Str) else "stuck") = ws at hsafe
    have hl := hEl
    unfold S41_law
    repeat (first | walk_at "ev" | simp only [gset_ne, gset_self, List.length_set, Nat.reduceLT, Nat.reduceBEq, hl, gNm_ev, E3, hsafe, n7, n8, reduceIte])
  refine ⟨_, ?_, ⟨⟨((tE.set (i := 7) (s := .va (.str (if (grd l).1 = true then "order" else "stuck"))) (by decide) rfl).set (i := 8) (s := .va (nT (grd l).2)) (by decide) rfl), ?_, ?_⟩, ?_, ?_, ?_, ?_⟩⟩
  · rw [sSeq_ev, s36, Option.bind_some, seqC_nx, sSeq_ev, s37, Option.bind_some, seqC_nx, sSeq_ev, s38, Option.bind_some, seqC_nx, sSeq_ev, s39, Option.bind_some, seqC_nx, sSeq_ev, s40, Option.bind_some, seqC_nx, sSeq_ev, s41, Option.bind_some, seqC_nx]
  · rw [gset_ne rfl, gset_ne rfl]; exact E3
  · rw [gset_ne rfl, gset_ne rfl]; exact E4
  · rw [gset_ne rfl, gset_ne rfl]; exact E5
  · rw [gset_ne rfl, gset_ne rfl]; exact E6
  · rw [gset_ne rfl, gset_self (by rw [hEl]; decide)]
  · rw [gset_self (by rw [List.length_set, hEl]; decide)]
end Fl

set_option Elab.async false
set_option linter.all false
set_option maxRecDepth 100000
set_option maxHeartbeats 4000000
set_option autoImplicit false
namespace Fl
open PySem PySem.Spec PyProof.Rows L2
local macro_rules | `(tactic| walk_at "ev") => `(tactic| simp -implicitDefEqProofs only [prE_ev, eVar_ev, varC_ev, eNm_ev, nmC_va, nmC_li, eC_ev, vw_va, vw_li, eOwn_ev, eIxO_ev, ixoC_ev, ixoC2_ev, ixoC3_ev, eOp_ev, opC_ev, opC2_ev, eUn_ev, unC_ev, bE_ev, bEC_ev, bB_ev, bBC_ev, bNot_ev, notC_ev, bAnd_ev, andC_t, andC_f, bOr_ev, orC_t, orC_f, bYes_ev, eAnd_ev, eandC_t, eandC_f, eOr_ev, eorC_t, eorC_f, eNot_ev, enotC_ev, eIf_ev, ifC_t, ifC_f, eTup_ev, tupC_ev, aNil_ev, aCons_ev, aconsC_ev, aconsC2_ev, oLst_ev, lstC_ev, oE_ev, oEC_ev, eFz_ev, fzC_va, fzC_li, oUn_ev, ounC_ev, prL_ev, eSl_ev, slC_ev, slC2_ev, slC3_ev, eSlO_ev, sloC_ev, sloC2_ev, sloC3_ev, sloC4_ev, lEnum_ev, enC_tup, enC_lst, pNo_ev, pSo_ev, psoC_ev, lOf_ev, lofC_tup, lofC_lst, lRng1_ev, rng1C_ev, lRng2_ev, rng2C_ev, rng2C2_ev, oRep_ev, repC_ev, repC2_ev, oCall_ev, callC_0, callC_1, callC_2, callC_3, callC_4, callC_5, callC_rv, callC_rv4, arSl_vl, arSl_rf, callC2_ev, arBack_nil, arBack_vl, arBack_rf, rNil_ev, rVal_ev, rvC_ev, rvC2_ev, rRef_ev, rrC_ev, oComp_ev, compC2_ev, wipeE_nil, wipeE_cons, backE_nil, backE_cons, gNm_ev, gTupF_ev, gsNil_ev, gsCons_ev, sNext_ev, sBreak_ev, sCont_ev, sSeq_ev, seqC_nx, seqC_bk, seqC_ct, seqC_rt, sSet_ev, setC_ev, sPar_ev, parC_ev, setAll_nil, setAll_cons, olNil_ev, olCons_ev, olC_ev, olC2_ev, sAsg_ev, asgC_ev, sIf_ev, sifC_t, sifC_f, sFor_ev, forC_ev, sDrop_ev, dropC_ev, sRet_ev, retC_ev, sRetN_ev, retnC_va, retnC_li, liOf_li, eMt1_ev, mt1C_ev, mt1C2_ev, mt1C3_ev, mt1C4_ev, eMt0_ev, mt0C_ev, sSub_ev, subC_ev, subC1_ev, subC2_ev, subC3_ev, subC4_ev, sAug_ev, augC_ev, augC2_ev, augC3_ev, mkF_ev, mkC_rt, mkC_nx, keepE_nil, keepE_va, keepE_ow', dTru_bool, dTru_int, dTru_none, dTru_list, dTru_tuple, dAdd_int, dAdd_tup, dAdd_lst, dIadd_int, dSub_int, dMul_int, dDiv_int, dMod_int, dNeg_int, dMin2_int, dMax2_int, dLtA_int, dLe_int, dLt_int, dGt_int, dGe_int, shaped_int, shaped_bool, shaped_none, eqv_int, eqv_bool, dEq_int, dNe_int, dEq_bool, dIs_none, dIsN_none, isNon_none, isNon_int, isNon_tup, isNon_bool, dLen_tup, dLen_lst, dIx_tup, dIx_lst, at0, at1, at2, at3, gExtend_lst, dTuple_lst, dTuple_tup, dList_lst, dList_tup, dInt_int, dSl_tup, dSl_lst, isTup, isLst, isBool, isIntB, isStr, beq_self_eq_true, decide_true, decide_false, isi_tup, isi_lst, isi_int, isi_bool, isi_str, isi_none, sz0, sz1, sz2, sz3, sz4, sz5, sz6, sz7, sz8, sz9, sz10, sz11, sz12, isOw_no, isOw_va, isOw_li, isOw_di, isOw_dt, isOw_ow, isOw_none, isOw_sl,
  Option.bind_some, Option.map_some, Option.bind_none, Option.map_none, Option.getD_some, Option.getD_none, List.getElem?_cons_zero, List.getElem?_cons_succ, List.set_cons_zero, List.set_cons_succ, List.map_cons, List.map_nil, List.headD_cons, List.headD_nil, List.tail_cons, List.tail_nil, List.isEmpty_nil, List.isEmpty_cons, List.length_nil, List.length_cons, List.nil_append, List.cons_append, List.replicate_succ, List.replicate_zero, Nat.reduceSub, Nat.reduceAdd, Bool.false_eq_true, if_false, if_true, reduceIte, Bool.not_true, Bool.not_false, and_true, true_and, and_self, Int.toNat_natCast, Int.zero_add, eCh_ev, chC_ev, chC2_ev, chC3_t, chC3_f, chC4_ev, lZip_ev, zipC_ev, zipC2_tup, zipC2_lst, dRev_tup, dRev_lst, dRngL_int, dRngT_int, oIte_ev, oiteC_li, oiteC_va, oCompO_ev, callC_rv2, callC_rv3, gset_ne, gset_self, List.length_set, Nat.reduceBEq, Nat.reduceLT])
local macro_rules | `(tactic| walk_at "evh") => `(tactic| simp -implicitDefEqProofs only [prE_ev, eVar_ev, varC_ev, eNm_ev, nmC_va, nmC_li, eC_ev, vw_va, vw_li, eOwn_ev, eIxO_ev, ixoC_ev, ixoC2_ev, ixoC3_ev, eOp_ev, opC_ev, opC2_ev, eUn_ev, unC_ev, bE_ev, bEC_ev, bB_ev, bBC_ev, bNot_ev, notC_ev, bAnd_ev, andC_t, andC_f, bOr_ev, orC_t, orC_f, bYes_ev, eAnd_ev, eandC_t, eandC_f, eOr_ev, eorC_t, eorC_f, eNot_ev, enotC_ev, eIf_ev, ifC_t, ifC_f, eTup_ev, tupC_ev, aNil_ev, aCons_ev, aconsC_ev, aconsC2_ev, oLst_ev, lstC_ev, oE_ev, oEC_ev, eFz_ev, fzC_va, fzC_li, oUn_ev, ounC_ev, prL_ev, eSl_ev, slC_ev, slC2_ev, slC3_ev, eSlO_ev, sloC_ev, sloC2_ev, sloC3_ev, sloC4_ev, lEnum_ev, enC_tup, enC_lst, pNo_ev, pSo_ev, psoC_ev, lOf_ev, lofC_tup, lofC_lst, lRng1_ev, rng1C_ev, lRng2_ev, rng2C_ev, rng2C2_ev, oRep_ev, repC_ev, repC2_ev, oCall_ev, callC_0, callC_1, callC_2, callC_3, callC_4, callC_5, callC_rv, callC_rv4, arSl_vl, arSl_rf, callC2_ev, arBack_nil, arBack_vl, arBack_rf, rNil_ev, rVal_ev, rvC_ev, rvC2_ev, rRef_ev, rrC_ev, oComp_ev, compC2_ev, wipeE_nil, wipeE_cons, backE_nil, backE_cons, gNm_ev, gTupF_ev, gsNil_ev, gsCons_ev, sNext_ev, sBreak_ev, sCont_ev, sSeq_ev, seqC_nx, seqC_bk, seqC_ct, seqC_rt, sSet_ev, setC_ev, sPar_ev, parC_ev, setAll_nil, setAll_cons, olNil_ev, olCons_ev, olC_ev, olC2_ev, sAsg_ev, asgC_ev, sIf_ev, sifC_t, sifC_f, sFor_ev, forC_ev, sDrop_ev, dropC_ev, sRet_ev, retC_ev, sRetN_ev, retnC_va, retnC_li, liOf_li, eMt1_ev, mt1C_ev, mt1C2_ev, mt1C3_ev, mt1C4_ev, eMt0_ev, mt0C_ev, sSub_ev, subC_ev, subC1_ev, subC2_ev, subC3_ev, subC4_ev, sAug_ev, augC_ev, augC2_ev, augC3_ev, mkF_ev, mkC_rt, mkC_nx, keepE_nil, keepE_va, keepE_ow', dTru_bool, dTru_int, dTru_none, dTru_list, dTru_tuple, dAdd_int, dAdd_tup, dAdd_lst, dIadd_int, dSub_int, dMul_int, dDiv_int, dMod_int, dNeg_int, dMin2_int, dMax2_int, dLtA_int, dLe_int, dLt_int, dGt_int, dGe_int, shaped_int, shaped_bool, shaped_none, eqv_int, eqv_bool, dEq_int, dNe_int, dEq_bool, dIs_none, dIsN_none, isNon_none, isNon_int, isNon_tup, isNon_bool, dLen_tup, dLen_lst, dIx_tup, dIx_lst, at0, at1, at2, at3, gExtend_lst, dTuple_lst, dTuple_tup, dList_lst, dList_tup, dInt_int, dSl_tup, dSl_lst, isTup, isLst, isBool, isIntB, isStr, beq_self_eq_true, decide_true, decide_false, isi_tup, isi_lst, isi_int, isi_bool, isi_str, isi_none, sz0, sz1, sz2, sz3, sz4, sz5, sz6, sz7, sz8, sz9, sz10, sz11, sz12, isOw_no, isOw_va, isOw_li, isOw_di, isOw_dt, isOw_ow, isOw_none, isOw_sl,
  Option.bind_some, Option.map_some, Option.bind_none, Option.map_none, Option.getD_some, Option.getD_none, List.getElem?_cons_zero, List.getElem?_cons_succ, List.set_cons_zero, List.set_cons_succ, List.map_cons, List.map_nil, List.headD_cons, List.headD_nil, List.tail_cons, List.tail_nil, List.isEmpty_nil, List.isEmpty_cons, List.length_nil, List.length_cons, List.nil_append, List.cons_append, List.replicate_succ, List.replicate_zero, Nat.reduceSub, Nat.reduceAdd, Bool.false_eq_true, if_false, if_true, reduceIte, Bool.not_true, Bool.not_false, and_true, true_and, and_self, Int.toNat_natCast, Int.zero_add, eCh_ev, chC_ev, chC2_ev, chC3_t, chC3_f, chC4_ev, lZip_ev, zipC_ev, zipC2_tup, zipC2_lst, dRev_tup, dRev_lst, dRngL_int, dRngT_int, oIte_ev, oiteC_li, oiteC_va, oCompO_ev, callC_rv2, callC_rv3, gset_ne, gset_self, List.length_set, Nat.reduceBEq, Nat.reduceLT, *])
/-! K83_Tm: the told order or group; judged values. -/
theorem plain_pair {n : Nat} {s : Str} {x : D} (hs : SeqAt.shaped (.str s) = true) (hx : Plain n x) : Plain (n + 1) (.tuple [.str s, x]) := by
  refine ⟨Nat.le_of_ble_eq_true rfl, fun d hd => ?_⟩
  simp only [List.mem_cons, List.not_mem_nil, or_false] at hd
  rcases hd with rfl | rfl
  · cases n <;> exact hs
  · exact hx
theorem S42_ok {e : Ev} {b : Box} {l : Loan} (t : Tg e b l) (L : LL l) : S42_law e = some (.nx e) := by
  have hl := t.len
  have h5 := t.f5
  have h7 := t.w7
  have h8 := t.p8
  have hpl : (grd l).2.length ≤ 1000000 := by have := (grd_lt (l := l)).2; have := L.n; omega
  unfold S42_law
  cases hg : (grd l).1 with
  | true =>
    rw [hg, if_pos rfl] at h7
    have hh := fine_head hg
    cases hf : fine l with
    | nil => rw [hf] at hh; cases hh
    | cons q r =>
      rw [hf] at hh h5
      cases hh
      have hs := same83 (plain_le (plain_pair sh_order (plain_nT (n := 0) hpl)) (by decide : 2 ≤ 19))
      have hd : decide ((0 : Int) < (((grd l).2 :: r).map nT).length) = true := decide_eq_true (by rw [List.length_map, List.length_cons]; omega)
      have h0 : atI (((grd l).2 :: r).map nT) 0 = some (nT (grd l).2) := at0 _ _
      generalize ((grd l).2 :: r).map nT = F at h5 hd h0
      repeat (first | walk_at "ev" | simp only [gset_ne, gset_self, List.length_set, Nat.reduceLT, Nat.reduceBEq, hl, h5, h7, h8, hd, h0, hs, reduceIte])
  | false =>
    rw [fine_nil L.nn hg] at h5
    have h5' : e[5]? = some (.va (.list [])) := h5
    have hd : decide ((0 : Int) < ((0 : Nat) : Int)) = false := rfl
    repeat (first | walk_at "ev" | simp only [gset_ne, gset_self, List.length_set, Nat.reduceLT, Nat.reduceBEq, hl, h5', hd, reduceIte])
theorem dInD_lst (x : D) (ds : List D) : dInD true x (.list ds) = if SeqAt.shaped x = true ∧ SeqAt.shaped (.list ds) = true then some (.bool (!(ds.any fun z => PyData.eqv z x))) else none := rfl
theorem S43_ok {e : Ev} {b : Box} {l : Loan} (t : Tg e b l) (L : LL l) : ∃ e', S43_law e = some (.nx e') ∧ Tg e' b l := by
  have hl := t.len
  have h5 := t.f5
  have h6 := t.g6
  have h7 := t.w7
  have h8 := t.p8
  have h4 := t.n4
  have hn5 := L.n
  have n9 := t.no 9 (by decide)
  have n21 := t.no 21 (by decide)
  have n20 := t.no 20 (by decide)
  have hpl : (grd l).2.length ≤ 1000000 := by have := (grd_lt (l := l)).2; omega
  unfold S43_law
  cases hg : (grd l).1 with
  | true =>
    have hh := fine_head hg
    have hd : ((((fine l).map nT).length : Int) == 0) = false := by
      rw [List.length_map]
      refine beq_eq_false_iff_ne.mpr ?_
      cases hf : fine l with
      | nil => rw [hf] at hh; cases hh
      | cons a r => rw [List.length_cons]; omega
    refine ⟨e, ?_, t⟩
    repeat (first | walk_at "ev" | simp only [gset_ne, gset_self, List.length_set, Nat.reduceLT, Nat.reduceBEq, hl, h5, hd, reduceIte])
  | false =>
    rw [hg, if_neg (by decide)] at h7
    have hz : ((((fine l).map nT).length : Int) == 0) = true := by rw [fine_nil L.nn hg]; rfl
    obtain ⟨hm, hgr⟩ := groups_great L.nn hg
    obtain ⟨hgl, hgi⟩ := groups_len (l := l) hn5
    have hT : ∀ j : Nat, T6_law (e.set 21 (.va (.int (j : Int)))) = some ((groups l).any fun g => decide (j ∈ g), e.set 21 (.va (.int (j : Int)))) := fun j => by
      have c := comp1y (f := K5_law) (v := 20) (e := e.set 21 (.va (.int (j : Int)))) nT (fun g => .bool (decide (j ∈ g))) (groups l) (by omega) (by rw [gset_ne rfl]; exact n20) (by rw [List.length_set, hl]; decide) fun g _ => by
        have := inA_nL j g
        unfold K5_law
        repeat (first | walk_at "ev" | simp only [gset_ne, gset_self, List.length_set, Nat.reduceLT, Nat.reduceBEq, hl, this])
      have ha := dAny_map (fun g => decide (j ∈ g)) (groups l)
      unfold T6_law
      repeat (first | walk_at "ev" | simp only [gset_ne, gset_self, List.length_set, Nat.reduceLT, Nat.reduceBEq, hl, h6, c, ha])
    have hrn : Rg (l.nn : Int) := rg_of (by omega) (by omega)
    have c := compR (c := T6_law) (f := K7_law) (v := 21) (n := l.nn) (e := e) (fun j => (groups l).any fun g => decide (j ∈ g)) (fun j => .int (j : Nat)) (by omega) n21 (by rw [hl]; decide) fun j _ => ⟨hT j, fun _ => by
      unfold K7_law
      repeat (first | walk_at "ev" | simp only [gset_ne, gset_self, List.length_set, Nat.reduceLT, Nat.reduceBEq, hl])⟩
    rw [hgr] at c
    have hs := same83 (plain_le (plain_pair sh_stuck (plain_nT (n := 0) hpl)) (by decide : 2 ≤ 19))
    have hin : dInA true (nT (grd l).2) (.list ((groups l).map nT)) = some (.bool false) := by
      have h1 : dInB true (nT (grd l).2) (.list ((groups l).map nT)) = none := by unfold dInB; exact if_neg fun h => by cases h.1
      unfold dInA
      have q1 : Plain 1 (nT (grd l).2) := plain_nT hpl
      have q2 : Plain 2 (.list ((groups l).map nT)) := plain_listT (by omega) fun g hg => by
        have := hgi g hg
        omega
      have k1 : SeqAt.shaped (nT (grd l).2) = true := plain_shaped q1 (by decide)
      have k2 : SeqAt.shaped (.list ((groups l).map nT)) = true := plain_shaped q2 (by decide)
      have hany : (((groups l).map nT).any fun z => PyData.eqv z (nT (grd l).2)) = true := by
        refine List.any_eq_true.mpr ⟨nT (grd l).2, List.mem_map.mpr ⟨_, hm, rfl⟩, ?_⟩
        rw [nT_iL, eqv_tupI]
        exact decide_eq_true rfl
      rw [h1, Option.none_or, dInD_lst, hany, if_pos ⟨k1, k2⟩]
      rfl
    refine ⟨e.set 9 (.va (nT (grd l).2)), ?_, t.put (by decide) rfl⟩
    repeat (first | walk_at "ev" | simp only [gset_ne, gset_self, List.length_set, Nat.reduceLT, Nat.reduceBEq, hl, h4, h5, h6, h7, h8, n9, hz, hrn, c, hs, hin, reduceIte])
def someO (l : Loan) : List Nat := if (grd l).1 = true then (grd l).2 else List.range l.nn
def someG (l : Loan) : List Nat := if (grd l).1 = true then List.range l.nn else (grd l).2
theorem rngT {l : Loan} (L : LL l) : dRngT (.int (l.nn : Int)) = some (nT (List.range l.nn)) := by
  have hn := L.n
  rw [dRngT_int, if_pos (rl_of (by omega) (by omega)), Int.toNat_natCast, rngD_nat]
theorem some_ok (l : Loan) (L : LL l) : ((∀ j ∈ someO l, j < l.nn) ∧ (someO l).length ≤ 5) ∧ (∀ j ∈ someG l, j < l.nn) ∧ (someG l).length ≤ 5 := by
  have hn := L.n
  have h := grd_lt (l := l)
  have hr : (∀ j ∈ List.range l.nn, j < l.nn) ∧ (List.range l.nn).length ≤ 5 := ⟨fun j hj => List.mem_range.mp hj, by rw [List.length_range]; exact hn⟩
  unfold someO someG
  split
  · exact ⟨⟨h.1, by omega⟩, hr⟩
  · exact ⟨hr, h.1, by omega⟩
theorem S44_ok {e : Ev} {b : Box} {l : Loan} (t : Tg e b l) (L : LL l) : S44_law e = some (.nx (e.set 10 (.va (nT (someO l))))) := by
  have hl := t.len
  have h7 := t.w7
  have h8 := t.p8
  have h4 := t.n4
  have n10 := t.no 10 (by decide)
  have hrl : Rl (l.nn : Int) := rl_of (by have := L.n; omega) (by have := L.n; omega)
  have hr : rngD 0 l.nn = nL (List.range l.nn) := rngD_nat l.nn
  unfold S44_law someO
  cases hg : (grd l).1 with
  | true =>
    rw [hg, if_pos rfl] at h7
    have := oo_eq
    repeat (first | walk_at "ev" | simp only [gset_ne, gset_self, List.length_set, Nat.reduceLT, Nat.reduceBEq, hl, h7, h8, n10, this, reduceIte])
  | false =>
    rw [hg, if_neg (by decide)] at h7
    have := so_eq
    repeat (first | walk_at "ev" | simp only [gset_ne, gset_self, List.length_set, Nat.reduceLT, Nat.reduceBEq, hl, h4, h7, h8, n10, this, hrl, hr, reduceIte])
theorem S46_ok {e : Ev} {b : Box} {l : Loan} (t : Tg e b l) (L : LL l) : S46_law e = some (.nx (e.set 10 (.va (nT (someG l))))) := by
  have hl := t.len
  have h7 := t.w7
  have h8 := t.p8
  have h4 := t.n4
  have n10 := t.no 10 (by decide)
  have hrl : Rl (l.nn : Int) := rl_of (by have := L.n; omega) (by have := L.n; omega)
  have hr : rngD 0 l.nn = nL (List.range l.nn) := rngD_nat l.nn
  unfold S46_law someG
  cases hg : (grd l).1 with
  | true =>
    rw [hg, if_pos rfl] at h7
    have := os_eq
    repeat (first | walk_at "ev" | simp only [gset_ne, gset_self, List.length_set, Nat.reduceLT, Nat.reduceBEq, hl, h4, h7, h8, n10, this, hrl, hr, reduceIte])
  | false =>
    rw [hg, if_neg (by decide)] at h7
    have := ss_eq
    repeat (first | walk_at "ev" | simp only [gset_ne, gset_self, List.length_set, Nat.reduceLT, Nat.reduceBEq, hl, h7, h8, n10, this, reduceIte])
/-! one judged value -/
theorem same_bool (x : Bool) : F__law_same [.va (.bool x), .va (.bool x)] = some (.va (.bool true), [.no, .no]) := same83 (x := .bool x) trivial
theorem L9_ok {e : Ev} {b : Box} {l : Loan} (t : Tg e b l) (L : LL l) {v : D} (hp : Plain 22 v) : ∃ e', (gNm 11 v e).bind L9_law = some (.nx e') ∧ Tg e' b l := by
  rw [gN_ok t.toTz v (by decide), Option.bind_some]
  have hl := t.len
  have h3 := t.l3
  have h4 := t.n4
  have n12 := t.no 12 (by decide)
  have hn5 := L.n
  have hj := is_safe_ok L.w hp
  have hs := same_bool (safeB l v)
  have hnum := numbers_ok (l.nn : Int) hp
  have hrl : Rl (l.nn : Int) := rl_of (by omega) (by omega)
  refine ⟨(e.set 11 (.va v)).set 12 (.va (.bool (safeB l v))), ?_, (t.put (by decide) rfl).put (by decide) rfl⟩
  unfold L9_law
  cases hn : numsB (l.nn : Int) v with
  | false =>
    have e0 : safeB l v = false := by unfold safeB; rw [hn]; rfl
    rw [hn] at hnum
    rw [e0] at hj hs ⊢
    repeat (first | walk_at "ev" | simp only [gset_ne, gset_self, List.length_set, Nat.reduceLT, Nat.reduceBEq, hl, h3, h4, n12, hnum, hj, hs, reduceIte])
  | true =>
    rw [hn] at hnum
    obtain ⟨hv, hq⟩ := nums_nT hn
    have e0 : safeB l v = (srtB l.nn (natsOf v) && ends l l.free (natsOf v)) := by unfold safeB; rw [hn, Bool.true_and]
    have hql : (natsOf v).length ≤ 1000000 := by
      cases v with
      | tuple ds => have := hp.1; have : (natsOf (.tuple ds)).length = ds.length := List.length_map _; omega
      | none => cases hn
      | bool _ => cases hn
      | str _ => cases hn
      | int _ => cases hn
      | list _ => cases hn
      | dict _ => cases hn
    generalize natsOf v = q at hv hq e0 hql
    subst hv
    have hso := dSortA_iL (qI q)
    rw [← nT_iL] at hso
    have hrd := rngD_rgI l.nn
    have heq := dEq_listI (a := sortI (qI q)) (b := rgI l.nn) (by rw [sortI_len, qI_len]; exact hql) (by rw [rgI_len]; omega)
    have hsb : srtB l.nn q = decide (sortI (qI q) = rgI l.nn) := rfl
    rw [← hsb] at heq
    have hen := lends_ok L.w hq
    cases hx : srtB l.nn q with
    | false =>
      rw [hx] at heq e0
      rw [Bool.false_and] at e0
      rw [e0] at hj hs ⊢
      repeat (first | walk_at "ev" | simp only [gset_ne, gset_self, List.length_set, Nat.reduceLT, Nat.reduceBEq, hl, h3, h4, n12, hnum, hso, hrl, hrd, heq, hj, hs, reduceIte])
    | true =>
      rw [hx] at heq e0
      rw [Bool.true_and] at e0
      rw [← e0] at hen
      repeat (first | walk_at "ev" | simp only [gset_ne, gset_self, List.length_set, Nat.reduceLT, Nat.reduceBEq, hl, h3, h4, n12, hnum, hso, hrl, hrd, heq, hen, hj, hs, reduceIte])
end Fl

set_option Elab.async false
set_option linter.all false
set_option maxRecDepth 100000
set_option maxHeartbeats 4000000
set_option autoImplicit false
namespace Fl
open PySem PySem.Spec PyProof.Rows L2
local macro_rules | `(tactic| walk_at "ev") => `(tactic| simp -implicitDefEqProofs only [prE_ev, eVar_ev, varC_ev, eNm_ev, nmC_va, nmC_li, eC_ev, vw_va, vw_li, eOwn_ev, eIxO_ev, ixoC_ev, ixoC2_ev, ixoC3_ev, eOp_ev, opC_ev, opC2_ev, eUn_ev, unC_ev, bE_ev, bEC_ev, bB_ev, bBC_ev, bNot_ev, notC_ev, bAnd_ev, andC_t, andC_f, bOr_ev, orC_t, orC_f, bYes_ev, eAnd_ev, eandC_t, eandC_f, eOr_ev, eorC_t, eorC_f, eNot_ev, enotC_ev, eIf_ev, ifC_t, ifC_f, eTup_ev, tupC_ev, aNil_ev, aCons_ev, aconsC_ev, aconsC2_ev, oLst_ev, lstC_ev, oE_ev, oEC_ev, eFz_ev, fzC_va, fzC_li, oUn_ev, ounC_ev, prL_ev, eSl_ev, slC_ev, slC2_ev, slC3_ev, eSlO_ev, sloC_ev, sloC2_ev, sloC3_ev, sloC4_ev, lEnum_ev, enC_tup, enC_lst, pNo_ev, pSo_ev, psoC_ev, lOf_ev, lofC_tup, lofC_lst, lRng1_ev, rng1C_ev, lRng2_ev, rng2C_ev, rng2C2_ev, oRep_ev, repC_ev, repC2_ev, oCall_ev, callC_0, callC_1, callC_2, callC_3, callC_4, callC_5, callC_rv, callC_rv4, arSl_vl, arSl_rf, callC2_ev, arBack_nil, arBack_vl, arBack_rf, rNil_ev, rVal_ev, rvC_ev, rvC2_ev, rRef_ev, rrC_ev, oComp_ev, compC2_ev, wipeE_nil, wipeE_cons, backE_nil, backE_cons, gNm_ev, gTupF_ev, gsNil_ev, gsCons_ev, sNext_ev, sBreak_ev, sCont_ev, sSeq_ev, seqC_nx, seqC_bk, seqC_ct, seqC_rt, sSet_ev, setC_ev, sPar_ev, parC_ev, setAll_nil, setAll_cons, olNil_ev, olCons_ev, olC_ev, olC2_ev, sAsg_ev, asgC_ev, sIf_ev, sifC_t, sifC_f, sFor_ev, forC_ev, sDrop_ev, dropC_ev, sRet_ev, retC_ev, sRetN_ev, retnC_va, retnC_li, liOf_li, eMt1_ev, mt1C_ev, mt1C2_ev, mt1C3_ev, mt1C4_ev, eMt0_ev, mt0C_ev, sSub_ev, subC_ev, subC1_ev, subC2_ev, subC3_ev, subC4_ev, sAug_ev, augC_ev, augC2_ev, augC3_ev, mkF_ev, mkC_rt, mkC_nx, keepE_nil, keepE_va, keepE_ow', dTru_bool, dTru_int, dTru_none, dTru_list, dTru_tuple, dAdd_int, dAdd_tup, dAdd_lst, dIadd_int, dSub_int, dMul_int, dDiv_int, dMod_int, dNeg_int, dMin2_int, dMax2_int, dLtA_int, dLe_int, dLt_int, dGt_int, dGe_int, shaped_int, shaped_bool, shaped_none, eqv_int, eqv_bool, dEq_int, dNe_int, dEq_bool, dIs_none, dIsN_none, isNon_none, isNon_int, isNon_tup, isNon_bool, dLen_tup, dLen_lst, dIx_tup, dIx_lst, at0, at1, at2, at3, gExtend_lst, dTuple_lst, dTuple_tup, dList_lst, dList_tup, dInt_int, dSl_tup, dSl_lst, isTup, isLst, isBool, isIntB, isStr, beq_self_eq_true, decide_true, decide_false, isi_tup, isi_lst, isi_int, isi_bool, isi_str, isi_none, sz0, sz1, sz2, sz3, sz4, sz5, sz6, sz7, sz8, sz9, sz10, sz11, sz12, isOw_no, isOw_va, isOw_li, isOw_di, isOw_dt, isOw_ow, isOw_none, isOw_sl,
  Option.bind_some, Option.map_some, Option.bind_none, Option.map_none, Option.getD_some, Option.getD_none, List.getElem?_cons_zero, List.getElem?_cons_succ, List.set_cons_zero, List.set_cons_succ, List.map_cons, List.map_nil, List.headD_cons, List.headD_nil, List.tail_cons, List.tail_nil, List.isEmpty_nil, List.isEmpty_cons, List.length_nil, List.length_cons, List.nil_append, List.cons_append, List.replicate_succ, List.replicate_zero, Nat.reduceSub, Nat.reduceAdd, Bool.false_eq_true, if_false, if_true, reduceIte, Bool.not_true, Bool.not_false, and_true, true_and, and_self, Int.toNat_natCast, Int.zero_add, eCh_ev, chC_ev, chC2_ev, chC3_t, chC3_f, chC4_ev, lZip_ev, zipC_ev, zipC2_tup, zipC2_lst, dRev_tup, dRev_lst, dRngL_int, dRngT_int, oIte_ev, oiteC_li, oiteC_va, oCompO_ev, callC_rv2, callC_rv3, gset_ne, gset_self, List.length_set, Nat.reduceBEq, Nat.reduceLT])
local macro_rules | `(tactic| walk_at "evh") => `(tactic| simp -implicitDefEqProofs only [prE_ev, eVar_ev, varC_ev, eNm_ev, nmC_va, nmC_li, eC_ev, vw_va, vw_li, eOwn_ev, eIxO_ev, ixoC_ev, ixoC2_ev, ixoC3_ev, eOp_ev, opC_ev, opC2_ev, eUn_ev, unC_ev, bE_ev, bEC_ev, bB_ev, bBC_ev, bNot_ev, notC_ev, bAnd_ev, andC_t, andC_f, bOr_ev, orC_t, orC_f, bYes_ev, eAnd_ev, eandC_t, eandC_f, eOr_ev, eorC_t, eorC_f, eNot_ev, enotC_ev, eIf_ev, ifC_t, ifC_f, eTup_ev, tupC_ev, aNil_ev, aCons_ev, aconsC_ev, aconsC2_ev, oLst_ev, lstC_ev, oE_ev, oEC_ev, eFz_ev, fzC_va, fzC_li, oUn_ev, ounC_ev, prL_ev, eSl_ev, slC_ev, slC2_ev, slC3_ev, eSlO_ev, sloC_ev, sloC2_ev, sloC3_ev, sloC4_ev, lEnum_ev, enC_tup, enC_lst, pNo_ev, pSo_ev, psoC_ev, lOf_ev, lofC_tup, lofC_lst, lRng1_ev, rng1C_ev, lRng2_ev, rng2C_ev, rng2C2_ev, oRep_ev, repC_ev, repC2_ev, oCall_ev, callC_0, callC_1, callC_2, callC_3, callC_4, callC_5, callC_rv, callC_rv4, arSl_vl, arSl_rf, callC2_ev, arBack_nil, arBack_vl, arBack_rf, rNil_ev, rVal_ev, rvC_ev, rvC2_ev, rRef_ev, rrC_ev, oComp_ev, compC2_ev, wipeE_nil, wipeE_cons, backE_nil, backE_cons, gNm_ev, gTupF_ev, gsNil_ev, gsCons_ev, sNext_ev, sBreak_ev, sCont_ev, sSeq_ev, seqC_nx, seqC_bk, seqC_ct, seqC_rt, sSet_ev, setC_ev, sPar_ev, parC_ev, setAll_nil, setAll_cons, olNil_ev, olCons_ev, olC_ev, olC2_ev, sAsg_ev, asgC_ev, sIf_ev, sifC_t, sifC_f, sFor_ev, forC_ev, sDrop_ev, dropC_ev, sRet_ev, retC_ev, sRetN_ev, retnC_va, retnC_li, liOf_li, eMt1_ev, mt1C_ev, mt1C2_ev, mt1C3_ev, mt1C4_ev, eMt0_ev, mt0C_ev, sSub_ev, subC_ev, subC1_ev, subC2_ev, subC3_ev, subC4_ev, sAug_ev, augC_ev, augC2_ev, augC3_ev, mkF_ev, mkC_rt, mkC_nx, keepE_nil, keepE_va, keepE_ow', dTru_bool, dTru_int, dTru_none, dTru_list, dTru_tuple, dAdd_int, dAdd_tup, dAdd_lst, dIadd_int, dSub_int, dMul_int, dDiv_int, dMod_int, dNeg_int, dMin2_int, dMax2_int, dLtA_int, dLe_int, dLt_int, dGt_int, dGe_int, shaped_int, shaped_bool, shaped_none, eqv_int, eqv_bool, dEq_int, dNe_int, dEq_bool, dIs_none, dIsN_none, isNon_none, isNon_int, isNon_tup, isNon_bool, dLen_tup, dLen_lst, dIx_tup, dIx_lst, at0, at1, at2, at3, gExtend_lst, dTuple_lst, dTuple_tup, dList_lst, dList_tup, dInt_int, dSl_tup, dSl_lst, isTup, isLst, isBool, isIntB, isStr, beq_self_eq_true, decide_true, decide_false, isi_tup, isi_lst, isi_int, isi_bool, isi_str, isi_none, sz0, sz1, sz2, sz3, sz4, sz5, sz6, sz7, sz8, sz9, sz10, sz11, sz12, isOw_no, isOw_va, isOw_li, isOw_di, isOw_dt, isOw_ow, isOw_none, isOw_sl,
  Option.bind_some, Option.map_some, Option.bind_none, Option.map_none, Option.getD_some, Option.getD_none, List.getElem?_cons_zero, List.getElem?_cons_succ, List.set_cons_zero, List.set_cons_succ, List.map_cons, List.map_nil, List.headD_cons, List.headD_nil, List.tail_cons, List.tail_nil, List.isEmpty_nil, List.isEmpty_cons, List.length_nil, List.length_cons, List.nil_append, List.cons_append, List.replicate_succ, List.replicate_zero, Nat.reduceSub, Nat.reduceAdd, Bool.false_eq_true, if_false, if_true, reduceIte, Bool.not_true, Bool.not_false, and_true, true_and, and_self, Int.toNat_natCast, Int.zero_add, eCh_ev, chC_ev, chC2_ev, chC3_t, chC3_f, chC4_ev, lZip_ev, zipC_ev, zipC2_tup, zipC2_lst, dRev_tup, dRev_lst, dRngL_int, dRngT_int, oIte_ev, oiteC_li, oiteC_va, oCompO_ev, callC_rv2, callC_rv3, gset_ne, gset_self, List.length_set, Nat.reduceBEq, Nat.reduceLT, *])
/-! K83_Tl: the loops over judged values. -/
theorem it_nT {q : List Nat} (h : ∀ j ∈ q, j ≤ 99) (hl : q.length ≤ 1000) : IT 3 (nT q) := it_le (n := 1) ⟨by rw [nL_len]; exact hl, fun d hd => by
  obtain ⟨j, hj, rfl⟩ := List.mem_map.mp hd
  have := h j hj
  exact ⟨by omega, by omega⟩⟩ (by decide)
theorem plain_nLs {n : Nat} {q : List Nat} : ∀ d ∈ nL q, Plain n d := fun d hd => by
  obtain ⟨j, hj, rfl⟩ := List.mem_map.mp hd
  cases n <;> trivial
/-- five or six bent values of a value -/
theorem bents_ok {e : Ev} {b : Box} {l : Loan} (t : Tg e b l) {i : Nat} {v : D} {K : EF} (hi : 3 ≤ i ∧ i < 22) (hv : e[i]? = some (.va v)) (hit : IT 3 v) (hK : K = eFz (oCall F__law_bent (rRef 1 (rVal (eVar i) rNil)))) (n : Nat) (hn : n ≤ 6) :
    ∃ (rs : List D) (b' : Box), compC (gNm 22) bYes K [22] (rngD 0 n, e) = some (.li rs, e.set 1 (.ow b'.ot)) ∧ rs.length = n ∧ ∀ x ∈ rs, Plain 22 x := by
  have hl := t.len
  obtain ⟨rs, b', h1, h2, h3⟩ := compD (f := K) (v := 22) (fun b => e.set 1 (.ow b.ot)) (fun _ x => Plain 22 x) (rngD 0 n) b (by rw [rngD_len]; omega) (fun _ => by rw [gset_ne rfl]; exact t.no 22 (by decide)) (fun _ => by rw [List.length_set, hl]; decide) (fun _ _ => by rw [gset_ne rfl, gset_ne rfl]) fun d _ b => by
    obtain ⟨v', b', e1, p1⟩ := bent83 v b hit
    have hi1 : (1 == i) = false := beq_eq_false_iff_ne.mpr (by omega)
    have hi2 : (22 == i) = false := beq_eq_false_iff_ne.mpr (by omega)
    have hc : ((e.set 1 (.ow b.ot)).set 22 (.va d)).set 1 (.ow b'.ot) = (e.set 1 (.ow b'.ot)).set 22 (.va d) := by
      have : ((e.set 1 (.ow b.ot)).set 22 (Sl.va d)).set 1 (.ow b'.ot) = ((e.set 1 (.ow b.ot)).set 1 (.ow b'.ot)).set 22 (.va d) := List.set_comm _ _ (by decide)
      rw [this, List.set_set]
    refine ⟨v', b', ?_, p1⟩
    subst hK
    repeat (first | walk_at "ev" | simp only [gset_ne, gset_self, List.length_set, Nat.reduceLT, Nat.reduceBEq, hl, hi1, hi2, hv, e1, hc, reduceIte])
  rw [ow_self t.toTz] at h1
  rw [rngD_len] at h2
  refine ⟨rs, b', h1, h2, fun x hx => ?_⟩
  obtain ⟨i, hi⟩ := List.getElem?_of_mem hx
  have hi2 : i < (rngD 0 n).length := by have := (List.getElem?_eq_some_iff.mp hi).1; rw [rngD_len]; omega
  exact h3 i _ x (List.getElem?_eq_getElem hi2) hi
theorem mul_true {l : Loan} (L : LL l) : dMulT (.tuple [.bool true]) (.int (l.nn : Int)) = some (.tuple (List.replicate l.nn (.bool true))) := by
  have hn := L.n
  rw [dMulT_tup, if_pos ⟨by omega, by omega, by decide, by decide⟩, Int.toNat_natCast]
  congr 2
  have : ∀ n : Nat, (List.replicate n [PyData.bool true]).flatten = List.replicate n (.bool true) := fun n => by
    induction n with
    | zero => rfl
    | succ n ih => rw [List.replicate_succ, List.flatten_cons, ih, List.replicate_succ]; rfl
  exact this _
theorem S45_ok {e : Ev} {b : Box} {l : Loan} (t : Tg e b l) (L : LL l) (h10 : e[10]? = some (.va (nT (someO l)))) : ∃ e' b', S45_law e = some (.nx e') ∧ Tg e' b' l := by
  have hl := t.len
  have hn := L.n
  have h4 := t.n4
  obtain ⟨⟨hlt, hlen⟩, _⟩ := some_ok l L
  generalize someO l = s at h10 hlt hlen
  obtain ⟨rs, b', c, rl, rp⟩ := bents_ok t (K := K8_law) (by decide) h10 (it_nT (fun j hj => by have := hlt j hj; omega) (by omega)) rfl 5 (by decide)
  have hmt := mul_true L
  have c1 := cut_sub (nL s) (some 1) none
  have hr5 : Rg 5 := rg_of (by omega) (by omega)
  have h5n : (5 : Int).toNat = 5 := rfl
  have hz1 : (nL s).length + 1 ≤ sizeLine := small1Me (by rw [nL_len]; omega)
  have hz2 : 8 + rs.length ≤ sizeLine := small1Me (by omega)
  have hz3 : 7 + 1 + rs.length ≤ sizeLine := small1Me (by omega)
  have hzL : (nL s).length ≤ 1000000 := by rw [nL_len]; omega
  obtain ⟨e', k1, k2⟩ := loop_inv (L := L9_law) (v := 11) (fun e => Tg e b' l) (Plain 22) (fun d e hp ti => L9_ok ti L hp) (.tuple (nL s) :: .tuple (nL s).reverse :: .tuple (cutD (nL s) (some 1) none) :: .tuple (nL s ++ [.int 0]) :: .tuple [] :: .none :: .int 0 :: .tuple (List.replicate l.nn (.bool true)) :: rs) (e.set 1 (.ow b'.ot)) (fun d hd => by
    simp only [List.mem_cons] at hd
    rcases hd with rfl | rfl | rfl | rfl | rfl | rfl | rfl | rfl | hd
    · exact ⟨hzL, plain_nLs⟩
    · exact ⟨by rw [List.length_reverse]; exact hzL, fun d hd => plain_nLs d (List.mem_reverse.mp hd)⟩
    · exact ⟨by omega, fun d hd => plain_nLs d (c1.2 d hd)⟩
    · exact ⟨by rw [List.length_append, List.length_singleton, nL_len]; omega, fun d hd => (List.mem_append.mp hd).elim (plain_nLs d) fun h => by rw [List.mem_singleton.mp h]; trivial⟩
    · exact ⟨Nat.zero_le _, fun _ h => nomatch h⟩
    · trivial
    · trivial
    · exact ⟨by rw [List.length_replicate]; omega, fun d hd => by rw [List.eq_of_mem_replicate hd]; trivial⟩
    · exact rp d hd) t.bx
  refine ⟨e', b', ?_, k2⟩
  unfold S45_law
  repeat (first | walk_at "ev" | simp only [gset_ne, gset_self, List.length_set, Nat.reduceLT, Nat.reduceBEq, hl, h10, h4, hmt, hr5, h5n, c, hz1, hz2, hz3, k1, reduceIte])
/-! stuck groups that are judged -/
theorem L12_ok {e : Ev} {b : Box} {l : Loan} (t : Tg e b l) (L : LL l) {v : D} (hp : Plain 22 v) : ∃ e', (gNm 11 v e).bind L12_law = some (.nx e') ∧ Tg e' b l := by
  rw [gN_ok t.toTz v (by decide), Option.bind_some]
  have hl := t.len
  have h3 := t.l3
  have h4 := t.n4
  have h7 := t.w7
  have n12 := t.no 12 (by decide)
  have n23 := t.no 23 (by decide)
  have hn5 := L.n
  have hj := is_stuck_ok L.w hp (by decide)
  have hs := same_bool (stkB l v)
  have hnum := numbers_ok (l.nn : Int) hp
  refine ⟨(e.set 11 (.va v)).set 12 (.va (.bool (stkB l v))), ?_, (t.put (by decide) rfl).put (by decide) rfl⟩
  unfold L12_law
  cases hn : numsB (l.nn : Int) v with
  | false =>
    have e0 : stkB l v = false := by unfold stkB; rw [hn]; rfl
    rw [hn] at hnum
    rw [e0] at hj hs ⊢
    repeat (first | walk_at "ev" | simp only [gset_ne, gset_self, List.length_set, Nat.reduceLT, Nat.reduceBEq, hl, h3, h4, n12, hnum, hj, hs, reduceIte])
  | true =>
    rw [hn] at hnum
    obtain ⟨hv, hq⟩ := nums_nT hn
    have e0 : stkB l v = (ascB (natsOf v) && stuckB l (natsOf v)) := by unfold stkB; rw [hn, Bool.true_and]
    have hql : (natsOf v).length ≤ 1000000 := by
      cases v with
      | tuple ds => have := hp.1; have : (natsOf (.tuple ds)).length = ds.length := List.length_map _; omega
      | none => cases hn
      | bool _ => cases hn
      | str _ => cases hn
      | int _ => cases hn
      | list _ => cases hn
      | dict _ => cases hn
    generalize natsOf v = q at hv hq e0 hql
    subst hv
    have hrg : Rg ((q.length : Int) - 1) := rg_of (by omega) (by omega)
    have htn : ((q.length : Int) - 1).toNat = q.length - 1 := by omega
    have hany := lasc_ok hql
    have c := compRy (f := K11_law) (v := 23) (n := q.length - 1) (e := e.set 11 (.va (nT q))) (fun k => .bool (decide (((q.getD (k + 1) 0 : Nat) : Int) ≤ ((q.getD k 0 : Nat) : Int)))) (by omega) (by rw [gset_ne rfl]; exact n23) (by rw [List.length_set, hl]; decide) fun k hk => by
      have a1 := nL_at (q := q) (k := k) (by omega)
      have a2 := nL_at1 (q := q) (k := k) (by omega)
      unfold K11_law
      repeat (first | walk_at "ev" | simp only [gset_ne, gset_self, List.length_set, Nat.reduceLT, Nat.reduceBEq, hl, a1, a2])
    have hst := lstuck_ok L.w hq hql
    cases ha : ascB q with
    | false =>
      rw [ha] at hany e0
      rw [Bool.false_and] at e0
      rw [e0] at hj hs ⊢
      repeat (first | walk_at "ev" | simp only [gset_ne, gset_self, List.length_set, Nat.reduceLT, Nat.reduceBEq, hl, h3, h4, n12, hnum, nL_len, hrg, htn, c, hany, hj, hs, reduceIte])
    | true =>
      rw [ha] at hany e0
      rw [Bool.true_and] at e0
      cases hb : stuckB l q with
      | false =>
        rw [hb] at e0 hst
        rw [e0] at hj hs ⊢
        repeat (first | walk_at "ev" | simp only [gset_ne, gset_self, List.length_set, Nat.reduceLT, Nat.reduceBEq, hl, h3, h4, n12, hnum, nL_len, hrg, htn, c, hany, hst, hj, hs, reduceIte])
      | true =>
        rw [hb] at e0 hst
        rw [e0] at hj hs ⊢
        have hg := (grd_of_stuck L.nn hq hb).1
        rw [hg, if_neg (by decide)] at h7
        have hso := so_eq
        repeat (first | walk_at "ev" | simp only [gset_ne, gset_self, List.length_set, Nat.reduceLT, Nat.reduceBEq, hl, h3, h4, h7, n12, hnum, nL_len, hrg, htn, c, hany, hst, hj, hs, hso, reduceIte])
theorem S47_ok {e : Ev} {b : Box} {l : Loan} (t : Tg e b l) (L : LL l) (h10 : e[10]? = some (.va (nT (someG l)))) : ∃ e' b', S47_law e = some (.nx e') ∧ Tg e' b' l := by
  have hl := t.len
  have hn := L.n
  have h4 := t.n4
  have h6 := t.g6
  obtain ⟨_, hlt, hlen⟩ := some_ok l L
  obtain ⟨hgl, hgi⟩ := groups_len (l := l) hn
  generalize someG l = s at h10 hlt hlen
  have hgs : ∃ gs : List (List Nat), cutD ((groups l).map nT) none (some 3) = gs.map nT ∧ gs.length ≤ 32 ∧ ∀ g ∈ gs, g.length ≤ 5 := by
    refine ⟨(groups l).take 3, ?_, by rw [List.length_take]; omega, fun g hg => by have := hgi g (List.mem_of_mem_take hg); omega⟩
    rw [show (some (3 : Int)) = some ((3 : Nat) : Int) from rfl, cutD_to, List.map_take]
  obtain ⟨gs, hcut, hgsl, hgsi⟩ := hgs
  obtain ⟨rs, b', c, rl, rp⟩ := bents_ok t (K := K10_law) (by decide) h10 (it_nT (fun j hj => by have := hlt j hj; omega) (by omega)) rfl 5 (by decide)
  have c1 := cut_sub (nL s) (some 1) none
  have c2 := cut_sub (nL s) none (some (-1))
  have hr5 : Rg 5 := rg_of (by omega) (by omega)
  have h5n : (5 : Int).toNat = 5 := rfl
  have hz1 : (gs.map nT).length + 8 ≤ sizeLine := small1Me (by rw [List.length_map]; omega)
  have hzL : (nL s).length ≤ 1000000 := by rw [nL_len]; omega
  have hit : ∀ d ∈ (gs.map nT ++ (PyData.tuple (nL s) :: .tuple (cutD (nL s) (some 1) none) :: .tuple (cutD (nL s) none (some (-1))) :: .tuple (nL s).reverse :: .tuple [] :: .none :: .int 0 :: .tuple [.int (l.nn : Int)] :: [])) ++ rs, Plain 22 d := fun d hd => by
    rcases List.mem_append.mp hd with hd | hd
    · rcases List.mem_append.mp hd with hd | hd
      · obtain ⟨g, hg, rfl⟩ := List.mem_map.mp hd
        exact plain_nT (by have := hgsi g hg; omega)
      · simp only [List.mem_cons, List.not_mem_nil, or_false] at hd
        rcases hd with rfl | rfl | rfl | rfl | rfl | rfl | rfl | rfl
        · exact ⟨hzL, plain_nLs⟩
        · exact ⟨by omega, fun d hd => plain_nLs d (c1.2 d hd)⟩
        · exact ⟨by omega, fun d hd => plain_nLs d (c2.2 d hd)⟩
        · exact ⟨by rw [List.length_reverse]; exact hzL, fun d hd => plain_nLs d (List.mem_reverse.mp hd)⟩
        · exact ⟨Nat.zero_le _, fun _ h => nomatch h⟩
        · trivial
        · trivial
        · exact ⟨Nat.le_of_ble_eq_true rfl, fun d hd => by rw [List.mem_singleton.mp hd]; trivial⟩
    · exact rp d hd
  obtain ⟨e', k1, k2⟩ := loop_inv (L := L12_law) (v := 11) (fun e => Tg e b' l) (Plain 22) (fun d e hp ti => L12_ok ti L hp) _ (e.set 1 (.ow b'.ot)) hit t.bx
  have hz2 : (gs.map nT ++ (PyData.tuple (nL s) :: .tuple (cutD (nL s) (some 1) none) :: .tuple (cutD (nL s) none (some (-1))) :: .tuple (nL s).reverse :: .tuple [] :: .none :: .int 0 :: .tuple [.int (l.nn : Int)] :: [])).length + rs.length ≤ sizeLine := small1Me (by rw [List.length_append, List.length_map]; simp only [List.length_cons, List.length_nil]; omega)
  refine ⟨e', b', ?_, k2⟩
  unfold S47_law
  repeat (first | walk_at "ev" | simp only [gset_ne, gset_self, List.length_set, Nat.reduceLT, Nat.reduceBEq, hl, h10, h4, h6, hcut, hr5, h5n, c, hz1, hz2, k1, reduceIte])
end Fl

set_option Elab.async false
set_option linter.all false
set_option maxRecDepth 100000
set_option maxHeartbeats 4000000
set_option autoImplicit false
namespace Fl
open PySem PySem.Spec PyProof.Rows L2
local macro_rules | `(tactic| walk_at "ev") => `(tactic| simp -implicitDefEqProofs only [prE_ev, eVar_ev, varC_ev, eNm_ev, nmC_va, nmC_li, eC_ev, vw_va, vw_li, eOwn_ev, eIxO_ev, ixoC_ev, ixoC2_ev, ixoC3_ev, eOp_ev, opC_ev, opC2_ev, eUn_ev, unC_ev, bE_ev, bEC_ev, bB_ev, bBC_ev, bNot_ev, notC_ev, bAnd_ev, andC_t, andC_f, bOr_ev, orC_t, orC_f, bYes_ev, eAnd_ev, eandC_t, eandC_f, eOr_ev, eorC_t, eorC_f, eNot_ev, enotC_ev, eIf_ev, ifC_t, ifC_f, eTup_ev, tupC_ev, aNil_ev, aCons_ev, aconsC_ev, aconsC2_ev, oLst_ev, lstC_ev, oE_ev, oEC_ev, eFz_ev, fzC_va, fzC_li, oUn_ev, ounC_ev, prL_ev, eSl_ev, slC_ev, slC2_ev, slC3_ev, eSlO_ev, sloC_ev, sloC2_ev, sloC3_ev, sloC4_ev, lEnum_ev, enC_tup, enC_lst, pNo_ev, pSo_ev, psoC_ev, lOf_ev, lofC_tup, lofC_lst, lRng1_ev, rng1C_ev, lRng2_ev, rng2C_ev, rng2C2_ev, oRep_ev, repC_ev, repC2_ev, oCall_ev, callC_0, callC_1, callC_2, callC_3, callC_4, callC_5, callC_rv, callC_rv4, arSl_vl, arSl_rf, callC2_ev, arBack_nil, arBack_vl, arBack_rf, rNil_ev, rVal_ev, rvC_ev, rvC2_ev, rRef_ev, rrC_ev, oComp_ev, compC2_ev, wipeE_nil, wipeE_cons, backE_nil, backE_cons, gNm_ev, gTupF_ev, gsNil_ev, gsCons_ev, sNext_ev, sBreak_ev, sCont_ev, sSeq_ev, seqC_nx, seqC_bk, seqC_ct, seqC_rt, sSet_ev, setC_ev, sPar_ev, parC_ev, setAll_nil, setAll_cons, olNil_ev, olCons_ev, olC_ev, olC2_ev, sAsg_ev, asgC_ev, sIf_ev, sifC_t, sifC_f, sFor_ev, forC_ev, sDrop_ev, dropC_ev, sRet_ev, retC_ev, sRetN_ev, retnC_va, retnC_li, liOf_li, eMt1_ev, mt1C_ev, mt1C2_ev, mt1C3_ev, mt1C4_ev, eMt0_ev, mt0C_ev, sSub_ev, subC_ev, subC1_ev, subC2_ev, subC3_ev, subC4_ev, sAug_ev, augC_ev, augC2_ev, augC3_ev, mkF_ev, mkC_rt, mkC_nx, keepE_nil, keepE_va, keepE_ow', dTru_bool, dTru_int, dTru_none, dTru_list, dTru_tuple, dAdd_int, dAdd_tup, dAdd_lst, dIadd_int, dSub_int, dMul_int, dDiv_int, dMod_int, dNeg_int, dMin2_int, dMax2_int, dLtA_int, dLe_int, dLt_int, dGt_int, dGe_int, shaped_int, shaped_bool, shaped_none, eqv_int, eqv_bool, dEq_int, dNe_int, dEq_bool, dIs_none, dIsN_none, isNon_none, isNon_int, isNon_tup, isNon_bool, dLen_tup, dLen_lst, dIx_tup, dIx_lst, at0, at1, at2, at3, gExtend_lst, dTuple_lst, dTuple_tup, dList_lst, dList_tup, dInt_int, dSl_tup, dSl_lst, isTup, isLst, isBool, isIntB, isStr, beq_self_eq_true, decide_true, decide_false, isi_tup, isi_lst, isi_int, isi_bool, isi_str, isi_none, sz0, sz1, sz2, sz3, sz4, sz5, sz6, sz7, sz8, sz9, sz10, sz11, sz12, isOw_no, isOw_va, isOw_li, isOw_di, isOw_dt, isOw_ow, isOw_none, isOw_sl,
  Option.bind_some, Option.map_some, Option.bind_none, Option.map_none, Option.getD_some, Option.getD_none, List.getElem?_cons_zero, List.getElem?_cons_succ, List.set_cons_zero, List.set_cons_succ, List.map_cons, List.map_nil, List.headD_cons, List.headD_nil, List.tail_cons, List.tail_nil, List.isEmpty_nil, List.isEmpty_cons, List.length_nil, List.length_cons, List.nil_append, List.cons_append, List.replicate_succ, List.replicate_zero, Nat.reduceSub, Nat.reduceAdd, Bool.false_eq_true, if_false, if_true, reduceIte, Bool.not_true, Bool.not_false, and_true, true_and, and_self, Int.toNat_natCast, Int.zero_add, eCh_ev, chC_ev, chC2_ev, chC3_t, chC3_f, chC4_ev, lZip_ev, zipC_ev, zipC2_tup, zipC2_lst, dRev_tup, dRev_lst, dRngL_int, dRngT_int, oIte_ev, oiteC_li, oiteC_va, oCompO_ev, callC_rv2, callC_rv3, gset_ne, gset_self, List.length_set, Nat.reduceBEq, Nat.reduceLT])
local macro_rules | `(tactic| walk_at "evh") => `(tactic| simp -implicitDefEqProofs only [prE_ev, eVar_ev, varC_ev, eNm_ev, nmC_va, nmC_li, eC_ev, vw_va, vw_li, eOwn_ev, eIxO_ev, ixoC_ev, ixoC2_ev, ixoC3_ev, eOp_ev, opC_ev, opC2_ev, eUn_ev, unC_ev, bE_ev, bEC_ev, bB_ev, bBC_ev, bNot_ev, notC_ev, bAnd_ev, andC_t, andC_f, bOr_ev, orC_t, orC_f, bYes_ev, eAnd_ev, eandC_t, eandC_f, eOr_ev, eorC_t, eorC_f, eNot_ev, enotC_ev, eIf_ev, ifC_t, ifC_f, eTup_ev, tupC_ev, aNil_ev, aCons_ev, aconsC_ev, aconsC2_ev, oLst_ev, lstC_ev, oE_ev, oEC_ev, eFz_ev, fzC_va, fzC_li, oUn_ev, ounC_ev, prL_ev, eSl_ev, slC_ev, slC2_ev, slC3_ev, eSlO_ev, sloC_ev, sloC2_ev, sloC3_ev, sloC4_ev, lEnum_ev, enC_tup, enC_lst, pNo_ev, pSo_ev, psoC_ev, lOf_ev, lofC_tup, lofC_lst, lRng1_ev, rng1C_ev, lRng2_ev, rng2C_ev, rng2C2_ev, oRep_ev, repC_ev, repC2_ev, oCall_ev, callC_0, callC_1, callC_2, callC_3, callC_4, callC_5, callC_rv, callC_rv4, arSl_vl, arSl_rf, callC2_ev, arBack_nil, arBack_vl, arBack_rf, rNil_ev, rVal_ev, rvC_ev, rvC2_ev, rRef_ev, rrC_ev, oComp_ev, compC2_ev, wipeE_nil, wipeE_cons, backE_nil, backE_cons, gNm_ev, gTupF_ev, gsNil_ev, gsCons_ev, sNext_ev, sBreak_ev, sCont_ev, sSeq_ev, seqC_nx, seqC_bk, seqC_ct, seqC_rt, sSet_ev, setC_ev, sPar_ev, parC_ev, setAll_nil, setAll_cons, olNil_ev, olCons_ev, olC_ev, olC2_ev, sAsg_ev, asgC_ev, sIf_ev, sifC_t, sifC_f, sFor_ev, forC_ev, sDrop_ev, dropC_ev, sRet_ev, retC_ev, sRetN_ev, retnC_va, retnC_li, liOf_li, eMt1_ev, mt1C_ev, mt1C2_ev, mt1C3_ev, mt1C4_ev, eMt0_ev, mt0C_ev, sSub_ev, subC_ev, subC1_ev, subC2_ev, subC3_ev, subC4_ev, sAug_ev, augC_ev, augC2_ev, augC3_ev, mkF_ev, mkC_rt, mkC_nx, keepE_nil, keepE_va, keepE_ow', dTru_bool, dTru_int, dTru_none, dTru_list, dTru_tuple, dAdd_int, dAdd_tup, dAdd_lst, dIadd_int, dSub_int, dMul_int, dDiv_int, dMod_int, dNeg_int, dMin2_int, dMax2_int, dLtA_int, dLe_int, dLt_int, dGt_int, dGe_int, shaped_int, shaped_bool, shaped_none, eqv_int, eqv_bool, dEq_int, dNe_int, dEq_bool, dIs_none, dIsN_none, isNon_none, isNon_int, isNon_tup, isNon_bool, dLen_tup, dLen_lst, dIx_tup, dIx_lst, at0, at1, at2, at3, gExtend_lst, dTuple_lst, dTuple_tup, dList_lst, dList_tup, dInt_int, dSl_tup, dSl_lst, isTup, isLst, isBool, isIntB, isStr, beq_self_eq_true, decide_true, decide_false, isi_tup, isi_lst, isi_int, isi_bool, isi_str, isi_none, sz0, sz1, sz2, sz3, sz4, sz5, sz6, sz7, sz8, sz9, sz10, sz11, sz12, isOw_no, isOw_va, isOw_li, isOw_di, isOw_dt, isOw_ow, isOw_none, isOw_sl,
  Option.bind_some, Option.map_some, Option.bind_none, Option.map_none, Option.getD_some, Option.getD_none, List.getElem?_cons_zero, List.getElem?_cons_succ, List.set_cons_zero, List.set_cons_succ, List.map_cons, List.map_nil, List.headD_cons, List.headD_nil, List.tail_cons, List.tail_nil, List.isEmpty_nil, List.isEmpty_cons, List.length_nil, List.length_cons, List.nil_append, List.cons_append, List.replicate_succ, List.replicate_zero, Nat.reduceSub, Nat.reduceAdd, Bool.false_eq_true, if_false, if_true, reduceIte, Bool.not_true, Bool.not_false, and_true, true_and, and_self, Int.toNat_natCast, Int.zero_add, eCh_ev, chC_ev, chC2_ev, chC3_t, chC3_f, chC4_ev, lZip_ev, zipC_ev, zipC2_tup, zipC2_lst, dRev_tup, dRev_lst, dRngL_int, dRngT_int, oIte_ev, oiteC_li, oiteC_va, oCompO_ev, callC_rv2, callC_rv3, gset_ne, gset_self, List.length_set, Nat.reduceBEq, Nat.reduceLT, *])
/-! K83_Tk: loans that are judged. -/
theorem L14_ok {e : Ev} {b : Box} {l : Loan} (t : Tg e b l) {v : D} (hp : Plain 22 v) : ∃ e', (gNm 11 v e).bind L14_law = some (.nx e') ∧ Tg e' b l := by
  rw [gN_ok t.toTz v (by decide), Option.bind_some]
  have hl := t.len
  have h1 := is_loan_ok hp
  have h2 := law_is_loan_ok hp
  have hs := same_bool (islB v)
  refine ⟨e.set 11 (.va v), ?_, t.put (by decide) rfl⟩
  unfold L14_law
  repeat (first | walk_at "ev" | simp only [gset_ne, gset_self, List.length_set, Nat.reduceLT, Nat.reduceBEq, hl, h1, h2, hs, reduceIte])
theorem mul_rows (n : Nat) (h : n ≤ 1000) (h0 : n ≠ 0) : ∃ xs, dMulT (.tuple [.tuple [.int 1]]) (.int (n : Int)) = some (.tuple xs) ∧ Plain 3 (.tuple xs) := by
  refine ⟨(List.replicate n [PyData.tuple [PyData.int 1]]).flatten, by rw [dMulT_tup, if_pos ⟨by omega, by omega, by decide, by decide⟩, Int.toNat_natCast], ?_⟩
  have key : ∀ n : Nat, (List.replicate n [PyData.tuple [PyData.int 1]]).flatten.length = n ∧ ∀ d ∈ (List.replicate n [PyData.tuple [PyData.int 1]]).flatten, d = .tuple [.int 1] := fun n => by
    induction n with
    | zero => exact ⟨rfl, fun _ h => nomatch h⟩
    | succ n ih =>
      rw [List.replicate_succ, List.flatten_cons]
      refine ⟨by rw [List.length_append, ih.1]; simp; omega, fun d hd => ?_⟩
      rcases List.mem_append.mp hd with hd | hd
      · exact List.mem_singleton.mp hd
      · exact ih.2 d hd
  refine ⟨by rw [(key n).1]; omega, fun d hd => ?_⟩
  rw [(key n).2 d hd]
  exact ⟨Nat.le_of_ble_eq_true rfl, fun d hd => by rw [List.mem_singleton.mp hd]; trivial⟩
theorem plain_three {n : Nat} {a b c : D} (ha : Plain n a) (hb : Plain n b) (hc : Plain n c) : Plain (n + 1) (.tuple [a, b, c]) := by
  refine ⟨Nat.le_of_ble_eq_true rfl, fun d hd => ?_⟩
  simp only [List.mem_cons, List.not_mem_nil, or_false] at hd
  rcases hd with rfl | rfl | rfl
  · exact ha
  · exact hb
  · exact hc
theorem values_ok {e : Ev} {b : Box} {l : Loan} (t : Tg e b l) (L : LL l) (R : SF) : ∃ e' b', sSeq S48_law (sSeq S49_law (sSeq S50_law R)) e = R e' ∧ Tg e' b' l := by
  have hl := t.len
  have hn := L.n
  have hlo : loD l = .tuple [rwD l.free, rwsD l.held, rwsD l.need] := rfl
  have h3 := t.l3
  have n13 := t.no 13 (by decide)
  have hp := lo_plain L.w
  have hpi : ∀ d ∈ [rwD l.free, rwsD l.held, rwsD l.need], Plain 2 d := hp.2
  have hrow := (plain_items (hpi (rwsD l.held) (by simp)))
  have h3' := h3
  rw [hlo] at h3'
  obtain ⟨x12, m12, p12⟩ := mul_rows 12 (by decide) (by decide)
  obtain ⟨x13, m13, p13⟩ := mul_rows 13 (by decide) (by decide)
  have m12' : dMulT (.tuple [.tuple [.int 1]]) (.int 12) = some (.tuple x12) := m12
  have m13' : dMulT (.tuple [.tuple [.int 1]]) (.int 13) = some (.tuple x13) := m13
  generalize hX : [rwD l.free, rwsD l.held, rwsD l.need] = X at hpi h3'
  have hXl : X.length = 3 := by rw [← hX]; rfl
  have a0 : atI X 0 = some (rwD l.free) := by rw [← hX]; exact at0 _ _
  have a1 : atI X 1 = some (rwsD l.held) := by rw [← hX]; exact at1 _ _ _
  have a2 : atI X 2 = some (rwsD l.need) := by rw [← hX]; exact at2 _ _ _ _
  have c1 := cut_sub X none (some 2)
  have c2 := cut_sub X (some 1) none
  have c3 := cut_sub (l.held.map rwD) none (some 1)
  have hlh : (l.held.map rwD).length = l.nn := by rw [List.length_map, L.w.h]
  have hz1 : 1 + (cutD X (some 1) none).length ≤ sizeLine := small1Me (by omega)
  have hz1' : 0 + 1 + (cutD X (some 1) none).length ≤ sizeLine := small1Me (by omega)
  have hz2 : (l.held.map rwD).length + (cutD (l.held.map rwD) none (some 1)).length ≤ sizeLine := small1Me (by omega)
  -- the first six
  have v1 : Plain 22 (.tuple X) := plain_le (n := 3) ⟨by rw [hXl]; decide, hpi⟩ (by decide)
  have v2 : Plain 22 (.tuple (cutD X none (some 2))) := plain_le (n := 3) ⟨by omega, fun d hd => hpi d (c1.2 d hd)⟩ (by decide)
  have v3 : Plain 22 (.tuple X.reverse) := plain_le (n := 3) ⟨by rw [List.length_reverse, hXl]; decide, fun d hd => hpi d (List.mem_reverse.mp hd)⟩ (by decide)
  have v4 : Plain 22 (.tuple (.tuple [] :: cutD X (some 1) none)) := plain_le (n := 3) ⟨by rw [List.length_cons]; omega, fun d hd => by
    rcases List.mem_cons.mp hd with rfl | hd
    · exact ⟨Nat.zero_le _, fun _ h => nomatch h⟩
    · exact hpi d (c2.2 d hd)⟩ (by decide)
  have hfree : Plain 2 (rwD l.free) := hpi _ (by rw [← hX]; simp)
  have hheld : Plain 2 (rwsD l.held) := hpi _ (by rw [← hX]; simp)
  have hneed : Plain 2 (rwsD l.need) := hpi _ (by rw [← hX]; simp)
  have v5 : Plain 22 (.tuple [rwD l.free, .tuple (l.held.map rwD ++ cutD (l.held.map rwD) none (some 1)), rwsD l.need]) := plain_le (n := 3) (plain_three hfree ⟨by rw [List.length_append]; omega, fun d hd => (List.mem_append.mp hd).elim (hheld.2 d) fun hd => hheld.2 d (c3.2 d hd)⟩ hneed) (by decide)
  have one : ∀ (n : Nat) (i : Int), Plain (n + 1) (.tuple [.int i]) := fun n i => ⟨Nat.le_of_ble_eq_true rfl, fun d hd => by rw [List.mem_singleton.mp hd]; cases n <;> trivial⟩
  have nilP : ∀ n : Nat, Plain (n + 1) (.tuple []) := fun n => ⟨Nat.zero_le _, fun _ h => nomatch h⟩
  have v6 : Plain 22 (.tuple [.tuple [.int 100], .tuple [], .tuple []]) := plain_three (one _ _) (nilP _) (nilP _)
  have v7 : Plain 22 (.tuple [.tuple [.int 1], .tuple x12, .tuple x12]) := plain_three (one _ _) (plain_le p12 (by decide)) (plain_le p12 (by decide))
  have v8 : Plain 22 (.tuple [.tuple [.int 1], .tuple x13, .tuple x13]) := plain_three (one _ _) (plain_le p13 (by decide)) (plain_le p13 (by decide))
  have v10 : Plain 22 (.tuple [.tuple [.bool true], .tuple [], .tuple []]) := plain_three ⟨Nat.le_of_ble_eq_true rfl, fun d hd => by rw [List.mem_singleton.mp hd]; trivial⟩ (nilP _) (nilP _)
  have s48 : S48_law e = some (.nx (e.set 13 (.va (.list [.tuple X, .tuple (cutD X none (some 2)), .tuple X.reverse, .tuple (.tuple [] :: cutD X (some 1) none), .tuple [rwD l.free, .tuple (l.held.map rwD ++ cutD (l.held.map rwD) none (some 1)), rwsD l.need], .tuple [.tuple [.int 100], .tuple [], .tuple []]])))) := by
    unfold S48_law
    repeat (first | walk_at "ev" | simp only [gset_ne, gset_self, List.length_set, Nat.reduceLT, Nat.reduceBEq, hl, h3', n13, hz1, hz1', hz2, a0, a1, a2, reduceIte])
  have s49 : S49_law (e.set 13 (.va (.list [.tuple X, .tuple (cutD X none (some 2)), .tuple X.reverse, .tuple (.tuple [] :: cutD X (some 1) none), .tuple [rwD l.free, .tuple (l.held.map rwD ++ cutD (l.held.map rwD) none (some 1)), rwsD l.need], .tuple [.tuple [.int 100], .tuple [], .tuple []]]))) = some (.nx (e.set 13 (.va (.list [.tuple X, .tuple (cutD X none (some 2)), .tuple X.reverse, .tuple (.tuple [] :: cutD X (some 1) none), .tuple [rwD l.free, .tuple (l.held.map rwD ++ cutD (l.held.map rwD) none (some 1)), rwsD l.need], .tuple [.tuple [.int 100], .tuple [], .tuple []], .tuple [.tuple [.int 1], .tuple x12, .tuple x12], .tuple [.tuple [.int 1], .tuple x13, .tuple x13], .none, .tuple [.tuple [.bool true], .tuple [], .tuple []]])))) := by
    have hd0 : isOw (some (Sl.va (.list [.tuple X, .tuple (cutD X none (some 2)), .tuple X.reverse, .tuple (.tuple [] :: cutD X (some 1) none), .tuple [rwD l.free, .tuple (l.held.map rwD ++ cutD (l.held.map rwD) none (some 1)), rwsD l.need], .tuple [.tuple [.int 100], .tuple [], .tuple []]]))) = false := rfl
    unfold S49_law
    repeat (first | walk_at "ev" | simp only [gset_ne, gset_self, List.length_set, Nat.reduceLT, Nat.reduceBEq, hl, m12', m13', List.set_set, reduceIte])
  have tE := t.put (i := 13) (s := .va (.list [.tuple X, .tuple (cutD X none (some 2)), .tuple X.reverse, .tuple (.tuple [] :: cutD X (some 1) none), .tuple [rwD l.free, .tuple (l.held.map rwD ++ cutD (l.held.map rwD) none (some 1)), rwsD l.need], .tuple [.tuple [.int 100], .tuple [], .tuple []], .tuple [.tuple [.int 1], .tuple x12, .tuple x12], .tuple [.tuple [.int 1], .tuple x13, .tuple x13], .none, .tuple [.tuple [.bool true], .tuple [], .tuple []]])) (by decide) rfl
  have hvs : ∀ d ∈ [PyData.tuple X, .tuple (cutD X none (some 2)), .tuple X.reverse, .tuple (.tuple [] :: cutD X (some 1) none), .tuple [rwD l.free, .tuple (l.held.map rwD ++ cutD (l.held.map rwD) none (some 1)), rwsD l.need], .tuple [.tuple [.int 100], .tuple [], .tuple []], .tuple [.tuple [.int 1], .tuple x12, .tuple x12], .tuple [.tuple [.int 1], .tuple x13, .tuple x13], .none, .tuple [.tuple [.bool true], .tuple [], .tuple []]], Plain 22 d := fun d hd => by
    simp only [List.mem_cons, List.not_mem_nil, or_false] at hd
    rcases hd with rfl | rfl | rfl | rfl | rfl | rfl | rfl | rfl | rfl | rfl
    · exact v1
    · exact v2
    · exact v3
    · exact v4
    · exact v5
    · exact v6
    · exact v7
    · exact v8
    · trivial
    · exact v10
  have hvl : [PyData.tuple X, .tuple (cutD X none (some 2)), .tuple X.reverse, .tuple (.tuple [] :: cutD X (some 1) none), .tuple [rwD l.free, .tuple (l.held.map rwD ++ cutD (l.held.map rwD) none (some 1)), rwsD l.need], .tuple [.tuple [.int 100], .tuple [], .tuple []], .tuple [.tuple [.int 1], .tuple x12, .tuple x12], .tuple [.tuple [.int 1], .tuple x13, .tuple x13], .none, .tuple [.tuple [.bool true], .tuple [], .tuple []]].length = 10 := rfl
  have e13 : (e.set 13 (.va (.list [.tuple X, .tuple (cutD X none (some 2)), .tuple X.reverse, .tuple (.tuple [] :: cutD X (some 1) none), .tuple [rwD l.free, .tuple (l.held.map rwD ++ cutD (l.held.map rwD) none (some 1)), rwsD l.need], .tuple [.tuple [.int 100], .tuple [], .tuple []], .tuple [.tuple [.int 1], .tuple x12, .tuple x12], .tuple [.tuple [.int 1], .tuple x13, .tuple x13], .none, .tuple [.tuple [.bool true], .tuple [], .tuple []]])))[13]? = some (.va (.list [.tuple X, .tuple (cutD X none (some 2)), .tuple X.reverse, .tuple (.tuple [] :: cutD X (some 1) none), .tuple [rwD l.free, .tuple (l.held.map rwD ++ cutD (l.held.map rwD) none (some 1)), rwsD l.need], .tuple [.tuple [.int 100], .tuple [], .tuple []], .tuple [.tuple [.int 1], .tuple x12, .tuple x12], .tuple [.tuple [.int 1], .tuple x13, .tuple x13], .none, .tuple [.tuple [.bool true], .tuple [], .tuple []]])) := gset_self (by rw [hl]; decide)
  generalize [PyData.tuple X, .tuple (cutD X none (some 2)), .tuple X.reverse, .tuple (.tuple [] :: cutD X (some 1) none), .tuple [rwD l.free, .tuple (l.held.map rwD ++ cutD (l.held.map rwD) none (some 1)), rwsD l.need], .tuple [.tuple [.int 100], .tuple [], .tuple []], .tuple [.tuple [.int 1], .tuple x12, .tuple x12], .tuple [.tuple [.int 1], .tuple x13, .tuple x13], .none, .tuple [.tuple [.bool true], .tuple [], .tuple []]] = vs at s49 tE hvs hvl e13
  generalize hE : e.set 13 (.va (.list vs)) = E at s49 tE e13
  obtain ⟨rs, b', c, rl, rp⟩ := bents_ok tE (K := K13_law) (i := 3) (by decide) tE.l3 (lo_it L.w L.bl (by decide) (by decide)) rfl 6 (by decide)
  have hr6 : Rg 6 := rg_of (by omega) (by omega)
  have h6n : (6 : Int).toNat = 6 := rfl
  have hz3 : vs.length + rs.length ≤ sizeLine := small1Me (by omega)
  obtain ⟨e', k1, k2⟩ := loop_inv (L := L14_law) (v := 11) (fun e => Tg e b' l) (Plain 22) (fun d e hp ti => L14_ok ti hp) (vs ++ rs) (E.set 1 (.ow b'.ot)) (fun d hd => (List.mem_append.mp hd).elim (hvs d) (rp d)) tE.bx
  have s50 : S50_law E = some (.nx e') := by
    have hl := tE.len
    unfold S50_law
    repeat (first | walk_at "ev" | simp only [gset_ne, gset_self, List.length_set, Nat.reduceLT, Nat.reduceBEq, hl, e13, hr6, h6n, c, hz3, k1, reduceIte])
  refine ⟨e', b', ?_, k2⟩
  rw [sSeq_ev, s48, Option.bind_some, seqC_nx, sSeq_ev, s49, Option.bind_some, seqC_nx, sSeq_ev, s50, Option.bind_some, seqC_nx]
end Fl

set_option Elab.async false
set_option linter.all false
set_option maxRecDepth 100000
set_option maxHeartbeats 4000000
set_option autoImplicit false
namespace Fl
open PySem PySem.Spec PyProof.Rows L2
local macro_rules | `(tactic| walk_at "ev") => `(tactic| simp -implicitDefEqProofs only [prE_ev, eVar_ev, varC_ev, eNm_ev, nmC_va, nmC_li, eC_ev, vw_va, vw_li, eOwn_ev, eIxO_ev, ixoC_ev, ixoC2_ev, ixoC3_ev, eOp_ev, opC_ev, opC2_ev, eUn_ev, unC_ev, bE_ev, bEC_ev, bB_ev, bBC_ev, bNot_ev, notC_ev, bAnd_ev, andC_t, andC_f, bOr_ev, orC_t, orC_f, bYes_ev, eAnd_ev, eandC_t, eandC_f, eOr_ev, eorC_t, eorC_f, eNot_ev, enotC_ev, eIf_ev, ifC_t, ifC_f, eTup_ev, tupC_ev, aNil_ev, aCons_ev, aconsC_ev, aconsC2_ev, oLst_ev, lstC_ev, oE_ev, oEC_ev, eFz_ev, fzC_va, fzC_li, oUn_ev, ounC_ev, prL_ev, eSl_ev, slC_ev, slC2_ev, slC3_ev, eSlO_ev, sloC_ev, sloC2_ev, sloC3_ev, sloC4_ev, lEnum_ev, enC_tup, enC_lst, pNo_ev, pSo_ev, psoC_ev, lOf_ev, lofC_tup, lofC_lst, lRng1_ev, rng1C_ev, lRng2_ev, rng2C_ev, rng2C2_ev, oRep_ev, repC_ev, repC2_ev, oCall_ev, callC_0, callC_1, callC_2, callC_3, callC_4, callC_5, callC_rv, callC_rv4, arSl_vl, arSl_rf, callC2_ev, arBack_nil, arBack_vl, arBack_rf, rNil_ev, rVal_ev, rvC_ev, rvC2_ev, rRef_ev, rrC_ev, oComp_ev, compC2_ev, wipeE_nil, wipeE_cons, backE_nil, backE_cons, gNm_ev, gTupF_ev, gsNil_ev, gsCons_ev, sNext_ev, sBreak_ev, sCont_ev, sSeq_ev, seqC_nx, seqC_bk, seqC_ct, seqC_rt, sSet_ev, setC_ev, sPar_ev, parC_ev, setAll_nil, setAll_cons, olNil_ev, olCons_ev, olC_ev, olC2_ev, sAsg_ev, asgC_ev, sIf_ev, sifC_t, sifC_f, sFor_ev, forC_ev, sDrop_ev, dropC_ev, sRet_ev, retC_ev, sRetN_ev, retnC_va, retnC_li, liOf_li, eMt1_ev, mt1C_ev, mt1C2_ev, mt1C3_ev, mt1C4_ev, eMt0_ev, mt0C_ev, sSub_ev, subC_ev, subC1_ev, subC2_ev, subC3_ev, subC4_ev, sAug_ev, augC_ev, augC2_ev, augC3_ev, mkF_ev, mkC_rt, mkC_nx, keepE_nil, keepE_va, keepE_ow', dTru_bool, dTru_int, dTru_none, dTru_list, dTru_tuple, dAdd_int, dAdd_tup, dAdd_lst, dIadd_int, dSub_int, dMul_int, dDiv_int, dMod_int, dNeg_int, dMin2_int, dMax2_int, dLtA_int, dLe_int, dLt_int, dGt_int, dGe_int, shaped_int, shaped_bool, shaped_none, eqv_int, eqv_bool, dEq_int, dNe_int, dEq_bool, dIs_none, dIsN_none, isNon_none, isNon_int, isNon_tup, isNon_bool, dLen_tup, dLen_lst, dIx_tup, dIx_lst, at0, at1, at2, at3, gExtend_lst, dTuple_lst, dTuple_tup, dList_lst, dList_tup, dInt_int, dSl_tup, dSl_lst, isTup, isLst, isBool, isIntB, isStr, beq_self_eq_true, decide_true, decide_false, isi_tup, isi_lst, isi_int, isi_bool, isi_str, isi_none, sz0, sz1, sz2, sz3, sz4, sz5, sz6, sz7, sz8, sz9, sz10, sz11, sz12, isOw_no, isOw_va, isOw_li, isOw_di, isOw_dt, isOw_ow, isOw_none, isOw_sl,
  Option.bind_some, Option.map_some, Option.bind_none, Option.map_none, Option.getD_some, Option.getD_none, List.getElem?_cons_zero, List.getElem?_cons_succ, List.set_cons_zero, List.set_cons_succ, List.map_cons, List.map_nil, List.headD_cons, List.headD_nil, List.tail_cons, List.tail_nil, List.isEmpty_nil, List.isEmpty_cons, List.length_nil, List.length_cons, List.nil_append, List.cons_append, List.replicate_succ, List.replicate_zero, Nat.reduceSub, Nat.reduceAdd, Bool.false_eq_true, if_false, if_true, reduceIte, Bool.not_true, Bool.not_false, and_true, true_and, and_self, Int.toNat_natCast, Int.zero_add, eCh_ev, chC_ev, chC2_ev, chC3_t, chC3_f, chC4_ev, lZip_ev, zipC_ev, zipC2_tup, zipC2_lst, dRev_tup, dRev_lst, dRngL_int, dRngT_int, oIte_ev, oiteC_li, oiteC_va, oCompO_ev, callC_rv2, callC_rv3, gset_ne, gset_self, List.length_set, Nat.reduceBEq, Nat.reduceLT])
local macro_rules | `(tactic| walk_at "evh") => `(tactic| simp -implicitDefEqProofs only [prE_ev, eVar_ev, varC_ev, eNm_ev, nmC_va, nmC_li, eC_ev, vw_va, vw_li, eOwn_ev, eIxO_ev, ixoC_ev, ixoC2_ev, ixoC3_ev, eOp_ev, opC_ev, opC2_ev, eUn_ev, unC_ev, bE_ev, bEC_ev, bB_ev, bBC_ev, bNot_ev, notC_ev, bAnd_ev, andC_t, andC_f, bOr_ev, orC_t, orC_f, bYes_ev, eAnd_ev, eandC_t, eandC_f, eOr_ev, eorC_t, eorC_f, eNot_ev, enotC_ev, eIf_ev, ifC_t, ifC_f, eTup_ev, tupC_ev, aNil_ev, aCons_ev, aconsC_ev, aconsC2_ev, oLst_ev, lstC_ev, oE_ev, oEC_ev, eFz_ev, fzC_va, fzC_li, oUn_ev, ounC_ev, prL_ev, eSl_ev, slC_ev, slC2_ev, slC3_ev, eSlO_ev, sloC_ev, sloC2_ev, sloC3_ev, sloC4_ev, lEnum_ev, enC_tup, enC_lst, pNo_ev, pSo_ev, psoC_ev, lOf_ev, lofC_tup, lofC_lst, lRng1_ev, rng1C_ev, lRng2_ev, rng2C_ev, rng2C2_ev, oRep_ev, repC_ev, repC2_ev, oCall_ev, callC_0, callC_1, callC_2, callC_3, callC_4, callC_5, callC_rv, callC_rv4, arSl_vl, arSl_rf, callC2_ev, arBack_nil, arBack_vl, arBack_rf, rNil_ev, rVal_ev, rvC_ev, rvC2_ev, rRef_ev, rrC_ev, oComp_ev, compC2_ev, wipeE_nil, wipeE_cons, backE_nil, backE_cons, gNm_ev, gTupF_ev, gsNil_ev, gsCons_ev, sNext_ev, sBreak_ev, sCont_ev, sSeq_ev, seqC_nx, seqC_bk, seqC_ct, seqC_rt, sSet_ev, setC_ev, sPar_ev, parC_ev, setAll_nil, setAll_cons, olNil_ev, olCons_ev, olC_ev, olC2_ev, sAsg_ev, asgC_ev, sIf_ev, sifC_t, sifC_f, sFor_ev, forC_ev, sDrop_ev, dropC_ev, sRet_ev, retC_ev, sRetN_ev, retnC_va, retnC_li, liOf_li, eMt1_ev, mt1C_ev, mt1C2_ev, mt1C3_ev, mt1C4_ev, eMt0_ev, mt0C_ev, sSub_ev, subC_ev, subC1_ev, subC2_ev, subC3_ev, subC4_ev, sAug_ev, augC_ev, augC2_ev, augC3_ev, mkF_ev, mkC_rt, mkC_nx, keepE_nil, keepE_va, keepE_ow', dTru_bool, dTru_int, dTru_none, dTru_list, dTru_tuple, dAdd_int, dAdd_tup, dAdd_lst, dIadd_int, dSub_int, dMul_int, dDiv_int, dMod_int, dNeg_int, dMin2_int, dMax2_int, dLtA_int, dLe_int, dLt_int, dGt_int, dGe_int, shaped_int, shaped_bool, shaped_none, eqv_int, eqv_bool, dEq_int, dNe_int, dEq_bool, dIs_none, dIsN_none, isNon_none, isNon_int, isNon_tup, isNon_bool, dLen_tup, dLen_lst, dIx_tup, dIx_lst, at0, at1, at2, at3, gExtend_lst, dTuple_lst, dTuple_tup, dList_lst, dList_tup, dInt_int, dSl_tup, dSl_lst, isTup, isLst, isBool, isIntB, isStr, beq_self_eq_true, decide_true, decide_false, isi_tup, isi_lst, isi_int, isi_bool, isi_str, isi_none, sz0, sz1, sz2, sz3, sz4, sz5, sz6, sz7, sz8, sz9, sz10, sz11, sz12, isOw_no, isOw_va, isOw_li, isOw_di, isOw_dt, isOw_ow, isOw_none, isOw_sl,
  Option.bind_some, Option.map_some, Option.bind_none, Option.map_none, Option.getD_some, Option.getD_none, List.getElem?_cons_zero, List.getElem?_cons_succ, List.set_cons_zero, List.set_cons_succ, List.map_cons, List.map_nil, List.headD_cons, List.headD_nil, List.tail_cons, List.tail_nil, List.isEmpty_nil, List.isEmpty_cons, List.length_nil, List.length_cons, List.nil_append, List.cons_append, List.replicate_succ, List.replicate_zero, Nat.reduceSub, Nat.reduceAdd, Bool.false_eq_true, if_false, if_true, reduceIte, Bool.not_true, Bool.not_false, and_true, true_and, and_self, Int.toNat_natCast, Int.zero_add, eCh_ev, chC_ev, chC2_ev, chC3_t, chC3_f, chC4_ev, lZip_ev, zipC_ev, zipC2_tup, zipC2_lst, dRev_tup, dRev_lst, dRngL_int, dRngT_int, oIte_ev, oiteC_li, oiteC_va, oCompO_ev, callC_rv2, callC_rv3, gset_ne, gset_self, List.length_set, Nat.reduceBEq, Nat.reduceLT, *])
/-! K83_Fin: askings of a turn; the law. -/
structure Ta (e : Ev) (b : Box) (l : Loan) (h : Nat) (row : List Int) : Prop extends Tg e b l where
  h14 : e[14]? = some (.va (.int (h : Int)))
  r15 : e[15]? = some (.va (rwD row))
  hh : h < l.nn
  rl : row.length = l.kk
  rn : ∀ k, k < l.kk → 0 ≤ row.getD k 0
theorem Ta.put2 {e : Ev} {b : Box} {l : Loan} {h : Nat} {row : List Int} (t : Ta e b l h row) {i : Nat} {s : Sl} (hi : 16 ≤ i) (hs : isOw (some s) = false) : Ta (e.set i s) b l h row :=
  ⟨t.toTg.put (by omega) hs, by rw [List.getElem?_set_ne (by omega)]; exact t.h14, by rw [List.getElem?_set_ne (by omega)]; exact t.r15, t.hh, t.rl, t.rn⟩
theorem S2627_ok {e : Ev} {b : Box} {l : Loan} (t : Tg e b l) (L : LL l) (hn : 0 < l.nn) (R : SF) : ∃ e' b' h row, sSeq S26_law (sSeq S27_law R) e = R e' ∧ Ta e' b' l h row := by
  have hl := t.len
  have h4 := t.n4
  have ho := t.ow
  have hn5 := L.n
  have n14 := t.no 14 (by decide)
  have hlo : loD l = .tuple [rwD l.free, rwsD l.held, rwsD l.need] := rfl
  have h3 := t.l3
  rw [hlo] at h3
  obtain ⟨d, b1, e1, d0, d1⟩ := draw83 b (m := (l.nn : Int)) (by omega) (by omega)
  obtain ⟨h, rfl⟩ : ∃ h : Nat, d = (h : Int) := ⟨d.toNat, by omega⟩
  have hh : h < l.nn := by omega
  have s26 : S26_law e = some (.nx ((e.set 1 (.ow b1.ot)).set 14 (.va (.int (h : Int))))) := by
    unfold S26_law
    repeat (first | walk_at "ev" | simp only [gset_ne, gset_self, List.length_set, Nat.reduceLT, Nat.reduceBEq, hl, h4, ho, n14, e1, reduceIte])
  have t1 : Tg ((e.set 1 (.ow b1.ot)).set 14 (.va (.int (h : Int)))) b1 l := t.bx.put (by decide) rfl
  generalize hE : (e.set 1 (.ow b1.ot)).set 14 (.va (.int (h : Int))) = E at s26 t1
  have E14 : E[14]? = some (.va (.int (h : Int))) := by rw [← hE]; exact gset_self (by rw [List.length_set, hl]; decide)
  have E3 : E[3]? = some (.va (.tuple [rwD l.free, rwsD l.held, rwsD l.need])) := t1.l3
  have hEl := t1.len
  have hat := need_at L.w hh
  obtain ⟨hN1, hN2⟩ := L.w.N hh
  have hNm := L.bl.n _ (List.mem_of_getElem? hN1)
  have n15 := t1.no 15 (by decide)
  obtain ⟨rs, b', c1, c2, c3⟩ := compD (f := K15_law) (v := 24) (fun b => E.set 1 (.ow b.ot)) (fun d x => ∃ i j : Int, d = .int i ∧ x = .int j ∧ 0 ≤ j ∧ j ≤ i) (iL (l.N h)) b1 (by rw [iL_len, hN2]; have := L.w.k; omega) (fun _ => by rw [gset_ne rfl]; exact t1.no 24 (by decide)) (fun _ => by rw [List.length_set, hEl]; decide) (fun _ _ => by rw [gset_ne rfl, gset_ne rfl]) fun d hd b => by
    obtain ⟨i, hi, rfl⟩ := List.mem_map.mp hd
    have him := hNm i hi
    obtain ⟨j, b', e2, j0, j1⟩ := draw83 b (m := i + 1) (by omega) (by omega)
    have hl := hEl
    have hc : ((E.set 1 (.ow b.ot)).set 24 (.va (.int i))).set 1 (.ow b'.ot) = (E.set 1 (.ow b'.ot)).set 24 (.va (.int i)) := by
      have : ((E.set 1 (.ow b.ot)).set 24 (Sl.va (.int i))).set 1 (.ow b'.ot) = ((E.set 1 (.ow b.ot)).set 1 (.ow b'.ot)).set 24 (.va (.int i)) := List.set_comm _ _ (by decide)
      rw [this, List.set_set]
    refine ⟨.int j, b', ?_, i, j, rfl, rfl, j0, by omega⟩
    unfold K15_law
    repeat (first | walk_at "ev" | simp only [gset_ne, gset_self, List.length_set, Nat.reduceLT, Nat.reduceBEq, hl, e2, hc, reduceIte])
  rw [ow_self t1.toTz] at c1
  obtain ⟨row, r1, r2⟩ := listInts (ds := rs) (P := fun y => 0 ≤ y) fun x hx => by
    obtain ⟨i, hi⟩ := List.getElem?_of_mem hx
    have hi2 : i < (iL (l.N h)).length := by have := (List.getElem?_eq_some_iff.mp hi).1; omega
    obtain ⟨i', j, _, hj, j0, _⟩ := c3 i _ x (List.getElem?_eq_getElem hi2) hi
    exact ⟨j, hj, j0⟩
  subst r1
  have rl : row.length = l.kk := by rw [iL_len, iL_len] at c2; rw [c2, hN2]
  have s27 : S27_law E = some (.nx ((E.set 1 (.ow b'.ot)).set 15 (.va (rwD row)))) := by
    have hl := hEl
    unfold S27_law
    repeat (first | walk_at "ev" | simp only [gset_ne, gset_self, List.length_set, Nat.reduceLT, Nat.reduceBEq, hl, E3, E14, hat, c1, n15, reduceIte])
  refine ⟨_, b', h, row, ?_, ⟨t1.bx.put (i := 15) (s := .va (rwD row)) (by decide) rfl, ?_, ?_, hh, rl, fun k hk => ?_⟩⟩
  · rw [sSeq_ev, s26, Option.bind_some, seqC_nx, sSeq_ev, s27, Option.bind_some, seqC_nx]
  · rw [gset_ne rfl, gset_ne rfl]; exact E14
  · rw [gset_self (by rw [List.length_set, hEl]; decide)]
  · have hk' : k < row.length := by omega
    rw [List.getD_eq_getElem?_getD, List.getElem?_eq_getElem hk']
    exact r2 _ (List.getElem_mem hk')
theorem rows_H {l : Loan} (w : WL l) : (List.range l.nn).map l.H = l.held := by
  apply List.ext_getElem?
  intro i
  rw [List.getElem?_map]
  by_cases h : i < l.nn
  · rw [List.getElem?_range h, (w.H h).1]; rfl
  · rw [List.getElem?_eq_none (by rw [List.length_range]; omega), List.getElem?_eq_none (by rw [w.h]; omega)]; rfl
theorem rows_N {l : Loan} (w : WL l) : (List.range l.nn).map l.N = l.need := by
  apply List.ext_getElem?
  intro i
  rw [List.getElem?_map]
  by_cases h : i < l.nn
  · rw [List.getElem?_range h, (w.N h).1]; rfl
  · rw [List.getElem?_eq_none (by rw [List.length_range]; omega), List.getElem?_eq_none (by rw [w.n]; omega)]; rfl
theorem row_self {K : Nat} {r : List Int} (h : r.length = K) : ((List.range K).map fun k => r.getD k 0) = r := by
  apply List.ext_getElem?
  intro k
  rw [List.getElem?_map]
  by_cases hk : k < K
  · rw [List.getElem?_range hk, List.getElem?_eq_getElem (by omega)]
    show some (r.getD k 0) = _
    rw [List.getD_eq_getElem?_getD, List.getElem?_eq_getElem (by omega)]; rfl
  · rw [List.getElem?_eq_none (by rw [List.length_range]; omega), List.getElem?_eq_none (by omega)]; rfl
theorem S28_ok {e : Ev} {b : Box} {l : Loan} {h : Nat} {row : List Int} (t : Ta e b l h row) (L : LL l) : S28_law e = some (.nx (e.set 16 (.va (loD (ask l h row))))) := by
  have hl := t.len
  have h4 := t.n4
  have hK := L.w.k
  have hn5 := L.n
  have h14 := t.h14
  have h15 := t.r15
  have hrl := t.rl
  have hlo : loD l = .tuple [rwD l.free, rwsD l.held, rwsD l.need] := rfl
  have h3 := t.l3
  rw [hlo] at h3
  have n16 := t.no 16 (by decide)
  have n21 := t.no 21 (by decide)
  have n23 := t.no 23 (by decide)
  have hrk : Rg (row.length : Int) := rg_of (by omega) (by omega)
  have hrn : Rg (l.nn : Int) := rg_of (by omega) (by omega)
  have wa := ask_wl L.w (h := h) (row := row)
  have c1 := compRy (f := K16_law) (v := 23) (n := row.length) (e := e) (fun k => .int (l.free.getD k 0 - row.getD k 0)) (by omega) n23 (by rw [hl]; decide) fun k hk => by
    have a1 := row_at (r := l.free) (k := k) (by rw [L.w.f]; omega)
    have a2 := row_at (r := row) (k := k) hk
    unfold K16_law
    repeat (first | walk_at "ev" | simp only [gset_ne, gset_self, List.length_set, Nat.reduceLT, Nat.reduceBEq, hl, h3, h15, a1, a2])
  have e1 : ((List.range row.length).map fun k => PyData.int (l.free.getD k 0 - row.getD k 0)) = iL (rowSub l.kk l.free row) := by unfold rowSub iL; rw [hrl, List.map_map]; rfl
  rw [e1] at c1
  have hin : ∀ j, j < l.nn → K18_law (e.set 21 (.va (.int (j : Int)))) = some (rwD ((ask l h row).H j), e.set 21 (.va (.int (j : Int)))) := fun j hj => by
    have a0 := held_at L.w hj
    have c := compRy (f := K17_law) (v := 23) (n := row.length) (e := e.set 21 (.va (.int (j : Int)))) (fun k => .int ((l.H j).getD k 0 + if j = h then row.getD k 0 else 0)) (by omega) (by rw [gset_ne rfl]; exact n23) (by rw [List.length_set, hl]; decide) fun k hk => by
      have a1 := row_at (r := l.H j) (k := k) (by rw [(L.w.H hj).2]; omega)
      have a2 := row_at (r := row) (k := k) hk
      unfold K17_law
      by_cases hjh : j = h
      · have q : ((j : Int) == (h : Int)) = true := by rw [hjh]; exact beq_self_eq_true _
        rw [if_pos hjh]
        repeat (first | walk_at "ev" | simp only [gset_ne, gset_self, List.length_set, Nat.reduceLT, Nat.reduceBEq, hl, h3, h14, h15, a0, a1, a2, q, reduceIte])
      · have q : ((j : Int) == (h : Int)) = false := beq_eq_false_iff_ne.mpr (by omega)
        rw [if_neg hjh]
        repeat (first | walk_at "ev" | simp only [gset_ne, gset_self, List.length_set, Nat.reduceLT, Nat.reduceBEq, hl, h3, h14, h15, a0, a1, a2, q, reduceIte])
    have ee : ((List.range row.length).map fun k => PyData.int ((l.H j).getD k 0 + if j = h then row.getD k 0 else 0)) = iL ((ask l h row).H j) := by
      rw [ask_H L.w t.hh]
      by_cases hjh : j = h
      · rw [if_pos hjh]
        unfold rowAdd iL
        rw [hrl, List.map_map]
        apply List.map_congr_left
        intro k _
        rw [if_pos hjh, hjh]; rfl
      · rw [if_neg hjh, hrl]
        have := row_self (L.w.H hj).2
        rw [← this]
        unfold iL
        rw [List.map_map]
        apply List.map_congr_left
        intro k hk
        rw [if_neg hjh, Int.add_zero]
        show PyData.int _ = PyData.int _
        congr 1
        rw [this]
    rw [ee] at c
    unfold K18_law
    repeat (first | walk_at "ev" | simp only [gset_ne, gset_self, List.length_set, Nat.reduceLT, Nat.reduceBEq, hl, h15, iL_len, hrk, c, reduceIte])
  have hin2 : ∀ j, j < l.nn → K20_law (e.set 21 (.va (.int (j : Int)))) = some (rwD ((ask l h row).N j), e.set 21 (.va (.int (j : Int)))) := fun j hj => by
    have a0 := need_at L.w hj
    have c := compRy (f := K19_law) (v := 23) (n := row.length) (e := e.set 21 (.va (.int (j : Int)))) (fun k => .int ((l.N j).getD k 0 - if j = h then row.getD k 0 else 0)) (by omega) (by rw [gset_ne rfl]; exact n23) (by rw [List.length_set, hl]; decide) fun k hk => by
      have a1 := row_at (r := l.N j) (k := k) (by rw [(L.w.N hj).2]; omega)
      have a2 := row_at (r := row) (k := k) hk
      unfold K19_law
      by_cases hjh : j = h
      · have q : ((j : Int) == (h : Int)) = true := by rw [hjh]; exact beq_self_eq_true _
        rw [if_pos hjh]
        repeat (first | walk_at "ev" | simp only [gset_ne, gset_self, List.length_set, Nat.reduceLT, Nat.reduceBEq, hl, h3, h14, h15, a0, a1, a2, q, reduceIte])
      · have q : ((j : Int) == (h : Int)) = false := beq_eq_false_iff_ne.mpr (by omega)
        rw [if_neg hjh]
        repeat (first | walk_at "ev" | simp only [gset_ne, gset_self, List.length_set, Nat.reduceLT, Nat.reduceBEq, hl, h3, h14, h15, a0, a1, a2, q, reduceIte])
    have ee : ((List.range row.length).map fun k => PyData.int ((l.N j).getD k 0 - if j = h then row.getD k 0 else 0)) = iL ((ask l h row).N j) := by
      rw [ask_N L.w t.hh]
      by_cases hjh : j = h
      · rw [if_pos hjh]
        unfold rowSub iL
        rw [hrl, List.map_map]
        apply List.map_congr_left
        intro k _
        rw [if_pos hjh, hjh]; rfl
      · rw [if_neg hjh, hrl]
        have := row_self (L.w.N hj).2
        rw [← this]
        unfold iL
        rw [List.map_map]
        apply List.map_congr_left
        intro k hk
        rw [if_neg hjh, Int.sub_zero]
        show PyData.int _ = PyData.int _
        congr 1
        rw [this]
    rw [ee] at c
    unfold K20_law
    repeat (first | walk_at "ev" | simp only [gset_ne, gset_self, List.length_set, Nat.reduceLT, Nat.reduceBEq, hl, h15, iL_len, hrk, c, reduceIte])
  have c2 := compRy (f := K18_law) (v := 21) (n := l.nn) (e := e) (fun j => rwD ((ask l h row).H j)) (by omega) n21 (by rw [hl]; decide) hin
  have c3 := compRy (f := K20_law) (v := 21) (n := l.nn) (e := e) (fun j => rwD ((ask l h row).N j)) (by omega) n21 (by rw [hl]; decide) hin2
  have q2 : ((List.range l.nn).map fun j => rwD ((ask l h row).H j)) = (ask l h row).held.map rwD := by
    have : (List.range l.nn).map (ask l h row).H = (ask l h row).held := rows_H wa
    rw [← this, List.map_map]; rfl
  have q3 : ((List.range l.nn).map fun j => rwD ((ask l h row).N j)) = (ask l h row).need.map rwD := by
    have : (List.range l.nn).map (ask l h row).N = (ask l h row).need := rows_N wa
    rw [← this, List.map_map]; rfl
  rw [q2] at c2
  rw [q3] at c3
  have hla : loD (ask l h row) = .tuple [rwD (rowSub l.kk l.free row), rwsD (ask l h row).held, rwsD (ask l h row).need] := rfl
  rw [hla]
  unfold S28_law
  repeat (first | walk_at "ev" | simp only [gset_ne, gset_self, List.length_set, Nat.reduceLT, Nat.reduceBEq, hl, h4, h15, iL_len, hrk, hrn, c1, c2, c3, n16, reduceIte])
end Fl

set_option Elab.async false
set_option linter.all false
set_option maxRecDepth 100000
set_option maxHeartbeats 4000000
set_option autoImplicit false
namespace Fl
open PySem PySem.Spec PyProof.Rows L2
local macro_rules | `(tactic| walk_at "ev") => `(tactic| simp -implicitDefEqProofs only [prE_ev, eVar_ev, varC_ev, eNm_ev, nmC_va, nmC_li, eC_ev, vw_va, vw_li, eOwn_ev, eIxO_ev, ixoC_ev, ixoC2_ev, ixoC3_ev, eOp_ev, opC_ev, opC2_ev, eUn_ev, unC_ev, bE_ev, bEC_ev, bB_ev, bBC_ev, bNot_ev, notC_ev, bAnd_ev, andC_t, andC_f, bOr_ev, orC_t, orC_f, bYes_ev, eAnd_ev, eandC_t, eandC_f, eOr_ev, eorC_t, eorC_f, eNot_ev, enotC_ev, eIf_ev, ifC_t, ifC_f, eTup_ev, tupC_ev, aNil_ev, aCons_ev, aconsC_ev, aconsC2_ev, oLst_ev, lstC_ev, oE_ev, oEC_ev, eFz_ev, fzC_va, fzC_li, oUn_ev, ounC_ev, prL_ev, eSl_ev, slC_ev, slC2_ev, slC3_ev, eSlO_ev, sloC_ev, sloC2_ev, sloC3_ev, sloC4_ev, lEnum_ev, enC_tup, enC_lst, pNo_ev, pSo_ev, psoC_ev, lOf_ev, lofC_tup, lofC_lst, lRng1_ev, rng1C_ev, lRng2_ev, rng2C_ev, rng2C2_ev, oRep_ev, repC_ev, repC2_ev, oCall_ev, callC_0, callC_1, callC_2, callC_3, callC_4, callC_5, callC_rv, callC_rv4, arSl_vl, arSl_rf, callC2_ev, arBack_nil, arBack_vl, arBack_rf, rNil_ev, rVal_ev, rvC_ev, rvC2_ev, rRef_ev, rrC_ev, oComp_ev, compC2_ev, wipeE_nil, wipeE_cons, backE_nil, backE_cons, gNm_ev, gTupF_ev, gsNil_ev, gsCons_ev, sNext_ev, sBreak_ev, sCont_ev, sSeq_ev, seqC_nx, seqC_bk, seqC_ct, seqC_rt, sSet_ev, setC_ev, sPar_ev, parC_ev, setAll_nil, setAll_cons, olNil_ev, olCons_ev, olC_ev, olC2_ev, sAsg_ev, asgC_ev, sIf_ev, sifC_t, sifC_f, sFor_ev, forC_ev, sDrop_ev, dropC_ev, sRet_ev, retC_ev, sRetN_ev, retnC_va, retnC_li, liOf_li, eMt1_ev, mt1C_ev, mt1C2_ev, mt1C3_ev, mt1C4_ev, eMt0_ev, mt0C_ev, sSub_ev, subC_ev, subC1_ev, subC2_ev, subC3_ev, subC4_ev, sAug_ev, augC_ev, augC2_ev, augC3_ev, mkF_ev, mkC_rt, mkC_nx, keepE_nil, keepE_va, keepE_ow', dTru_bool, dTru_int, dTru_none, dTru_list, dTru_tuple, dAdd_int, dAdd_tup, dAdd_lst, dIadd_int, dSub_int, dMul_int, dDiv_int, dMod_int, dNeg_int, dMin2_int, dMax2_int, dLtA_int, dLe_int, dLt_int, dGt_int, dGe_int, shaped_int, shaped_bool, shaped_none, eqv_int, eqv_bool, dEq_int, dNe_int, dEq_bool, dIs_none, dIsN_none, isNon_none, isNon_int, isNon_tup, isNon_bool, dLen_tup, dLen_lst, dIx_tup, dIx_lst, at0, at1, at2, at3, gExtend_lst, dTuple_lst, dTuple_tup, dList_lst, dList_tup, dInt_int, dSl_tup, dSl_lst, isTup, isLst, isBool, isIntB, isStr, beq_self_eq_true, decide_true, decide_false, isi_tup, isi_lst, isi_int, isi_bool, isi_str, isi_none, sz0, sz1, sz2, sz3, sz4, sz5, sz6, sz7, sz8, sz9, sz10, sz11, sz12, isOw_no, isOw_va, isOw_li, isOw_di, isOw_dt, isOw_ow, isOw_none, isOw_sl,
  Option.bind_some, Option.map_some, Option.bind_none, Option.map_none, Option.getD_some, Option.getD_none, List.getElem?_cons_zero, List.getElem?_cons_succ, List.set_cons_zero, List.set_cons_succ, List.map_cons, List.map_nil, List.headD_cons, List.headD_nil, List.tail_cons, List.tail_nil, List.isEmpty_nil, List.isEmpty_cons, List.length_nil, List.length_cons, List.nil_append, List.cons_append, List.replicate_succ, List.replicate_zero, Nat.reduceSub, Nat.reduceAdd, Bool.false_eq_true, if_false, if_true, reduceIte, Bool.not_true, Bool.not_false, and_true, true_and, and_self, Int.toNat_natCast, Int.zero_add, eCh_ev, chC_ev, chC2_ev, chC3_t, chC3_f, chC4_ev, lZip_ev, zipC_ev, zipC2_tup, zipC2_lst, dRev_tup, dRev_lst, dRngL_int, dRngT_int, oIte_ev, oiteC_li, oiteC_va, oCompO_ev, callC_rv2, callC_rv3, gset_ne, gset_self, List.length_set, Nat.reduceBEq, Nat.reduceLT])
local macro_rules | `(tactic| walk_at "evh") => `(tactic| simp -implicitDefEqProofs only [prE_ev, eVar_ev, varC_ev, eNm_ev, nmC_va, nmC_li, eC_ev, vw_va, vw_li, eOwn_ev, eIxO_ev, ixoC_ev, ixoC2_ev, ixoC3_ev, eOp_ev, opC_ev, opC2_ev, eUn_ev, unC_ev, bE_ev, bEC_ev, bB_ev, bBC_ev, bNot_ev, notC_ev, bAnd_ev, andC_t, andC_f, bOr_ev, orC_t, orC_f, bYes_ev, eAnd_ev, eandC_t, eandC_f, eOr_ev, eorC_t, eorC_f, eNot_ev, enotC_ev, eIf_ev, ifC_t, ifC_f, eTup_ev, tupC_ev, aNil_ev, aCons_ev, aconsC_ev, aconsC2_ev, oLst_ev, lstC_ev, oE_ev, oEC_ev, eFz_ev, fzC_va, fzC_li, oUn_ev, ounC_ev, prL_ev, eSl_ev, slC_ev, slC2_ev, slC3_ev, eSlO_ev, sloC_ev, sloC2_ev, sloC3_ev, sloC4_ev, lEnum_ev, enC_tup, enC_lst, pNo_ev, pSo_ev, psoC_ev, lOf_ev, lofC_tup, lofC_lst, lRng1_ev, rng1C_ev, lRng2_ev, rng2C_ev, rng2C2_ev, oRep_ev, repC_ev, repC2_ev, oCall_ev, callC_0, callC_1, callC_2, callC_3, callC_4, callC_5, callC_rv, callC_rv4, arSl_vl, arSl_rf, callC2_ev, arBack_nil, arBack_vl, arBack_rf, rNil_ev, rVal_ev, rvC_ev, rvC2_ev, rRef_ev, rrC_ev, oComp_ev, compC2_ev, wipeE_nil, wipeE_cons, backE_nil, backE_cons, gNm_ev, gTupF_ev, gsNil_ev, gsCons_ev, sNext_ev, sBreak_ev, sCont_ev, sSeq_ev, seqC_nx, seqC_bk, seqC_ct, seqC_rt, sSet_ev, setC_ev, sPar_ev, parC_ev, setAll_nil, setAll_cons, olNil_ev, olCons_ev, olC_ev, olC2_ev, sAsg_ev, asgC_ev, sIf_ev, sifC_t, sifC_f, sFor_ev, forC_ev, sDrop_ev, dropC_ev, sRet_ev, retC_ev, sRetN_ev, retnC_va, retnC_li, liOf_li, eMt1_ev, mt1C_ev, mt1C2_ev, mt1C3_ev, mt1C4_ev, eMt0_ev, mt0C_ev, sSub_ev, subC_ev, subC1_ev, subC2_ev, subC3_ev, subC4_ev, sAug_ev, augC_ev, augC2_ev, augC3_ev, mkF_ev, mkC_rt, mkC_nx, keepE_nil, keepE_va, keepE_ow', dTru_bool, dTru_int, dTru_none, dTru_list, dTru_tuple, dAdd_int, dAdd_tup, dAdd_lst, dIadd_int, dSub_int, dMul_int, dDiv_int, dMod_int, dNeg_int, dMin2_int, dMax2_int, dLtA_int, dLe_int, dLt_int, dGt_int, dGe_int, shaped_int, shaped_bool, shaped_none, eqv_int, eqv_bool, dEq_int, dNe_int, dEq_bool, dIs_none, dIsN_none, isNon_none, isNon_int, isNon_tup, isNon_bool, dLen_tup, dLen_lst, dIx_tup, dIx_lst, at0, at1, at2, at3, gExtend_lst, dTuple_lst, dTuple_tup, dList_lst, dList_tup, dInt_int, dSl_tup, dSl_lst, isTup, isLst, isBool, isIntB, isStr, beq_self_eq_true, decide_true, decide_false, isi_tup, isi_lst, isi_int, isi_bool, isi_str, isi_none, sz0, sz1, sz2, sz3, sz4, sz5, sz6, sz7, sz8, sz9, sz10, sz11, sz12, isOw_no, isOw_va, isOw_li, isOw_di, isOw_dt, isOw_ow, isOw_none, isOw_sl,
  Option.bind_some, Option.map_some, Option.bind_none, Option.map_none, Option.getD_some, Option.getD_none, List.getElem?_cons_zero, List.getElem?_cons_succ, List.set_cons_zero, List.set_cons_succ, List.map_cons, List.map_nil, List.headD_cons, List.headD_nil, List.tail_cons, List.tail_nil, List.isEmpty_nil, List.isEmpty_cons, List.length_nil, List.length_cons, List.nil_append, List.cons_append, List.replicate_succ, List.replicate_zero, Nat.reduceSub, Nat.reduceAdd, Bool.false_eq_true, if_false, if_true, reduceIte, Bool.not_true, Bool.not_false, and_true, true_and, and_self, Int.toNat_natCast, Int.zero_add, eCh_ev, chC_ev, chC2_ev, chC3_t, chC3_f, chC4_ev, lZip_ev, zipC_ev, zipC2_tup, zipC2_lst, dRev_tup, dRev_lst, dRngL_int, dRngT_int, oIte_ev, oiteC_li, oiteC_va, oCompO_ev, callC_rv2, callC_rv3, gset_ne, gset_self, List.length_set, Nat.reduceBEq, Nat.reduceLT, *])
/-! K83_Law2: the end of a turn; the law. -/
theorem ask_nn {l : Loan} (L : LL l) {h : Nat} {row : List Int} (hh : h < l.nn) (hr : ∀ k, k < l.kk → 0 ≤ row.getD k 0) : NonNeg (ask l h row) := fun j k hj hk => by
  have hk' : k < l.kk := hk
  have := L.nn j k hj hk
  rw [ask_H L.w hh]
  split
  · next e =>
    subst e
    rw [rowAdd_get hk']
    have := hr k hk'
    omega
  · exact this
theorem any_ends {l : Loan} (hh : NonNeg l) : ((ordL l.nn l.nn).any fun q => ends l l.free q) = (grd l).1 := by
  cases hg : (grd l).1 with
  | true =>
    have := fine_head hg
    cases hf : fine l with
    | nil => rw [hf] at this; cases this
    | cons q r =>
      have hq : q ∈ fine l := by rw [hf]; exact List.mem_cons_self
      obtain ⟨h1, h2⟩ := List.mem_filter.mp hq
      exact List.any_eq_true.mpr ⟨q, h1, h2⟩
  | false =>
    have := fine_nil hh hg
    refine List.any_eq_false.mpr fun q hq h => ?_
    have : q ∈ fine l := List.mem_filter.mpr ⟨hq, h⟩
    rw [‹fine l = []›] at this
    cases this
theorem S29_ok {e : Ev} {b : Box} {l : Loan} {h : Nat} {row : List Int} (t : Ta e b l h row) (L : LL l) : S29_law e = some (.nx (e.set 17 (.va (.bool (rowFit l.kk row l.free))))) := by
  have hl := t.len
  have hK := L.w.k
  have h15 := t.r15
  have hrl := t.rl
  have hlo : loD l = .tuple [rwD l.free, rwsD l.held, rwsD l.need] := rfl
  have h3 := t.l3
  rw [hlo] at h3
  have n17 := t.no 17 (by decide)
  have hrk : Rg (row.length : Int) := rg_of (by omega) (by omega)
  have c := compRy (f := K21_law) (v := 23) (n := row.length) (e := e) (fun k => .bool (decide (row.getD k 0 ≤ l.free.getD k 0))) (by omega) (t.no 23 (by decide)) (by rw [hl]; decide) fun k hk => by
    have a1 := row_at (r := l.free) (k := k) (by rw [L.w.f]; omega)
    have a2 := row_at (r := row) (k := k) hk
    unfold K21_law
    repeat (first | walk_at "ev" | simp only [gset_ne, gset_self, List.length_set, Nat.reduceLT, Nat.reduceBEq, hl, h3, h15, a1, a2])
  have ha := dAll_map (fun k => decide (row.getD k 0 ≤ l.free.getD k 0)) (List.range row.length)
  have e1 : ((List.range row.length).all fun k => decide (row.getD k 0 ≤ l.free.getD k 0)) = rowFit l.kk row l.free := by unfold rowFit; rw [hrl]
  rw [e1] at ha
  unfold S29_law
  repeat (first | walk_at "ev" | simp only [gset_ne, gset_self, List.length_set, Nat.reduceLT, Nat.reduceBEq, hl, h15, iL_len, hrk, c, ha, n17, reduceIte])
theorem S30_ok {e : Ev} {b : Box} {l : Loan} {h : Nat} {row : List Int} (t : Ta e b l h row) (L : LL l) (h16 : e[16]? = some (.va (loD (ask l h row)))) : S30_law e = some (.nx e) := by
  have hl := t.len
  have h3 := t.l3
  have h14 := t.h14
  have h15 := t.r15
  have ha := after_ok L.w t.hh t.rl
  have hs := same83 (plain_le (lo_plain (ask_wl L.w (h := h) (row := row))) (by decide : 3 ≤ 19))
  unfold S30_law
  repeat (first | walk_at "ev" | simp only [gset_ne, gset_self, List.length_set, Nat.reduceLT, Nat.reduceBEq, hl, h3, h14, h15, h16, ha, hs, reduceIte])
theorem S31_ok {e : Ev} {b : Box} {l : Loan} {h : Nat} {row : List Int} (t : Ta e b l h row) (L : LL l) (h16 : e[16]? = some (.va (loD (ask l h row)))) (h17 : e[17]? = some (.va (.bool (rowFit l.kk row l.free)))) : S31_law e = some (.nx e) := by
  have hl := t.len
  have h3 := t.l3
  have h4 := t.n4
  have h14 := t.h14
  have h15 := t.r15
  have hn5 := L.n
  have wa := ask_wl L.w (h := h) (row := row)
  have hm := may_ok L.w t.hh t.rl
  have hs := same_bool (rowFit l.kk row l.free && (grd (ask l h row)).1)
  have hor := orders_ok hn5
  have hol := ord_len5 hn5 l.nn hn5
  have c := comp1y (f := K22_law) (v := 19) (e := e) nT (fun q => .bool (ends (ask l h row) (ask l h row).free q)) (ordL l.nn l.nn) (by omega) (t.no 19 (by decide)) (by rw [hl]; decide) fun q hq => by
    have := lends_ok wa (q := q) (fine_lt hq)
    unfold K22_law
    repeat (first | walk_at "ev" | simp only [gset_ne, gset_self, List.length_set, Nat.reduceLT, Nat.reduceBEq, hl, h16, this])
  have hany := dAny_map (fun q => ends (ask l h row) (ask l h row).free q) (ordL l.nn l.nn)
  have hae := any_ends (ask_nn L t.hh t.rn)
  have hae' : ((ordL l.nn l.nn).any fun q => ends (ask l h row) (ask l h row).free q) = (grd (ask l h row)).1 := hae
  rw [hae'] at hany
  unfold S31_law
  cases hx : rowFit l.kk row l.free with
  | false =>
    rw [hx] at hm hs h17
    rw [Bool.false_and] at hm hs
    repeat (first | walk_at "ev" | simp only [gset_ne, gset_self, List.length_set, Nat.reduceLT, Nat.reduceBEq, hl, h3, h14, h15, h17, hm, hs, reduceIte])
  | true =>
    rw [hx] at hm hs h17
    rw [Bool.true_and] at hm hs
    repeat (first | walk_at "ev" | simp only [gset_ne, gset_self, List.length_set, Nat.reduceLT, Nat.reduceBEq, hl, h3, h4, h14, h15, h17, hm, hor, c, hany, hs, reduceIte])
/-- less needed, more free -/
theorem S32_ok {e : Ev} {b : Box} {l : Loan} {h : Nat} {row : List Int} (t : Ta e b l h row) (L : LL l) : ∃ (b' : Box) (m : Loan), S32_law e = some (.nx ((e.set 1 (.ow b'.ot)).set 18 (.va (loD m)))) ∧ WL m ∧ NonNeg m ∧ m.kk = l.kk ∧ m.nn = l.nn ∧ (∀ j, m.H j = l.H j) ∧ (∀ j k, k < l.kk → (m.N j).getD k 0 ≤ (l.N j).getD k 0) ∧ ∀ k, k < l.kk → l.free.getD k 0 ≤ m.free.getD k 0 := by
  have hl := t.len
  have hK := L.w.k
  have hn5 := L.n
  have hlo : loD l = .tuple [rwD l.free, rwsD l.held, rwsD l.need] := rfl
  have h3 := t.l3
  rw [hlo] at h3
  have n18 := t.no 18 (by decide)
  have hsw : ∀ (b b' : Box) (v : Nat) (s : Sl), v ≠ 1 → ((e.set 1 (.ow b.ot)).set v s).set 1 (.ow b'.ot) = (e.set 1 (.ow b'.ot)).set v s := fun b b' v s hv => by
    have : ((e.set 1 (.ow b.ot)).set v s).set 1 (.ow b'.ot) = ((e.set 1 (.ow b.ot)).set 1 (.ow b'.ot)).set v s := List.set_comm _ _ hv
    rw [this, List.set_set]
  -- free
  obtain ⟨rs, b1, c1, k1, k2⟩ := compD (f := K23_law) (v := 25) (fun b => e.set 1 (.ow b.ot)) (fun d x => ∃ i j : Int, d = .int i ∧ x = .int j ∧ i ≤ j) (iL l.free) b (by rw [iL_len, L.w.f]; omega) (fun _ => by rw [gset_ne rfl]; exact t.no 25 (by decide)) (fun _ => by rw [List.length_set, hl]; decide) (fun _ _ => by rw [gset_ne rfl, gset_ne rfl]) fun d hd b => by
    obtain ⟨i, hi, rfl⟩ := List.mem_map.mp hd
    obtain ⟨j, b', e2, j0, j1⟩ := draw83 b (m := 2) (by decide) (by decide)
    have hc := hsw b b' 25 (.va (.int i)) (by decide)
    refine ⟨.int (i + j), b', ?_, i, i + j, rfl, rfl, by omega⟩
    unfold K23_law
    repeat (first | walk_at "ev" | simp only [gset_ne, gset_self, List.length_set, Nat.reduceLT, Nat.reduceBEq, hl, e2, hc, reduceIte])
  rw [ow_self t.toTz] at c1
  obtain ⟨fr, rfl, _⟩ := listInts (ds := rs) (P := fun _ => True) fun x hx => by
    obtain ⟨i, hi⟩ := List.getElem?_of_mem hx
    have hi2 : i < (iL l.free).length := by have := (List.getElem?_eq_some_iff.mp hi).1; omega
    obtain ⟨i', j, _, hj, _⟩ := k2 i _ x (List.getElem?_eq_getElem hi2) hi
    exact ⟨j, hj, trivial⟩
  have frl : fr.length = l.kk := by rw [iL_len, iL_len] at k1; rw [k1, L.w.f]
  -- needed
  obtain ⟨rs2, b2, c2, k3, k4⟩ := compD (f := K25_law) (v := 26) (fun b => e.set 1 (.ow b.ot)) (fun d x => ∃ p q : List Int, d = rwD p ∧ x = rwD q ∧ q.length = p.length ∧ ∀ k, k < p.length → q.getD k 0 ≤ p.getD k 0) (l.need.map rwD) b1 (by rw [List.length_map, L.w.n]; omega) (fun _ => by rw [gset_ne rfl]; exact t.no 26 (by decide)) (fun _ => by rw [List.length_set, hl]; decide) (fun _ _ => by rw [gset_ne rfl, gset_ne rfl]) fun d hd b => by
    obtain ⟨p, hp, rfl⟩ := List.mem_map.mp hd
    have hpl := L.w.nr p hp
    have hpi := L.bl.n p hp
    obtain ⟨rs, b', c, g1, g2⟩ := compD (f := K24_law) (v := 24) (fun b => (e.set 1 (.ow b.ot)).set 26 (.va (rwD p))) (fun d x => ∃ i j : Int, d = .int i ∧ x = .int j ∧ j ≤ i) (iL p) b (by rw [iL_len, hpl]; omega) (fun _ => by rw [gset_ne rfl, gset_ne rfl]; exact t.no 24 (by decide)) (fun _ => by rw [List.length_set, List.length_set, hl]; decide) (fun _ _ => by rw [gset_ne rfl, gset_ne rfl, gset_ne rfl, gset_ne rfl]) fun d hd b => by
      obtain ⟨i, hi, rfl⟩ := List.mem_map.mp hd
      have hi0 := (hpi i hi).1
      obtain ⟨j, b', e2, j0, j1⟩ := draw83 b (m := 2) (by decide) (by decide)
      have hc : (((e.set 1 (.ow b.ot)).set 26 (.va (rwD p))).set 24 (.va (.int i))).set 1 (.ow b'.ot) = ((e.set 1 (.ow b'.ot)).set 26 (.va (rwD p))).set 24 (.va (.int i)) := by
        have h1 : (((e.set 1 (.ow b.ot)).set 26 (Sl.va (rwD p))).set 24 (Sl.va (.int i))).set 1 (.ow b'.ot) = (((e.set 1 (.ow b.ot)).set 26 (.va (rwD p))).set 1 (.ow b'.ot)).set 24 (.va (.int i)) := List.set_comm _ _ (by decide)
        rw [h1, hsw b b' 26 _ (by decide)]
      refine ⟨.int (if i - j > 0 then i - j else 0), b', ?_, i, _, rfl, rfl, by split <;> omega⟩
      unfold K24_law
      repeat (first | walk_at "ev" | simp only [gset_ne, gset_self, List.length_set, Nat.reduceLT, Nat.reduceBEq, hl, e2, hc, reduceIte])
    obtain ⟨q, rfl, _⟩ := listInts (ds := rs) (P := fun _ => True) fun x hx => by
      obtain ⟨i, hi⟩ := List.getElem?_of_mem hx
      have hi2 : i < (iL p).length := by have := (List.getElem?_eq_some_iff.mp hi).1; omega
      obtain ⟨i', j, _, hj, _⟩ := g2 i _ x (List.getElem?_eq_getElem hi2) hi
      exact ⟨j, hj, trivial⟩
    rw [iL_len, iL_len] at g1
    have hc : (e.set 1 (.ow b.ot)).set 26 (.va (rwD p)) = (e.set 1 (.ow b.ot)).set 26 (.va (rwD p)) := rfl
    refine ⟨rwD q, b', ?_, p, q, rfl, rfl, g1, fun k hk => ?_⟩
    · unfold K25_law
      repeat (first | walk_at "ev" | simp only [gset_ne, gset_self, List.length_set, Nat.reduceLT, Nat.reduceBEq, hl, c, reduceIte])
    · obtain ⟨i, j, hi, hj, hij⟩ := g2 k (.int p[k]) (.int (q[k]'(by omega))) (by rw [List.getElem?_map, List.getElem?_eq_getElem hk]; rfl) (by rw [List.getElem?_map, List.getElem?_eq_getElem (by omega)]; rfl)
      cases hi
      cases hj
      rw [List.getD_eq_getElem?_getD, List.getD_eq_getElem?_getD, List.getElem?_eq_getElem hk, List.getElem?_eq_getElem (by omega : k < q.length)]
      exact hij
  have hN : ∃ nd : List (List Int), rs2 = nd.map rwD ∧ nd.length = l.nn ∧ ∀ j, j < l.nn → (nd.getD j []).length = l.kk ∧ ∀ k, k < l.kk → (nd.getD j []).getD k 0 ≤ (l.N j).getD k 0 := by
    have key : ∀ (ps : List (List Int)) (xs : List D), xs.length = ps.length → (∀ (i : Nat) d x, (ps.map rwD)[i]? = some d → xs[i]? = some x → ∃ p q : List Int, d = rwD p ∧ x = rwD q ∧ q.length = p.length ∧ ∀ k, k < p.length → q.getD k 0 ≤ p.getD k 0) → ∃ nd : List (List Int), xs = nd.map rwD ∧ nd.length = ps.length ∧ ∀ j, j < ps.length → (nd.getD j []).length = (ps.getD j []).length ∧ ∀ k, k < (ps.getD j []).length → (nd.getD j []).getD k 0 ≤ (ps.getD j []).getD k 0 := by
      intro ps
      induction ps with
      | nil =>
        intro xs hx _
        rw [List.eq_nil_of_length_eq_zero hx]
        exact ⟨[], rfl, rfl, fun j h => absurd h (Nat.not_lt_zero j)⟩
      | cons p ps ih =>
        intro xs hx hk
        cases xs with
        | nil => cases hx
        | cons x xs =>
          obtain ⟨p', q, h1, rfl, h3, h4⟩ := hk 0 (rwD p) x rfl rfl
          have hpe : p = p' := by
            have := PyData.tuple.inj h1
            have h5 : asInts (iL p) = asInts (iL p') := by rw [this]
            rw [show asInts (iL p) = some p from asInts_map p, show asInts (iL p') = some p' from asInts_map p'] at h5
            exact Option.some.inj h5
          subst hpe
          obtain ⟨nd, g1, g2, g3⟩ := ih xs (by simpa using hx) fun i d x e1 e2 => hk (i + 1) d x (by simpa using e1) (by simpa using e2)
          refine ⟨q :: nd, by rw [g1]; rfl, by rw [List.length_cons, List.length_cons, g2], fun j hj => ?_⟩
          cases j with
          | zero => exact ⟨h3, h4⟩
          | succ j => exact g3 j (by simpa using hj)
    obtain ⟨nd, g1, g2, g3⟩ := key l.need rs2 (by rw [k3, List.length_map]) k4
    refine ⟨nd, g1, by rw [g2, L.w.n], fun j hj => ?_⟩
    obtain ⟨g4, g5⟩ := g3 j (by rw [L.w.n]; exact hj)
    have hNl : (l.need.getD j []).length = l.kk := (L.w.N hj).2
    exact ⟨by rw [g4, hNl], fun k hk => g5 k (by rw [hNl]; exact hk)⟩
  obtain ⟨nd, rfl, ndl, ndk⟩ := hN
  have wm : WL ⟨l.kk, l.nn, fr, l.held, nd⟩ := ⟨frl, L.w.h, ndl, L.w.hr, fun r hr => by
    obtain ⟨j, hj⟩ := List.getElem?_of_mem hr
    have hj2 : j < l.nn := by have h2 : j < nd.length := (List.getElem?_eq_some_iff.mp hj).1; omega
    have := (ndk j hj2).1
    rw [List.getD_eq_getElem?_getD, hj] at this
    exact this, L.w.k, L.w.m⟩
  refine ⟨b2, ⟨l.kk, l.nn, fr, l.held, nd⟩, ?_, wm, L.nn, rfl, rfl, fun _ => rfl, fun j k hk => ?_, fun k hk => ?_⟩
  · have hm : loD ⟨l.kk, l.nn, fr, l.held, nd⟩ = .tuple [rwD fr, rwsD l.held, rwsD nd] := rfl
    rw [hm]
    unfold S32_law
    repeat (first | walk_at "ev" | simp only [gset_ne, gset_self, List.length_set, Nat.reduceLT, Nat.reduceBEq, hl, h3, c1, c2, n18, reduceIte])
  · by_cases hj : j < l.nn
    · exact (ndk j hj).2 k hk
    · have h1 : nd.getD j [] = [] := by rw [List.getD_eq_getElem?_getD, List.getElem?_eq_none (by omega)]; rfl
      have h2 : l.N j = [] := by show l.need.getD j [] = []; rw [List.getD_eq_getElem?_getD, List.getElem?_eq_none (by rw [L.w.n]; omega)]; rfl
      show (nd.getD j []).getD k 0 ≤ _
      rw [h1, h2]
      exact Int.le_refl _
  · have hf := L.w.f
    obtain ⟨i, j, hi, hj, hij⟩ := k2 k (.int (l.free[k]'(by omega))) (.int (fr[k]'(by omega))) (by rw [List.getElem?_map, List.getElem?_eq_getElem (by omega)]; rfl) (by rw [List.getElem?_map, List.getElem?_eq_getElem (by omega)]; rfl)
    cases hi
    cases hj
    rw [List.getD_eq_getElem?_getD, List.getElem?_eq_getElem (by omega : k < l.free.length)]
    show _ ≤ fr.getD k 0
    rw [List.getD_eq_getElem?_getD, List.getElem?_eq_getElem (by omega : k < fr.length)]
    exact hij
end Fl

set_option Elab.async false
set_option linter.all false
set_option maxRecDepth 100000
set_option maxHeartbeats 4000000
set_option autoImplicit false
namespace Fl
open PySem PySem.Spec PyProof.Rows L2
local macro_rules | `(tactic| walk_at "ev") => `(tactic| simp -implicitDefEqProofs only [prE_ev, eVar_ev, varC_ev, eNm_ev, nmC_va, nmC_li, eC_ev, vw_va, vw_li, eOwn_ev, eIxO_ev, ixoC_ev, ixoC2_ev, ixoC3_ev, eOp_ev, opC_ev, opC2_ev, eUn_ev, unC_ev, bE_ev, bEC_ev, bB_ev, bBC_ev, bNot_ev, notC_ev, bAnd_ev, andC_t, andC_f, bOr_ev, orC_t, orC_f, bYes_ev, eAnd_ev, eandC_t, eandC_f, eOr_ev, eorC_t, eorC_f, eNot_ev, enotC_ev, eIf_ev, ifC_t, ifC_f, eTup_ev, tupC_ev, aNil_ev, aCons_ev, aconsC_ev, aconsC2_ev, oLst_ev, lstC_ev, oE_ev, oEC_ev, eFz_ev, fzC_va, fzC_li, oUn_ev, ounC_ev, prL_ev, eSl_ev, slC_ev, slC2_ev, slC3_ev, eSlO_ev, sloC_ev, sloC2_ev, sloC3_ev, sloC4_ev, lEnum_ev, enC_tup, enC_lst, pNo_ev, pSo_ev, psoC_ev, lOf_ev, lofC_tup, lofC_lst, lRng1_ev, rng1C_ev, lRng2_ev, rng2C_ev, rng2C2_ev, oRep_ev, repC_ev, repC2_ev, oCall_ev, callC_0, callC_1, callC_2, callC_3, callC_4, callC_5, callC_rv, callC_rv4, arSl_vl, arSl_rf, callC2_ev, arBack_nil, arBack_vl, arBack_rf, rNil_ev, rVal_ev, rvC_ev, rvC2_ev, rRef_ev, rrC_ev, oComp_ev, compC2_ev, wipeE_nil, wipeE_cons, backE_nil, backE_cons, gNm_ev, gTupF_ev, gsNil_ev, gsCons_ev, sNext_ev, sBreak_ev, sCont_ev, sSeq_ev, seqC_nx, seqC_bk, seqC_ct, seqC_rt, sSet_ev, setC_ev, sPar_ev, parC_ev, setAll_nil, setAll_cons, olNil_ev, olCons_ev, olC_ev, olC2_ev, sAsg_ev, asgC_ev, sIf_ev, sifC_t, sifC_f, sFor_ev, forC_ev, sDrop_ev, dropC_ev, sRet_ev, retC_ev, sRetN_ev, retnC_va, retnC_li, liOf_li, eMt1_ev, mt1C_ev, mt1C2_ev, mt1C3_ev, mt1C4_ev, eMt0_ev, mt0C_ev, sSub_ev, subC_ev, subC1_ev, subC2_ev, subC3_ev, subC4_ev, sAug_ev, augC_ev, augC2_ev, augC3_ev, mkF_ev, mkC_rt, mkC_nx, keepE_nil, keepE_va, keepE_ow', dTru_bool, dTru_int, dTru_none, dTru_list, dTru_tuple, dAdd_int, dAdd_tup, dAdd_lst, dIadd_int, dSub_int, dMul_int, dDiv_int, dMod_int, dNeg_int, dMin2_int, dMax2_int, dLtA_int, dLe_int, dLt_int, dGt_int, dGe_int, shaped_int, shaped_bool, shaped_none, eqv_int, eqv_bool, dEq_int, dNe_int, dEq_bool, dIs_none, dIsN_none, isNon_none, isNon_int, isNon_tup, isNon_bool, dLen_tup, dLen_lst, dIx_tup, dIx_lst, at0, at1, at2, at3, gExtend_lst, dTuple_lst, dTuple_tup, dList_lst, dList_tup, dInt_int, dSl_tup, dSl_lst, isTup, isLst, isBool, isIntB, isStr, beq_self_eq_true, decide_true, decide_false, isi_tup, isi_lst, isi_int, isi_bool, isi_str, isi_none, sz0, sz1, sz2, sz3, sz4, sz5, sz6, sz7, sz8, sz9, sz10, sz11, sz12, isOw_no, isOw_va, isOw_li, isOw_di, isOw_dt, isOw_ow, isOw_none, isOw_sl,
  Option.bind_some, Option.map_some, Option.bind_none, Option.map_none, Option.getD_some, Option.getD_none, List.getElem?_cons_zero, List.getElem?_cons_succ, List.set_cons_zero, List.set_cons_succ, List.map_cons, List.map_nil, List.headD_cons, List.headD_nil, List.tail_cons, List.tail_nil, List.isEmpty_nil, List.isEmpty_cons, List.length_nil, List.length_cons, List.nil_append, List.cons_append, List.replicate_succ, List.replicate_zero, Nat.reduceSub, Nat.reduceAdd, Bool.false_eq_true, if_false, if_true, reduceIte, Bool.not_true, Bool.not_false, and_true, true_and, and_self, Int.toNat_natCast, Int.zero_add, eCh_ev, chC_ev, chC2_ev, chC3_t, chC3_f, chC4_ev, lZip_ev, zipC_ev, zipC2_tup, zipC2_lst, dRev_tup, dRev_lst, dRngL_int, dRngT_int, oIte_ev, oiteC_li, oiteC_va, oCompO_ev, callC_rv2, callC_rv3, gset_ne, gset_self, List.length_set, Nat.reduceBEq, Nat.reduceLT])
local macro_rules | `(tactic| walk_at "evh") => `(tactic| simp -implicitDefEqProofs only [prE_ev, eVar_ev, varC_ev, eNm_ev, nmC_va, nmC_li, eC_ev, vw_va, vw_li, eOwn_ev, eIxO_ev, ixoC_ev, ixoC2_ev, ixoC3_ev, eOp_ev, opC_ev, opC2_ev, eUn_ev, unC_ev, bE_ev, bEC_ev, bB_ev, bBC_ev, bNot_ev, notC_ev, bAnd_ev, andC_t, andC_f, bOr_ev, orC_t, orC_f, bYes_ev, eAnd_ev, eandC_t, eandC_f, eOr_ev, eorC_t, eorC_f, eNot_ev, enotC_ev, eIf_ev, ifC_t, ifC_f, eTup_ev, tupC_ev, aNil_ev, aCons_ev, aconsC_ev, aconsC2_ev, oLst_ev, lstC_ev, oE_ev, oEC_ev, eFz_ev, fzC_va, fzC_li, oUn_ev, ounC_ev, prL_ev, eSl_ev, slC_ev, slC2_ev, slC3_ev, eSlO_ev, sloC_ev, sloC2_ev, sloC3_ev, sloC4_ev, lEnum_ev, enC_tup, enC_lst, pNo_ev, pSo_ev, psoC_ev, lOf_ev, lofC_tup, lofC_lst, lRng1_ev, rng1C_ev, lRng2_ev, rng2C_ev, rng2C2_ev, oRep_ev, repC_ev, repC2_ev, oCall_ev, callC_0, callC_1, callC_2, callC_3, callC_4, callC_5, callC_rv, callC_rv4, arSl_vl, arSl_rf, callC2_ev, arBack_nil, arBack_vl, arBack_rf, rNil_ev, rVal_ev, rvC_ev, rvC2_ev, rRef_ev, rrC_ev, oComp_ev, compC2_ev, wipeE_nil, wipeE_cons, backE_nil, backE_cons, gNm_ev, gTupF_ev, gsNil_ev, gsCons_ev, sNext_ev, sBreak_ev, sCont_ev, sSeq_ev, seqC_nx, seqC_bk, seqC_ct, seqC_rt, sSet_ev, setC_ev, sPar_ev, parC_ev, setAll_nil, setAll_cons, olNil_ev, olCons_ev, olC_ev, olC2_ev, sAsg_ev, asgC_ev, sIf_ev, sifC_t, sifC_f, sFor_ev, forC_ev, sDrop_ev, dropC_ev, sRet_ev, retC_ev, sRetN_ev, retnC_va, retnC_li, liOf_li, eMt1_ev, mt1C_ev, mt1C2_ev, mt1C3_ev, mt1C4_ev, eMt0_ev, mt0C_ev, sSub_ev, subC_ev, subC1_ev, subC2_ev, subC3_ev, subC4_ev, sAug_ev, augC_ev, augC2_ev, augC3_ev, mkF_ev, mkC_rt, mkC_nx, keepE_nil, keepE_va, keepE_ow', dTru_bool, dTru_int, dTru_none, dTru_list, dTru_tuple, dAdd_int, dAdd_tup, dAdd_lst, dIadd_int, dSub_int, dMul_int, dDiv_int, dMod_int, dNeg_int, dMin2_int, dMax2_int, dLtA_int, dLe_int, dLt_int, dGt_int, dGe_int, shaped_int, shaped_bool, shaped_none, eqv_int, eqv_bool, dEq_int, dNe_int, dEq_bool, dIs_none, dIsN_none, isNon_none, isNon_int, isNon_tup, isNon_bool, dLen_tup, dLen_lst, dIx_tup, dIx_lst, at0, at1, at2, at3, gExtend_lst, dTuple_lst, dTuple_tup, dList_lst, dList_tup, dInt_int, dSl_tup, dSl_lst, isTup, isLst, isBool, isIntB, isStr, beq_self_eq_true, decide_true, decide_false, isi_tup, isi_lst, isi_int, isi_bool, isi_str, isi_none, sz0, sz1, sz2, sz3, sz4, sz5, sz6, sz7, sz8, sz9, sz10, sz11, sz12, isOw_no, isOw_va, isOw_li, isOw_di, isOw_dt, isOw_ow, isOw_none, isOw_sl,
  Option.bind_some, Option.map_some, Option.bind_none, Option.map_none, Option.getD_some, Option.getD_none, List.getElem?_cons_zero, List.getElem?_cons_succ, List.set_cons_zero, List.set_cons_succ, List.map_cons, List.map_nil, List.headD_cons, List.headD_nil, List.tail_cons, List.tail_nil, List.isEmpty_nil, List.isEmpty_cons, List.length_nil, List.length_cons, List.nil_append, List.cons_append, List.replicate_succ, List.replicate_zero, Nat.reduceSub, Nat.reduceAdd, Bool.false_eq_true, if_false, if_true, reduceIte, Bool.not_true, Bool.not_false, and_true, true_and, and_self, Int.toNat_natCast, Int.zero_add, eCh_ev, chC_ev, chC2_ev, chC3_t, chC3_f, chC4_ev, lZip_ev, zipC_ev, zipC2_tup, zipC2_lst, dRev_tup, dRev_lst, dRngL_int, dRngT_int, oIte_ev, oiteC_li, oiteC_va, oCompO_ev, callC_rv2, callC_rv3, gset_ne, gset_self, List.length_set, Nat.reduceBEq, Nat.reduceLT, *])
/-! K83_Top: a whole turn; the law. -/
theorem no_eq : dNe (.str "order") (.str "order") = some (.bool false) := by
  unfold dNe
  rw [if_pos ⟨sh_order, sh_order⟩, PyData.eqv, beq_self_eq_true]; rfl
theorem S33_ok {e : Ev} {b : Box} {l m : Loan} {h : Nat} {row : List Int} (t : Ta e b l h row) (L : LL l) (h18 : e[18]? = some (.va (loD m))) (wm : WL m) (hg : (grd l).1 = true → (grd m).1 = true) : S33_law e = some (.nx e) := by
  have hl := t.len
  have h7 := t.w7
  have hs := safe_ok wm
  unfold S33_law
  cases hx : (grd l).1 with
  | true =>
    rw [hx, if_pos rfl] at h7
    have hsd : sdO (grd m) = .tuple [.str "order", nT (grd m).2] := by unfold sdO; rw [hg hx]; rfl
    rw [hsd] at hs
    have h1 := oo_eq
    have h2 := no_eq
    repeat (first | walk_at "ev" | simp only [gset_ne, gset_self, List.length_set, Nat.reduceLT, Nat.reduceBEq, hl, h7, h18, hs, h1, h2, reduceIte])
  | false =>
    rw [hx, if_neg (by decide)] at h7
    have h1 := so_eq
    repeat (first | walk_at "ev" | simp only [gset_ne, gset_self, List.length_set, Nat.reduceLT, Nat.reduceBEq, hl, h7, h1, reduceIte])
theorem S34_ok {e : Ev} {b : Box} {l : Loan} {h : Nat} {row : List Int} (t : Ta e b l h row) (L : LL l) (h17 : e[17]? = some (.va (.bool (rowFit l.kk row l.free)))) : S34_law e = some (.nx e) := by
  have hl := t.len
  have h3 := t.l3
  have h14 := t.h14
  have h15 := t.r15
  have hm := may_ok L.w t.hh t.rl
  unfold S34_law
  cases hx : rowFit l.kk row l.free with
  | true =>
    rw [hx] at h17
    repeat (first | walk_at "ev" | simp only [gset_ne, gset_self, List.length_set, Nat.reduceLT, Nat.reduceBEq, hl, h17, reduceIte])
  | false =>
    rw [hx] at h17 hm
    rw [Bool.false_and] at hm
    have hff : dIsNB (.bool false) (.bool false) = some (.bool false) := rfl
    repeat (first | walk_at "ev" | simp only [gset_ne, gset_self, List.length_set, Nat.reduceLT, Nat.reduceBEq, hl, h3, h14, h15, h17, hm, hff, reduceIte])
theorem S51_ok {e : Ev} {b : Box} {l : Loan} (t : Tg e b l) (L : LL l) : ∃ e' b', S51_law e = some (.nx e') ∧ Tz e' b' := by
  have hl := t.len
  have h4 := t.n4
  unfold S51_law
  by_cases hn : 0 < l.nn
  · have hd : decide ((0 : Int) < (l.nn : Int)) = true := decide_eq_true (by omega)
    obtain ⟨e1, b1, h, row, k1, t1⟩ := S2627_ok t L hn (sSeq S28_law (sSeq S29_law (sSeq S30_law (sSeq S31_law (sSeq S32_law (sSeq S33_law S34_law))))))
    have l1 := t1.len
    have k2 := S28_ok t1 L
    have t2 := t1.put2 (i := 16) (s := .va (loD (ask l h row))) (by decide) rfl
    have g2 : (e1.set 16 (.va (loD (ask l h row))))[16]? = some (.va (loD (ask l h row))) := gset_self (by rw [l1]; decide)
    generalize e1.set 16 (.va (loD (ask l h row))) = e2 at k2 t2 g2
    have l2 := t2.len
    have k3 := S29_ok t2 L
    have t3 := t2.put2 (i := 17) (s := .va (.bool (rowFit l.kk row l.free))) (by decide) rfl
    have g3 : (e2.set 17 (.va (.bool (rowFit l.kk row l.free))))[17]? = some (.va (.bool (rowFit l.kk row l.free))) := gset_self (by rw [l2]; decide)
    have g3' : (e2.set 17 (.va (.bool (rowFit l.kk row l.free))))[16]? = some (.va (loD (ask l h row))) := by rw [gset_ne rfl]; exact g2
    generalize e2.set 17 (.va (.bool (rowFit l.kk row l.free))) = e3 at k3 t3 g3 g3'
    have l3 := t3.len
    have k4 := S30_ok t3 L g3'
    have k5 := S31_ok t3 L g3' g3
    obtain ⟨b', m, k6, wm, nm, mk, mn, mH, mN, mF⟩ := S32_ok t3 L
    have hg : (grd l).1 = true → (grd m).1 = true := fun hg => grd_more nm mk mn mH mN mF hg
    have t4 : Ta ((e3.set 1 (.ow b'.ot)).set 18 (.va (loD m))) b' l h row := ⟨t3.toTg.bx.put (by decide) rfl, by rw [gset_ne rfl, gset_ne rfl]; exact t3.h14, by rw [gset_ne rfl, gset_ne rfl]; exact t3.r15, t3.hh, t3.rl, t3.rn⟩
    have g4 : ((e3.set 1 (.ow b'.ot)).set 18 (.va (loD m)))[18]? = some (.va (loD m)) := gset_self (by rw [List.length_set, l3]; decide)
    have g4' : ((e3.set 1 (.ow b'.ot)).set 18 (.va (loD m)))[17]? = some (.va (.bool (rowFit l.kk row l.free))) := by rw [gset_ne rfl, gset_ne rfl]; exact g3
    generalize (e3.set 1 (.ow b'.ot)).set 18 (.va (loD m)) = e4 at k6 t4 g4 g4'
    have k7 := S33_ok t4 L g4 wm hg
    have k8 := S34_ok t4 L g4'
    have kk : sSeq S26_law (sSeq S27_law (sSeq S28_law (sSeq S29_law (sSeq S30_law (sSeq S31_law (sSeq S32_law (sSeq S33_law S34_law))))))) e = some (.nx e4) := by
      rw [k1, sSeq_ev, k2, Option.bind_some, seqC_nx, sSeq_ev, k3, Option.bind_some, seqC_nx, sSeq_ev, k4, Option.bind_some, seqC_nx, sSeq_ev, k5, Option.bind_some, seqC_nx, sSeq_ev, k6, Option.bind_some, seqC_nx, sSeq_ev, k7, Option.bind_some, seqC_nx, k8]
    refine ⟨e4, b', ?_, t4.toTz⟩
    generalize sSeq S26_law (sSeq S27_law (sSeq S28_law (sSeq S29_law (sSeq S30_law (sSeq S31_law (sSeq S32_law (sSeq S33_law S34_law))))))) = S at kk
    repeat (first | walk_at "ev" | simp only [gset_ne, gset_self, List.length_set, Nat.reduceLT, Nat.reduceBEq, hl, h4, hd, kk, reduceIte])
  · have hd : decide ((0 : Int) < (l.nn : Int)) = false := decide_eq_false (by omega)
    refine ⟨e, b, ?_, t.toTz⟩
    generalize sSeq S26_law (sSeq S27_law (sSeq S28_law (sSeq S29_law (sSeq S30_law (sSeq S31_law (sSeq S32_law (sSeq S33_law S34_law))))))) = S
    repeat (first | walk_at "ev" | simp only [gset_ne, gset_self, List.length_set, Nat.reduceLT, Nat.reduceBEq, hl, h4, hd, reduceIte])
theorem turn83 {e : Ev} {b : Box} (t : Tz e b) : ∃ e' b', L52_law e = some (.nx e') ∧ Tz e' b' := by
  obtain ⟨l, e1, b1, k1, t1, g1, L⟩ := S35_ok t
  unfold L52_law
  obtain ⟨e2, k2, t2⟩ := head_ok t1 g1 L (sSeq S42_law (sSeq S43_law (sSeq S44_law (sSeq S45_law (sSeq S46_law (sSeq S47_law (sSeq S48_law (sSeq S49_law (sSeq S50_law S51_law)))))))))
  have k3 := S42_ok t2 L
  obtain ⟨e3, k4, t3⟩ := S43_ok t2 L
  have k5 := S44_ok t3 L
  have t4 := t3.put (i := 10) (s := .va (nT (someO l))) (by decide) rfl
  have g4 : (e3.set 10 (.va (nT (someO l))))[10]? = some (.va (nT (someO l))) := gset_self (by rw [t3.len]; decide)
  generalize e3.set 10 (.va (nT (someO l))) = e4 at k5 t4 g4
  obtain ⟨e5, b5, k6, t5⟩ := S45_ok t4 L g4
  have k7 := S46_ok t5 L
  have t6 := t5.put (i := 10) (s := .va (nT (someG l))) (by decide) rfl
  have g6 : (e5.set 10 (.va (nT (someG l))))[10]? = some (.va (nT (someG l))) := gset_self (by rw [t5.len]; decide)
  generalize e5.set 10 (.va (nT (someG l))) = e6 at k7 t6 g6
  obtain ⟨e7, b7, k8, t7⟩ := S47_ok t6 L g6
  obtain ⟨e8, b8, k9, t8⟩ := values_ok t7 L S51_law
  obtain ⟨e9, b9, k10, t9⟩ := S51_ok t8 L
  refine ⟨e9, b9, ?_, t9⟩
  rw [sSeq_ev, k1, Option.bind_some, seqC_nx, k2, sSeq_ev, k3, Option.bind_some, seqC_nx, sSeq_ev, k4, Option.bind_some, seqC_nx, sSeq_ev, k5, Option.bind_some, seqC_nx, sSeq_ev, k6, Option.bind_some, seqC_nx, sSeq_ev, k7, Option.bind_some, seqC_nx, sSeq_ev, k8, Option.bind_some, seqC_nx, k9, k10]
/-! the two written loans -/
def lA : Loan := ⟨1, 2, [1], [[1], [1]], [[2], [1]]⟩
def lB : Loan := ⟨1, 2, [0], [[1], [1]], [[1], [1]]⟩
theorem wA : WL lA := ⟨rfl, rfl, rfl, by decide, by decide, by decide, by decide⟩
theorem wB : WL lB := ⟨rfl, rfl, rfl, by decide, by decide, by decide, by decide⟩
theorem gA : grd lA = (true, [1, 0]) := by decide +kernel
theorem gB : grd lB = (false, [0, 1]) := by decide +kernel
theorem law_true : ∀ ns : List Int, ns.length ≤ 63 → ∃ e', F_law (.no :: .ow (box0 ns).ot :: List.replicate 25 .no) = some (.rt (.va (.bool true)) e') := by
  intro ns _
  have t0 : Tz (.no :: .ow (box0 ns).ot :: List.replicate 25 .no) (box0 ns) := ⟨rfl, rfl, fun i hi => by
    match i, hi with
    | 0, _ => rfl
    | i + 2, _ =>
      show isOw (List.replicate 25 Sl.no)[i]? = false
      rw [List.getElem?_replicate]
      split <;> rfl⟩
  generalize (Sl.no :: .ow (box0 ns).ot :: List.replicate 25 .no) = e at t0
  -- turns
  obtain ⟨e1, k1, b1, t1⟩ := loop_inv (L := L52_law) (v := 2) (fun e => ∃ b, Tz e b) (fun _ => True) (fun d e _ ⟨b, t⟩ => by
    have tt := t.set (i := 2) (s := .va d) (by decide) rfl
    obtain ⟨e', b', h1, h2⟩ := turn83 tt
    exact ⟨e', by rw [gN_ok t d (by decide), Option.bind_some]; exact h1, b', h2⟩) (rngD 0 4) e (fun _ _ => trivial) ⟨_, t0⟩
  have s53 : S53_law e = some (.nx e1) := by
    have hr : Rg 4 := rg_of (by omega) (by omega)
    have h4 : (4 : Int).toNat = 4 := rfl
    unfold S53_law
    repeat (first | walk_at "ev" | simp only [hr, h4, k1, reduceIte])
  -- the great loan
  obtain ⟨l, b2, e2, w, hk, hn, bl⟩ := loan_ok b1 (K := 4) (n := 12) (m := 9) (by decide) (by decide) (by decide) (by decide)
  have e2' : F__law_loan [.ow b1.ot, .va (.int 4), .va (.int 12), .va (.int 9)] = some (.va (loD l), [.ow b2.ot, .no, .no, .no]) := e2
  have s54 : S54_law e1 = some (.nx ((e1.set 1 (.ow b2.ot)).set 9 (.va (loD l)))) := by
    have hl := t1.len
    have ho := t1.ow
    have n9 := t1.no 9 (by decide)
    unfold S54_law
    repeat (first | walk_at "ev" | simp only [gset_ne, gset_self, List.length_set, Nat.reduceLT, Nat.reduceBEq, hl, ho, n9, e2', reduceIte])
  have t2 : Tz ((e1.set 1 (.ow b2.ot)).set 9 (.va (loD l))) b2 := t1.box.set (by decide) rfl
  have g2 : ((e1.set 1 (.ow b2.ot)).set 9 (.va (loD l)))[9]? = some (.va (loD l)) := gset_self (by rw [List.length_set, t1.len]; decide)
  generalize (e1.set 1 (.ow b2.ot)).set 9 (.va (loD l)) = E at s54 t2 g2
  have hl := t2.len
  have hsafe := safe_ok w
  have n7 := t2.no 7 (by decide)
  have n8 := t2.no 8 (by decide)
  have hsd : sdO (grd l) = .tuple [.str (if (grd l).1 = true then "order" else "stuck"), nT (grd l).2] := rfl
  rw [hsd] at hsafe
  have s55 : S55_law E = some (.nx ((E.set 7 (.va (.str (if (grd l).1 = true then "order" else "stuck")))).set 8 (.va (nT (grd l).2)))) := by
    generalize (if (grd l).1 = true then ("order" : Str) else "stuck") = ws at hsafe
    unfold S55_law
    repeat (first | walk_at "ev" | simp only [gset_ne, gset_self, List.length_set, Nat.reduceLT, Nat.reduceBEq, hl, gNm_ev, g2, hsafe, n7, n8, reduceIte])
  have hlt := grd_lt (l := l)
  have h12 : (grd l).2.length ≤ 1000000 := by have := hlt.2; omega
  have s56 : ∀ F : Ev, F.length = 27 → F[7]? = some (.va (.str (if (grd l).1 = true then "order" else "stuck"))) → F[8]? = some (.va (nT (grd l).2)) → F[9]? = some (.va (loD l)) → S56_law F = some (.nx F) := fun F hl h7 h8 h9 => by
    unfold S56_law
    cases hx : (grd l).1 with
    | true =>
      rw [hx, if_pos rfl] at h7
      have h1 := lends_ok w hlt.1
      rw [(grd_order hx).1] at h1
      have q1 := oo_eq
      have q2 := os_eq
      repeat (first | walk_at "ev" | simp only [gset_ne, gset_self, List.length_set, Nat.reduceLT, Nat.reduceBEq, hl, h7, h8, h9, h1, q1, q2, reduceIte])
    | false =>
      rw [hx, if_neg (by decide)] at h7
      have h1 := lstuck_ok w hlt.1 h12
      rw [(grd_stuck hx).2] at h1
      have q1 := so_eq
      have q2 := ss_eq
      repeat (first | walk_at "ev" | simp only [gset_ne, gset_self, List.length_set, Nat.reduceLT, Nat.reduceBEq, hl, h7, h8, h9, h1, q1, q2, reduceIte])
  have s56' := s56 ((E.set 7 (.va (.str (if (grd l).1 = true then "order" else "stuck")))).set 8 (.va (nT (grd l).2))) (by rw [List.length_set, List.length_set, hl]) (by rw [gset_ne rfl, gset_self (by rw [hl]; decide)]) (by rw [gset_self (by rw [List.length_set, hl]; decide)]) (by rw [gset_ne rfl, gset_ne rfl]; exact g2)
  generalize (E.set 7 (.va (.str (if (grd l).1 = true then "order" else "stuck")))).set 8 (.va (nT (grd l).2)) = G at s55 s56'
  -- the last row
  have sA := safe_ok wA
  have sB := safe_ok wB
  rw [gA] at sA
  rw [gB] at sB
  have mA := same83 (plain_le (plain_pair sh_order (plain_nT (n := 0) (q := [1, 0]) (by decide))) (by decide : 2 ≤ 19))
  have mB := same83 (plain_le (plain_pair sh_stuck (plain_nT (n := 0) (q := [0, 1]) (by decide))) (by decide : 2 ≤ 19))
  have sA' : F_safe_order [.va (.tuple [.tuple [.int 1], .tuple [.tuple [.int 1], .tuple [.int 1]], .tuple [.tuple [.int 2], .tuple [.int 1]]])] = some (.va (.tuple [.str "order", .tuple [.int 1, .int 0]]), [.no]) := sA
  have sB' : F_safe_order [.va (.tuple [.tuple [.int 0], .tuple [.tuple [.int 1], .tuple [.int 1]], .tuple [.tuple [.int 1], .tuple [.int 1]]])] = some (.va (.tuple [.str "stuck", .tuple [.int 0, .int 1]]), [.no]) := sB
  have mA' : F__law_same [.va (.tuple [.str "order", .tuple [.int 1, .int 0]]), .va (.tuple [.str "order", .tuple [.int 1, .int 0]])] = some (.va (.bool true), [.no, .no]) := mA
  have mB' : F__law_same [.va (.tuple [.str "stuck", .tuple [.int 0, .int 1]]), .va (.tuple [.str "stuck", .tuple [.int 0, .int 1]])] = some (.va (.bool true), [.no, .no]) := mB
  have s57 : S57_law G = some (.rt (.va (.bool true)) G) := by
    unfold S57_law
    repeat (first | walk_at "ev" | simp only [sA', sB', mA', mB', reduceIte])
  refine ⟨G, ?_⟩
  unfold F_law
  rw [sSeq_ev, s53, Option.bind_some, seqC_nx, sSeq_ev, s54, Option.bind_some, seqC_nx, sSeq_ev, s55, Option.bind_some, seqC_nx, sSeq_ev, s56', Option.bind_some, seqC_nx, s57]
end Fl

set_option Elab.async false
set_option linter.all false
set_option maxRecDepth 100000
set_option maxHeartbeats 4000000
namespace Fl
open PySem PySem.Spec PyProof.Rows L2
section
variable {P : Program} {w : World} {K : Frg} {mg : Str → Option Value} {base : Heap}
theorem all_ok {f : Addr} {fd : FuncData} (F : Fun K "law" "law" s_law f fd) (B : Bt mg) (C : Ct K mg) (T__law_box : Ft K mg "_law_box" s__law_box ["script"]) (T__law_load : Ft K mg "_law_load" s__law_load ["box"]) (T__law_draw : Ft K mg "_law_draw" s__law_draw ["box", "many"]) (T_is_number : Ft K mg "is_number" s_is_number ["value", "least", "most"]) (T_is_ascending : Ft K mg "is_ascending" s_is_ascending ["rows"]) (T_is_thing_row : Ft K mg "is_thing_row" s_is_thing_row ["kinds", "value"]) (T_is_loan : Ft K mg "is_loan" s_is_loan ["value"]) (T_fits : Ft K mg "fits" s_fits ["needed", "free"]) (T_added_to : Ft K mg "added_to" s_added_to ["free", "row"]) (T_safe_order : Ft K mg "safe_order" s_safe_order ["loan"]) (T_is_safe_order : Ft K mg "is_safe_order" s_is_safe_order ["loan", "value"]) (T_is_stuck : Ft K mg "is_stuck" s_is_stuck ["loan", "value"]) (T_after_asking : Ft K mg "after_asking" s_after_asking ["loan", "helper", "row"]) (T_may_grant : Ft K mg "may_grant" s_may_grant ["loan", "helper", "row"]) (T__law_flat : Ft K mg "_law_flat" s__law_flat ["rows"]) (T__law_same : Ft K mg "_law_same" s__law_same ["a", "b"]) (T__law_loan : Ft K mg "_law_loan" s__law_loan ["box", "kinds", "many", "most"]) (T__law_ends : Ft K mg "_law_ends" s__law_ends ["loan", "order"]) (T__law_orders : Ft K mg "_law_orders" s__law_orders ["n"]) (T__law_sets : Ft K mg "_law_sets" s__law_sets ["n"]) (T__law_stuck : Ft K mg "_law_stuck" s__law_stuck ["loan", "group"]) (T__law_numbers : Ft K mg "_law_numbers" s__law_numbers ["value", "n"]) (T__law_is_loan : Ft K mg "_law_is_loan" s__law_is_loan ["value"]) (T__law_bent : Ft K mg "_law_bent" s__law_bent ["box", "value"]) : FnOk P w K mg base CX0 23 f fd ["script"] (spLaw K) := by
  obtain ⟨f1, fd1, F1, b1, g1⟩ := T__law_box
  obtain ⟨f2, fd2, F2, b2, g2⟩ := T__law_load
  have D__law_draw : Dk P w K mg base "_law_draw" 2 2 F__law_draw := dk_of T__law_draw fun f fd F => draw_ok (ok_draw F F2 b2 g2 B.len B.int)
  have D_is_number : Dk P w K mg base "is_number" 1 3 F_is_number := dk_of T_is_number fun f fd F => ok_is_number F B 
  have D_is_ascending : Dk P w K mg base "is_ascending" 1 1 F_is_ascending := dk_of T_is_ascending fun f fd F => ok_is_ascending F B 
  have D_is_thing_row : Dk P w K mg base "is_thing_row" 2 2 F_is_thing_row := dk_of T_is_thing_row fun f fd F => ok_is_thing_row F B C D_is_number
  have D_is_loan : Dk P w K mg base "is_loan" 3 1 F_is_loan := dk_of T_is_loan fun f fd F => ok_is_loan F B C D_is_thing_row
  have D_fits : Dk P w K mg base "fits" 1 2 F_fits := dk_of T_fits fun f fd F => ok_fits F B 
  have D_added_to : Dk P w K mg base "added_to" 1 2 F_added_to := dk_of T_added_to fun f fd F => ok_added_to F B 
  have D_safe_order : Dk P w K mg base "safe_order" 2 1 F_safe_order := dk_of T_safe_order fun f fd F => ok_safe_order F B D_fits D_added_to
  have D_is_safe_order : Dk P w K mg base "is_safe_order" 2 2 F_is_safe_order := dk_of T_is_safe_order fun f fd F => ok_is_safe_order F B D_is_number D_fits D_added_to
  have D_is_stuck : Dk P w K mg base "is_stuck" 2 2 F_is_stuck := dk_of T_is_stuck fun f fd F => ok_is_stuck F B D_is_number D_is_ascending D_added_to D_fits
  have D_after_asking : Dk P w K mg base "after_asking" 2 3 F_after_asking := dk_of T_after_asking fun f fd F => ok_after_asking F B D_added_to
  have D_may_grant : Dk P w K mg base "may_grant" 3 3 F_may_grant := dk_of T_may_grant fun f fd F => ok_may_grant F B D_fits D_after_asking D_safe_order
  have D__law_flat : Dk P w K mg base "_law_flat" 1 1 F__law_flat := dk_of T__law_flat fun f fd F => ok__law_flat F B 
  have D__law_same : Dk P w K mg base "_law_same" 20 2 F__law_same := dk_rec (l := 0) (R := R__law_same) T__law_same rfl (fun f fd k F D hk => st__law_same F B  D hk) 20
  have D__law_loan : Dk P w K mg base "_law_loan" 3 4 F__law_loan := dk_of T__law_loan fun f fd F => ok__law_loan F B D__law_draw
  have D__law_ends : Dk P w K mg base "_law_ends" 1 2 F__law_ends := dk_of T__law_ends fun f fd F => ok__law_ends F B 
  have D__law_orders : Dk P w K mg base "_law_orders" 2 1 F__law_orders := dk_of T__law_orders fun f fd F => ok__law_orders F B D__law_flat
  have D__law_sets : Dk P w K mg base "_law_sets" 1 1 F__law_sets := dk_of T__law_sets fun f fd F => ok__law_sets F B 
  have D__law_stuck : Dk P w K mg base "_law_stuck" 1 2 F__law_stuck := dk_of T__law_stuck fun f fd F => ok__law_stuck F B 
  have D__law_numbers : Dk P w K mg base "_law_numbers" 1 2 F__law_numbers := dk_of T__law_numbers fun f fd F => ok__law_numbers F B 
  have D__law_is_loan : Dk P w K mg base "_law_is_loan" 2 1 F__law_is_loan := dk_of T__law_is_loan fun f fd F => ok__law_is_loan F B D__law_numbers
  have D__law_bent : Dk P w K mg base "_law_bent" 22 2 F__law_bent := dk_rec (l := 2) (R := R__law_bent) T__law_bent rfl (fun f fd k F D hk => st__law_bent F B D__law_draw D hk) 20
  exact law_ok (k := 21) F sc_law (by decide) (ok_box (k := 0) F1 B.len B.list) b1 g1 F1.kp (fun cdv A outer s H E hr => ⟨_, ps_set (i := 1) sc_law.nd rfl (by first | exact .inl rfl | exact .inr rfl) (pe_call (ok_box (k := 0) F1 B.len B.list) (hr.mono (by decide)) (by rfl) g1 F1.kp b1 .nil pass0 (pa_cons (pv 0) pa_nil)), fun _ _ _ h => h⟩) rfl (fun cdv A outer s H E hr => ok_law_rest B D__law_draw D__law_loan D_is_loan D__law_orders D__law_ends D__law_sets D__law_stuck D_safe_order D__law_same D__law_bent D__law_numbers D_is_safe_order D_is_stuck D__law_is_loan D_after_asking D_may_grant cdv A outer s H E hr) law_true
end
theorem all_mk {l : PySem.W.OpenLaw} {w : World} {K : PySem.W.Frag} {h : Heap} {mg : Str → Option Value} {fa fL : Addr} (X : K.In h) (G : h.Ns mainGlobals mg) (hfa : mg "law" = some (.ref fa))
    {f_0 f_1 f_2 f_3 f_4 f_5 f_6 f_7 f_8 f_9 f_10 f_11 f_12 f_13 f_14 f_15 f_16 f_17 f_18 f_19 f_20 f_21 f_22 f_23 : Addr} {odL anL od0 an0 od1 an1 od2 an2 od3 an3 od4 an4 od5 an5 od6 an6 od7 an7 od8 an8 od9 an9 od10 an10 od11 an11 od12 an12 od13 an13 od14 an14 od15 an15 od16 an16 od17 an17 od18 an18 od19 an19 od20 an20 od21 an21 od22 an22 od23 an23 : Option Addr} {slL sl0 sl1 sl2 sl3 sl4 sl5 sl6 sl7 sl8 sl9 sl10 sl11 sl12 sl13 sl14 sl15 sl16 sl17 sl18 sl19 sl20 sl21 sl22 sl23 : Array (Option Value)} {ocL kVL dcL pmL cdL ctL oc0 kV0 dc0 pm0 cd0 ct0 oc1 kV1 dc1 pm1 cd1 ct1 oc2 kV2 dc2 pm2 cd2 ct2 oc3 kV3 dc3 pm3 cd3 ct3 oc4 kV4 dc4 pm4 cd4 ct4 oc5 kV5 dc5 pm5 cd5 ct5 oc6 kV6 dc6 pm6 cd6 ct6 oc7 kV7 dc7 pm7 cd7 ct7 oc8 kV8 dc8 pm8 cd8 ct8 oc9 kV9 dc9 pm9 cd9 ct9 oc10 kV10 dc10 pm10 cd10 ct10 oc11 kV11 dc11 pm11 cd11 ct11 oc12 kV12 dc12 pm12 cd12 ct12 oc13 kV13 dc13 pm13 cd13 ct13 oc14 kV14 dc14 pm14 cd14 ct14 oc15 kV15 dc15 pm15 cd15 ct15 oc16 kV16 dc16 pm16 cd16 ct16 oc17 kV17 dc17 pm17 cd17 ct17 oc18 kV18 dc18 pm18 cd18 ct18 oc19 kV19 dc19 pm19 cd19 ct19 oc20 kV20 dc20 pm20 cd20 ct20 oc21 kV21 dc21 pm21 cd21 ct21 oc22 kV22 dc22 pm22 cd22 ct22 oc23 kV23 dc23 pm23 cd23 ct23 : Value}
    (a0 : PySem.W.nsIn K mainGlobals "_law_box" = some (some (.ref f_0))) (l0 : K.lookup f_0 = some ⟨oc0, od0, .func (PySem.W.fnOf "_law_box" "_law_box" (defArgs s__law_box) (defBody s__law_box) (defScope s__law_box) .none kV0 dc0 pm0 an0 cd0 ct0), sl0⟩) (c0 : PySem.W.codeIn K cd0 "_law_box" = true) (k0 : PySem.W.keepIn K (.ref f_0) = true)
    (a1 : PySem.W.nsIn K mainGlobals "_law_load" = some (some (.ref f_1))) (l1 : K.lookup f_1 = some ⟨oc1, od1, .func (PySem.W.fnOf "_law_load" "_law_load" (defArgs s__law_load) (defBody s__law_load) (defScope s__law_load) .none kV1 dc1 pm1 an1 cd1 ct1), sl1⟩) (c1 : PySem.W.codeIn K cd1 "_law_load" = true) (k1 : PySem.W.keepIn K (.ref f_1) = true)
    (a2 : PySem.W.nsIn K mainGlobals "_law_draw" = some (some (.ref f_2))) (l2 : K.lookup f_2 = some ⟨oc2, od2, .func (PySem.W.fnOf "_law_draw" "_law_draw" (defArgs s__law_draw) (defBody s__law_draw) (defScope s__law_draw) .none kV2 dc2 pm2 an2 cd2 ct2), sl2⟩) (c2 : PySem.W.codeIn K cd2 "_law_draw" = true) (k2 : PySem.W.keepIn K (.ref f_2) = true)
    (a3 : PySem.W.nsIn K mainGlobals "is_number" = some (some (.ref f_3))) (l3 : K.lookup f_3 = some ⟨oc3, od3, .func (PySem.W.fnOf "is_number" "is_number" (defArgs s_is_number) (defBody s_is_number) (defScope s_is_number) .none kV3 dc3 pm3 an3 cd3 ct3), sl3⟩) (c3 : PySem.W.codeIn K cd3 "is_number" = true) (k3 : PySem.W.keepIn K (.ref f_3) = true)
    (a4 : PySem.W.nsIn K mainGlobals "is_ascending" = some (some (.ref f_4))) (l4 : K.lookup f_4 = some ⟨oc4, od4, .func (PySem.W.fnOf "is_ascending" "is_ascending" (defArgs s_is_ascending) (defBody s_is_ascending) (defScope s_is_ascending) .none kV4 dc4 pm4 an4 cd4 ct4), sl4⟩) (c4 : PySem.W.codeIn K cd4 "is_ascending" = true) (k4 : PySem.W.keepIn K (.ref f_4) = true)
    (a5 : PySem.W.nsIn K mainGlobals "is_thing_row" = some (some (.ref f_5))) (l5 : K.lookup f_5 = some ⟨oc5, od5, .func (PySem.W.fnOf "is_thing_row" "is_thing_row" (defArgs s_is_thing_row) (defBody s_is_thing_row) (defScope s_is_thing_row) .none kV5 dc5 pm5 an5 cd5 ct5), sl5⟩) (c5 : PySem.W.codeIn K cd5 "is_thing_row" = true) (k5 : PySem.W.keepIn K (.ref f_5) = true)
    (a6 : PySem.W.nsIn K mainGlobals "is_loan" = some (some (.ref f_6))) (l6 : K.lookup f_6 = some ⟨oc6, od6, .func (PySem.W.fnOf "is_loan" "is_loan" (defArgs s_is_loan) (defBody s_is_loan) (defScope s_is_loan) .none kV6 dc6 pm6 an6 cd6 ct6), sl6⟩) (c6 : PySem.W.codeIn K cd6 "is_loan" = true) (k6 : PySem.W.keepIn K (.ref f_6) = true)
    (a7 : PySem.W.nsIn K mainGlobals "fits" = some (some (.ref f_7))) (l7 : K.lookup f_7 = some ⟨oc7, od7, .func (PySem.W.fnOf "fits" "fits" (defArgs s_fits) (defBody s_fits) (defScope s_fits) .none kV7 dc7 pm7 an7 cd7 ct7), sl7⟩) (c7 : PySem.W.codeIn K cd7 "fits" = true) (k7 : PySem.W.keepIn K (.ref f_7) = true)
    (a8 : PySem.W.nsIn K mainGlobals "added_to" = some (some (.ref f_8))) (l8 : K.lookup f_8 = some ⟨oc8, od8, .func (PySem.W.fnOf "added_to" "added_to" (defArgs s_added_to) (defBody s_added_to) (defScope s_added_to) .none kV8 dc8 pm8 an8 cd8 ct8), sl8⟩) (c8 : PySem.W.codeIn K cd8 "added_to" = true) (k8 : PySem.W.keepIn K (.ref f_8) = true)
    (a9 : PySem.W.nsIn K mainGlobals "safe_order" = some (some (.ref f_9))) (l9 : K.lookup f_9 = some ⟨oc9, od9, .func (PySem.W.fnOf "safe_order" "safe_order" (defArgs s_safe_order) (defBody s_safe_order) (defScope s_safe_order) .none kV9 dc9 pm9 an9 cd9 ct9), sl9⟩) (c9 : PySem.W.codeIn K cd9 "safe_order" = true) (k9 : PySem.W.keepIn K (.ref f_9) = true)
    (a10 : PySem.W.nsIn K mainGlobals "is_safe_order" = some (some (.ref f_10))) (l10 : K.lookup f_10 = some ⟨oc10, od10, .func (PySem.W.fnOf "is_safe_order" "is_safe_order" (defArgs s_is_safe_order) (defBody s_is_safe_order) (defScope s_is_safe_order) .none kV10 dc10 pm10 an10 cd10 ct10), sl10⟩) (c10 : PySem.W.codeIn K cd10 "is_safe_order" = true) (k10 : PySem.W.keepIn K (.ref f_10) = true)
    (a11 : PySem.W.nsIn K mainGlobals "is_stuck" = some (some (.ref f_11))) (l11 : K.lookup f_11 = some ⟨oc11, od11, .func (PySem.W.fnOf "is_stuck" "is_stuck" (defArgs s_is_stuck) (defBody s_is_stuck) (defScope s_is_stuck) .none kV11 dc11 pm11 an11 cd11 ct11), sl11⟩) (c11 : PySem.W.codeIn K cd11 "is_stuck" = true) (k11 : PySem.W.keepIn K (.ref f_11) = true)
    (a12 : PySem.W.nsIn K mainGlobals "after_asking" = some (some (.ref f_12))) (l12 : K.lookup f_12 = some ⟨oc12, od12, .func (PySem.W.fnOf "after_asking" "after_asking" (defArgs s_after_asking) (defBody s_after_asking) (defScope s_after_asking) .none kV12 dc12 pm12 an12 cd12 ct12), sl12⟩) (c12 : PySem.W.codeIn K cd12 "after_asking" = true) (k12 : PySem.W.keepIn K (.ref f_12) = true)
    (a13 : PySem.W.nsIn K mainGlobals "may_grant" = some (some (.ref f_13))) (l13 : K.lookup f_13 = some ⟨oc13, od13, .func (PySem.W.fnOf "may_grant" "may_grant" (defArgs s_may_grant) (defBody s_may_grant) (defScope s_may_grant) .none kV13 dc13 pm13 an13 cd13 ct13), sl13⟩) (c13 : PySem.W.codeIn K cd13 "may_grant" = true) (k13 : PySem.W.keepIn K (.ref f_13) = true)
    (a14 : PySem.W.nsIn K mainGlobals "_law_flat" = some (some (.ref f_14))) (l14 : K.lookup f_14 = some ⟨oc14, od14, .func (PySem.W.fnOf "_law_flat" "_law_flat" (defArgs s__law_flat) (defBody s__law_flat) (defScope s__law_flat) .none kV14 dc14 pm14 an14 cd14 ct14), sl14⟩) (c14 : PySem.W.codeIn K cd14 "_law_flat" = true) (k14 : PySem.W.keepIn K (.ref f_14) = true)
    (a15 : PySem.W.nsIn K mainGlobals "_law_same" = some (some (.ref f_15))) (l15 : K.lookup f_15 = some ⟨oc15, od15, .func (PySem.W.fnOf "_law_same" "_law_same" (defArgs s__law_same) (defBody s__law_same) (defScope s__law_same) .none kV15 dc15 pm15 an15 cd15 ct15), sl15⟩) (c15 : PySem.W.codeIn K cd15 "_law_same" = true) (k15 : PySem.W.keepIn K (.ref f_15) = true)
    (a16 : PySem.W.nsIn K mainGlobals "_law_loan" = some (some (.ref f_16))) (l16 : K.lookup f_16 = some ⟨oc16, od16, .func (PySem.W.fnOf "_law_loan" "_law_loan" (defArgs s__law_loan) (defBody s__law_loan) (defScope s__law_loan) .none kV16 dc16 pm16 an16 cd16 ct16), sl16⟩) (c16 : PySem.W.codeIn K cd16 "_law_loan" = true) (k16 : PySem.W.keepIn K (.ref f_16) = true)
    (a17 : PySem.W.nsIn K mainGlobals "_law_ends" = some (some (.ref f_17))) (l17 : K.lookup f_17 = some ⟨oc17, od17, .func (PySem.W.fnOf "_law_ends" "_law_ends" (defArgs s__law_ends) (defBody s__law_ends) (defScope s__law_ends) .none kV17 dc17 pm17 an17 cd17 ct17), sl17⟩) (c17 : PySem.W.codeIn K cd17 "_law_ends" = true) (k17 : PySem.W.keepIn K (.ref f_17) = true)
    (a18 : PySem.W.nsIn K mainGlobals "_law_orders" = some (some (.ref f_18))) (l18 : K.lookup f_18 = some ⟨oc18, od18, .func (PySem.W.fnOf "_law_orders" "_law_orders" (defArgs s__law_orders) (defBody s__law_orders) (defScope s__law_orders) .none kV18 dc18 pm18 an18 cd18 ct18), sl18⟩) (c18 : PySem.W.codeIn K cd18 "_law_orders" = true) (k18 : PySem.W.keepIn K (.ref f_18) = true)
    (a19 : PySem.W.nsIn K mainGlobals "_law_sets" = some (some (.ref f_19))) (l19 : K.lookup f_19 = some ⟨oc19, od19, .func (PySem.W.fnOf "_law_sets" "_law_sets" (defArgs s__law_sets) (defBody s__law_sets) (defScope s__law_sets) .none kV19 dc19 pm19 an19 cd19 ct19), sl19⟩) (c19 : PySem.W.codeIn K cd19 "_law_sets" = true) (k19 : PySem.W.keepIn K (.ref f_19) = true)
    (a20 : PySem.W.nsIn K mainGlobals "_law_stuck" = some (some (.ref f_20))) (l20 : K.lookup f_20 = some ⟨oc20, od20, .func (PySem.W.fnOf "_law_stuck" "_law_stuck" (defArgs s__law_stuck) (defBody s__law_stuck) (defScope s__law_stuck) .none kV20 dc20 pm20 an20 cd20 ct20), sl20⟩) (c20 : PySem.W.codeIn K cd20 "_law_stuck" = true) (k20 : PySem.W.keepIn K (.ref f_20) = true)
    (a21 : PySem.W.nsIn K mainGlobals "_law_numbers" = some (some (.ref f_21))) (l21 : K.lookup f_21 = some ⟨oc21, od21, .func (PySem.W.fnOf "_law_numbers" "_law_numbers" (defArgs s__law_numbers) (defBody s__law_numbers) (defScope s__law_numbers) .none kV21 dc21 pm21 an21 cd21 ct21), sl21⟩) (c21 : PySem.W.codeIn K cd21 "_law_numbers" = true) (k21 : PySem.W.keepIn K (.ref f_21) = true)
    (a22 : PySem.W.nsIn K mainGlobals "_law_is_loan" = some (some (.ref f_22))) (l22 : K.lookup f_22 = some ⟨oc22, od22, .func (PySem.W.fnOf "_law_is_loan" "_law_is_loan" (defArgs s__law_is_loan) (defBody s__law_is_loan) (defScope s__law_is_loan) .none kV22 dc22 pm22 an22 cd22 ct22), sl22⟩) (c22 : PySem.W.codeIn K cd22 "_law_is_loan" = true) (k22 : PySem.W.keepIn K (.ref f_22) = true)
    (a23 : PySem.W.nsIn K mainGlobals "_law_bent" = some (some (.ref f_23))) (l23 : K.lookup f_23 = some ⟨oc23, od23, .func (PySem.W.fnOf "_law_bent" "_law_bent" (defArgs s__law_bent) (defBody s__law_bent) (defScope s__law_bent) .none kV23 dc23 pm23 an23 cd23 ct23), sl23⟩) (c23 : PySem.W.codeIn K cd23 "_law_bent" = true) (k23 : PySem.W.keepIn K (.ref f_23) = true)
    (aL : PySem.W.nsIn K mainGlobals "law" = some (some (.ref fL))) (lL : K.lookup fL = some ⟨ocL, odL, .func (PySem.W.fnOf "law" "law" (defArgs s_law) (defBody s_law) (defScope s_law) .none kVL dcL pmL anL cdL ctL), slL⟩) (cL : PySem.W.codeIn K cdL "law" = true) (kL : PySem.W.keepIn K (.ref fL) = true)
    {t_MAX_HELPERS : Tok} (y_MAX_HELPERS : PySem.W.nsIn K mainGlobals "MAX_HELPERS" = some (some (.int 12 t_MAX_HELPERS)))
    {t_MAX_KINDS : Tok} (y_MAX_KINDS : PySem.W.nsIn K mainGlobals "MAX_KINDS" = some (some (.int 6 t_MAX_KINDS)))
    {t_MAX_THINGS : Tok} (y_MAX_THINGS : PySem.W.nsIn K mainGlobals "MAX_THINGS" = some (some (.int 99 t_MAX_THINGS)))
    (z_len : PySem.W.nsIn K mainGlobals "len" = some none)
    (z_range : PySem.W.nsIn K mainGlobals "range" = some none)
    (z_tuple : PySem.W.nsIn K mainGlobals "tuple" = some none)
    (z_list : PySem.W.nsIn K mainGlobals "list" = some none)
    (z_int : PySem.W.nsIn K mainGlobals "int" = some none)
    (z_bool : PySem.W.nsIn K mainGlobals "bool" = some none)
    (z_str : PySem.W.nsIn K mainGlobals "str" = some none)
    (z_all : PySem.W.nsIn K mainGlobals "all" = some none)
    (z_any : PySem.W.nsIn K mainGlobals "any" = some none)
    (z_sum : PySem.W.nsIn K mainGlobals "sum" = some none)
    (z_min : PySem.W.nsIn K mainGlobals "min" = some none)
    (z_max : PySem.W.nsIn K mainGlobals "max" = some none)
    (z_abs : PySem.W.nsIn K mainGlobals "abs" = some none)
    (z_sorted : PySem.W.nsIn K mainGlobals "sorted" = some none)
    (z_isinstance : PySem.W.nsIn K mainGlobals "isinstance" = some none)
    (z_enumerate : PySem.W.nsIn K mainGlobals "enumerate" = some none)
    (z_zip : PySem.W.nsIn K mainGlobals "zip" = some none)
    (z_set : PySem.W.nsIn K mainGlobals "set" = some none)
    (z_dict : PySem.W.nsIn K mainGlobals "dict" = some none)
    (z_reversed : PySem.W.nsIn K mainGlobals "reversed" = some none)
    : ∃ fd : FuncData, (∀ (s : Shared) (v : Value), BindsTo s fd ⟨[v], []⟩ [("script", v)]) ∧ ∀ base : Heap, K.In base → base.Ns mainGlobals mg → FnOk l.prog w K mg base CX0 23 fa fd ["script"] (spLaw K) := by
  have e := hfa.symm.trans (PySem.W.mg_of X G aL)
  cases e
  have FL := fun_mk (st := s_law) lL cL kL
  have B : Bt mg := ⟨PySem.W.mg_none_of X G z_len, PySem.W.mg_none_of X G z_range, PySem.W.mg_none_of X G z_tuple, PySem.W.mg_none_of X G z_list, PySem.W.mg_none_of X G z_int, PySem.W.mg_none_of X G z_bool, PySem.W.mg_none_of X G z_str, PySem.W.mg_none_of X G z_all, PySem.W.mg_none_of X G z_any, PySem.W.mg_none_of X G z_sum, PySem.W.mg_none_of X G z_min, PySem.W.mg_none_of X G z_max, PySem.W.mg_none_of X G z_abs, PySem.W.mg_none_of X G z_sorted, PySem.W.mg_none_of X G z_isinstance, PySem.W.mg_none_of X G z_enumerate, PySem.W.mg_none_of X G z_zip, PySem.W.mg_none_of X G z_set, PySem.W.mg_none_of X G z_dict, PySem.W.mg_none_of X G z_reversed⟩
  have T0 : Ft K mg "_law_box" s__law_box ["script"] := ft_mk X G a0 l0 c0 k0 fun _ _ _ _ _ _ us hl => match us, hl with | [_], _ => rfl
  have T1 : Ft K mg "_law_load" s__law_load ["box"] := ft_mk X G a1 l1 c1 k1 fun _ _ _ _ _ _ us hl => match us, hl with | [_], _ => rfl
  have T2 : Ft K mg "_law_draw" s__law_draw ["box", "many"] := ft_mk X G a2 l2 c2 k2 fun _ _ _ _ _ _ us hl => match us, hl with | [_, _], _ => rfl
  have T3 : Ft K mg "is_number" s_is_number ["value", "least", "most"] := ft_mk X G a3 l3 c3 k3 fun _ _ _ _ _ _ us hl => match us, hl with | [_, _, _], _ => rfl
  have T4 : Ft K mg "is_ascending" s_is_ascending ["rows"] := ft_mk X G a4 l4 c4 k4 fun _ _ _ _ _ _ us hl => match us, hl with | [_], _ => rfl
  have T5 : Ft K mg "is_thing_row" s_is_thing_row ["kinds", "value"] := ft_mk X G a5 l5 c5 k5 fun _ _ _ _ _ _ us hl => match us, hl with | [_, _], _ => rfl
  have T6 : Ft K mg "is_loan" s_is_loan ["value"] := ft_mk X G a6 l6 c6 k6 fun _ _ _ _ _ _ us hl => match us, hl with | [_], _ => rfl
  have T7 : Ft K mg "fits" s_fits ["needed", "free"] := ft_mk X G a7 l7 c7 k7 fun _ _ _ _ _ _ us hl => match us, hl with | [_, _], _ => rfl
  have T8 : Ft K mg "added_to" s_added_to ["free", "row"] := ft_mk X G a8 l8 c8 k8 fun _ _ _ _ _ _ us hl => match us, hl with | [_, _], _ => rfl
  have T9 : Ft K mg "safe_order" s_safe_order ["loan"] := ft_mk X G a9 l9 c9 k9 fun _ _ _ _ _ _ us hl => match us, hl with | [_], _ => rfl
  have T10 : Ft K mg "is_safe_order" s_is_safe_order ["loan", "value"] := ft_mk X G a10 l10 c10 k10 fun _ _ _ _ _ _ us hl => match us, hl with | [_, _], _ => rfl
  have T11 : Ft K mg "is_stuck" s_is_stuck ["loan", "value"] := ft_mk X G a11 l11 c11 k11 fun _ _ _ _ _ _ us hl => match us, hl with | [_, _], _ => rfl
  have T12 : Ft K mg "after_asking" s_after_asking ["loan", "helper", "row"] := ft_mk X G a12 l12 c12 k12 fun _ _ _ _ _ _ us hl => match us, hl with | [_, _, _], _ => rfl
  have T13 : Ft K mg "may_grant" s_may_grant ["loan", "helper", "row"] := ft_mk X G a13 l13 c13 k13 fun _ _ _ _ _ _ us hl => match us, hl with | [_, _, _], _ => rfl
  have T14 : Ft K mg "_law_flat" s__law_flat ["rows"] := ft_mk X G a14 l14 c14 k14 fun _ _ _ _ _ _ us hl => match us, hl with | [_], _ => rfl
  have T15 : Ft K mg "_law_same" s__law_same ["a", "b"] := ft_mk X G a15 l15 c15 k15 fun _ _ _ _ _ _ us hl => match us, hl with | [_, _], _ => rfl
  have T16 : Ft K mg "_law_loan" s__law_loan ["box", "kinds", "many", "most"] := ft_mk X G a16 l16 c16 k16 fun _ _ _ _ _ _ us hl => match us, hl with | [_, _, _, _], _ => rfl
  have T17 : Ft K mg "_law_ends" s__law_ends ["loan", "order"] := ft_mk X G a17 l17 c17 k17 fun _ _ _ _ _ _ us hl => match us, hl with | [_, _], _ => rfl
  have T18 : Ft K mg "_law_orders" s__law_orders ["n"] := ft_mk X G a18 l18 c18 k18 fun _ _ _ _ _ _ us hl => match us, hl with | [_], _ => rfl
  have T19 : Ft K mg "_law_sets" s__law_sets ["n"] := ft_mk X G a19 l19 c19 k19 fun _ _ _ _ _ _ us hl => match us, hl with | [_], _ => rfl
  have T20 : Ft K mg "_law_stuck" s__law_stuck ["loan", "group"] := ft_mk X G a20 l20 c20 k20 fun _ _ _ _ _ _ us hl => match us, hl with | [_, _], _ => rfl
  have T21 : Ft K mg "_law_numbers" s__law_numbers ["value", "n"] := ft_mk X G a21 l21 c21 k21 fun _ _ _ _ _ _ us hl => match us, hl with | [_, _], _ => rfl
  have T22 : Ft K mg "_law_is_loan" s__law_is_loan ["value"] := ft_mk X G a22 l22 c22 k22 fun _ _ _ _ _ _ us hl => match us, hl with | [_], _ => rfl
  have T23 : Ft K mg "_law_bent" s__law_bent ["box", "value"] := ft_mk X G a23 l23 c23 k23 fun _ _ _ _ _ _ us hl => match us, hl with | [_, _], _ => rfl
  have C : Ct K mg := ⟨ct_int (PySem.W.mg_of X G y_MAX_HELPERS), ct_int (PySem.W.mg_of X G y_MAX_KINDS), ct_int (PySem.W.mg_of X G y_MAX_THINGS)⟩
  exact ⟨_, fun s v => .of_eq rfl, fun base _ _ => all_ok FL B C T0 T1 T2 T3 T4 T5 T6 T7 T8 T9 T10 T11 T12 T13 T14 T15 T16 T17 T18 T19 T20 T21 T22 T23⟩
end Fl
open PySem PySem.W PyProof.Rows
set_option maxHeartbeats 0 in
theorem PySem.Challenge.cw_roomsemptied_k83_whole_safe_loans_holds : PySem.Challenge.rw_roomsemptied_k83_whole_safe_loans.Holds := by
  w_on; o_law; k_head; (case hw => w_witness2)
  k_fill
  refine L2.walk_of (l := PySem.Challenge.rw_roomsemptied_k83_whole_safe_loans) (n := 63) (k := 23) (x := "script") (CX := fun _ => L2.CX0) (sp := fun w => Fl.spLaw _) rfl (by decide) rfl ⟨rfl, by decide, by decide⟩ (fun w h Y => PySem.W.kIn_of Y) ?F (fun _ _ a ns hl _ hS => ⟨a, ns, rfl, hS, hl, fun _ => rfl⟩) (fun _ _ _ _ _ h => h)
  case F =>
    intro w mg fa h KX G hmg
    refine' Fl.all_mk KX G hmg ?a0 ?l0 ?c0 ?k0 ?a1 ?l1 ?c1 ?k1 ?a2 ?l2 ?c2 ?k2 ?a3 ?l3 ?c3 ?k3 ?a4 ?l4 ?c4 ?k4 ?a5 ?l5 ?c5 ?k5 ?a6 ?l6 ?c6 ?k6 ?a7 ?l7 ?c7 ?k7 ?a8 ?l8 ?c8 ?k8 ?a9 ?l9 ?c9 ?k9 ?a10 ?l10 ?c10 ?k10 ?a11 ?l11 ?c11 ?k11 ?a12 ?l12 ?c12 ?k12 ?a13 ?l13 ?c13 ?k13 ?a14 ?l14 ?c14 ?k14 ?a15 ?l15 ?c15 ?k15 ?a16 ?l16 ?c16 ?k16 ?a17 ?l17 ?c17 ?k17 ?a18 ?l18 ?c18 ?k18 ?a19 ?l19 ?c19 ?k19 ?a20 ?l20 ?c20 ?k20 ?a21 ?l21 ?c21 ?k21 ?a22 ?l22 ?c22 ?k22 ?a23 ?l23 ?c23 ?k23 ?aL ?lL ?cL ?kL ?y_MAX_HELPERS ?y_MAX_KINDS ?y_MAX_THINGS ?z_len ?z_range ?z_tuple ?z_list ?z_int ?z_bool ?z_str ?z_all ?z_any ?z_sum ?z_min ?z_max ?z_abs ?z_sorted ?z_isinstance ?z_enumerate ?z_zip ?z_set ?z_dict ?z_reversed
    (case a0 => k_is); (case l0 => k_is); (case c0 => k_is); (case k0 => k_is); (case a1 => k_is); (case l1 => k_is); (case c1 => k_is); (case k1 => k_is)
    (case a2 => k_is); (case l2 => k_is); (case c2 => k_is); (case k2 => k_is); (case a3 => k_is); (case l3 => k_is); (case c3 => k_is); (case k3 => k_is)
    (case a4 => k_is); (case l4 => k_is); (case c4 => k_is); (case k4 => k_is); (case a5 => k_is); (case l5 => k_is); (case c5 => k_is); (case k5 => k_is)
    (case a6 => k_is); (case l6 => k_is); (case c6 => k_is); (case k6 => k_is); (case a7 => k_is); (case l7 => k_is); (case c7 => k_is); (case k7 => k_is)
    (case a8 => k_is); (case l8 => k_is); (case c8 => k_is); (case k8 => k_is); (case a9 => k_is); (case l9 => k_is); (case c9 => k_is); (case k9 => k_is)
    (case a10 => k_is); (case l10 => k_is); (case c10 => k_is); (case k10 => k_is); (case a11 => k_is); (case l11 => k_is); (case c11 => k_is); (case k11 => k_is)
    (case a12 => k_is); (case l12 => k_is); (case c12 => k_is); (case k12 => k_is); (case a13 => k_is); (case l13 => k_is); (case c13 => k_is); (case k13 => k_is)
    (case a14 => k_is); (case l14 => k_is); (case c14 => k_is); (case k14 => k_is); (case a15 => k_is); (case l15 => k_is); (case c15 => k_is); (case k15 => k_is)
    (case a16 => k_is); (case l16 => k_is); (case c16 => k_is); (case k16 => k_is); (case a17 => k_is); (case l17 => k_is); (case c17 => k_is); (case k17 => k_is)
    (case a18 => k_is); (case l18 => k_is); (case c18 => k_is); (case k18 => k_is); (case a19 => k_is); (case l19 => k_is); (case c19 => k_is); (case k19 => k_is)
    (case a20 => k_is); (case l20 => k_is); (case c20 => k_is); (case k20 => k_is); (case a21 => k_is); (case l21 => k_is); (case c21 => k_is); (case k21 => k_is)
    (case a22 => k_is); (case l22 => k_is); (case c22 => k_is); (case k22 => k_is); (case a23 => k_is); (case l23 => k_is); (case c23 => k_is); (case k23 => k_is)
    (case aL => k_is); (case lL => k_is); (case cL => k_is); (case kL => k_is); (case y_MAX_HELPERS => k_is); (case y_MAX_KINDS => k_is); (case y_MAX_THINGS => k_is); (case z_len => k_is)
    (case z_range => k_is); (case z_tuple => k_is); (case z_list => k_is); (case z_int => k_is); (case z_bool => k_is); (case z_str => k_is); (case z_all => k_is); (case z_any => k_is)
    (case z_sum => k_is); (case z_min => k_is); (case z_max => k_is); (case z_abs => k_is); (case z_sorted => k_is); (case z_isinstance => k_is); (case z_enumerate => k_is); (case z_zip => k_is)
    (case z_set => k_is); (case z_dict => k_is); (case z_reversed => k_is)
