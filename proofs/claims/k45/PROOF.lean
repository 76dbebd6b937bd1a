import PyProof.Rows.All
import Wide.All
import OpenK.AllK
import Wide.FinOn
import HandS.ForMost
import HandS.Walk
import HandS.TupAny
import HandS.IsInst
import HandS.SortInts
import HandS.Flow
import PyProof.WalksMore
import PyProof.WalkInts
import PyProof.Rows.SumAny
import PyProof.Rows.TupIter
import HandS.Zip
import HandS.Rev
import HandS.Conv
import HandS.More
import HandS.SetFor
import HandS.Style
import KE.GoesEnum
import HandS.Wide
import HandS.TupMul
import HandS.Deep
import HandS.Dict
import HandS.Iter
import KE.DataMinMax
import KE.SortData
import HandS.DictComp
import HandS.SortRule
import HandS.TupSets
import HandS.Strs
import PySem.Challenge.RW_roomsemptied_k45_whole_queues
set_option Elab.async false
set_option linter.all false
set_option maxRecDepth 100000
set_option maxHeartbeats 1000000
set_option autoImplicit false
/-! FnCore: plain values, environments of slots, what the heap bears of them; judgements by plain functions. -/
namespace Fl
open PySem PySem.Spec PyProof.Rows L2
abbrev D := PyData
abbrev Frg := PySem.W.Frag
/-- an own thing that others may change by reference: a leaf, a list, a tuple -/
inductive OT where
  | leaf (d : D)
  | node (ts : List OT)
  | ntup (ts : List OT)
/-- what a slot holds -/
inductive Sl where
  | no
  | va (d : D)
  | li (xs : List D)
  | di (kvs : List (Key × D))
  | dt (kvs : List (List Key × D))
  | dl (kvs : List (Key × D))
  | tn (ds : List D)
  | ow (t : OT)
abbrev Ev := List Sl
/-! ### plain values on a heap -/
mutual
inductive Dv (K : Frg) (G : Hp) : V → D → Prop
  | non : Dv K G .non .none
  | bl (b : Bool) : Dv K G (.bl b) (.bool b)
  | int (i : Int) : Dv K G (.int i) (.int i)
  | str (x : Str) : Dv K G (.str x) (.str x)
  | lst {a : Addr} {xs : List V} {ds : List D} : G a = some (.lst xs) → DvAll K G xs ds → Dv K G (.ref a) (.list ds)
  | tup {a : Addr} {xs : List V} {ds : List D} : SqT K G a xs → DvAll K G xs ds → Dv K G (.ref a) (.tuple ds)
inductive DvAll (K : Frg) (G : Hp) : List V → List D → Prop
  | nil : DvAll K G [] []
  | cons {v : V} {vs : List V} {d : D} {ds : List D} : Dv K G v d → DvAll K G vs ds → DvAll K G (v :: vs) (d :: ds)
end
mutual
theorem Dv.dp {K : Frg} {G : Hp} : ∀ (d : D) (v : V), Dv K G v d → Dp K G v d
  | .none, _, h => by cases h; exact .non
  | .bool b, _, h => by cases h; exact .bl b
  | .int i, _, h => by cases h; exact .int i
  | .str x, _, h => by cases h; exact .str x
  | .list ds, _, h => by
    cases h with
    | lst hs ha => exact .lst (SqL.of hs) (DvAll.dp ds _ ha)
  | .tuple ds, _, h => by
    cases h with
    | tup hs ha => exact .tup hs (DvAll.dp ds _ ha)
  | .dict _, _, h => by cases h
theorem DvAll.dp {K : Frg} {G : Hp} : ∀ (ds : List D) (vs : List V), DvAll K G vs ds → DpAll K G vs ds
  | [], _, h => by cases h; exact .nil
  | d :: ds, _, h => by
    cases h with
    | cons h1 h2 => exact .cons (Dv.dp d _ h1) (DvAll.dp ds _ h2)
end
theorem dv_tup {K : Frg} {G : Hp} {a : Addr} {vs : List V} {ds : List D} (h : G a = some (.tup vs)) (k : DvAll K G vs ds) : Dv K G (.ref a) (.tuple ds) := .tup (SqT.of h) k
theorem seqT {K : Frg} {H H' : Hp} {a : Addr} {xs : List V} (e : Same H H') (h : SqT K H a xs) : SqT K H' a xs := by
  rcases h with h | h
  · rcases h with h | ⟨o, h⟩
    · exact .inl (.inl (e _ _ h))
    · exact .inl (.inr ⟨o, e _ _ h⟩)
  · exact .inr h
mutual
theorem dvMono {K : Frg} {H H' : Hp} (e : Same H H') : ∀ (d : D) (v : V), Dv K H v d → Dv K H' v d
  | .none, _, h => by cases h; exact .non
  | .bool b, _, h => by cases h; exact .bl b
  | .int i, _, h => by cases h; exact .int i
  | .str x, _, h => by cases h; exact .str x
  | .list ds, _, h => by
    cases h with
    | lst hs ha => exact .lst (e _ _ hs) (dvMonoAll e ds _ ha)
  | .tuple ds, _, h => by
    cases h with
    | tup hs ha => exact .tup (seqT e hs) (dvMonoAll e ds _ ha)
  | .dict _, _, h => by cases h
theorem dvMonoAll {K : Frg} {H H' : Hp} (e : Same H H') : ∀ (ds : List D) (vs : List V), DvAll K H vs ds → DvAll K H' vs ds
  | [], _, h => by cases h; exact .nil
  | d :: ds, _, h => by
    cases h with
    | cons h1 h2 => exact .cons (dvMono e d _ h1) (dvMonoAll e ds _ h2)
end
theorem dvAll_len {K : Frg} {H : Hp} : ∀ {vs : List V} {ds : List D}, DvAll K H vs ds → vs.length = ds.length
  | _, [], h => by cases h; rfl
  | _, d :: ds, h => by
    cases h with
    | cons h1 h2 => rw [List.length_cons, List.length_cons, dvAll_len h2]
theorem dvAll_get {K : Frg} {H : Hp} : ∀ {vs : List V} {ds : List D} {i : Nat} {d : D}, DvAll K H vs ds → ds[i]? = some d → ∃ v, vs[i]? = some v ∧ Dv K H v d
  | _, [], i, d, h, e => by simp at e
  | _, d' :: ds, 0, d, h, e => by
    cases h with
    | cons h1 h2 => simp at e; subst e; exact ⟨_, rfl, h1⟩
  | _, d' :: ds, i + 1, d, h, e => by
    cases h with
    | cons h1 h2 =>
      obtain ⟨v, e1, e2⟩ := dvAll_get (i := i) h2 (by simpa using e)
      exact ⟨v, by simpa using e1, e2⟩
theorem dvAll_getV {K : Frg} {H : Hp} : ∀ {vs : List V} {ds : List D} {i : Nat} {v : V}, DvAll K H vs ds → vs[i]? = some v → ∃ d, ds[i]? = some d ∧ Dv K H v d
  | _, [], i, v, h, e => by cases h; simp at e
  | _, d' :: ds, 0, v, h, e => by
    cases h with
    | cons h1 h2 => simp at e; subst e; exact ⟨_, rfl, h1⟩
  | _, d' :: ds, i + 1, v, h, e => by
    cases h with
    | cons h1 h2 =>
      obtain ⟨d, e1, e2⟩ := dvAll_getV (i := i) h2 (by simpa using e)
      exact ⟨d, by simpa using e1, e2⟩
theorem dvAll_app {K : Frg} {H : Hp} : ∀ {vs ws : List V} {ds es : List D}, DvAll K H vs ds → DvAll K H ws es → DvAll K H (vs ++ ws) (ds ++ es)
  | _, _, [], _, h, k => by cases h; exact k
  | _, _, d :: ds, _, h, k => by
    cases h with
    | cons h1 h2 => exact .cons h1 (dvAll_app h2 k)
theorem dvAll_one {K : Frg} {H : Hp} {v : V} {d : D} (h : Dv K H v d) : DvAll K H [v] [d] := .cons h .nil
theorem dvAll_set {K : Frg} {H : Hp} {v : V} {d : D} (k : Dv K H v d) : ∀ {vs : List V} {ds : List D} (i : Nat), DvAll K H vs ds → DvAll K H (vs.set i v) (ds.set i d)
  | _, [], _, h => by cases h; exact .nil
  | _, d' :: ds, 0, h => by
    cases h with
    | cons h1 h2 => exact .cons k h2
  | _, d' :: ds, i + 1, h => by
    cases h with
    | cons h1 h2 => exact .cons h1 (dvAll_set k i h2)
theorem dvAll_take {K : Frg} {H : Hp} : ∀ {vs : List V} {ds : List D} (i : Nat), DvAll K H vs ds → DvAll K H (vs.take i) (ds.take i)
  | _, _, 0, h => by simp; exact .nil
  | _, [], _ + 1, h => by cases h; exact .nil
  | _, d' :: ds, i + 1, h => by
    cases h with
    | cons h1 h2 => exact .cons h1 (dvAll_take i h2)
theorem dvAll_drop {K : Frg} {H : Hp} : ∀ {vs : List V} {ds : List D} (i : Nat), DvAll K H vs ds → DvAll K H (vs.drop i) (ds.drop i)
  | _, _, 0, h => h
  | _, [], _ + 1, h => by cases h; exact .nil
  | _, d' :: ds, i + 1, h => by
    cases h with
    | cons h1 h2 => exact dvAll_drop i h2
theorem dvAll_erase {K : Frg} {H : Hp} : ∀ {vs : List V} {ds : List D} (i : Nat), DvAll K H vs ds → DvAll K H (vs.eraseIdx i) (ds.eraseIdx i)
  | _, [], _, h => by cases h; exact .nil
  | _, d' :: ds, 0, h => by
    cases h with
    | cons h1 h2 => exact h2
  | _, d' :: ds, i + 1, h => by
    cases h with
    | cons h1 h2 => exact .cons h1 (dvAll_erase i h2)
theorem dvAll_rev {K : Frg} {H : Hp} : ∀ {vs : List V} {ds : List D}, DvAll K H vs ds → DvAll K H vs.reverse ds.reverse
  | _, [], h => by cases h; exact .nil
  | _, d' :: ds, h => by
    cases h with
    | cons h1 h2 =>
      rw [List.reverse_cons, List.reverse_cons]
      exact dvAll_app (dvAll_rev h2) (dvAll_one h1)
theorem dvAll_of {K : Frg} {H : Hp} : ∀ {vs : List V} {ds : List D}, vs.length = ds.length → (∀ (i : Nat) v d, vs[i]? = some v → ds[i]? = some d → Dv K H v d) → DvAll K H vs ds
  | [], [], _, _ => .nil
  | [], d :: ds, h, _ => by simp at h
  | v :: vs, [], h, _ => by simp at h
  | v :: vs, d :: ds, h, k => .cons (k 0 v d rfl rfl) (dvAll_of (by simpa using h) fun i v' d' e1 e2 => k (i + 1) v' d' (by simpa using e1) (by simpa using e2))
/-- dicts by their pairs -/
inductive KvOk {κ : Type} (K : Frg) (H : Hp) : List (κ × V) → List (κ × D) → Prop
  | nil : KvOk K H [] []
  | cons {k : κ} {v : V} {d : D} {r : List (κ × V)} {s : List (κ × D)} : Dv K H v d → KvOk K H r s → KvOk K H ((k, v) :: r) ((k, d) :: s)
theorem kvMono {κ : Type} {K : Frg} {H H' : Hp} (e : Same H H') : ∀ {r : List (κ × V)} {s : List (κ × D)}, KvOk K H r s → KvOk K H' r s
  | _, _, .nil => .nil
  | _, _, .cons h t => .cons (dvMono e _ _ h) (kvMono e t)
theorem kvLen {κ : Type} {K : Frg} {H : Hp} : ∀ {r : List (κ × V)} {s : List (κ × D)}, KvOk K H r s → r.length = s.length
  | _, _, .nil => rfl
  | _, _, .cons _ t => by rw [List.length_cons, List.length_cons, kvLen t]
theorem memNe {p a : Addr} {F : List Addr} (hf : p ∉ F) (ha : a ∈ F) : a ≠ p := fun q => hf (by rw [← q]; exact ha)
/-! ### own trees -/
mutual
inductive OtOk (K : Frg) (G H : Hp) : V → OT → List Addr → Prop
  | leaf {v : V} {d : D} : Dv K G v d → OtOk K G H v (.leaf d) []
  | node {a : Addr} {vs : List V} {ts : List OT} {F : List Addr} : G a = none → H a = some (.lst vs) → OtsOk K G H vs ts F → a ∉ F → OtOk K G H (.ref a) (.node ts) (a :: F)
  | ntup {a : Addr} {vs : List V} {ts : List OT} {F : List Addr} : G a = none → H a = some (.tup vs) → OtsOk K G H vs ts F → a ∉ F → OtOk K G H (.ref a) (.ntup ts) (a :: F)
inductive OtsOk (K : Frg) (G H : Hp) : List V → List OT → List Addr → Prop
  | nil : OtsOk K G H [] [] []
  | cons {v : V} {vs : List V} {t : OT} {ts : List OT} {F1 F2 : List Addr} : OtOk K G H v t F1 → OtsOk K G H vs ts F2 → (∀ a ∈ F1, a ∉ F2) → OtsOk K G H (v :: vs) (t :: ts) (F1 ++ F2)
end
mutual
theorem otFrame {K : Frg} {G H G' H' : Hp} (e : Same G G') : ∀ (t : OT) (v : V) (F : List Addr), OtOk K G H v t F → (∀ a ∈ F, H' a = H a) → (∀ a ∈ F, G' a = none) → OtOk K G' H' v t F
  | .leaf d, _, _, h, _, _ => by
    cases h with
    | leaf h => exact .leaf (dvMono e _ _ h)
  | .node ts, _, _, h, k, g => by
    cases h with
    | node h1 h2 h3 h4 =>
      exact .node (g _ List.mem_cons_self) ((k _ List.mem_cons_self).trans h2) (otsFrame e ts _ _ h3 (fun a ha => k a (List.mem_cons_of_mem _ ha)) fun a ha => g a (List.mem_cons_of_mem _ ha)) h4
  | .ntup ts, _, _, h, k, g => by
    cases h with
    | ntup h1 h2 h3 h4 =>
      exact .ntup (g _ List.mem_cons_self) ((k _ List.mem_cons_self).trans h2) (otsFrame e ts _ _ h3 (fun a ha => k a (List.mem_cons_of_mem _ ha)) fun a ha => g a (List.mem_cons_of_mem _ ha)) h4
theorem otsFrame {K : Frg} {G H G' H' : Hp} (e : Same G G') : ∀ (ts : List OT) (vs : List V) (F : List Addr), OtsOk K G H vs ts F → (∀ a ∈ F, H' a = H a) → (∀ a ∈ F, G' a = none) → OtsOk K G' H' vs ts F
  | [], _, _, h, _, _ => by cases h; exact .nil
  | t :: ts, _, _, h, k, g => by
    cases h with
    | cons h1 h2 h3 =>
      exact .cons (otFrame e t _ _ h1 (fun a ha => k a (List.mem_append_left _ ha)) fun a ha => g a (List.mem_append_left _ ha))
        (otsFrame e ts _ _ h2 (fun a ha => k a (List.mem_append_right _ ha)) fun a ha => g a (List.mem_append_right _ ha)) h3
end
mutual
theorem otLive {K : Frg} {G H : Hp} : ∀ (t : OT) (v : V) (F : List Addr), OtOk K G H v t F → ∀ a ∈ F, G a = none ∧ H a ≠ none
  | .leaf d, _, _, h, a, ha => by cases h; cases ha
  | .node ts, _, _, h, a, ha => by
    cases h with
    | node h1 h2 h3 h4 =>
      rcases List.mem_cons.mp ha with rfl | ha
      · exact ⟨h1, by rw [h2]; exact nofun⟩
      · exact otsLive ts _ _ h3 a ha
  | .ntup ts, _, _, h, a, ha => by
    cases h with
    | ntup h1 h2 h3 h4 =>
      rcases List.mem_cons.mp ha with rfl | ha
      · exact ⟨h1, by rw [h2]; exact nofun⟩
      · exact otsLive ts _ _ h3 a ha
theorem otsLive {K : Frg} {G H : Hp} : ∀ (ts : List OT) (vs : List V) (F : List Addr), OtsOk K G H vs ts F → ∀ a ∈ F, G a = none ∧ H a ≠ none
  | [], _, _, h, a, ha => by cases h; cases ha
  | t :: ts, _, _, h, a, ha => by
    cases h with
    | cons h1 h2 h3 =>
      rcases List.mem_append.mp ha with ha | ha
      · exact otLive t _ _ h1 a ha
      · exact otsLive ts _ _ h2 a ha
end
/-! ### slots -/
def SlOk (K : Frg) (G H : Hp) (v : Option V) (F : List Addr) : Sl → Prop
  | .no => F = []
  | .va d => F = [] ∧ ∃ x, v = some x ∧ Dv K G x d
  | .li xs => ∃ a vs, v = some (.ref a) ∧ F = [a] ∧ G a = none ∧ H a = some (.lst vs) ∧ DvAll K G vs xs
  | .di kvs => ∃ a r, v = some (.ref a) ∧ F = [a] ∧ G a = none ∧ H a = some (.dK r) ∧ KvOk K G r kvs
  | .dt kvs => ∃ a r, v = some (.ref a) ∧ F = [a] ∧ G a = none ∧ H a = some (.dT r) ∧ KvOk K G r kvs
  | .dl kvs => F = [] ∧ ∃ a r o, v = some (.ref a) ∧ G a = some (.frz o (.dK r)) ∧ KvOk K G r kvs
  | .tn ds => F = [] ∧ ∃ a xs o, v = some (.ref a) ∧ G a = some (.frz o (.tup xs)) ∧ o.dict = none ∧ DvAll K G xs ds
  | .ow t => ∃ x, v = some x ∧ OtOk K G H x t F
theorem slFrame {K : Frg} {G H G' H' : Hp} {v : Option V} {F : List Addr} {s : Sl} (h : SlOk K G H v F s) (e : Same G G') (k : ∀ a ∈ F, H' a = H a) (g : ∀ a ∈ F, G' a = none) : SlOk K G' H' v F s := by
  cases s with
  | no => exact h
  | va d => obtain ⟨h1, x, h2, h3⟩ := h; exact ⟨h1, x, h2, dvMono e _ _ h3⟩
  | li xs => obtain ⟨a, vs, h1, rfl, h3, h4, h5⟩ := h; exact ⟨a, vs, h1, rfl, g a (by simp), (k a (by simp)).trans h4, dvMonoAll e _ _ h5⟩
  | di xs => obtain ⟨a, vs, h1, rfl, h3, h4, h5⟩ := h; exact ⟨a, vs, h1, rfl, g a (by simp), (k a (by simp)).trans h4, kvMono e h5⟩
  | dt xs => obtain ⟨a, vs, h1, rfl, h3, h4, h5⟩ := h; exact ⟨a, vs, h1, rfl, g a (by simp), (k a (by simp)).trans h4, kvMono e h5⟩
  | dl xs => obtain ⟨h1, a, r, o, h2, h3, h4⟩ := h; exact ⟨h1, a, r, o, h2, e _ _ h3, kvMono e h4⟩
  | tn xs => obtain ⟨h1, a, r, o, h2, h3, h4, h5⟩ := h; exact ⟨h1, a, r, o, h2, e _ _ h3, h4, dvMonoAll e _ _ h5⟩
  | ow t => obtain ⟨x, h1, h2⟩ := h; exact ⟨x, h1, otFrame e _ _ _ h2 k g⟩
theorem slLive {K : Frg} {G H : Hp} {v : Option V} {F : List Addr} {s : Sl} (h : SlOk K G H v F s) : ∀ a ∈ F, G a = none ∧ H a ≠ none := by
  intro a ha
  cases s with
  | no => rw [show F = [] from h] at ha; cases ha
  | va d => rw [h.1] at ha; cases ha
  | li xs => obtain ⟨b, vs, h1, rfl, h3, h4, h5⟩ := h; rw [List.mem_singleton.mp ha]; exact ⟨h3, by rw [h4]; exact nofun⟩
  | di xs => obtain ⟨b, vs, h1, rfl, h3, h4, h5⟩ := h; rw [List.mem_singleton.mp ha]; exact ⟨h3, by rw [h4]; exact nofun⟩
  | dt xs => obtain ⟨b, vs, h1, rfl, h3, h4, h5⟩ := h; rw [List.mem_singleton.mp ha]; exact ⟨h3, by rw [h4]; exact nofun⟩
  | dl xs => rw [h.1] at ha; cases ha
  | tn xs => rw [h.1] at ha; cases ha
  | ow t => obtain ⟨x, h1, h2⟩ := h; exact otLive _ _ _ h2 a ha
/-- a state: what stands still (G), the heap, slots, what they hold, whose addresses are whose -/
structure Z where
  G : Hp
  H : Hp
  s : L2.St
  e : Ev
  F : Nat → List Addr
structure Rp (K : Frg) (z : Z) : Prop where
  same : Same z.G z.H
  len : z.s.length = z.e.length
  ok : ∀ (i : Nat) s, z.e[i]? = some s → SlOk K z.G z.H (z.s[i]?).join (z.F i) s
  out : ∀ i, z.e.length ≤ i → z.F i = []
  sep : ∀ i j a, i ≠ j → a ∈ z.F i → a ∉ z.F j
def isOw : Option Sl → Bool
  | some (.ow _) => true
  | _ => false
/-- from a state to a later one: all that is not owned here stands as before -/
structure Mv (z y : Z) : Prop where
  out : ∀ a o, z.H a = some o → (∀ i, a ∉ z.F i) → y.H a = some o
  dom : ∀ a, z.H a ≠ none → y.H a ≠ none
  g : Same z.G y.G
  gn : ∀ a, z.H a ≠ none → (∀ i, a ∉ z.F i) → y.G a = z.G a
  fn : ∀ i a, a ∈ y.F i → a ∈ z.F i ∨ z.H a = none
  kp : ∀ (i : Nat), isOw z.e[i]? = true → isOw y.e[i]? = true ∧ y.s[i]? = z.s[i]?
  ln : y.e.length = z.e.length
theorem Mv.refl (z : Z) : Mv z z := ⟨fun _ _ h _ => h, fun _ h => h, Same.refl _, fun _ _ _ => rfl, fun _ _ h => .inl h, fun _ h => ⟨h, rfl⟩, rfl⟩
theorem Mv.trans {z y x : Z} (a : Mv z y) (b : Mv y x) : Mv z x where
  out p o h k := b.out p o (a.out p o h k) fun i hi => by
    rcases a.fn i p hi with hj | hn
    · exact k i hj
    · rw [h] at hn; cases hn
  dom p h := b.dom p (a.dom p h)
  g := a.g.trans b.g
  gn p h k := (b.gn p (a.dom p h) fun i hi => by
    rcases a.fn i p hi with hj | hn
    · exact k i hj
    · exact h hn).trans (a.gn p h k)
  fn i p h := by
    rcases b.fn i p h with hj | hn
    · exact a.fn i p hj
    · by_cases q : z.H p = none
      · exact .inr q
      · exact absurd hn (a.dom p q)
  kp i h := ⟨(b.kp i (a.kp i h).1).1, (b.kp i (a.kp i h).1).2.trans (a.kp i h).2⟩
  ln := b.ln.trans a.ln
theorem Rp.live {K : Frg} {z : Z} (r : Rp K z) {i : Nat} {a : Addr} (h : a ∈ z.F i) : z.G a = none ∧ z.H a ≠ none := by
  by_cases q : i < z.e.length
  · exact slLive (r.ok i z.e[i] (List.getElem?_eq_getElem q)) a h
  · rw [r.out i (by omega)] at h; cases h
theorem Rp.fresh {K : Frg} {z : Z} (r : Rp K z) {p : Addr} (h : z.H p = none) : z.G p = none ∧ ∀ i, p ∉ z.F i :=
  ⟨r.same.free h, fun i hi => (r.live hi).2 h⟩
/-- a new object that stands still from now on -/
def Z.add (z : Z) (p : Addr) (o : HO) : Z := { z with G := upd z.G p o, H := upd z.H p o }
/-- a new object on the heap alone -/
def Z.new (z : Z) (p : Addr) (o : HO) : Z := { z with H := upd z.H p o }
theorem upd_none {H : Hp} {p a : Addr} {o : HO} (h : H a ≠ none) : upd H p o a ≠ none := by
  by_cases e : a = p
  · subst e; rw [upd_same]; exact nofun
  · rw [upd_ne e]; exact h
theorem sameUpd {H : Hp} {p : Addr} {o : HO} (h : H p = none) : Same H (upd H p o) := fun b x e => by
  rw [upd_ne (ne_of_none e h)]; exact e
theorem Rp.add {K : Frg} {z : Z} (r : Rp K z) {p : Addr} {o : HO} (h : z.H p = none) : Rp K (z.add p o) ∧ Mv z (z.add p o) := by
  obtain ⟨hg, hf⟩ := r.fresh h
  refine ⟨⟨?_, r.len, ?_, r.out, r.sep⟩, ⟨?_, ?_, ?_, ?_, fun i a ha => .inl ha, fun i hi => ⟨hi, rfl⟩, rfl⟩⟩
  · intro b x e
    show upd z.H p o b = some x
    have e' : upd z.G p o b = some x := e
    by_cases q : b = p
    · subst q; rw [upd_same] at e' ⊢; exact e'
    · rw [upd_ne q] at e' ⊢; exact r.same _ _ e'
  · intro i s e
    refine slFrame (r.ok i s e) (sameUpd hg) (fun a ha => upd_ne (memNe (hf i) ha)) fun a ha => ?_
    show upd z.G p o a = none
    rw [upd_ne (memNe (hf i) ha)]
    exact (r.live ha).1
  · intro a u e _
    show upd z.H p o a = some u
    rw [upd_ne (ne_of_none e h)]; exact e
  · exact fun a ha => upd_none ha
  · exact sameUpd hg
  · intro a ha _
    show upd z.G p o a = z.G a
    exact upd_ne fun q => ha (by rw [q]; exact h)
theorem Rp.new {K : Frg} {z : Z} (r : Rp K z) {p : Addr} {o : HO} (h : z.H p = none) : Rp K (z.new p o) ∧ Mv z (z.new p o) := by
  obtain ⟨hg, hf⟩ := r.fresh h
  refine ⟨⟨?_, r.len, ?_, r.out, r.sep⟩, ⟨?_, ?_, Same.refl _, fun _ _ _ => rfl, fun i a ha => .inl ha, fun i hi => ⟨hi, rfl⟩, rfl⟩⟩
  · exact r.same.trans (sameUpd h)
  · intro i s e
    exact slFrame (r.ok i s e) (Same.refl _) (fun a ha => upd_ne (memNe (hf i) ha)) fun a ha => (r.live ha).1
  · intro a u e _
    show upd z.H p o a = some u
    rw [upd_ne (ne_of_none e h)]; exact e
  · exact fun a ha => upd_none ha

/-! ### judgements -/
theorem PE.imp {X : Cx} {e : Expr} {t t' : TE} (h : PE X e t) (k : ∀ σ H Q, t' σ H Q → t σ H Q) : PE X e t' := ⟨fun pins s σ H Q I q => h.run pins s σ H Q I (k _ _ _ q)⟩
theorem PT.imp {X : Cx} {e : Expr} {t t' : TT} (h : PT X e t) (k : ∀ σ H Q, t' σ H Q → t σ H Q) : PT X e t' := ⟨fun pins s σ H Q I q => h.run pins s σ H Q I (k _ _ _ q)⟩
theorem PA.imp {X : Cx} {e : List Expr} {t t' : TA} (h : PA X e t) (k : ∀ σ H Q, t' σ H Q → t σ H Q) : PA X e t' := ⟨fun pos pins s σ H Q I q => h.run pos pins s σ H Q I (k _ _ _ q)⟩
theorem PS.imp {X : Cx} {e : Stmt} {t t' : TS} (h : PS X e t) (k : ∀ D σ H, t' D σ H → t D σ H) : PS X e t' := ⟨fun pins s σ H D I q => h.run pins s σ H D I (k _ _ _ q)⟩
theorem PSs.imp {X : Cx} {e : List Stmt} {t t' : TS} (h : PSs X e t) (k : ∀ D σ H, t' D σ H → t D σ H) : PSs X e t' := ⟨fun pins s σ H D I q => h.run pins s σ H D I (k _ _ _ q)⟩
abbrev EF := Ev → Option (D × Ev)
abbrev BF := Ev → Option (Bool × Ev)
abbrev LF := Ev → Option (List D × Ev)
/-- an expression's value is f of the slots -/
def tE (K : Frg) (f : EF) : TE := fun σ H Q => ∃ z d e', Rp K z ∧ z.s = σ ∧ z.H = H ∧ f z.e = some (d, e') ∧ ∀ v y, Mv z y → Rp K y → y.s = σ → y.e = e' → Dv K y.G v d → Q v y.H
def tT (K : Frg) (f : BF) : TT := fun σ H Q => ∃ z d e', Rp K z ∧ z.s = σ ∧ z.H = H ∧ f z.e = some (d, e') ∧ ∀ y, Mv z y → Rp K y → y.s = σ → y.e = e' → Q d y.H
def tA (K : Frg) (f : LF) : TA := fun σ H Q => ∃ z d e', Rp K z ∧ z.s = σ ∧ z.H = H ∧ f z.e = some (d, e') ∧ ∀ v y, Mv z y → Rp K y → y.s = σ → y.e = e' → DvAll K y.G v d → Q v y.H
structure FE (X : Cx) (e : Expr) (f : EF) : Prop where
  pe : PE X e (tE X.K f)
structure FT (X : Cx) (e : Expr) (f : BF) : Prop where
  pt : PT X e (tT X.K f)
structure FA (X : Cx) (e : List Expr) (f : LF) : Prop where
  pa : PA X e (tA X.K f)
/-- a def's body: what leaves nothing but an end -/
inductive O where
  | nx (e : Ev)
  | bk (e : Ev)
  | ct (e : Ev)
  | rt (r : Sl) (e : Ev)
abbrev SF := Ev → Option O
def tS (K : Frg) (f : SF) : TS := fun D σ H => ∃ z o, Rp K z ∧ z.s = σ ∧ z.H = H ∧ f z.e = some o ∧ match o with
  | .nx e' => ∀ y, Mv z y → Rp K y → y.e = e' → D.nx y.s y.H
  | .bk e' => ∀ y, Mv z y → Rp K y → y.e = e' → D.bk y.s y.H
  | .ct e' => ∀ y, Mv z y → Rp K y → y.e = e' → D.ct y.s y.H
  | .rt r e' => ∀ v y Fr, Mv z y → Rp K y → y.e = e' → SlOk K y.G y.H (some v) Fr r → (∀ a ∈ Fr, ∀ i, a ∉ y.F i) → (∀ a ∈ Fr, (∃ j : Nat, isOw z.e[j]? = false ∧ a ∈ z.F j) ∨ z.H a = none) → D.rt v y.H
structure FS (X : Cx) (s : Stmt) (f : SF) : Prop where
  ps : PS X s (tS X.K f)
structure FSs (X : Cx) (s : List Stmt) (f : SF) : Prop where
  ps : PSs X s (tS X.K f)
/-- an expression that makes a thing of its own, or gives a value -/
abbrev OF := Ev → Option (Sl × Ev)
def tO (K : Frg) (f : OF) : TE := fun σ H Q => ∃ z r e', Rp K z ∧ z.s = σ ∧ z.H = H ∧ f z.e = some (r, e') ∧ ∀ v y Fr, Mv z y → Rp K y → y.s = σ → y.e = e' → SlOk K y.G y.H (some v) Fr r → (∀ a ∈ Fr, z.H a = none ∧ ∀ i, a ∉ y.F i) → Q v y.H
structure FO (X : Cx) (e : Expr) (f : OF) : Prop where
  po : PE X e (tO X.K f)
/-- a made thing stands still from now on -/
def fz : Sl → Option D
  | .va d => some d
  | .li xs => some (.list xs)
  | .tn xs => some (.tuple xs)
  | _ => none
def eFz (f : OF) : EF := fun e => (f e).bind fun p => (fz p.1).map fun d => (d, p.2)
def oE (f : EF) : OF := fun e => (f e).map fun p => (.va p.1, p.2)
theorem Rp.freeze {K : Frg} {z : Z} (r : Rp K z) {a : Addr} {o : HO} (h : z.H a = some o) (hg : z.G a = none) (hf : ∀ i, a ∉ z.F i) : Rp K { z with G := upd z.G a o } := by
  refine ⟨?_, r.len, ?_, r.out, r.sep⟩
  · intro b x e
    have e' : upd z.G a o b = some x := e
    show z.H b = some x
    by_cases q : b = a
    · subst q; rw [upd_same] at e'; rw [h]; exact e'
    · rw [upd_ne q] at e'; exact r.same _ _ e'
  · intro i s e
    refine slFrame (r.ok i s e) (sameUpd hg) (fun _ _ => rfl) fun b hb => ?_
    show upd z.G a o b = none
    rw [upd_ne (memNe (hf i) hb)]
    exact (r.live hb).1
section
variable {X : Cx} {e : Expr}
theorem fo_fe {f : EF} (h : FE X e f) : FO X e (oE f) := ⟨PE.imp h.pe fun σ H Q ⟨z, r, e', rp, hs, hH, hf, q⟩ => by
  obtain ⟨⟨d, e1⟩, h1, h2⟩ := Option.map_eq_some_iff.mp hf
  cases h2
  exact ⟨z, d, e1, rp, hs, hH, h1, fun v y m r2 s2 ee p => q v y [] m r2 s2 ee ⟨rfl, v, rfl, p⟩ fun _ ha => nomatch ha⟩⟩
theorem fe_fo {f : OF} (h : FO X e f) : FE X e (eFz f) := ⟨PE.imp h.po fun σ H Q ⟨z, d, e', rp, hs, hH, hf, q⟩ => by
  obtain ⟨⟨r, e1⟩, h1, hf⟩ := Option.bind_eq_some_iff.mp hf
  obtain ⟨d', h3, hf⟩ := Option.map_eq_some_iff.mp hf
  cases hf
  refine ⟨z, r, _, rp, hs, hH, h1, fun v y Fr m r2 s2 ee so fr => ?_⟩
  cases r with
  | va d0 =>
    cases h3
    obtain ⟨_, x, hx, p⟩ := so
    cases hx
    exact q _ y m r2 s2 ee p
  | li xs =>
    cases h3
    obtain ⟨a, vs, hv, rfl, hg, hH', hd⟩ := so
    cases hv
    obtain ⟨f1, f2⟩ := fr a (by simp)
    refine q _ { y with G := upd y.G a (.lst vs) } ⟨m.out, m.dom, m.g.trans (sameUpd hg), fun b hb hk => ?_, m.fn, m.kp, m.ln⟩ (r2.freeze hH' hg f2) s2 ee (.lst upd_same (dvMonoAll (sameUpd hg) _ _ hd))
    show upd y.G a (.lst vs) b = z.G b
    rw [upd_ne (fun z' => hb (by rw [z']; exact f1))]
    exact m.gn b hb hk
  | tn xs =>
    cases h3
    obtain ⟨_, a, vs, o, hv, hg, _, hd⟩ := so
    cases hv
    exact q _ y m r2 s2 ee (.tup (.inl (.inr ⟨o, hg⟩)) hd)
  | no => cases h3
  | di _ => cases h3
  | dt _ => cases h3
  | dl _ => cases h3
  | ow _ => cases h3⟩
end
end Fl

set_option Elab.async false
set_option linter.all false
set_option maxRecDepth 100000
set_option maxHeartbeats 1000000
set_option autoImplicit false
/-! FnExp: expressions by plain functions. -/
namespace Fl
open PySem PySem.Spec PyProof.Rows L2
/-- what a rule may lean on -/
structure Cc (X : Cx) (k : Nat) : Prop where
  calm : X.calm = true
  nd : X.N.Nodup
  room : Room k X.A
/-! ### names, constants -/
def eVar (i : Nat) : EF := fun e => match e[i]? with
  | some (.va d) => some (d, e)
  | some (.tn ds) => some (.tuple ds, e)
  | _ => none
def eC (d : D) : EF := fun e => some (d, e)
/-- a value, or an own list as it stands -/
def vw : Sl → Option D
  | .va d => some d
  | .li xs => some (.list xs)
  | .tn xs => some (.tuple xs)
  | _ => none
def eOwn (i : Nat) : EF := fun e => (e[i]?.bind vw).map fun d => (d, e)
/-- a value read on the heap as it stands: it stands still, or it is an own list -/
def Vw (K : Frg) (G H : Hp) (v : V) (d : D) : Prop := Dv K G v d ∨ ∃ a vs xs, v = .ref a ∧ d = .list xs ∧ H a = some (.lst vs) ∧ DvAll K G vs xs
/-- an expression read at once -/
def tB (K : Frg) (f : EF) : TE := fun σ H Q => ∃ z d e', Rp K z ∧ z.s = σ ∧ z.H = H ∧ f z.e = some (d, e') ∧ ∀ v y, Mv z y → Rp K y → y.s = σ → y.e = e' → Vw K y.G y.H v d → Q v y.H
structure FB (X : Cx) (e : Expr) (f : EF) : Prop where
  pb : PE X e (tB X.K f)
section
variable {X : Cx} {pos : Pos}
theorem joinSome {α : Type} {o : Option (Option α)} {x : α} (h : o.join = some x) : o = some (some x) := by
  cases o with
  | none => cases h
  | some u => cases u with
    | none => cases h
    | some w => exact congrArg (fun z => some z) h
theorem Rp.var {K : Frg} {z : Z} (r : Rp K z) {i : Nat} {d : D} (h : z.e[i]? = some (.va d)) : ∃ v, z.s[i]? = some (some v) ∧ Dv K z.G v d := by
  obtain ⟨_, x, h1, h2⟩ := r.ok i _ h
  exact ⟨x, joinSome h1, h2⟩
theorem Rp.own {K : Frg} {z : Z} (r : Rp K z) {i : Nat} {xs : List D} (h : z.e[i]? = some (.li xs)) : ∃ a vs, z.s[i]? = some (some (.ref a)) ∧ z.F i = [a] ∧ z.G a = none ∧ z.H a = some (.lst vs) ∧ DvAll K z.G vs xs := by
  obtain ⟨a, vs, h1, h2, h3, h4, h5⟩ := r.ok i _ h
  exact ⟨a, vs, joinSome h1, h2, h3, h4, h5⟩
theorem Rp.tnv {K : Frg} {z : Z} (r : Rp K z) {i : Nat} {ds : List D} (h : z.e[i]? = some (.tn ds)) : ∃ a xs o, z.s[i]? = some (some (.ref a)) ∧ z.G a = some (.frz o (.tup xs)) ∧ o.dict = none ∧ DvAll K z.G xs ds := by
  obtain ⟨_, a, xs, o, h1, h2, h3, h4⟩ := r.ok i _ h
  exact ⟨a, xs, o, joinSome h1, h2, h3, h4⟩
theorem fe_var {i : Nat} {x : Str} (hN : X.N[i]? = some x) (hv : Vis X.env.scope x) (hd : (x == ("__debug__" : Str)) = false := by decide) (hcd : (x == ("__classdict__" : Str)) = false := by decide) : FE X (.Name x pos) (eVar i) :=
  ⟨PE.imp (pe_var hN hv hd hcd) fun σ H Q ⟨z, d, e', r, hs, hH, hf, q⟩ => by
    subst hs hH
    unfold eVar at hf
    split at hf
    · rename_i d' h
      cases hf
      obtain ⟨v, h1, h2⟩ := r.var h
      exact ⟨v, h1, q v z (Mv.refl z) r rfl rfl h2⟩
    · rename_i d' h
      cases hf
      obtain ⟨a, xs, o, h1, h2, _, h4⟩ := r.tnv h
      exact ⟨_, h1, q _ z (Mv.refl z) r rfl rfl (.tup (.inl (.inr ⟨o, h2⟩)) h4)⟩
    · cases hf⟩
theorem fb_own {i : Nat} {x : Str} (hN : X.N[i]? = some x) (hv : Vis X.env.scope x) (hd : (x == ("__debug__" : Str)) = false := by decide) (hcd : (x == ("__classdict__" : Str)) = false := by decide) : FB X (.Name x pos) (eOwn i) :=
  ⟨PE.imp (pe_var hN hv hd hcd) fun σ H Q ⟨z, d, e', r, hs, hH, hf, q⟩ => by
    subst hs hH
    obtain ⟨d', h1, h2⟩ := Option.map_eq_some_iff.mp hf
    cases h2
    obtain ⟨s, h2, h3⟩ := Option.bind_eq_some_iff.mp h1
    cases s with
    | va d => cases h3; obtain ⟨v, k1, k2⟩ := r.var h2; exact ⟨v, k1, q v z (Mv.refl z) r rfl rfl (.inl k2)⟩
    | li xs =>
      cases h3
      obtain ⟨a, vs, k1, k2, k3, k4, k5⟩ := r.own h2
      exact ⟨.ref a, k1, q _ z (Mv.refl z) r rfl rfl (.inr ⟨a, vs, xs, rfl, rfl, k4, k5⟩)⟩
    | tn xs =>
      cases h3
      obtain ⟨a, vs, o, k1, k2, _, k4⟩ := r.tnv h2
      exact ⟨.ref a, k1, q _ z (Mv.refl z) r rfl rfl (.inl (.tup (.inl (.inr ⟨o, k2⟩)) k4))⟩
    | no => cases h3
    | di _ => cases h3
    | dt _ => cases h3
    | dl _ => cases h3
    | ow _ => cases h3⟩
theorem fb_fe {e : Expr} {f : EF} (h : FE X e f) : FB X e f := ⟨PE.imp h.pe fun σ H Q ⟨z, d, e', r, hs, hH, hf, q⟩ => ⟨z, d, e', r, hs, hH, hf, fun v y m r2 s2 e2 p => q v y m r2 s2 e2 (.inl p)⟩⟩
theorem fe_c {e : Expr} {v : V} {d : D} (h : PE X e (tC v)) (k : ∀ G : Hp, Dv X.K G v d) : FE X e (eC d) :=
  ⟨PE.imp h fun σ H Q ⟨z, d, e', r, hs, hH, hf, q⟩ => by
    subst hs hH
    cases hf
    exact q v z (Mv.refl z) r rfl rfl (k _)⟩
theorem fe_int {i j} : FE X (.Constant (.int i) j pos) (eC (.int i)) := fe_c pe_int fun _ => .int i
theorem fe_bl {b j} : FE X (.Constant (.bool b) j pos) (eC (.bool b)) := fe_c pe_bl fun _ => .bl b
theorem fe_non {j} : FE X (.Constant .none j pos) (eC .none) := fe_c pe_non fun _ => .non
theorem fe_str {x j} : FE X (.Constant (.str x) j pos) (eC (.str x)) := fe_c pe_str fun _ => .str x
/-- a module's constant -/
theorem fe_glob {x : Str} {v : V} {u : Value} {d : D} (hg : Gl X x) (hm : X.mg x = some u) (r : RelV v u) (k : ∀ G : Hp, Dv X.K G v d) (hd : (x == ("__debug__" : Str)) = false := by decide) : FE X (.Name x pos) (eC d) := fe_c (pe_glob hg hm r hd) k
end
/-! ### operators -/
/-- two values in a row, and a third of them -/
def eOp (g : D → D → Option D) (fa fb : EF) : EF := fun e => (fa e).bind fun p => (fb p.2).bind fun q => (g p.1 q.1).map fun d => (d, q.2)
def eUn (g : D → Option D) (fa : EF) : EF := fun e => (fa e).bind fun p => (g p.1).map fun d => (d, p.2)
/-- a value rule: g by values, the heap as it is, or with a new object -/
def Op2 (K : Frg) (r : R2) (g : D → D → Option D) : Prop := ∀ x y d G H vx vy (Q : VK), g x y = some d → Same G H → Dv K G vx x → Vw K G H vy y → (∀ v, Dv K G v d → Q v H) → (∀ v p o, H p = none → Dv K (upd G p o) v d → Q v (upd H p o)) → r vx vy H Q
def Un1 (K : Frg) (r : V → Hp → VK → Prop) (g : D → Option D) : Prop := ∀ x d G H vx (Q : VK), g x = some d → Same G H → Vw K G H vx x → (∀ v, Dv K G v d → Q v H) → (∀ v p o, H p = none → Dv K (upd G p o) v d → Q v (upd H p o)) → r vx H Q
section
variable {X : Cx} {pos : Pos}
theorem op_run {K : Frg} {r : R2} {g : D → D → Option D} (h : Op2 K r g) {fa fb : EF} {σ : L2.St} {H : Hp} {Q : VK} (q : tE K (eOp g fa fb) σ H Q) : tOp r (tE K fa) (tB K fb) σ H Q := by
  obtain ⟨z, d, e', rp, hs, hH, hf, q⟩ := q
  subst hs hH
  obtain ⟨⟨x, e1⟩, h1, hf⟩ := Option.bind_eq_some_iff.mp hf
  obtain ⟨⟨y, e2⟩, h2, hf⟩ := Option.bind_eq_some_iff.mp hf
  obtain ⟨d', h3, hf⟩ := Option.map_eq_some_iff.mp hf
  cases hf
  refine ⟨z, x, e1, rp, rfl, rfl, h1, fun vx z1 m1 r1 s1 ee1 p1 => ⟨z1, y, e2, r1, s1, rfl, ?_, fun vy z2 m2 r2 s2 ee2 p2 => ?_⟩⟩
  · rw [ee1]; exact h2
  · refine h x y d z2.G z2.H vx vy Q h3 r2.same (dvMono m2.g _ _ p1) p2 (fun v p => q v z2 (m1.trans m2) r2 s2 ee2 p) fun v p o hn hp => ?_
    obtain ⟨r3, m3⟩ := r2.add (o := o) hn
    exact q v (z2.add p o) ((m1.trans m2).trans m3) r3 s2 ee2 hp
theorem un_run {K : Frg} {r : V → Hp → VK → Prop} {g : D → Option D} (h : Un1 K r g) {fa : EF} {σ : L2.St} {H : Hp} {Q : VK} (q : tE K (eUn g fa) σ H Q) : tUn r (tB K fa) σ H Q := by
  obtain ⟨z, d, e', rp, hs, hH, hf, q⟩ := q
  subst hs hH
  obtain ⟨⟨x, e1⟩, h1, hf⟩ := Option.bind_eq_some_iff.mp hf
  obtain ⟨d', h3, hf⟩ := Option.map_eq_some_iff.mp hf
  cases hf
  refine ⟨z, x, e1, rp, rfl, rfl, h1, fun vx z1 m1 r1 s1 ee1 p1 => ?_⟩
  refine h x d z1.G z1.H vx Q h3 r1.same p1 (fun v p => q v z1 m1 r1 s1 ee1 p) fun v p o hn hp => ?_
  obtain ⟨r3, m3⟩ := r1.add (o := o) hn
  exact q v (z1.add p o) (m1.trans m3) r3 s1 ee1 hp
theorem fe_op {a b : Expr} {op : Operator} {r : R2} {g : D → D → Option D} {fa fb : EF} (ho : OpR X (binaryOp op) r) (hg : Op2 X.K r g) (ha : FE X a fa) (hb : FB X b fb) : FE X (.BinOp a op b pos) (eOp g fa fb) :=
  ⟨PE.imp (pe_op ho ha.pe hb.pb) fun _ _ _ q => op_run hg q⟩
theorem fe_cmp {a b : Expr} {op : CmpOp} {r : R2} {g : D → D → Option D} {fa fb : EF} (ho : OpR X (compareOp op) r) (hg : Op2 X.K r g) (ha : FE X a fa) (hb : FB X b fb) (hm : behindInMarks op b = false) : FE X (.Compare a [op] [b] pos) (eOp g fa fb) :=
  ⟨PE.imp (pe_cmpR ho ha.pe hb.pb hm) fun _ _ _ q => op_run hg q⟩
theorem fe_un {a : Expr} {op : UnaryOp} {r : V → Hp → VK → Prop} {g : D → Option D} {fa : EF} (ho : UnR X (unaryOp op) r) (hg : Un1 X.K r g) (ha : FB X a fa) : FE X (.UnaryOp op a pos) (eUn g fa) :=
  ⟨PE.imp (pe_un ho ha.pb) fun _ _ _ q => un_run hg q⟩
/-- ints -/
def dI (g : Int → Int → D) : D → D → Option D
  | .int i, .int j => some (g i j)
  | _, _ => none
/-- ints under a condition -/
def dIC (C : Int → Int → Prop) [∀ i j, Decidable (C i j)] (g : Int → Int → D) : D → D → Option D
  | .int i, .int j => if C i j then some (g i j) else none
  | _, _ => none
theorem vwInt {K : Frg} {G H : Hp} {v : V} {i : Int} (h : Vw K G H v (.int i)) : v = .int i := by
  rcases h with h | ⟨_, _, _, _, h, _⟩
  · cases h; rfl
  · cases h
theorem vwBl {K : Frg} {G H : Hp} {v : V} {i : Bool} (h : Vw K G H v (.bool i)) : v = .bl i := by
  rcases h with h | ⟨_, _, _, _, h, _⟩
  · cases h; rfl
  · cases h
theorem vwNon {K : Frg} {G H : Hp} {v : V} (h : Vw K G H v .none) : v = .non := by
  rcases h with h | ⟨_, _, _, _, h, _⟩
  · cases h; rfl
  · cases h
theorem vwStr {K : Frg} {G H : Hp} {v : V} {i : Str} (h : Vw K G H v (.str i)) : v = .str i := by
  rcases h with h | ⟨_, _, _, _, h, _⟩
  · cases h; rfl
  · cases h
theorem vwTup {K : Frg} {G H : Hp} {v : V} {ds : List D} (h : Vw K G H v (.tuple ds)) : ∃ a vs, v = .ref a ∧ SqT K G a vs ∧ DvAll K G vs ds := by
  rcases h with h | ⟨_, _, _, _, h, _⟩
  · cases h with
    | tup h1 h2 => exact ⟨_, _, rfl, h1, h2⟩
  · cases h
theorem vwLst {K : Frg} {G H : Hp} (s : Same G H) {v : V} {ds : List D} (h : Vw K G H v (.list ds)) : ∃ a vs, v = .ref a ∧ H a = some (.lst vs) ∧ DvAll K G vs ds := by
  rcases h with h | ⟨a, vs, xs, h1, h2, h3, h4⟩
  · cases h with
    | lst h1 h2 => exact ⟨_, _, rfl, s _ _ h1, h2⟩
  · cases h2; exact ⟨a, vs, h1, h3, h4⟩
theorem vwDict {K : Frg} {G H : Hp} {v : V} {r} (h : Vw K G H v (.dict r)) : False := by
  rcases h with h | ⟨_, _, _, _, h, _⟩
  · cases h
  · cases h
theorem vwAny {K : Frg} {G H : Hp} (s : Same G H) {v : V} {d : D} (h : Vw K G H v d) : Dp K H v d := by
  rcases h with h | ⟨a, vs, xs, h1, h2, h3, h4⟩
  · exact Dv.dp _ _ (dvMono s _ _ h)
  · subst h1 h2
    exact .lst (SqL.of h3) (DvAll.dp _ _ (dvMonoAll s _ _ h4))
theorem op_dI {K : Frg} {g : Int → Int → D} {gv : Int → Int → V} (k : ∀ i j G, Dv K G (gv i j) (g i j)) : Op2 K (rI0 gv) (dI g) := fun x y d G H vx vy Q e s a b q _ => by
  unfold dI at e
  split at e
  · cases e; cases a; rw [vwInt b]
    exact ⟨_, _, rfl, rfl, q _ (k _ _ _)⟩
  · cases e
theorem op_dIC {K : Frg} {C : Int → Int → Prop} [∀ i j, Decidable (C i j)] {g : Int → Int → D} {gv : Int → Int → V} (k : ∀ i j G, Dv K G (gv i j) (g i j)) : Op2 K (rI C gv) (dIC C g) := fun x y d G H vx vy Q e s a b q _ => by
  unfold dIC at e
  split at e
  · split at e
    · rename_i hc
      cases e; cases a; rw [vwInt b]
      exact ⟨_, _, rfl, rfl, hc, q _ (k _ _ _)⟩
    · cases e
  · cases e
/-- + -/
def dAdd : D → D → Option D
  | .int i, .int j => some (.int (i + j))
  | .str i, .str j => if i.length + j.length ≤ sizeLine then some (.str (i ++ j)) else none
  | .tuple xs, .tuple ys => if xs.length + ys.length ≤ sizeLine then some (.tuple (xs ++ ys)) else none
  | .list xs, .list ys => if xs.length + ys.length ≤ sizeLine then some (.list (xs ++ ys)) else none
  | _, _ => none
def rAddA (K : Frg) : R2 := fun x y H Q => rI0 (fun i j => .int (i + j)) x y H Q ∨ (∃ i j, x = .str i ∧ y = .str j ∧ i.length + j.length ≤ sizeLine ∧ Q (.str (i ++ j)) H) ∨ rCatA K x y H Q ∨ rCat x y H Q
theorem or_addA : OpR X (binaryOp .Add) (rAddA X.K) := op_add.or (op_add_str.or (op_catA.or op_cat))
theorem nilOf {K : Frg} {G : Hp} {vs : List V} {ds : List D} (h : DvAll K G vs ds) : vs = [] ↔ ds = [] := by
  cases h with
  | nil => simp
  | cons _ _ => simp
theorem op2_add {K : Frg} : Op2 K (rAddA K) dAdd := fun x y d G H vx vy Q e s a b q qn => by
  unfold dAdd at e
  split at e
  · cases e; cases a; rw [vwInt b]
    exact .inl ⟨_, _, rfl, rfl, q _ (.int _)⟩
  · split at e
    · rename_i hc
      cases e; cases a; rw [vwStr b]
      exact .inr (.inl ⟨_, _, rfl, rfl, hc, q _ (.str _)⟩)
    · cases e
  · split at e
    · rename_i xs ys hc
      cases e
      cases a with
      | tup a1 a2 =>
      obtain ⟨b', ws, rfl, b1, b2⟩ := vwTup b
      have l1 := dvAll_len a2
      have l2 := dvAll_len b2
      refine .inr (.inr (.inl ⟨_, _, _, _, rfl, rfl, seqT s a1, seqT s b1, by omega, fun z => ?_, fun _ z => ?_, fun _ _ p hp => ?_⟩))
      · have e1 := (nilOf a2).mp z
        subst e1
        exact q _ (.tup b1 b2)
      · have e1 := (nilOf b2).mp z
        subst e1
        refine q _ ?_
        rw [List.append_nil]
        exact .tup a1 a2
      ·exact qn _ p _ hp (.tup (SqT.of upd_same) (dvAll_app (dvMonoAll (sameUpd (s.free hp)) _ _ a2) (dvMonoAll (sameUpd (s.free hp)) _ _ b2)))
    · cases e
  · split at e
    · rename_i xs ys hc
      cases e
      cases a with
      | lst a1 a2 =>
      obtain ⟨b', ws, rfl, b1, b2⟩ := vwLst s b
      have l1 := dvAll_len a2
      have l2 := dvAll_len b2
      refine .inr (.inr (.inr ⟨_, _, _, _, rfl, rfl, s _ _ a1, b1, by omega, fun p hp => ?_⟩))
      exact qn _ p _ hp (.lst upd_same (dvAll_app (dvMonoAll (sameUpd (s.free hp)) _ _ a2) (dvMonoAll (sameUpd (s.free hp)) _ _ b2)))
    · cases e
  · cases e
theorem fe_add {a b : Expr} {fa fb : EF} (ha : FE X a fa) (hb : FB X b fb) : FE X (.BinOp a .Add b pos) (eOp dAdd fa fb) := fe_op or_addA op2_add ha hb
def dSub := dI fun i j => .int (i - j)
theorem fe_sub {a b : Expr} {fa fb : EF} (ha : FE X a fa) (hb : FB X b fb) : FE X (.BinOp a .Sub b pos) (eOp dSub fa fb) := fe_op op_sub (op_dI fun _ _ _ => .int _) ha hb
instance : ∀ i j, Decidable (CMul i j) := fun i j => by unfold CMul; infer_instance
instance : ∀ i j, Decidable (CDiv i j) := fun i j => by unfold CDiv; infer_instance
instance : ∀ i j, Decidable (CPow i j) := fun i j => by unfold CPow; infer_instance
def dMul := dIC CMul fun i j => .int (i * j)
theorem fe_mul {a b : Expr} {fa fb : EF} (ha : FE X a fa) (hb : FB X b fb) : FE X (.BinOp a .Mult b pos) (eOp dMul fa fb) := fe_op op_mul (op_dIC fun _ _ _ => .int _) ha hb
def dDiv := dIC CDiv fun i j => .int (i / j)
theorem fe_div {a b : Expr} {fa fb : EF} (ha : FE X a fa) (hb : FB X b fb) : FE X (.BinOp a .FloorDiv b pos) (eOp dDiv fa fb) := fe_op op_fdiv (op_dIC fun _ _ _ => .int _) ha hb
def dMod := dIC (fun _ j => 0 < j) fun i j => .int (i % j)
theorem fe_mod {a b : Expr} {fa fb : EF} (ha : FE X a fa) (hb : FB X b fb) : FE X (.BinOp a .Mod b pos) (eOp dMod fa fb) := fe_op op_mod (op_dIC fun _ _ _ => .int _) ha hb
def dPow := dIC CPow fun i j => .int (i ^ j.toNat)
theorem fe_pow {a b : Expr} {fa fb : EF} (ha : FE X a fa) (hb : FB X b fb) : FE X (.BinOp a .Pow b pos) (eOp dPow fa fb) := fe_op op_pow (op_dIC fun _ _ _ => .int _) ha hb
def dXor := dI fun i j => .int (Builtin.bitXor i j)
theorem fe_xor {a b : Expr} {fa fb : EF} (ha : FE X a fa) (hb : FB X b fb) : FE X (.BinOp a .BitXor b pos) (eOp dXor fa fb) := fe_op op_xor (op_dI fun _ _ _ => .int _) ha hb
def dNeg : D → Option D
  | .int i => some (.int (-i))
  | _ => none
theorem fe_neg {a : Expr} {fa : EF} (ha : FB X a fa) : FE X (.UnaryOp .USub a pos) (eUn dNeg fa) := fe_un un_neg (fun x d G H vx Q e s a q _ => by
  unfold dNeg at e
  split at e
  · cases e; rw [vwInt a]; exact ⟨_, rfl, q _ (.int _)⟩
  · cases e) ha
/-! ### comparisons -/
def dEq : D → D → Option D := fun x y => if SeqAt.shaped x = true ∧ SeqAt.shaped y = true then some (.bool (PyData.eqv x y)) else none
def dNe : D → D → Option D := fun x y => if SeqAt.shaped x = true ∧ SeqAt.shaped y = true then some (.bool (!PyData.eqv x y)) else none
theorem fe_eq {k : Nat} {a b : Expr} {fa fb : EF} (c : Cc X k) (ha : FE X a fa) (hb : FB X b fb) : FE X (.Compare a [.Eq] [b] pos) (eOp dEq fa fb) := fe_cmp (op_eqD c.room.units) (fun x y d G H vx vy Q e s a b q _ => by
  unfold dEq at e
  split at e
  · rename_i hc
    cases e
    exact ⟨x, y, Dv.dp _ _ (dvMono s _ _ a), vwAny s b, hc.1, hc.2, q _ (.bl _)⟩
  · cases e) ha hb (nomark _)
theorem fe_ne {k : Nat} {a b : Expr} {fa fb : EF} (c : Cc X k) (ha : FE X a fa) (hb : FB X b fb) : FE X (.Compare a [.NotEq] [b] pos) (eOp dNe fa fb) := fe_cmp (op_neD c.room.units) (fun x y d G H vx vy Q e s a b q _ => by
  unfold dNe at e
  split at e
  · rename_i hc
    cases e
    exact ⟨x, y, Dv.dp _ _ (dvMono s _ _ a), vwAny s b, hc.1, hc.2, q _ (.bl _)⟩
  · cases e) ha hb (nomark _)
/-- == where the left one is an own list's name -/
def eOpL (g : D → D → Option D) (i : Nat) (fb : EF) : EF := fun e => (fb e).bind fun q => (q.2[i]?.bind vw).bind fun x => (g x q.1).map fun d => (d, q.2)
def dLt := dI fun i j => .bool (decide (i < j))
def dLe := dI fun i j => .bool (decide (i ≤ j))
def dGt := dI fun i j => .bool (decide (j < i))
def dGe := dI fun i j => .bool (decide (j ≤ i))
theorem fe_lt {a b : Expr} {fa fb : EF} (ha : FE X a fa) (hb : FB X b fb) : FE X (.Compare a [.Lt] [b] pos) (eOp dLt fa fb) := fe_cmp op_lt (op_dI fun _ _ _ => .bl _) ha hb (nomark _)
theorem fe_le {a b : Expr} {fa fb : EF} (ha : FE X a fa) (hb : FB X b fb) : FE X (.Compare a [.LtE] [b] pos) (eOp dLe fa fb) := fe_cmp op_le (op_dI fun _ _ _ => .bl _) ha hb (nomark _)
theorem fe_gt {a b : Expr} {fa fb : EF} (ha : FE X a fa) (hb : FB X b fb) : FE X (.Compare a [.Gt] [b] pos) (eOp dGt fa fb) := fe_cmp op_gt (op_dI fun _ _ _ => .bl _) ha hb (nomark _)
theorem fe_ge {a b : Expr} {fa fb : EF} (ha : FE X a fa) (hb : FB X b fb) : FE X (.Compare a [.GtE] [b] pos) (eOp dGe fa fb) := fe_cmp op_ge (op_dI fun _ _ _ => .bl _) ha hb (nomark _)
def isNon : D → Bool
  | .none => true
  | _ => false
theorem isNon_iff {K : Frg} {G : Hp} {v : V} {d : D} (h : Dv K G v d) : decide (v = .non) = isNon d := by cases h <;> rfl
def dIs : D → D → Option D := fun x y => if isNon y then some (.bool (isNon x)) else none
def dIsN : D → D → Option D := fun x y => if isNon y then some (.bool (!isNon x)) else none
theorem vwIsNon {K : Frg} {G H : Hp} {v : V} {d : D} (h : Vw K G H v d) (n : isNon d = true) : v = .non := by
  cases d with
  | none => exact vwNon h
  | bool _ => cases n
  | int _ => cases n
  | str _ => cases n
  | list _ => cases n
  | tuple _ => cases n
  | dict _ => cases n
theorem fe_is {a b : Expr} {fa fb : EF} (ha : FE X a fa) (hb : FB X b fb) : FE X (.Compare a [.Is] [b] pos) (eOp dIs fa fb) := fe_cmp op_isN (fun x y d G H vx vy Q e s a b q _ => by
  unfold dIs at e
  split at e
  · rename_i hc
    cases e
    exact ⟨vwIsNon b hc, by rw [isNon_iff a]; exact q _ (.bl _)⟩
  · cases e) ha hb (nomark _)
theorem fe_isn {a b : Expr} {fa fb : EF} (ha : FE X a fa) (hb : FB X b fb) : FE X (.Compare a [.IsNot] [b] pos) (eOp dIsN fa fb) := fe_cmp op_notN (fun x y d G H vx vy Q e s a b q _ => by
  unfold dIsN at e
  split at e
  · rename_i hc
    cases e
    exact ⟨vwIsNon b hc, by rw [isNon_iff a]; exact q _ (.bl _)⟩
  · cases e) ha hb (nomark _)
/-! ### truth, tests -/
def dTru : D → Option Bool
  | .none => some false
  | .bool b => some b
  | .int i => some (i != 0)
  | .str x => if x.length ≤ sizeLine then some ((x.length : Int) != 0) else none
  | .list xs => some (!xs.isEmpty)
  | .tuple xs => some (!xs.isEmpty)
  | .dict _ => none
theorem emptyOf {K : Frg} {G : Hp} {vs : List V} {ds : List D} (h : DvAll K G vs ds) : vs.isEmpty = ds.isEmpty := by cases h <;> rfl
theorem tru_of {K : Frg} {G H : Hp} (s : Same G H) {v : V} {d : D} {b : Bool} (h : Vw K G H v d) (e : dTru d = some b) : TruV K v H b := by
  unfold dTru at e
  split at e
  · cases e; rw [vwNon h]; rfl
  · cases e; rw [vwBl h]; rfl
  · cases e; rw [vwInt h]; rfl
  · split at e
    · rename_i hc; cases e; rw [vwStr h]; exact ⟨hc, rfl⟩
    · cases e
  · cases e
    obtain ⟨a, vs, rfl, h1, h2⟩ := vwLst s h
    exact .inl ⟨vs, SqL.of h1, by rw [emptyOf h2]⟩
  · cases e
    obtain ⟨a, vs, rfl, h1, h2⟩ := vwTup h
    exact .inr (.inl ⟨vs, seqT s h1, by rw [emptyOf h2]⟩)
  · cases e
def bE (f : EF) : BF := fun e => (f e).bind fun p => (dTru p.1).map fun b => (b, p.2)
theorem bE_run {K : Frg} {f : EF} {σ : L2.St} {H : Hp} {Q : Bool → Hp → Prop} (h : tT K (bE f) σ H Q) : tB K f σ H fun v H1 => ∃ k, TruV K v H1 k ∧ Q k H1 := by
  obtain ⟨z, d, e', rp, hs, hH, hf, q⟩ := h
  subst hs hH
  obtain ⟨⟨x, e1⟩, h1, hf⟩ := Option.bind_eq_some_iff.mp hf
  obtain ⟨b, h2, hf⟩ := Option.map_eq_some_iff.mp hf
  cases hf
  exact ⟨z, x, e1, rp, rfl, rfl, h1, fun v y m r s2 ee p => ⟨_, tru_of r.same p h2, q y m r s2 ee⟩⟩
/-- any expression's truth -/
theorem ft_e {a : Expr} {f : EF} (h : FB X a f) (he : ∀ whole, isTrue a X.env whole = (do let v ← whole; standAt a.pos; holding [v] (truthy v))) : FT X a (bE f) :=
  ⟨PT.imp (pt_truth h.pb he) fun _ _ _ q => bE_run q⟩
/-- a comparison as a test: its value is a bool -/
def bB (f : EF) : BF := fun e => (f e).bind fun p => match p.1 with
  | .bool b => some (b, p.2)
  | _ => none
theorem bB_run {K : Frg} {f : EF} {σ : L2.St} {H : Hp} {Q : Bool → Hp → Prop} (h : tT K (bB f) σ H Q) : tE K f σ H fun v H1 => ∃ k, v = .bl k ∧ Q k H1 := by
  obtain ⟨z, d, e', rp, hs, hH, hf, q⟩ := h
  subst hs hH
  obtain ⟨⟨x, e1⟩, h1, hf⟩ := Option.bind_eq_some_iff.mp hf
  split at hf
  · rename_i b hx
    cases hf
    obtain rfl : x = _ := hx
    refine ⟨z, _, e1, rp, rfl, rfl, h1, fun v y m r s2 ee p => ?_⟩
    cases p
    exact ⟨_, rfl, q y m r s2 ee⟩
  · cases hf
theorem ft_cmp {a b : Expr} {op : CmpOp} {r : R2} {g : D → D → Option D} {fa fb : EF} (ho : OpR X (compareOp op) r) (hg : Op2 X.K r g) (ha : FE X a fa) (hb : FB X b fb) (hm : behindInMarks op b = false) : FT X (.Compare a [op] [b] pos) (bB (eOp g fa fb)) :=
  ⟨PT.imp (pt_cmpR ho ha.pe hb.pb hm) fun σ H Q q => by
    obtain ⟨z, d, e', rp, hs, hH, hf, q⟩ := bB_run q
    exact op_run hg ⟨z, d, e', rp, hs, hH, hf, q⟩⟩
def bNot (f : BF) : BF := fun e => (f e).map fun p => (!p.1, p.2)
theorem ft_not {a : Expr} {f : BF} (h : FT X a f) : FT X (.UnaryOp .Not a pos) (bNot f) := ⟨PT.imp (pt_not h.pt) fun σ H Q ⟨z, d, e', rp, hs, hH, hf, q⟩ => by
  obtain ⟨⟨b, e1⟩, h1, h2⟩ := Option.map_eq_some_iff.mp hf
  cases h2
  exact ⟨z, b, _, rp, hs, hH, h1, fun y m r s2 ee => q y m r s2 ee⟩⟩
def bAnd (f g : BF) : BF := fun e => (f e).bind fun p => if p.1 = true then g p.2 else some (false, p.2)
def bOr (f g : BF) : BF := fun e => (f e).bind fun p => if p.1 = true then some (true, p.2) else g p.2
/-- a chain of and, or -/
structure FW (X : Cx) (e : Expr) (f : BF) : Prop where
  pw : PW X e (tT X.K f)
theorem PW.imp {e : Expr} {t t' : TT} (h : PW X e t) (k : ∀ σ H Q, t' σ H Q → t σ H Q) : PW X e t' := ⟨fun wh pins s σ H Q I q => h.run wh pins s σ H Q I (k _ _ _ q)⟩
theorem FW.ft {e : Expr} {f : BF} (h : FW X e f) : FT X e f := ⟨h.pw.pt⟩
theorem fw_and1 {a : Expr} {f : BF} (h : FT X a f) : FW X (.BoolOp .And [a] pos) f := ⟨pw_and1 h.pt⟩
theorem fw_or1 {a : Expr} {f : BF} (h : FT X a f) : FW X (.BoolOp .Or [a] pos) f := ⟨pw_or1 h.pt⟩
theorem fw_and {a b : Expr} {rest : List Expr} {f g : BF} (h : FT X a f) (k : FW X (.BoolOp .And (b :: rest) pos) g) : FW X (.BoolOp .And (a :: b :: rest) pos) (bAnd f g) :=
  ⟨PW.imp (pw_and h.pt k.pw) fun σ H Q ⟨z, d, e', rp, hs, hH, hf, q⟩ => by
    subst hs hH
    obtain ⟨⟨b, e1⟩, h1, h2⟩ := Option.bind_eq_some_iff.mp hf
    refine ⟨z, b, e1, rp, rfl, rfl, h1, fun y m r s2 ee => ?_⟩
    cases b with
    | true => exact iteT ⟨y, d, e', r, s2, rfl, by rw [ee]; exact h2, fun y2 m2 r2 s3 ee2 => q y2 (m.trans m2) r2 s3 ee2⟩
    | false =>
      cases h2
      exact iteF (q y m r s2 ee)⟩
theorem fw_or {a b : Expr} {rest : List Expr} {f g : BF} (h : FT X a f) (k : FW X (.BoolOp .Or (b :: rest) pos) g) : FW X (.BoolOp .Or (a :: b :: rest) pos) (bOr f g) :=
  ⟨PW.imp (pw_or h.pt k.pw) fun σ H Q ⟨z, d, e', rp, hs, hH, hf, q⟩ => by
    subst hs hH
    obtain ⟨⟨b, e1⟩, h1, h2⟩ := Option.bind_eq_some_iff.mp hf
    refine ⟨z, b, e1, rp, rfl, rfl, h1, fun y m r s2 ee => ?_⟩
    cases b with
    | false => exact iteF ⟨y, d, e', r, s2, rfl, by rw [ee]; exact h2, fun y2 m2 r2 s3 ee2 => q y2 (m.trans m2) r2 s3 ee2⟩
    | true =>
      cases h2
      exact iteT (q y m r s2 ee)⟩
/-- and, or, not as values, all but the last bools -/
def eAnd (f g : EF) : EF := fun e => (f e).bind fun p => match p.1 with
  | .bool true => g p.2
  | .bool false => some (.bool false, p.2)
  | _ => none
def eOr (f g : EF) : EF := fun e => (f e).bind fun p => match p.1 with
  | .bool true => some (.bool true, p.2)
  | .bool false => g p.2
  | _ => none
def eNot (f : EF) : EF := fun e => (f e).bind fun p => match p.1 with
  | .bool b => some (.bool (!b), p.2)
  | _ => none
theorem fe_one {op} {a : Expr} {f : EF} (h : FE X a f) : FE X (.BoolOp op [a] pos) f := ⟨pe_one h.pe⟩
theorem fe_and {a b : Expr} {rest : List Expr} {f g : EF} (h : FE X a f) (k : FE X (.BoolOp .And (b :: rest) pos) g) : FE X (.BoolOp .And (a :: b :: rest) pos) (eAnd f g) :=
  ⟨PE.imp (pe_and h.pe k.pe) fun σ H Q ⟨z, d, e', rp, hs, hH, hf, q⟩ => by
    subst hs hH
    obtain ⟨⟨b, e1⟩, h1, h2⟩ := Option.bind_eq_some_iff.mp hf
    refine ⟨z, b, e1, rp, rfl, rfl, h1, fun v y m r s2 ee p => ?_⟩
    split at h2
    · rename_i hb
      have hb' : b = .bool true := hb
      subst hb'
      cases p
      exact ⟨true, rfl, iteT ⟨y, d, e', r, s2, rfl, by rw [ee]; exact h2, fun v y2 m2 r2 s3 ee2 p2 => q v y2 (m.trans m2) r2 s3 ee2 p2⟩⟩
    · rename_i hb
      have hb' : b = .bool false := hb
      subst hb'
      cases p
      cases h2
      exact ⟨false, rfl, iteF (q _ y m r s2 ee (.bl _))⟩
    · cases h2⟩
theorem fe_or {a b : Expr} {rest : List Expr} {f g : EF} (h : FE X a f) (k : FE X (.BoolOp .Or (b :: rest) pos) g) : FE X (.BoolOp .Or (a :: b :: rest) pos) (eOr f g) :=
  ⟨PE.imp (pe_or h.pe k.pe) fun σ H Q ⟨z, d, e', rp, hs, hH, hf, q⟩ => by
    subst hs hH
    obtain ⟨⟨b, e1⟩, h1, h2⟩ := Option.bind_eq_some_iff.mp hf
    refine ⟨z, b, e1, rp, rfl, rfl, h1, fun v y m r s2 ee p => ?_⟩
    split at h2
    · rename_i hb
      have hb' : b = .bool true := hb
      subst hb'
      cases p
      cases h2
      exact ⟨true, rfl, iteT (q _ y m r s2 ee (.bl _))⟩
    · rename_i hb
      have hb' : b = .bool false := hb
      subst hb'
      cases p
      exact ⟨false, rfl, iteF ⟨y, d, e', r, s2, rfl, by rw [ee]; exact h2, fun v y2 m2 r2 s3 ee2 p2 => q v y2 (m.trans m2) r2 s3 ee2 p2⟩⟩
    · cases h2⟩
theorem fe_not {a : Expr} {f : EF} (h : FE X a f) : FE X (.UnaryOp .Not a pos) (eNot f) := ⟨PE.imp (pe_not h.pe) fun σ H Q ⟨z, d, e', rp, hs, hH, hf, q⟩ => by
  subst hs hH
  obtain ⟨⟨b, e1⟩, h1, h2⟩ := Option.bind_eq_some_iff.mp hf
  refine ⟨z, b, e1, rp, rfl, rfl, h1, fun v y m r s2 ee p => ?_⟩
  split at h2
  · rename_i b' hb
    have hb' : b = .bool b' := hb
    subst hb'
    cases p
    cases h2
    exact ⟨_, rfl, q _ y m r s2 ee (.bl _)⟩
  · cases h2⟩
def eIf (c : BF) (f g : EF) : EF := fun e => (c e).bind fun p => if p.1 = true then f p.2 else g p.2
theorem fe_if {c a b : Expr} {h : BF} {f g : EF} (hc : FT X c h) (ha : FE X a f) (hb : FE X b g) : FE X (.IfExp c a b pos) (eIf h f g) :=
  ⟨PE.imp (pe_ifExp hc.pt ha.pe hb.pe) fun σ H Q ⟨z, d, e', rp, hs, hH, hf, q⟩ => by
    subst hs hH
    obtain ⟨⟨b, e1⟩, h1, h2⟩ := Option.bind_eq_some_iff.mp hf
    refine ⟨z, b, e1, rp, rfl, rfl, h1, fun y m r s2 ee => ?_⟩
    cases b with
    | true => exact iteT ⟨y, d, e', r, s2, rfl, by rw [ee]; exact h2, fun v y2 m2 r2 s3 ee2 p2 => q v y2 (m.trans m2) r2 s3 ee2 p2⟩
    | false => exact iteF ⟨y, d, e', r, s2, rfl, by rw [ee]; exact h2, fun v y2 m2 r2 s3 ee2 p2 => q v y2 (m.trans m2) r2 s3 ee2 p2⟩⟩
end
end Fl

set_option Elab.async false
set_option linter.all false
set_option maxRecDepth 100000
set_option maxHeartbeats 1000000
set_option autoImplicit false
/-! FnLib: sum, max, min of tuples of ints. -/
namespace Fl
open PySem PySem.Spec PyProof.Rows L2
section
variable {prog : Program} {w : World} {A : Around} {E : Value → Shared → Prop} {s : Shared} {l : Addr}
theorem iterTup {items : Array Value} {Q : Value → Shared → Prop} (hl : s.heap.IsTuple l items)
    (h : ∀ s₂ : Shared, s₂ = { s with heap := s.heap.push { cls := .type "tuple_iterator", data := .fields #[.ref l, .int 0 0] } } →
      (s₂.heap.IsTupleIter s.heap.objs.size l 0 ∧ s₂.heap.IsTuple l items) → (∀ b ∈ [s.heap.objs.size, l], b < s₂.heap.objs.size) → l ≠ s.heap.objs.size → Q (.ref s.heap.objs.size) s₂) : wpAny (model prog w) A (pyIter (.ref l)) Q E s := by
  have hlt : l < s.heap.objs.size := by obtain ⟨_, e, _⟩ := hl; exact Heap.lt_size e
  refine PyProof.Rows.iter_tuple (show IsTup s.heap l items from hl) (h _ rfl ⟨⟨_, Heap.get?_push_size _ rfl, rfl, rfl⟩, ?_⟩ (fun b hb => ?_) (Nat.ne_of_lt hlt))
  · exact hl.at fun o e => Heap.get?_push_of_some _ e
  · show b < (s.heap.push _).objs.size
    rw [show (s.heap.push { cls := .type "tuple_iterator", data := .fields #[.ref l, .int 0 0] }).objs.size = s.heap.objs.size + 1 by simp [Heap.push]]
    rcases List.mem_cons.mp hb with rfl | hb
    · omega
    · rw [List.mem_singleton.mp hb]; exact Nat.lt_succ_of_lt hlt
theorem oldKept {s : Shared} {l : Addr} {h' : Heap} (hk : ∀ b o, b ∉ [s.heap.objs.size] → (s.heap.push { cls := .type "tuple_iterator", data := .fields #[.ref l, .int 0 0] }).get? b = some o → h'.get? b = some o) : ∀ b o, s.heap.get? b = some o → h'.get? b = some o := fun b o e =>
  hk b o (fun z => by rw [List.mem_singleton.mp z] at e; exact absurd (Heap.lt_size e) (Nat.lt_irrefl _)) (Heap.get?_push_of_some _ e)
theorem sum_tup {its : List Value} {ns : List Int} {Q : Value → Shared → Prop} (hh : A.handled = none) (hl : s.heap.IsTuple l its.toArray) (hi : IntsAre its ns)
    (h : ∀ h' tk t', (∀ b o, s.heap.get? b = some o → h'.get? b = some o) → Q (.int ns.sum t') { s with heap := h', toks := tk }) : wpAny (model prog w) A (call (.builtin "sum") [.ref l]) Q E s := by
  obtain ⟨xs, e⟩ := hi.allInts.items
  have hn : numsOf (intItems xs).toList = ns := by rw [← e]; exact hi.numsOf
  rw [nums_intItems] at hn
  rw [e] at hl
  refine call_sum_walkG (iterTup hl fun s₂ e2 st hfp hlI => ?_)
  subst e2
  refine ⟨_, _, _, _, _, _, numAt xs, rfl, Walks.tuple (A := A.in1) hh _ l hlI (intItems xs), st, hfp, (fun _ _ => intItems_at), fun h' tk t' hk => ?_⟩
  have q := h h' tk t' (oldKept hk)
  rw [show (intItems xs).size = xs.size by simp [intItems], preSum_eq, List.take_of_length_le (by simp), hn]
  exact q
theorem max_tup {its : List Value} {ns : List Int} {Q : Value → Shared → Prop} (hh : A.handled = none) (hl : s.heap.IsTuple l its.toArray) (hi : IntsAre its ns) (hne : 0 < ns.length)
    (h : ∀ h' tk M t', (∀ b o, s.heap.get? b = some o → h'.get? b = some o) → M ∈ ns → (∀ a, a ∈ ns → a ≤ M) → Q (.int M t') { s with heap := h', toks := tk }) : wpAny (model prog w) A (call (.builtin "max") [.ref l]) Q E s := by
  obtain ⟨xs, e⟩ := hi.allInts.items
  have hn : numsOf (intItems xs).toList = ns := by rw [← e]; exact hi.numsOf
  rw [nums_intItems] at hn
  subst hn
  rw [e] at hl
  have hsz : 0 < xs.size := by simpa using hne
  refine call_max_walk (iterTup hl fun s₂ e2 st hfp hlI => ?_)
  subst e2
  refine ⟨_, _, _, _, _, _, _, rfl, Walks.tuple (A := A.in1) hh _ l hlI (intItems xs), st, hfp, by simpa [intItems] using hsz, CmpOf.ints_gt (numAt xs) (fun _ _ => intItems_at), fun v h' tk hP hk => ?_⟩
  have hP' : (intItems xs)[argBest (fun i j => decide (numAt xs i > numAt xs j)) (xs.size - 1)]? = some v := by simpa [intItems] using hP
  obtain ⟨t, rfl⟩ := intItems_at hP'
  obtain ⟨h1, h2⟩ := argBest_gt (numAt xs) (xs.size - 1)
  refine h h' tk _ t (oldKept hk) ?_ fun a ha => ?_
  · rw [numAt_eq]; exact PySem.getD_mem (by rw [List.length_map, Array.length_toList]; omega)
  · obtain ⟨j, hj, rfl⟩ := mem_getD ha
    rw [List.length_map, Array.length_toList] at hj
    rw [← numAt_eq]; exact h2 j (by omega)
theorem min_tup {its : List Value} {ns : List Int} {Q : Value → Shared → Prop} (hh : A.handled = none) (hl : s.heap.IsTuple l its.toArray) (hi : IntsAre its ns) (hne : 0 < ns.length)
    (h : ∀ h' tk M t', (∀ b o, s.heap.get? b = some o → h'.get? b = some o) → M ∈ ns → (∀ a, a ∈ ns → M ≤ a) → Q (.int M t') { s with heap := h', toks := tk }) : wpAny (model prog w) A (call (.builtin "min") [.ref l]) Q E s := by
  obtain ⟨xs, e⟩ := hi.allInts.items
  have hn : numsOf (intItems xs).toList = ns := by rw [← e]; exact hi.numsOf
  rw [nums_intItems] at hn
  subst hn
  rw [e] at hl
  have hsz : 0 < xs.size := by simpa using hne
  refine call_min_walk (iterTup hl fun s₂ e2 st hfp hlI => ?_)
  subst e2
  refine ⟨_, _, _, _, _, _, _, rfl, Walks.tuple (A := A.in1) hh _ l hlI (intItems xs), st, hfp, by simpa [intItems] using hsz, CmpOf.ints_lt (numAt xs) (fun _ _ => intItems_at), fun v h' tk hP hk => ?_⟩
  have hP' : (intItems xs)[argBest (fun i j => decide (numAt xs i < numAt xs j)) (xs.size - 1)]? = some v := by simpa [intItems] using hP
  obtain ⟨t, rfl⟩ := intItems_at hP'
  obtain ⟨h1, h2⟩ := argBest_lt (numAt xs) (xs.size - 1)
  refine h h' tk _ t (oldKept hk) ?_ fun a ha => ?_
  · rw [numAt_eq]; exact PySem.getD_mem (by rw [List.length_map, Array.length_toList]; omega)
  · obtain ⟨j, hj, rfl⟩ := mem_getD ha
    rw [List.length_map, Array.length_toList] at hj
    rw [← numAt_eq]; exact h2 j (by omega)
end
/-- sum, max, min: a list or a tuple of ints -/
def rSumA (K : Frg) : List V → Hp → VK → Prop := fun vs H Q => ∃ (a : Addr) (ns : List Int), vs = [V.ref a] ∧ (SqL K H a (ns.map V.int) ∨ SqT K H a (ns.map V.int)) ∧ Q (.int ns.sum) H
def rMaxA (K : Frg) : List V → Hp → VK → Prop := fun vs H Q => ∃ (a : Addr) (ns : List Int), vs = [V.ref a] ∧ (SqL K H a (ns.map V.int) ∨ SqT K H a (ns.map V.int)) ∧ 0 < ns.length ∧ ∀ m, m ∈ ns → (∀ y, y ∈ ns → y ≤ m) → Q (.int m) H
def rMinA (K : Frg) : List V → Hp → VK → Prop := fun vs H Q => ∃ (a : Addr) (ns : List Int), vs = [V.ref a] ∧ (SqL K H a (ns.map V.int) ∨ SqT K H a (ns.map V.int)) ∧ 0 < ns.length ∧ ∀ m, m ∈ ns → (∀ y, y ∈ ns → m ≤ y) → Q (.int m) H
section
variable {X : Cx}
theorem cr_sumA (hc : X.calm = true) : CallR X (.builtin "sum") (rSumA X.K) := by
  intro pins s σ H vs us Q I r h
  obtain ⟨a, ns, rfl, hs | hs, q⟩ := h
  · exact cr_sum hc pins s σ H _ us Q I r ⟨a, ns, rfl, hs, q⟩
  · obtain ⟨its, rv, hl, _⟩ := I.tuple hs
    rw [Vals.ref1 r]
    exact sum_tup (I.ok.hd hc) hl rv.ints fun h' tk t' hk => ⟨.int _, H, I.kept hk, ⟨_, rfl⟩, q⟩
theorem cr_maxA (hc : X.calm = true) : CallR X (.builtin "max") (rMaxA X.K) := by
  intro pins s σ H vs us Q I r h
  obtain ⟨a, ns, rfl, hs | hs, hne, q⟩ := h
  · exact cr_max hc pins s σ H _ us Q I r ⟨a, ns, rfl, hs, hne, q⟩
  · obtain ⟨its, rv, hl, _⟩ := I.tuple hs
    rw [Vals.ref1 r]
    exact max_tup (I.ok.hd hc) hl rv.ints hne fun h' tk m t' hk h1 h2 => ⟨.int _, H, I.kept hk, ⟨_, rfl⟩, q m h1 h2⟩
theorem cr_minA (hc : X.calm = true) : CallR X (.builtin "min") (rMinA X.K) := by
  intro pins s σ H vs us Q I r h
  obtain ⟨a, ns, rfl, hs | hs, hne, q⟩ := h
  · exact cr_min hc pins s σ H _ us Q I r ⟨a, ns, rfl, hs, hne, q⟩
  · obtain ⟨its, rv, hl, _⟩ := I.tuple hs
    rw [Vals.ref1 r]
    exact min_tup (I.ok.hd hc) hl rv.ints hne fun h' tk m t' hk h1 h2 => ⟨.int _, H, I.kept hk, ⟨_, rfl⟩, q m h1 h2⟩
end
end Fl

set_option Elab.async false
set_option linter.all false
set_option maxRecDepth 100000
set_option maxHeartbeats 1000000
set_option autoImplicit false
/-! FnSeq: arguments, displays, built-in calls, subscripts, slices, what is walked, comprehensions. -/
namespace Fl
open PySem PySem.Spec PyProof.Rows L2
section
variable {X : Cx} {pos : Pos}
/-! ### arguments, displays -/
def aNil : LF := fun e => some ([], e)
def aCons (f : EF) (g : LF) : LF := fun e => (f e).bind fun p => (g p.2).map fun q => (p.1 :: q.1, q.2)
theorem fa_nil : FA X [] aNil := ⟨PA.imp pa_nil fun σ H Q ⟨z, d, e', rp, hs, hH, hf, q⟩ => by
  subst hs hH
  cases hf
  exact q [] z (Mv.refl z) rp rfl rfl .nil⟩
theorem fa_cons {a : Expr} {es : List Expr} {f : EF} {g : LF} (ha : FE X a f) (hr : FA X es g) (hs : starEach (a :: es) X.env = (false, eval a X.env) :: starEach es X.env := by rfl) : FA X (a :: es) (aCons f g) :=
  ⟨PA.imp (pa_cons ha.pe hr.pa hs) fun σ H Q ⟨z, d, e', rp, hs, hH, hf, q⟩ => by
    subst hs hH
    obtain ⟨⟨x, e1⟩, h1, hf⟩ := Option.bind_eq_some_iff.mp hf
    obtain ⟨⟨xs, e2⟩, h2, h3⟩ := Option.map_eq_some_iff.mp hf
    cases h3
    refine ⟨z, x, e1, rp, rfl, rfl, h1, fun v1 y1 m1 r1 s1 ee1 p1 => ⟨y1, xs, e2, r1, s1, rfl, by rw [ee1]; exact h2, fun v2 y2 m2 r2 s2 ee2 p2 => ?_⟩⟩
    exact q (v1 :: v2) y2 (m1.trans m2) r2 s2 ee2 (.cons (dvMono m2.g _ _ p1) p2)⟩
def eTup (g : LF) : EF := fun e => (g e).bind fun p => if p.1.length ≤ sizeLine then some (.tuple p.1, p.2) else none
theorem fe_tup {es : List Expr} {k : Nat} {g : LF} (h : FA X es g) : FE X (.Tuple es k pos) (eTup g) := ⟨PE.imp (pe_tup h.pa) fun σ H Q ⟨z, d, e', rp, hs, hH, hf, q⟩ => by
  subst hs hH
  obtain ⟨⟨xs, e1⟩, h1, hf⟩ := Option.bind_eq_some_iff.mp hf
  split at hf
  · rename_i hl
    cases hf
    refine ⟨z, xs, _, rp, rfl, rfl, h1, fun vs y m r s2 ee p => ⟨by rw [dvAll_len p]; exact hl, fun pa hn => ?_⟩⟩
    obtain ⟨r3, m3⟩ := r.add (o := .tup vs) hn
    exact q _ (y.add pa (.tup vs)) (m.trans m3) r3 s2 ee (.tup (SqT.of upd_same) (dvMonoAll (sameUpd (r.same.free hn)) _ _ p))
  · cases hf⟩
def oLst (g : LF) : OF := fun e => (g e).bind fun p => if p.1.length ≤ sizeLine then some (.li p.1, p.2) else none
/-- a new list on the heap, one's own -/
theorem Rp.newLi {K : Frg} {z : Z} (r : Rp K z) {p : Addr} {vs : List V} {ds : List D} (hn : z.H p = none) (hd : DvAll K z.G vs ds) :
    Rp K (z.new p (.lst vs)) ∧ Mv z (z.new p (.lst vs)) ∧ SlOk K (z.new p (.lst vs)).G (z.new p (.lst vs)).H (some (.ref p)) [p] (.li ds) ∧ ∀ i, p ∉ (z.new p (.lst vs)).F i := by
  obtain ⟨r3, m3⟩ := r.new (o := .lst vs) hn
  exact ⟨r3, m3, ⟨p, vs, rfl, rfl, (r.fresh hn).1, upd_same, hd⟩, (r.fresh hn).2⟩
theorem fo_lst {es : List Expr} {g : LF} (h : FA X es g) : FO X (.List es pos) (oLst g) := ⟨PE.imp (pe_lst h.pa) fun σ H Q ⟨z, d, e', rp, hs, hH, hf, q⟩ => by
  subst hs hH
  obtain ⟨⟨xs, e1⟩, h1, hf⟩ := Option.bind_eq_some_iff.mp hf
  split at hf
  · rename_i hl
    cases hf
    refine ⟨z, xs, _, rp, rfl, rfl, h1, fun vs y m r s2 ee p => ⟨by rw [dvAll_len p]; exact hl, fun pa hn => ?_⟩⟩
    obtain ⟨r3, m3, k, nf⟩ := r.newLi hn p
    refine q _ _ [pa] (m.trans m3) r3 s2 ee k fun a ha => ?_
    rw [List.mem_singleton.mp ha]
    refine ⟨?_, nf⟩
    by_cases hz : z.H pa = none
    · exact hz
    · exact absurd hn (m.dom pa hz)
  · cases hf⟩
/-! ### calls of built-ins -/
section
variable {x : Str} {id : String} {p : Pos} {r : List V → Hp → VK → Prop} {a b : Expr}
theorem fe_call1 {g : D → Option D} {f : EF} (hc : CallR X (.builtin id) r) (hu : Un1 X.K (fun v => r [v]) g) (hg : Gl X x) (hm : X.mg x = none) (hv : bootBuiltins x = some (.builtin id)) (ha : FB X a f) (hn : x ≠ "__name__" := by decide) (hdb : (x == ("__debug__" : Str)) = false := by decide)
    (he : starEach [a] X.env = (false, eval a X.env) :: starEach [] X.env := by rfl) : FE X (.Call (.Name x p) [a] [] pos) (eUn g f) :=
  ⟨PE.imp (pe_callB hc hg hm hv (pa_cons ha.pb pa_nil he) hn hdb he rfl) fun σ H Q h => un_run (r := fun v => r [v]) hu h⟩
theorem fe_callT1 {g : D → Option D} {f : EF} (hc : CallR X (.type id) r) (hu : Un1 X.K (fun v => r [v]) g) (hg : Gl X x) (hm : X.mg x = none) (hv : bootBuiltins x = some (.type id)) (ha : FB X a f) (hn : x ≠ "__name__" := by decide) (hdb : (x == ("__debug__" : Str)) = false := by decide)
    (he : starEach [a] X.env = (false, eval a X.env) :: starEach [] X.env := by rfl) : FE X (.Call (.Name x p) [a] [] pos) (eUn g f) :=
  ⟨PE.imp (pe_callTy hc hg hm hv (pa_cons ha.pb pa_nil he) hn hdb he rfl) fun σ H Q h => un_run (r := fun v => r [v]) hu h⟩
theorem fe_call2 {g : D → D → Option D} {f f2 : EF} (hc : CallR X (.builtin id) r) (hu : Op2 X.K (fun v w => r [v, w]) g) (hg : Gl X x) (hm : X.mg x = none) (hv : bootBuiltins x = some (.builtin id)) (ha : FE X a f) (hb : FB X b f2) (hn : x ≠ "__name__" := by decide) (hdb : (x == ("__debug__" : Str)) = false := by decide)
    (he : starEach [a, b] X.env = (false, eval a X.env) :: starEach [b] X.env := by rfl) (he2 : starEach [b] X.env = (false, eval b X.env) :: starEach [] X.env := by rfl) (hpl : (backTo pos (starEach [b] X.env)).any (·.1) = false := by rfl) : FE X (.Call (.Name x p) [a, b] [] pos) (eOp g f f2) :=
  ⟨PE.imp (pe_callB hc hg hm hv (pa_cons ha.pe (pa_cons hb.pb pa_nil he2) he) hn hdb he hpl) fun σ H Q h => op_run (r := fun v w => r [v, w]) hu h⟩
/-- an own list of a one-place call: g tells its items -/
def oUn (g : D → Option (List D)) (f : EF) : OF := fun e => (f e).bind fun p => (g p.1).map fun d => (.li d, p.2)
def Un1L (K : Frg) (r : V → Hp → VK → Prop) (g : D → Option (List D)) : Prop := ∀ x ds G H vx (Q : VK), g x = some ds → Same G H → Vw K G H vx x → (∀ p vs, H p = none → DvAll K G vs ds → Q (.ref p) (upd H p (.lst vs))) → r vx H Q
theorem unL_run {K : Frg} {r : V → Hp → VK → Prop} {g : D → Option (List D)} (h : Un1L K r g) {fa : EF} {σ : L2.St} {H : Hp} {Q : VK} (q : tO K (oUn g fa) σ H Q) : tUn r (tB K fa) σ H Q := by
  obtain ⟨z, d, e', rp, hs, hH, hf, q⟩ := q
  subst hs hH
  obtain ⟨⟨x, e1⟩, h1, hf⟩ := Option.bind_eq_some_iff.mp hf
  obtain ⟨d', h3, hf⟩ := Option.map_eq_some_iff.mp hf
  cases hf
  refine ⟨z, x, _, rp, rfl, rfl, h1, fun vx z1 m1 r1 s1 ee1 p1 => ?_⟩
  refine h x d' z1.G z1.H vx Q h3 r1.same p1 fun p vs hn hp => ?_
  obtain ⟨r3, m3, k, nf⟩ := r1.newLi hn hp
  refine q _ _ [p] (m1.trans m3) r3 s1 ee1 k fun a ha => ?_
  rw [List.mem_singleton.mp ha]
  refine ⟨?_, nf⟩
  by_cases hz : z.H p = none
  · exact hz
  · exact absurd hn (m1.dom p hz)
theorem fo_call1 {g : D → Option (List D)} {f : EF} (hc : CallR X (.builtin id) r) (hu : Un1L X.K (fun v => r [v]) g) (hg : Gl X x) (hm : X.mg x = none) (hv : bootBuiltins x = some (.builtin id)) (ha : FB X a f) (hn : x ≠ "__name__" := by decide) (hdb : (x == ("__debug__" : Str)) = false := by decide)
    (he : starEach [a] X.env = (false, eval a X.env) :: starEach [] X.env := by rfl) : FO X (.Call (.Name x p) [a] [] pos) (oUn g f) :=
  ⟨PE.imp (pe_callB hc hg hm hv (pa_cons ha.pb pa_nil he) hn hdb he rfl) fun σ H Q h => unL_run (r := fun v => r [v]) hu h⟩
theorem fo_callT1 {g : D → Option (List D)} {f : EF} (hc : CallR X (.type id) r) (hu : Un1L X.K (fun v => r [v]) g) (hg : Gl X x) (hm : X.mg x = none) (hv : bootBuiltins x = some (.type id)) (ha : FB X a f) (hn : x ≠ "__name__" := by decide) (hdb : (x == ("__debug__" : Str)) = false := by decide)
    (he : starEach [a] X.env = (false, eval a X.env) :: starEach [] X.env := by rfl) : FO X (.Call (.Name x p) [a] [] pos) (oUn g f) :=
  ⟨PE.imp (pe_callTy hc hg hm hv (pa_cons ha.pb pa_nil he) hn hdb he rfl) fun σ H Q h => unL_run (r := fun v => r [v]) hu h⟩
def dLen : D → Option D
  | .list xs => some (.int xs.length)
  | .tuple xs => some (.int xs.length)
  | .str z => if z.length ≤ sizeLine then some (.int z.length) else none
  | _ => none
theorem fe_len {f : EF} (ha : FB X a f) (hm : X.mg "len" = none) (hg : Gl X "len" := by rfl) (he : starEach [a] X.env = (false, eval a X.env) :: starEach [] X.env := by rfl) : FE X (.Call (.Name "len" p) [a] [] pos) (eUn dLen f) :=
  fe_call1 call_len (fun x d G H vx Q e s h q _ => by
    unfold dLen at e
    split at e
    · cases e
      obtain ⟨b, vs, rfl, h1, h2⟩ := vwLst s h
      exact ⟨_, _, rfl, .inl ⟨vs, SqL.of h1, rfl⟩, by rw [dvAll_len h2]; exact q _ (.int _)⟩
    · cases e
      obtain ⟨b, vs, rfl, h1, h2⟩ := vwTup h
      exact ⟨_, _, rfl, .inr ⟨vs, seqT s h1, rfl⟩, by rw [dvAll_len h2]; exact q _ (.int _)⟩
    · split at e
      · rename_i hl; cases e; rw [vwStr h]; exact ⟨_, _, rfl, ⟨hl, rfl⟩, q _ (.int _)⟩
      · cases e
    · cases e) hg hm boot_len ha (by decide) (by decide) he
def asInts : List D → Option (List Int)
  | [] => some []
  | .int i :: r => (asInts r).map (i :: ·)
  | _ :: _ => none
theorem asInts_ok {K : Frg} {G : Hp} : ∀ {ds : List D} {vs : List V} {ns : List Int}, asInts ds = some ns → DvAll K G vs ds → vs = ns.map V.int ∧ ds = ns.map PyData.int
  | [], _, _, e, h => by cases e; cases h; exact ⟨rfl, rfl⟩
  | .int i :: r, _, _, e, h => by
    obtain ⟨ms, h1, h2⟩ := Option.map_eq_some_iff.mp e
    subst h2
    cases h with
    | cons k1 k2 =>
      cases k1
      obtain ⟨e1, e2⟩ := asInts_ok h1 k2
      rw [e1, e2]
      exact ⟨rfl, rfl⟩
  | .none :: _, _, _, e, _ => nomatch e
  | .bool _ :: _, _, _, e, _ => nomatch e
  | .str _ :: _, _, _, e, _ => nomatch e
  | .list _ :: _, _, _, e, _ => nomatch e
  | .tuple _ :: _, _, _, e, _ => nomatch e
  | .dict _ :: _, _, _, e, _ => nomatch e
theorem asInts_map : ∀ ns : List Int, asInts (ns.map PyData.int) = some ns
  | [] => rfl
  | n :: r => by rw [List.map_cons]; unfold asInts; rw [asInts_map r]; rfl
/-- the ints of a list or tuple -/
def intsOf : D → Option (List Int)
  | .list xs => asInts xs
  | .tuple xs => asInts xs
  | _ => none
theorem intsOf_ok {K : Frg} {G H : Hp} (s : Same G H) {v : V} {d : D} {ns : List Int} (e : intsOf d = some ns) (h : Vw K G H v d) : ∃ a, v = .ref a ∧ (SqL K H a (ns.map V.int) ∨ SqT K H a (ns.map V.int)) := by
  unfold intsOf at e
  split at e
  · obtain ⟨b, vs, rfl, h1, h2⟩ := vwLst s h
    rw [(asInts_ok e h2).1] at h1
    exact ⟨b, rfl, .inl (SqL.of h1)⟩
  · obtain ⟨b, vs, rfl, h1, h2⟩ := vwTup h
    rw [(asInts_ok e h2).1] at h1
    exact ⟨b, rfl, .inr (seqT s h1)⟩
  · cases e
def dSum : D → Option D := fun x => (intsOf x).map fun ns => .int ns.sum
theorem fe_sum {k : Nat} {f : EF} (c : Cc X k) (ha : FB X a f) (hm : X.mg "sum" = none) (hg : Gl X "sum" := by rfl) (he : starEach [a] X.env = (false, eval a X.env) :: starEach [] X.env := by rfl) : FE X (.Call (.Name "sum" p) [a] [] pos) (eUn dSum f) :=
  fe_call1 (cr_sumA c.calm) (fun x d G H vx Q e s h q _ => by
    obtain ⟨ns, h1, h2⟩ := Option.map_eq_some_iff.mp e
    subst h2
    obtain ⟨b, rfl, h3⟩ := intsOf_ok s h1 h
    exact ⟨b, ns, rfl, h3, q _ (.int _)⟩) hg hm (by decide +kernel) ha (by decide) (by decide) he
/-- the greatest, the least -/
def maxI : Int → List Int → Int
  | m, [] => m
  | m, x :: r => maxI (if x > m then x else m) r
def minI : Int → List Int → Int
  | m, [] => m
  | m, x :: r => minI (if x < m then x else m) r
theorem maxI_spec : ∀ (r : List Int) (m : Int), (maxI m r = m ∨ maxI m r ∈ r) ∧ m ≤ maxI m r ∧ ∀ y ∈ r, y ≤ maxI m r
  | [], m => ⟨.inl rfl, Int.le_refl _, fun _ h => nomatch h⟩
  | x :: r, m => by
    obtain ⟨h1, h2, h3⟩ := maxI_spec r (if x > m then x else m)
    show (maxI (if x > m then x else m) r = m ∨ maxI (if x > m then x else m) r ∈ x :: r) ∧ m ≤ maxI (if x > m then x else m) r ∧ ∀ y ∈ x :: r, y ≤ maxI (if x > m then x else m) r
    generalize maxI (if x > m then x else m) r = M at h1 h2 h3 ⊢
    refine ⟨?_, ?_, fun y hy => ?_⟩
    · rcases h1 with h1 | h1
      · split at h1
        · exact .inr (by rw [h1]; exact List.mem_cons_self)
        · exact .inl h1
      · exact .inr (List.mem_cons_of_mem _ h1)
    · split at h2 <;> omega
    · rcases List.mem_cons.mp hy with rfl | hy
      · split at h2 <;> omega
      · exact h3 y hy
theorem minI_spec : ∀ (r : List Int) (m : Int), (minI m r = m ∨ minI m r ∈ r) ∧ minI m r ≤ m ∧ ∀ y ∈ r, minI m r ≤ y
  | [], m => ⟨.inl rfl, Int.le_refl _, fun _ h => nomatch h⟩
  | x :: r, m => by
    obtain ⟨h1, h2, h3⟩ := minI_spec r (if x < m then x else m)
    show (minI (if x < m then x else m) r = m ∨ minI (if x < m then x else m) r ∈ x :: r) ∧ minI (if x < m then x else m) r ≤ m ∧ ∀ y ∈ x :: r, minI (if x < m then x else m) r ≤ y
    generalize minI (if x < m then x else m) r = M at h1 h2 h3 ⊢
    refine ⟨?_, ?_, fun y hy => ?_⟩
    · rcases h1 with h1 | h1
      · split at h1
        · exact .inr (by rw [h1]; exact List.mem_cons_self)
        · exact .inl h1
      · exact .inr (List.mem_cons_of_mem _ h1)
    · split at h2 <;> omega
    · rcases List.mem_cons.mp hy with rfl | hy
      · split at h2 <;> omega
      · exact h3 y hy
def dMax : D → Option D := fun x => (intsOf x).bind fun
  | [] => none
  | n :: r => some (.int (maxI n r))
def dMin : D → Option D := fun x => (intsOf x).bind fun
  | [] => none
  | n :: r => some (.int (minI n r))
theorem fe_max1 {k : Nat} {f : EF} (c : Cc X k) (ha : FB X a f) (hm : X.mg "max" = none) (hg : Gl X "max" := by rfl) (he : starEach [a] X.env = (false, eval a X.env) :: starEach [] X.env := by rfl) : FE X (.Call (.Name "max" p) [a] [] pos) (eUn dMax f) :=
  fe_call1 (cr_maxA c.calm) (fun x d G H vx Q e s h q _ => by
    obtain ⟨ns, h1, h2⟩ := Option.bind_eq_some_iff.mp e
    obtain ⟨b, rfl, h3⟩ := intsOf_ok s h1 h
    split at h2
    · cases h2
    · rename_i n r
      cases h2
      refine ⟨b, n :: r, rfl, h3, Nat.succ_pos _, fun m hm1 hm2 => ?_⟩
      obtain ⟨k1, k2, k3⟩ := maxI_spec r n
      have e1 : m = maxI n r := by
        have a1 : maxI n r ≤ m := by
          rcases k1 with k1 | k1
          · rw [k1]; exact hm2 n List.mem_cons_self
          · exact hm2 _ (List.mem_cons_of_mem _ k1)
        have a2 : m ≤ maxI n r := by
          rcases List.mem_cons.mp hm1 with e | e
          · rw [e]; exact k2
          · exact k3 m e
        omega
      rw [e1]
      exact q _ (.int _)) hg hm (by decide +kernel) ha (by decide) (by decide) he
theorem fe_min1 {k : Nat} {f : EF} (c : Cc X k) (ha : FB X a f) (hm : X.mg "min" = none) (hg : Gl X "min" := by rfl) (he : starEach [a] X.env = (false, eval a X.env) :: starEach [] X.env := by rfl) : FE X (.Call (.Name "min" p) [a] [] pos) (eUn dMin f) :=
  fe_call1 (cr_minA c.calm) (fun x d G H vx Q e s h q _ => by
    obtain ⟨ns, h1, h2⟩ := Option.bind_eq_some_iff.mp e
    obtain ⟨b, rfl, h3⟩ := intsOf_ok s h1 h
    split at h2
    · cases h2
    · rename_i n r
      cases h2
      refine ⟨b, n :: r, rfl, h3, Nat.succ_pos _, fun m hm1 hm2 => ?_⟩
      obtain ⟨k1, k2, k3⟩ := minI_spec r n
      have e1 : m = minI n r := by
        have a1 : m ≤ minI n r := by
          rcases k1 with k1 | k1
          · rw [k1]; exact hm2 n List.mem_cons_self
          · exact hm2 _ (List.mem_cons_of_mem _ k1)
        have a2 : minI n r ≤ m := by
          rcases List.mem_cons.mp hm1 with e | e
          · rw [e]; exact k2
          · exact k3 m e
        omega
      rw [e1]
      exact q _ (.int _)) hg hm (by decide +kernel) ha (by decide) (by decide) he
def dMax2 := dI fun i j => .int (if j > i then j else i)
def dMin2 := dI fun i j => .int (if j < i then j else i)
theorem fe_max2 {k : Nat} {f f2 : EF} (c : Cc X k) (ha : FE X a f) (hb : FB X b f2) (hm : X.mg "max" = none) (hg : Gl X "max" := by rfl) (he : starEach [a, b] X.env = (false, eval a X.env) :: starEach [b] X.env := by rfl) (he2 : starEach [b] X.env = (false, eval b X.env) :: starEach [] X.env := by rfl) (hpl : (backTo pos (starEach [b] X.env)).any (·.1) = false := by rfl) : FE X (.Call (.Name "max" p) [a, b] [] pos) (eOp dMax2 f f2) :=
  fe_call2 (call_max2 c.calm) (fun x y d G H vx vy Q e s h1 h2 q _ => by
    unfold dMax2 dI at e
    split at e
    · cases e; cases h1; rw [vwInt h2]; exact ⟨_, _, rfl, q _ (.int _)⟩
    · cases e) hg hm (by decide +kernel) ha hb (by decide) (by decide) he he2 hpl
theorem fe_min2 {k : Nat} {f f2 : EF} (c : Cc X k) (ha : FE X a f) (hb : FB X b f2) (hm : X.mg "min" = none) (hg : Gl X "min" := by rfl) (he : starEach [a, b] X.env = (false, eval a X.env) :: starEach [b] X.env := by rfl) (he2 : starEach [b] X.env = (false, eval b X.env) :: starEach [] X.env := by rfl) (hpl : (backTo pos (starEach [b] X.env)).any (·.1) = false := by rfl) : FE X (.Call (.Name "min" p) [a, b] [] pos) (eOp dMin2 f f2) :=
  fe_call2 (call_min2 c.calm) (fun x y d G H vx vy Q e s h1 h2 q _ => by
    unfold dMin2 dI at e
    split at e
    · cases e; cases h1; rw [vwInt h2]; exact ⟨_, _, rfl, q _ (.int _)⟩
    · cases e) hg hm (by decide +kernel) ha hb (by decide) (by decide) he he2 hpl
def asBools : List D → Option (List Bool)
  | [] => some []
  | .bool i :: r => (asBools r).map (i :: ·)
  | _ :: _ => none
theorem asBools_ok {K : Frg} {G : Hp} : ∀ {ds : List D} {vs : List V} {ns : List Bool}, asBools ds = some ns → DvAll K G vs ds → vs = ns.map V.bl
  | [], _, _, e, h => by cases e; cases h; rfl
  | .bool i :: r, _, _, e, h => by
    obtain ⟨ms, h1, h2⟩ := Option.map_eq_some_iff.mp e
    subst h2
    cases h with
    | cons k1 k2 =>
      cases k1
      rw [asBools_ok h1 k2]
      rfl
  | .none :: _, _, _, e, _ => nomatch e
  | .int _ :: _, _, _, e, _ => nomatch e
  | .str _ :: _, _, _, e, _ => nomatch e
  | .list _ :: _, _, _, e, _ => nomatch e
  | .tuple _ :: _, _, _, e, _ => nomatch e
  | .dict _ :: _, _, _, e, _ => nomatch e
theorem asBools_map : ∀ ns : List Bool, asBools (ns.map PyData.bool) = some ns
  | [] => rfl
  | n :: r => by rw [List.map_cons]; unfold asBools; rw [asBools_map r]; rfl
def boolsOf : D → Option (List Bool)
  | .list xs => asBools xs
  | _ => none
theorem boolsOf_ok {K : Frg} {G H : Hp} (s : Same G H) {v : V} {d : D} {ns : List Bool} (e : boolsOf d = some ns) (h : Vw K G H v d) : ∃ a, v = .ref a ∧ SqL K H a (ns.map V.bl) := by
  unfold boolsOf at e
  split at e
  · obtain ⟨b, vs, rfl, h1, h2⟩ := vwLst s h
    rw [asBools_ok e h2] at h1
    exact ⟨b, rfl, SqL.of h1⟩
  · cases e
def dAll : D → Option D := fun x => (boolsOf x).map fun ns => .bool (ns.all fun b => b)
def dAny : D → Option D := fun x => (boolsOf x).map fun ns => .bool (ns.any fun b => b)
theorem fe_all {k : Nat} {f : EF} (c : Cc X k) (ha : FB X a f) (hm : X.mg "all" = none) (hg : Gl X "all" := by rfl) (he : starEach [a] X.env = (false, eval a X.env) :: starEach [] X.env := by rfl) : FE X (.Call (.Name "all" p) [a] [] pos) (eUn dAll f) :=
  fe_call1 (cr_all c.calm) (fun x d G H vx Q e s h q _ => by
    obtain ⟨ns, h1, h2⟩ := Option.map_eq_some_iff.mp e
    subst h2
    obtain ⟨b, rfl, h3⟩ := boolsOf_ok s h1 h
    exact ⟨b, ns, rfl, h3, q _ (.bl _)⟩) hg hm (by decide +kernel) ha (by decide) (by decide) he
theorem fe_any {k : Nat} {f : EF} (c : Cc X k) (ha : FB X a f) (hm : X.mg "any" = none) (hg : Gl X "any" := by rfl) (he : starEach [a] X.env = (false, eval a X.env) :: starEach [] X.env := by rfl) : FE X (.Call (.Name "any" p) [a] [] pos) (eUn dAny f) :=
  fe_call1 (cr_any c.calm) (fun x d G H vx Q e s h q _ => by
    obtain ⟨ns, h1, h2⟩ := Option.map_eq_some_iff.mp e
    subst h2
    obtain ⟨b, rfl, h3⟩ := boolsOf_ok s h1 h
    exact ⟨b, ns, rfl, h3, q _ (.bl _)⟩) hg hm (by decide +kernel) ha (by decide) (by decide) he
def dTuple : D → Option D
  | .list xs => some (.tuple xs)
  | .tuple xs => some (.tuple xs)
  | _ => none
theorem fe_tuple {f : EF} (ha : FB X a f) (hm : X.mg "tuple" = none) (hg : Gl X "tuple" := by rfl) (he : starEach [a] X.env = (false, eval a X.env) :: starEach [] X.env := by rfl) : FE X (.Call (.Name "tuple" p) [a] [] pos) (eUn dTuple f) :=
  fe_callT1 call_tuple_of (fun x d G H vx Q e s h q qn => by
    unfold dTuple at e
    split at e
    · cases e
      obtain ⟨b, vs, rfl, h1, h2⟩ := vwLst s h
      exact ⟨b, vs, rfl, .inl ⟨SqL.of h1, fun l hn => qn _ l _ hn (.tup (SqT.of upd_same) (dvMonoAll (sameUpd (s.free hn)) _ _ h2))⟩⟩
    · cases e
      obtain ⟨b, vs, rfl, h1, h2⟩ := vwTup h
      exact ⟨b, vs, rfl, .inr ⟨seqT s h1, q _ (.tup h1 h2)⟩⟩
    · cases e) hg hm (by decide +kernel) ha (by decide) (by decide) he
def dList : D → Option (List D)
  | .list xs => some xs
  | .tuple xs => some xs
  | _ => none
theorem fo_list {f : EF} (ha : FB X a f) (hm : X.mg "list" = none) (hg : Gl X "list" := by rfl) (he : starEach [a] X.env = (false, eval a X.env) :: starEach [] X.env := by rfl) : FO X (.Call (.Name "list" p) [a] [] pos) (oUn dList f) :=
  fo_callT1 call_list_of (fun x ds G H vx Q e s h qn => by
    unfold dList at e
    split at e
    · cases e
      obtain ⟨b, vs, rfl, h1, h2⟩ := vwLst s h
      exact ⟨b, vs, rfl, .inl (SqL.of h1), fun l hn => qn l vs hn h2⟩
    · cases e
      obtain ⟨b, vs, rfl, h1, h2⟩ := vwTup h
      exact ⟨b, vs, rfl, .inr (seqT s h1), fun l hn => qn l vs hn h2⟩
    · cases e) hg hm (by decide +kernel) ha (by decide) (by decide) he
def dInt : D → Option D
  | .int i => some (.int i)
  | .bool b => some (.int (if b then 1 else 0))
  | _ => none
theorem fe_intc {f : EF} (ha : FB X a f) (hm : X.mg "int" = none) (hg : Gl X "int" := by rfl) (he : starEach [a] X.env = (false, eval a X.env) :: starEach [] X.env := by rfl) : FE X (.Call (.Name "int" p) [a] [] pos) (eUn dInt f) :=
  fe_callT1 call_int1 (fun x d G H vx Q e s h q qn => by
    unfold dInt at e
    split at e
    · cases e; rw [vwInt h]; exact .inl ⟨_, rfl, q _ (.int _)⟩
    · cases e; rw [vwBl h]; exact .inr ⟨_, rfl, q _ (.int _)⟩
    · cases e) hg hm (by decide +kernel) ha (by decide) (by decide) he
def dAbs : D → Option D
  | .int i => some (.int (if i < 0 then -i else i))
  | _ => none
theorem fe_abs {f : EF} (ha : FB X a f) (hm : X.mg "abs" = none) (hg : Gl X "abs" := by rfl) (he : starEach [a] X.env = (false, eval a X.env) :: starEach [] X.env := by rfl) : FE X (.Call (.Name "abs" p) [a] [] pos) (eUn dAbs f) :=
  fe_call1 call_abs (fun x d G H vx Q e s h q qn => by
    unfold dAbs at e
    split at e
    · cases e; rw [vwInt h]; exact ⟨_, rfl, q _ (.int _)⟩
    · cases e) hg hm (by decide +kernel) ha (by decide) (by decide) he
/-! ### isinstance of a value and a written built-in type -/
def tyOf : D → Option String
  | .none => some "NoneType"
  | .bool _ => some "bool"
  | .int _ => some "int"
  | .str _ => some "str"
  | .list _ => some "list"
  | .tuple _ => some "tuple"
  | .dict _ => none
theorem tyOf_ok {K : Frg} {G H : Hp} (s : Same G H) {v : V} {d : D} {n : String} (e : tyOf d = some n) (h : Vw K G H v d) : TyX K H v (.type n) := by
  unfold tyOf at e
  split at e
  · cases e; rw [vwNon h]; exact .base .non
  · cases e; rw [vwBl h]; exact .base (.bl _)
  · cases e; rw [vwInt h]; exact .base (.int _)
  · cases e; rw [vwStr h]; exact .base (.str _)
  · cases e
    obtain ⟨b, vs, rfl, h1, h2⟩ := vwLst s h
    exact .base (.lst h1)
  · cases e
    obtain ⟨b, vs, rfl, h1, h2⟩ := vwTup h
    rcases seqT s h1 with (h1 | ⟨o, h1⟩) | ⟨o, its, n, h1, h3, _⟩
    · exact .base (.tup h1)
    · exact .fTuple h1
    · exact .kTuple h1 h3
  · cases e
/-- the type's name, and its answer for each kind -/
def dIsi (g : D → Bool) : D → Option D := fun d => match d with
  | .dict _ => none
  | d => some (.bool (g d))
def isTup : D → Bool
  | .tuple _ => true
  | _ => false
def isLst : D → Bool
  | .list _ => true
  | _ => false
def isIntB : D → Bool
  | .int _ => true
  | .bool _ => true
  | _ => false
def isBool : D → Bool
  | .bool _ => true
  | _ => false
def isStr : D → Bool
  | .str _ => true
  | _ => false
theorem fe_isi {g : D → Bool} {n : Str} {N : String} {f : EF} {p2 : Pos} (hk : ∀ d t, tyOf d = some t → kitB t N = some (g d)) (ha : FE X a f) (hm : X.mg "isinstance" = none) (hm2 : X.mg n = none) (hv2 : bootBuiltins n = some (.type N)) (hg : Gl X "isinstance" := by rfl) (hg2 : Gl X n := by rfl)
    (hn : n ≠ "__name__" := by decide) (hdb : (n == ("__debug__" : Str)) = false := by decide)
    (he : starEach [a, .Name n p2] X.env = (false, eval a X.env) :: starEach [.Name n p2] X.env := by rfl) (he2 : starEach [.Name n p2] X.env = (false, eval (.Name n p2) X.env) :: starEach [] X.env := by rfl) (hpl : (backTo pos (starEach [.Name n p2] X.env)).any (·.1) = false := by rfl) : FE X (.Call (.Name "isinstance" p) [a, .Name n p2] [] pos) (eUn (dIsi g) f) :=
  ⟨PE.imp (pe_callB call_isi hg hm (by decide +kernel) (pa_cons ha.pe (pa_cons (pe_bltn (v := .ty N) hg2 hm2 hv2 rfl hn hdb) pa_nil he2) he) (by decide) (by decide) he hpl) fun σ H Q ⟨z, d, e', rp, hs, hH, hf, q⟩ => by
    subst hs hH
    obtain ⟨⟨x, e1⟩, h1, hf⟩ := Option.bind_eq_some_iff.mp hf
    obtain ⟨d', h3, hf⟩ := Option.map_eq_some_iff.mp hf
    cases hf
    refine ⟨z, x, _, rp, rfl, rfl, h1, fun vx z1 m1 r1 s1 ee1 p1 => ?_⟩
    show rIsi X.K [vx, .ty N] z1.H Q
    have key : ∀ t, tyOf x = some t → d = .bool (g x) → rIsi X.K [vx, .ty N] z1.H Q := fun t ht hd => by
      subst hd
      exact ⟨vx, .ty N, .type t, .type N, g x, rfl, .ty N, tyOf_ok r1.same ht (.inl p1), kit_ty (hk x t ht), q _ z1 m1 r1 s1 ee1 (.bl _)⟩
    cases x with
    | dict _ => cases h3
    | none => exact key _ rfl (Option.some.inj h3).symm
    | bool _ => exact key _ rfl (Option.some.inj h3).symm
    | int _ => exact key _ rfl (Option.some.inj h3).symm
    | str _ => exact key _ rfl (Option.some.inj h3).symm
    | list _ => exact key _ rfl (Option.some.inj h3).symm
    | tuple _ => exact key _ rfl (Option.some.inj h3).symm⟩
theorem kit_tup : ∀ d t, tyOf d = some t → kitB t "tuple" = some (isTup d) := fun d t h => by
  cases d <;> first | (cases h; show kitB _ _ = some true; decide +kernel) | (cases h; show kitB _ _ = some false; decide +kernel) | cases h
theorem kit_lst : ∀ d t, tyOf d = some t → kitB t "list" = some (isLst d) := fun d t h => by
  cases d <;> first | (cases h; show kitB _ _ = some true; decide +kernel) | (cases h; show kitB _ _ = some false; decide +kernel) | cases h
theorem kit_int : ∀ d t, tyOf d = some t → kitB t "int" = some (isIntB d) := fun d t h => by
  cases d <;> first | (cases h; show kitB _ _ = some true; decide +kernel) | (cases h; show kitB _ _ = some false; decide +kernel) | cases h
theorem kit_bool : ∀ d t, tyOf d = some t → kitB t "bool" = some (isBool d) := fun d t h => by
  cases d <;> first | (cases h; show kitB _ _ = some true; decide +kernel) | (cases h; show kitB _ _ = some false; decide +kernel) | cases h
theorem kit_str : ∀ d t, tyOf d = some t → kitB t "str" = some (isStr d) := fun d t h => by
  cases d <;> first | (cases h; show kitB _ _ = some true; decide +kernel) | (cases h; show kitB _ _ = some false; decide +kernel) | cases h
end
end
end Fl

set_option Elab.async false
set_option linter.all false
set_option maxRecDepth 100000
set_option maxHeartbeats 1000000
set_option autoImplicit false
/-! FnIter: subscripts, slices, what is walked, targets, comprehensions. -/
namespace Fl
open PySem PySem.Spec PyProof.Rows L2
section
variable {X : Cx} {pos : Pos}
/-! ### subscripts -/
def dIx : D → D → Option D
  | .list xs, .int i => atI xs i
  | .tuple xs, .int i => atI xs i
  | .str z, .int i => if z.length ≤ sizeLine then (atI z.cps.toList i).map fun c => .str ⟨#[c]⟩ else none
  | _, _ => none
theorem atI_all {K : Frg} {G : Hp} {vs : List V} {ds : List D} {i : Int} {d : D} (h : DvAll K G vs ds) (e : atI ds i = some d) : ∃ v, atI vs i = some v ∧ Dv K G v d := by
  unfold atI at e ⊢
  obtain ⟨j, h1, h2⟩ := Option.bind_eq_some_iff.mp e
  rw [dvAll_len h, h1]
  exact dvAll_get h h2
theorem ix_run {K : Frg} {x y d : D} {G H : Hp} {vx vy : V} {Q : VK} (e : dIx x y = some d) (s : Same G H) (h1 : Vw K G H vx x) (h2 : Vw K G H vy y) (q : ∀ v, Dv K G v d → Q v H) : rIx K vx vy H Q := by
  unfold dIx at e
  split at e
  · obtain ⟨a, vs, rfl, k1, k2⟩ := vwLst s h1
    obtain ⟨v, e1, e2⟩ := atI_all k2 e
    exact .inl ⟨_, _, _, v, rfl, vwInt h2, SqL.of k1, e1, q v e2⟩
  · obtain ⟨a, vs, rfl, k1, k2⟩ := vwTup h1
    obtain ⟨v, e1, e2⟩ := atI_all k2 e
    exact .inr (.inl ⟨_, _, _, v, rfl, vwInt h2, seqT s k1, e1, q v e2⟩)
  · split at e
    · rename_i hz
      obtain ⟨c, e1, e2⟩ := Option.map_eq_some_iff.mp e
      subst e2
      exact .inr (.inr ⟨_, _, c, vwStr h1, vwInt h2, hz, e1, q _ (.str _)⟩)
    · cases e
  · cases e
theorem fe_ix {a b : Expr} {fa fb : EF} (ha : FE X a fa) (hb : FE X b fb) (hs : PlainIx b := by intro _ _; rfl) : FE X (.Subscript a b pos) (eOp dIx fa fb) :=
  ⟨PE.imp (pe_ix ix_seq ha.pe (fb_fe hb).pb hs) fun σ H Q h => op_run (r := rIx X.K) (fun x y d G H vx vy Q e s h1 h2 q _ => ix_run e s (.inl h1) h2 q) h⟩
theorem vwSl {K : Frg} {G H : Hp} {v : V} {F : List Addr} {sl : Sl} {d : D} (h : SlOk K G H (some v) F sl) (e : vw sl = some d) : Vw K G H v d := by
  cases sl with
  | va dd => cases e; obtain ⟨_, w, e2, pw⟩ := h; cases e2; exact .inl pw
  | li xs => cases e; obtain ⟨a, vs, e2, k2, k3, k4, k5⟩ := h; cases e2; exact .inr ⟨a, vs, xs, rfl, rfl, k4, k5⟩
  | tn xs => cases e; obtain ⟨_, a, vs, o, e2, k2, _, k4⟩ := h; cases e2; exact .inl (.tup (.inl (.inr ⟨o, k2⟩)) k4)
  | no => cases e
  | di _ => cases e
  | dt _ => cases e
  | dl _ => cases e
  | ow _ => cases e
theorem slHas {K : Frg} {G H : Hp} {v : Option V} {F : List Addr} {sl : Sl} {d : D} (h : SlOk K G H v F sl) (e : vw sl = some d) : ∃ w, v = some w := by
  cases sl with
  | va dd => obtain ⟨_, w, e2, _⟩ := h; exact ⟨w, e2⟩
  | li xs => obtain ⟨a, vs, e2, _⟩ := h; exact ⟨_, e2⟩
  | tn xs => obtain ⟨_, a, vs, o, e2, _⟩ := h; exact ⟨_, e2⟩
  | no => cases e
  | di _ => cases e
  | dt _ => cases e
  | dl _ => cases e
  | ow _ => cases e
/-- a name's value now, and what is to be read at it later in the same expression -/
theorem Rp.has {K : Frg} {z : Z} (r : Rp K z) {i : Nat} {x : D} (h : z.e[i]?.bind vw = some x) : ∃ v, z.s[i]? = some (some v) ∧ Vw K z.G z.H v x := by
  obtain ⟨sl, h4, h5⟩ := Option.bind_eq_some_iff.mp h
  have so := r.ok i sl h4
  obtain ⟨w, hw⟩ := slHas so h5
  rw [hw] at so
  exact ⟨w, joinSome hw, vwSl so h5⟩
/-- an own list's (or any name's) item: the index first, then what stands there -/
def eIxO (i : Nat) (fb : EF) : EF := fun e => (e[i]?.bind vw).bind fun _ => (fb e).bind fun q => (q.2[i]?.bind vw).bind fun x => (dIx x q.1).map fun d => (d, q.2)
theorem fe_ixo {i : Nat} {x : Str} {p : Pos} {b : Expr} {fb : EF} (hN : X.N[i]? = some x) (hv : Vis X.env.scope x) (hb : FE X b fb) (hs : PlainIx b := by intro _ _; rfl) (hd : (x == ("__debug__" : Str)) = false := by decide) (hcd : (x == ("__classdict__" : Str)) = false := by decide) : FE X (.Subscript (.Name x p) b pos) (eIxO i fb) :=
  ⟨PE.imp (pe_ix ix_seq (pe_var hN hv hd hcd) hb.pe hs) fun σ H Q ⟨z, d, e', r, hs, hH, hf, q⟩ => by
    subst hs hH
    obtain ⟨_, h0, hf⟩ := Option.bind_eq_some_iff.mp hf
    obtain ⟨⟨k, e1⟩, h1, hf⟩ := Option.bind_eq_some_iff.mp hf
    obtain ⟨xd, h2, hf⟩ := Option.bind_eq_some_iff.mp hf
    obtain ⟨d', h3, hf⟩ := Option.map_eq_some_iff.mp hf
    cases hf
    obtain ⟨v, hv, _⟩ := r.has h0
    refine ⟨v, hv, z, k, _, r, rfl, rfl, h1, fun vk y m r2 s2 ee p => ?_⟩
    obtain ⟨v', hv', pv⟩ := r2.has (i := i) (x := xd) (by rw [ee]; exact h2)
    rw [s2, hv] at hv'
    cases hv'
    exact ix_run h3 r2.same pv (.inl p) fun w pw => q w y m r2 s2 ee pw⟩
/-! ### slices -/
abbrev PF := Ev → Option (Option Int × Ev)
def tP (K : Frg) (f : PF) : TO := fun σ H Q => ∃ z d e', Rp K z ∧ z.s = σ ∧ z.H = H ∧ f z.e = some (d, e') ∧ ∀ y, Mv z y → Rp K y → y.s = σ → y.e = e' → Q d y.H
structure FP (X : Cx) (e : Option Expr) (f : PF) : Prop where
  po : PO X e (tP X.K f)
theorem PO.imp {e : Option Expr} {t t' : TO} (h : PO X e t) (k : ∀ σ H Q, t' σ H Q → t σ H Q) : PO X e t' := ⟨fun pins s σ H Q I q => h.run pins s σ H Q I (k _ _ _ q)⟩
def pNo : PF := fun e => some (none, e)
def pSo (f : EF) : PF := fun e => (f e).bind fun p => match p.1 with
  | .int i => some (some i, p.2)
  | _ => none
theorem fp_no : FP X none pNo := ⟨PO.imp po_none fun σ H Q ⟨z, d, e', rp, hs, hH, hf, q⟩ => by
  subst hs hH
  cases hf
  exact q z (Mv.refl z) rp rfl rfl⟩
theorem fp_so {a : Expr} {f : EF} (h : FE X a f) : FP X (some a) (pSo f) := ⟨PO.imp (po_some h.pe) fun σ H Q ⟨z, d, e', rp, hs, hH, hf, q⟩ => by
  subst hs hH
  obtain ⟨⟨x, e1⟩, h1, hf⟩ := Option.bind_eq_some_iff.mp hf
  split at hf
  · rename_i i hx
    obtain rfl : x = _ := hx
    cases hf
    refine ⟨z, _, _, rp, rfl, rfl, h1, fun v y m r s2 ee p => ?_⟩
    cases p
    exact ⟨_, rfl, q y m r s2 ee⟩
  · cases hf⟩
/-- the items of xs[lo:hi] -/
def cutD {α : Type} (xs : List α) (lo hi : Option Int) : List α := (xs.drop (HT.sIx xs.length 0 lo)).take (HT.sIx xs.length xs.length hi - HT.sIx xs.length 0 lo)
theorem dvAll_cut {K : Frg} {G : Hp} {vs : List V} {ds : List D} (h : DvAll K G vs ds) (lo hi : Option Int) : DvAll K G (cutV vs lo hi) (cutD ds lo hi) := by
  unfold cutV cutD
  rw [dvAll_len h]
  exact dvAll_take _ (dvAll_drop _ h)
def dSl (lo hi : Option Int) : D → Option D
  | .list xs => some (.list (cutD xs lo hi))
  | .tuple xs => some (.tuple (cutD xs lo hi))
  | .str z => if z.length ≤ sizeLine then some (.str (cutS z lo hi)) else none
  | _ => none
def eSl (f : EF) (g h : PF) : EF := fun e => (f e).bind fun p => (g p.2).bind fun q => (h q.2).bind fun r => (dSl q.1 r.1 p.1).map fun d => (d, r.2)
theorem cut_all {α : Type} {xs : List α} {lo hi : Option Int} (h : HT.sIx xs.length 0 lo = 0 ∧ HT.sIx xs.length xs.length hi = xs.length) : cutD xs lo hi = xs := by
  unfold cutD
  rw [h.1, h.2]
  simp
theorem fe_sl {a : Expr} {lo hi : Option Expr} {p2 : Pos} {f : EF} {g h : PF} (ha : FE X a f) (hl : FP X lo g) (hh : FP X hi h) : FE X (.Subscript a (.Slice lo hi none p2) pos) (eSl f g h) :=
  ⟨PE.imp (pe_slice ((sl_list.or sl_tupA).or sl_str) ha.pe hl.po hh.po) fun σ H Q ⟨z, d, e', rp, hs, hH, hf, q⟩ => by
    subst hs hH
    obtain ⟨⟨x, e1⟩, h1, hf⟩ := Option.bind_eq_some_iff.mp hf
    obtain ⟨⟨l, e2⟩, h2, hf⟩ := Option.bind_eq_some_iff.mp hf
    obtain ⟨⟨u, e3⟩, h3, hf⟩ := Option.bind_eq_some_iff.mp hf
    obtain ⟨d', h4, hf⟩ := Option.map_eq_some_iff.mp hf
    cases hf
    refine ⟨z, x, e1, rp, rfl, rfl, h1, fun v y m r s2 ee p => ⟨y, l, e2, r, s2, rfl, by rw [ee]; exact h2, fun y2 m2 r2 s3 ee2 => ⟨y2, u, _, r2, s3, rfl, by rw [ee2]; exact h3, fun y3 m3 r3 s4 ee3 => ?_⟩⟩⟩
    have p3 := dvMono (m2.trans m3).g _ _ p
    have mm := (m.trans m2).trans m3
    have fin : ∀ v, Dv X.K y3.G v d → Q v y3.H := fun v pv => q v y3 mm r3 s4 ee3 pv
    have finN : ∀ v p o, y3.H p = none → Dv X.K (upd y3.G p o) v d → Q v (upd y3.H p o) := fun v p o hn pv => by
      obtain ⟨r5, m5⟩ := r3.add (o := o) hn
      exact q v (y3.add p o) (mm.trans m5) r5 s4 ee3 pv
    cases x with
    | list xs =>
      cases h4
      obtain ⟨a, vs, rfl, k1, k2⟩ := vwLst (H := y3.H) r3.same (.inl p3)
      exact .inl (.inl ⟨_, _, rfl, SqL.of k1, fun p hn => finN _ p _ hn (.lst upd_same (dvMonoAll (sameUpd (r3.same.free hn)) _ _ (dvAll_cut k2 _ _)))⟩)
    | tuple xs =>
      cases h4
      obtain ⟨a, vs, rfl, k1, k2⟩ := vwTup (H := y3.H) (.inl p3)
      refine .inl (.inr ⟨a, vs, rfl, seqT r3.same k1, fun hw => ?_, fun hw p hn => finN _ p _ hn (.tup (SqT.of upd_same) (dvMonoAll (sameUpd (r3.same.free hn)) _ _ (dvAll_cut k2 _ _)))⟩)
      refine fin _ ?_
      rw [dvAll_len k2] at hw
      rw [cut_all hw]
      exact .tup k1 k2
    | str z =>
      have h4' : (if z.length ≤ sizeLine then some (PyData.str (cutS z l u)) else none) = some d := h4
      split at h4'
      · rename_i hz
        cases h4'
        exact .inr ⟨_, vwStr (H := y3.H) (.inl p3), hz, fin _ (.str _)⟩
      · cases h4'
    | none => cases h4
    | bool _ => cases h4
    | int _ => cases h4
    | dict _ => cases h4⟩
end
end Fl

set_option Elab.async false
set_option linter.all false
set_option maxRecDepth 100000
set_option maxHeartbeats 1000000
set_option autoImplicit false
/-! FnComp: targets, what is walked, comprehensions. -/
namespace Fl
open PySem PySem.Spec PyProof.Rows L2
/-! ### targets -/
abbrev GF := D → Ev → Option Ev
/-- a target stores a value; ws: the slots it writes -/
def tG (K : Frg) (t : GF) (ws : List Nat) : TG := fun v σ H Q => ∃ z d e', Rp K z ∧ z.s = σ ∧ z.H = H ∧ Dv K z.G v d ∧ t d z.e = some e' ∧ ∀ y, Mv z y → Rp K y → y.e = e' → y.H = z.H → y.G = z.G → (∀ j : Nat, j ∉ ws → y.s[j]? = z.s[j]?) → Q y.s y.H
def tGs (K : Frg) (t : List D → Ev → Option Ev) (ws : List Nat) : TGs := fun vs σ H Q => ∃ z ds e', Rp K z ∧ z.s = σ ∧ z.H = H ∧ DvAll K z.G vs ds ∧ t ds z.e = some e' ∧ ∀ y, Mv z y → Rp K y → y.e = e' → y.H = z.H → y.G = z.G → (∀ j : Nat, j ∉ ws → y.s[j]? = z.s[j]?) → Q y.s y.H
structure FG (X : Cx) (e : Expr) (t : GF) (ws : List Nat) : Prop where
  pg : PG X e (tG X.K t ws)
structure FGs (X : Cx) (es : List Expr) (t : List D → Ev → Option Ev) (ws : List Nat) : Prop where
  pgs : PGs X es (tGs X.K t ws)
theorem PG.imp {X : Cx} {e : Expr} {t t' : TG} (h : PG X e t) (k : ∀ v σ H Q, t' v σ H Q → t v σ H Q) : PG X e t' := ⟨fun pins s σ H v u Q I r q => h.run pins s σ H v u Q I r (k _ _ _ _ q)⟩
theorem PGs.imp {X : Cx} {e : List Expr} {t t' : TGs} (h : PGs X e t) (k : ∀ v σ H Q, t' v σ H Q → t v σ H Q) : PGs X e t' := ⟨fun pins s σ H v u Q I r q => h.run pins s σ H v u Q I r (k _ _ _ _ q)⟩
/-- a slot gets a new content: σ gets v, e gets sl, whose footprint is Fr -/
def Z.put (z : Z) (i : Nat) (v : V) (sl : Sl) (Fr : List Addr) : Z := { z with s := z.s.set i (some v), e := z.e.set i sl, F := fun j => if j = i then (if i < z.e.length then Fr else []) else z.F j }
theorem Rp.put {K : Frg} {z : Z} (r : Rp K z) {i : Nat} {v : V} {sl : Sl} {Fr : List Addr} (ok : SlOk K z.G z.H (some v) Fr sl) (fr : ∀ a ∈ Fr, ∀ j, j ≠ i → a ∉ z.F j) : Rp K (z.put i v sl Fr) := by
  refine ⟨r.same, ?_, fun j s h => ?_, fun j h => ?_, fun j k a hjk hj hk => ?_⟩
  · show (z.s.set i (some v)).length = (z.e.set i sl).length
    rw [List.length_set, List.length_set]; exact r.len
  · have h' : (z.e.set i sl)[j]? = some s := h
    show SlOk K z.G z.H (((z.s.set i (some v))[j]?).join) (if j = i then (if i < z.e.length then Fr else []) else z.F j) s
    by_cases hji : j = i
    · subst hji
      have hl : j < z.e.length := by
        have := (List.getElem?_eq_some_iff.mp h').1
        rw [List.length_set] at this; exact this
      rw [List.getElem?_set_self hl] at h'
      cases h'
      rw [if_pos rfl, if_pos hl, List.getElem?_set_self (by rw [r.len]; exact hl)]
      exact ok
    · rw [if_neg hji, List.getElem?_set_ne (Ne.symm hji)]
      rw [List.getElem?_set_ne (Ne.symm hji)] at h'
      exact r.ok j s h'
  · have h' : z.e.length ≤ j := by
      have : (z.e.set i sl).length ≤ j := h
      rw [List.length_set] at this; exact this
    show (if j = i then (if i < z.e.length then Fr else []) else z.F j) = []
    by_cases hji : j = i
    · subst hji; rw [if_pos rfl, if_neg (by omega)]
    · rw [if_neg hji]; exact r.out j h'
  · have hj' : a ∈ (if j = i then (if i < z.e.length then Fr else []) else z.F j) := hj
    have hk' : a ∈ (if k = i then (if i < z.e.length then Fr else []) else z.F k) := hk
    by_cases h1 : j = i
    · rw [if_pos h1] at hj'
      rw [if_neg (fun h2 => hjk (h1.trans h2.symm))] at hk'
      split at hj'
      · exact fr a hj' k (fun h2 => hjk (h1.trans h2.symm)) hk'
      · cases hj'
    · rw [if_neg h1] at hj'
      by_cases h2 : k = i
      · rw [if_pos h2] at hk'
        split at hk'
        · exact fr a hk' j h1 hj'
        · cases hk'
      · rw [if_neg h2] at hk'
        exact r.sep j k a hjk hj' hk'
/-- .. seen from an earlier state, where the new footprint is fresh -/
theorem Mv.put {z0 z : Z} (m : Mv z0 z) {i : Nat} {v : V} {sl : Sl} {Fr : List Addr} (no : isOw z.e[i]? = false) (fr : ∀ a ∈ Fr, a ∈ z0.F i ∨ z0.H a = none) : Mv z0 (z.put i v sl Fr) := by
  refine ⟨m.out, m.dom, m.g, m.gn, fun j a h => ?_, fun j h => ?_, (List.length_set ..).trans m.ln⟩
  · have h' : a ∈ (if j = i then (if i < z.e.length then Fr else []) else z.F j) := h
    by_cases hji : j = i
    · rw [if_pos hji] at h'
      split at h'
      · rw [hji]; exact fr a h'
      · cases h'
    · rw [if_neg hji] at h'
      exact m.fn j a h'
  · obtain ⟨h1, h2⟩ := m.kp j h
    have hji : j ≠ i := fun e => by rw [e, no] at h1; cases h1
    show isOw (z.e.set i sl)[j]? = true ∧ (z.s.set i (some v))[j]? = z0.s[j]?
    rw [List.getElem?_set_ne (Ne.symm hji), List.getElem?_set_ne (Ne.symm hji)]
    exact ⟨h1, h2⟩
def gNm (i : Nat) : GF := fun d e => if isOw e[i]? then none else some (e.set i (.va d))
theorem fg_name {X : Cx} {pos : Pos} {i : Nat} {x : Str} (hN : X.N.Nodup) (hi : X.N[i]? = some x) (hx : Loc X.env.scope x) (hf : X.fn x = true ∨ X.env.scope.names.lookup x = some .local := by first | exact .inl rfl | exact .inr rfl | assumption) : FG X (.Name x pos) (gNm i) [i] :=
  ⟨PG.imp (pg_name hN hi hx hf) fun v σ H Q ⟨z, d, e', rp, hs, hH, hd, ht, q⟩ => by
    subst hs hH
    unfold gNm at ht
    split at ht
    · cases ht
    · rename_i no
      cases ht
      refine q (z.put i v (.va d) []) ((Mv.refl z).put (by simpa using no) fun _ h => nomatch h) (rp.put ⟨rfl, v, rfl, hd⟩ fun _ h => nomatch h) rfl rfl rfl fun j hj => ?_
      show (z.s.set i (some v))[j]? = z.s[j]?
      exact List.getElem?_set_ne (fun e => hj (by simp [e]))⟩
def gsNil : List D → Ev → Option Ev := fun ds e => match ds with
  | [] => some e
  | _ :: _ => none
def gsCons (t : GF) (u : List D → Ev → Option Ev) : List D → Ev → Option Ev := fun ds e => match ds with
  | [] => none
  | d :: r => (t d e).bind fun e1 => u r e1
section
variable {X : Cx} {pos : Pos}
theorem fgs_nil : FGs X [] gsNil [] := ⟨PGs.imp pgs_nil fun vs σ H Q ⟨z, ds, e', rp, hs, hH, hd, ht, q⟩ => by
  subst hs hH
  cases hd with
  | nil => cases ht; exact ⟨rfl, q z (Mv.refl z) rp rfl rfl rfl fun _ _ => rfl⟩
  | cons _ _ => cases ht⟩
theorem fgs_cons {a : Expr} {es : List Expr} {t : GF} {u : List D → Ev → Option Ev} {w1 w2 : List Nat} (h1 : FG X a t w1) (h2 : FGs X es u w2)
    (hs : (assignEach (a :: es) X.env).map (·.2) = assign a X.env :: (assignEach es X.env).map (·.2) := by rfl) : FGs X (a :: es) (gsCons t u) (w1 ++ w2) :=
  ⟨PGs.imp (pgs_cons h1.pg h2.pgs hs) fun vs σ H Q ⟨z, ds, e', rp, hs, hH, hd, ht, q⟩ => by
    subst hs hH
    cases hd with
    | nil => cases ht
    | cons k1 k2 =>
      obtain ⟨e1, t1, t2⟩ := Option.bind_eq_some_iff.mp ht
      refine ⟨_, _, rfl, z, _, e1, rp, rfl, rfl, k1, t1, fun y m r ee eH eG es => ?_⟩
      refine ⟨y, _, e', r, rfl, rfl, by rw [eG]; exact k2, by rw [ee]; exact t2, fun y2 m2 r2 ee2 eH2 eG2 es2 => ?_⟩
      refine q y2 (m.trans m2) r2 ee2 (eH2.trans eH) (eG2.trans eG) fun j hj => ?_
      rw [es2 j fun h => hj (List.mem_append_right _ h), es j fun h => hj (List.mem_append_left _ h)]⟩
def gTupF (t : List D → Ev → Option Ev) (n : Nat) : GF := fun d e => match d with
  | .tuple ds => if ds.length = n then t ds e else none
  | _ => none
theorem fg_tup {es : List Expr} {k n : Nat} {t : List D → Ev → Option Ev} {ws : List Nat} (hc : X.calm = true) (h : FGs X es t ws) (hn : (assignEach es X.env).length = n := by rfl) (hst : (assignEach es X.env).findIdx? (·.1) = none := by rfl) : FG X (.Tuple es k pos) (gTupF t n) ws :=
  ⟨PG.imp (pg_tup hc h.pgs hn hst) fun v σ H Q ⟨z, d, e', rp, hs, hH, hd, ht, q⟩ => by
    subst hs hH
    unfold gTupF at ht
    cases d with
    | tuple ds =>
      have ht' : (if ds.length = n then t ds z.e else none) = some e' := ht
      split at ht'
      · rename_i hl
        cases hd with
        | tup k1 k2 =>
          exact ⟨_, _, rfl, seqT rp.same k1, (dvAll_len k2).trans hl, z, ds, e', rp, rfl, rfl, k2, ht', q⟩
      · cases ht'
    | none => cases ht
    | bool _ => cases ht
    | int _ => cases ht
    | str _ => cases ht
    | list _ => cases ht
    | dict _ => cases ht⟩
end
/-! ### what is walked -/
/-- it gives the items ds one by one as long as G stands -/
def Itr (K : Frg) (J : It) (G : Hp) (ds : List D) : Prop := ∃ Gd Y, Walk J ds.length Gd Y ∧ (∀ H, Same G H → Gd H) ∧ ∀ i H x H', i < ds.length → Same G H → Y i H x H' →
  (H' = H ∧ ∃ d, ds[i]? = some d ∧ Dv K G x d) ∨ (∃ T vs es, x = .ref T ∧ H T = none ∧ H' = upd H T (.tup vs) ∧ ds[i]? = some (.tuple es) ∧ DvAll K G vs es)
def tI (K : Frg) (g : LF) : TI := fun σ H R => ∃ z ds e', Rp K z ∧ z.s = σ ∧ z.H = H ∧ g z.e = some (ds, e') ∧ ∀ J y, Mv z y → Rp K y → y.s = σ → y.e = e' → Itr K J y.G ds → R J y.H
structure FI (X : Cx) (tg it : Expr) (g : LF) : Prop where
  pi : PI X tg it (tI X.K g)
theorem PI.imp {X : Cx} {tg it : Expr} {t t' : TI} (h : PI X tg it t) (k : ∀ σ H R, t' σ H R → t σ H R) : PI X tg it t' := ⟨fun pins s σ H R I q => h.run pins s σ H R I (k _ _ _ q)⟩
theorem Itr.mono {K : Frg} {J : It} {G G' : Hp} {ds : List D} (h : Itr K J G ds) (s : Same G G') : Itr K J G' ds := by
  obtain ⟨Gd, Y, w, h1, h2⟩ := h
  refine ⟨Gd, Y, w, fun H k => h1 H (s.trans k), fun i H x H' hi k y => ?_⟩
  rcases h2 i H x H' hi (s.trans k) y with ⟨e, d, h3, h4⟩ | ⟨T, vs, es, h3, h4, h5, h6, h7⟩
  · exact .inl ⟨e, d, h3, dvMono s _ _ h4⟩
  · exact .inr ⟨T, vs, es, h3, h4, h5, h6, dvMonoAll s _ _ h7⟩
theorem itr_list {K : Frg} {G : Hp} {a : Addr} {vs : List V} {ds : List D} (h : G a = some (.lst vs)) (hd : DvAll K G vs ds) : Itr K (Itl K a) G ds := by
  refine ⟨_, _, by rw [← dvAll_len hd]; exact walk_list (K := K) (a := a) (xs := vs), fun H k => SqL.of (k _ _ h), fun i H x H' hi k y => ?_⟩
  obtain ⟨e, q⟩ := y
  obtain ⟨d, h1, h2⟩ := dvAll_getV hd q
  exact .inl ⟨e, d, h1, h2⟩
theorem itr_tup {K : Frg} {G : Hp} {a : Addr} {vs : List V} {ds : List D} (h : SqT K G a vs) (hd : DvAll K G vs ds) : Itr K (Itt K a) G ds := by
  refine ⟨_, _, by rw [← dvAll_len hd]; exact walk_tup (K := K) (a := a) (xs := vs), fun H k => seqT k h, fun i H x H' hi k y => ?_⟩
  obtain ⟨e, q⟩ := y
  obtain ⟨d, h1, h2⟩ := dvAll_getV hd q
  exact .inl ⟨e, d, h1, h2⟩
/-- lo, lo + 1, .. (n of them) -/
def rngD (lo : Int) (n : Nat) : List D := (List.range n).map fun i => .int (lo + (i : Nat))
theorem rngD_get {lo : Int} {n i : Nat} (h : i < n) : (rngD lo n)[i]? = some (.int (lo + (i : Nat))) := by
  unfold rngD; rw [List.getElem?_map, List.getElem?_range h]; rfl
theorem rngD_len (lo : Int) (n : Nat) : (rngD lo n).length = n := by unfold rngD; rw [List.length_map, List.length_range]
theorem itr_rng {K : Frg} {G : Hp} {lo : Int} {n : Nat} : Itr K (L2.Itr lo n) G (rngD lo n) := by
  refine ⟨_, _, by rw [rngD_len]; exact walk_range, fun _ _ => trivial, fun i H x H' hi k y => ?_⟩
  obtain ⟨e, q⟩ := y
  rw [rngD_len] at hi
  refine .inl ⟨e, _, rngD_get hi, ?_⟩
  rw [q]
  exact .int _
section
variable {X : Cx} {pos : Pos} {tg : Expr}
/-- a list's items (an expression that gives a list), a tuple's -/
def lOfL (f : EF) : LF := fun e => (f e).bind fun p => match p.1 with
  | .list xs => some (xs, p.2)
  | _ => none
def lOfT (f : EF) : LF := fun e => (f e).bind fun p => match p.1 with
  | .tuple xs => some (xs, p.2)
  | _ => none
theorem fi_list {a : Expr} {f : EF} (h : FE X a f) : FI X tg a (lOfL f) := ⟨PI.imp (pi_list h.pe) fun σ H R ⟨z, ds, e', rp, hs, hH, hf, q⟩ => by
  subst hs hH
  obtain ⟨⟨x, e1⟩, h1, hf⟩ := Option.bind_eq_some_iff.mp hf
  split at hf
  · rename_i xs hx
    obtain rfl : x = _ := hx
    cases hf
    refine ⟨z, _, _, rp, rfl, rfl, h1, fun v y m r s2 ee p => ?_⟩
    cases p with
    | lst k1 k2 => exact ⟨_, rfl, ⟨_, SqL.of (r.same _ _ k1)⟩, q _ y m r s2 ee (itr_list k1 k2)⟩
  · cases hf⟩
theorem fi_tup {a : Expr} {f : EF} (h : FE X a f) : FI X tg a (lOfT f) := ⟨PI.imp (pi_tup h.pe) fun σ H R ⟨z, ds, e', rp, hs, hH, hf, q⟩ => by
  subst hs hH
  obtain ⟨⟨x, e1⟩, h1, hf⟩ := Option.bind_eq_some_iff.mp hf
  split at hf
  · rename_i xs hx
    obtain rfl : x = _ := hx
    cases hf
    refine ⟨z, _, _, rp, rfl, rfl, h1, fun v y m r s2 ee p => ?_⟩
    cases p with
    | tup k1 k2 => exact ⟨_, rfl, ⟨_, seqT r.same k1⟩, q _ y m r s2 ee (itr_tup k1 k2)⟩
  · cases hf⟩
theorem iter_or {a : Expr} {t1 t2 : TI} (h1 : PI X tg a t1) (h2 : PI X tg a t2) : PI X tg a (fun σ H R => t1 σ H R ∨ t2 σ H R) := ⟨fun pins s σ H R I q => q.elim (h1.run pins s σ H R I) (h2.run pins s σ H R I)⟩
/-- .. of either; which one must be known ahead: by the function's value -/
def lOf (f : EF) : LF := fun e => (f e).bind fun p => match p.1 with
  | .tuple xs => some (xs, p.2)
  | .list xs => some (xs, p.2)
  | _ => none
theorem fi_seq {a : Expr} {f : EF} (h : FE X a f) : FI X tg a (lOf f) := ⟨PI.imp (iter_or (fi_list (tg := tg) h).pi (fi_tup (tg := tg) h).pi) fun σ H R ⟨z, ds, e', rp, hs, hH, hf, q⟩ => by
  subst hs hH
  obtain ⟨⟨x, e1⟩, h1, hf⟩ := Option.bind_eq_some_iff.mp hf
  cases x with
  | tuple xs =>
    have e2 : some (xs, e1) = some (ds, e') := hf
    cases e2
    exact .inr ⟨z, _, _, rp, rfl, rfl, by unfold lOfT; rw [h1]; rfl, q⟩
  | list xs =>
    have e2 : some (xs, e1) = some (ds, e') := hf
    cases e2
    exact .inl ⟨z, _, _, rp, rfl, rfl, by unfold lOfL; rw [h1]; rfl, q⟩
  | none => cases hf
  | bool _ => cases hf
  | int _ => cases hf
  | str _ => cases hf
  | dict _ => cases hf⟩
def lRng1 (f : EF) : LF := fun e => (f e).bind fun p => match p.1 with
  | .int j => if -(2 ^ 62) ≤ j ∧ j < 2 ^ 62 then some (rngD 0 j.toNat, p.2) else none
  | _ => none
theorem fi_rng1 {a : Expr} {f : EF} {p : Pos} (h : FE X a f) (hm : X.mg "range" = none) (hg : Gl X "range" := by rfl) (hs : starEach [a] X.env = [(false, eval a X.env)] := by rfl) (hs2 : starEach [a] X.env = (false, eval a X.env) :: starEach [] X.env := by rfl) : FI X tg (.Call (.Name "range" p) [a] [] pos) (lRng1 f) :=
  ⟨PI.imp (pi_range1 hg hm (pa_cons h.pe pa_nil hs2) hs) fun σ H R ⟨z, ds, e', rp, hz, hH, hf, q⟩ => by
    subst hz hH
    obtain ⟨⟨x, e1⟩, h1, hf⟩ := Option.bind_eq_some_iff.mp hf
    cases x with
    | int j =>
      have hf' : (if -(2 ^ 62) ≤ j ∧ j < 2 ^ 62 then some (rngD 0 j.toNat, e1) else none) = some (ds, e') := hf
      split at hf'
      · rename_i hc
        cases hf'
        refine ⟨z, _, _, rp, rfl, rfl, h1, fun v y m r s2 ee p => ?_⟩
        cases p
        exact ⟨j, rfl, hc.1, hc.2, q _ y m r s2 ee itr_rng⟩
      · cases hf'
    | tuple _ => cases hf
    | list _ => cases hf
    | none => cases hf
    | bool _ => cases hf
    | str _ => cases hf
    | dict _ => cases hf⟩
def lRng2 (f g : EF) : LF := fun e => (f e).bind fun p => (g p.2).bind fun q => match p.1, q.1 with
  | .int i, .int j => if (-(2 ^ 62) ≤ i ∧ i < 2 ^ 62) ∧ -(2 ^ 62) ≤ j ∧ j < 2 ^ 62 then some (rngD i (j - i).toNat, q.2) else none
  | _, _ => none
theorem fi_rng2 {a b : Expr} {f g : EF} {p : Pos} (h : FE X a f) (k : FE X b g) (hm : X.mg "range" = none) (hg : Gl X "range" := by rfl) (hs : starEach [a, b] X.env = [(false, eval a X.env), (false, eval b X.env)] := by rfl) (hs2 : starEach [b] X.env = [(false, eval b X.env)] := by rfl) (hs3 : starEach [a, b] X.env = (false, eval a X.env) :: starEach [b] X.env := by rfl) (hs4 : starEach [b] X.env = (false, eval b X.env) :: starEach [] X.env := by rfl) : FI X tg (.Call (.Name "range" p) [a, b] [] pos) (lRng2 f g) :=
  ⟨PI.imp (pi_range2 hg hm (pa_cons h.pe (pa_cons k.pe pa_nil hs4) hs3) hs hs2) fun σ H R ⟨z, ds, e', rp, hz, hH, hf, q⟩ => by
    subst hz hH
    obtain ⟨⟨x, e1⟩, h1, hf⟩ := Option.bind_eq_some_iff.mp hf
    obtain ⟨⟨x2, e2⟩, h2, hf⟩ := Option.bind_eq_some_iff.mp hf
    split at hf
    · rename_i i j hx hx2
      obtain rfl : x = _ := hx
      obtain rfl : x2 = _ := hx2
      split at hf
      · rename_i hc
        cases hf
        refine ⟨z, _, _, rp, rfl, rfl, h1, fun v y m r s2 ee p => ⟨y, _, _, r, s2, rfl, by rw [ee]; exact h2, fun v2 y2 m2 r2 s3 ee2 p2 => ?_⟩⟩
        cases p; cases p2
        exact ⟨i, j, rfl, ⟨hc.1.1, hc.1.2, hc.2.1, hc.2.2⟩, q _ y2 (m.trans m2) r2 s3 ee2 itr_rng⟩
      · cases hf
    · cases hf⟩
end
end Fl

set_option Elab.async false
set_option linter.all false
set_option maxRecDepth 100000
set_option maxHeartbeats 1000000
set_option autoImplicit false
/-! FnLc: list comprehensions. -/
namespace Fl
open PySem PySem.Spec PyProof.Rows L2
/-- slots forgotten -/
def wipeE (e : Ev) : List Nat → Ev
  | [] => e
  | v :: vs => (wipeE e vs).set v .no
theorem wipeE_len (e : Ev) : ∀ vs : List Nat, (wipeE e vs).length = e.length
  | [] => rfl
  | v :: vs => by unfold wipeE; rw [List.length_set, wipeE_len e vs]
theorem wipeE_get (e : Ev) : ∀ (vs : List Nat) (i : Nat), (wipeE e vs)[i]? = if i ∈ vs ∧ i < e.length then some .no else e[i]?
  | [], i => by rw [if_neg (fun h => nomatch h.1)]; rfl
  | v :: vs, i => by
    unfold wipeE
    by_cases hv : v = i
    · subst hv
      by_cases hl : v < e.length
      · rw [List.getElem?_set_self (by rw [wipeE_len]; exact hl), if_pos ⟨List.mem_cons_self, hl⟩]
      · rw [if_neg (fun h => hl h.2), List.getElem?_eq_none (by rw [List.length_set, wipeE_len]; omega), List.getElem?_eq_none (by omega)]
    · rw [List.getElem?_set_ne hv, wipeE_get e vs i]
      by_cases h : i ∈ vs ∧ i < e.length
      · rw [if_pos h, if_pos ⟨List.mem_cons_of_mem _ h.1, h.2⟩]
      · rw [if_neg h, if_neg (fun q => h ⟨(List.mem_cons.mp q.1).elim (fun z => absurd z.symm hv) (fun z => z), q.2⟩)]
theorem wipe_get (σ : L2.St) : ∀ (vs : List Nat) (i : Nat), (wipe σ vs)[i]? = if i ∈ vs ∧ i < σ.length then some none else σ[i]?
  | [], i => by rw [if_neg (fun h => nomatch h.1)]; rfl
  | v :: vs, i => by
    unfold wipe
    by_cases hv : v = i
    · subst hv
      by_cases hl : v < σ.length
      · rw [List.getElem?_set_self (by rw [wipe_length]; exact hl), if_pos ⟨List.mem_cons_self, hl⟩]
      · rw [if_neg (fun h => hl h.2), List.getElem?_eq_none (by rw [List.length_set, wipe_length]; omega), List.getElem?_eq_none (by omega)]
    · rw [List.getElem?_set_ne hv, wipe_get σ vs i]
      by_cases h : i ∈ vs ∧ i < σ.length
      · rw [if_pos h, if_pos ⟨List.mem_cons_of_mem _ h.1, h.2⟩]
      · rw [if_neg h, if_neg (fun q => h ⟨(List.mem_cons.mp q.1).elim (fun z => absurd z.symm hv) (fun z => z), q.2⟩)]
def Z.wipe (z : Z) (vs : List Nat) : Z := { z with s := L2.wipe z.s vs, e := wipeE z.e vs, F := fun i => if i ∈ vs then [] else z.F i }
theorem Rp.wipe {K : Frg} {z : Z} (r : Rp K z) (vs : List Nat) : Rp K (z.wipe vs) := by
  refine ⟨r.same, ?_, fun i s h => ?_, fun i h => ?_, fun i j a hij hi hj => ?_⟩
  · show (L2.wipe z.s vs).length = (wipeE z.e vs).length
    rw [wipe_length, wipeE_len]; exact r.len
  · have h' : (wipeE z.e vs)[i]? = some s := h
    show SlOk K z.G z.H (((L2.wipe z.s vs)[i]?).join) (if i ∈ vs then [] else z.F i) s
    rw [wipeE_get] at h'
    rw [wipe_get]
    by_cases hv : i ∈ vs
    · rw [if_pos hv]
      by_cases hl : i < z.e.length
      · rw [if_pos ⟨hv, hl⟩] at h'
        cases h'
        rfl
      · rw [if_neg (fun q => hl q.2), List.getElem?_eq_none (by omega)] at h'
        cases h'
    · rw [if_neg hv]
      rw [if_neg (fun q => hv q.1)] at h' ⊢
      exact r.ok i s h'
  · have h' : (wipeE z.e vs).length ≤ i := h
    rw [wipeE_len] at h'
    show (if i ∈ vs then [] else z.F i) = []
    split
    · rfl
    · exact r.out i h'
  · have hi' : a ∈ (if i ∈ vs then [] else z.F i) := hi
    have hj' : a ∈ (if j ∈ vs then [] else z.F j) := hj
    split at hi'
    · cases hi'
    · split at hj'
      · cases hj'
      · exact r.sep i j a hij hi' hj'
/-- forgetting, seen from an earlier state that has no pinned thing in these slots -/
theorem Mv.wipe {z0 z : Z} (m : Mv z0 z) {vs : List Nat} (no : ∀ i ∈ vs, isOw z0.e[i]? = false) : Mv z0 (z.wipe vs) := by
  refine ⟨m.out, m.dom, m.g, m.gn, fun i a h => ?_, fun i h => ?_, (wipeE_len _ _).trans m.ln⟩
  · have h' : a ∈ (if i ∈ vs then [] else z.F i) := h
    split at h'
    · cases h'
    · exact m.fn i a h'
  · have hv : i ∉ vs := fun q => by rw [no i q] at h; cases h
    obtain ⟨h1, h2⟩ := m.kp i h
    show isOw (wipeE z.e vs)[i]? = true ∧ (L2.wipe z.s vs)[i]? = z0.s[i]?
    rw [wipeE_get, wipe_get, if_neg (fun q => hv q.1), if_neg (fun q => hv q.1)]
    exact ⟨h1, h2⟩
/-- slots as they were before -/
def backE (b e : Ev) : List Nat → Ev
  | [] => e
  | v :: vs => (backE b e vs).set v ((b[v]?).getD .no)
theorem backE_len (b e : Ev) : ∀ vs : List Nat, (backE b e vs).length = e.length
  | [] => rfl
  | v :: vs => by unfold backE; rw [List.length_set, backE_len b e vs]
theorem backE_get (b e : Ev) : ∀ (vs : List Nat) (i : Nat), (backE b e vs)[i]? = if i ∈ vs ∧ i < e.length then some ((b[i]?).getD .no) else e[i]?
  | [], i => by rw [if_neg (fun h => nomatch h.1)]; rfl
  | v :: vs, i => by
    unfold backE
    by_cases hv : v = i
    · subst hv
      by_cases hl : v < e.length
      · rw [List.getElem?_set_self (by rw [backE_len]; exact hl), if_pos ⟨List.mem_cons_self, hl⟩]
      · rw [if_neg (fun h => hl h.2), List.getElem?_eq_none (by rw [List.length_set, backE_len]; omega), List.getElem?_eq_none (by omega)]
    · rw [List.getElem?_set_ne hv, backE_get b e vs i]
      by_cases h : i ∈ vs ∧ i < e.length
      · rw [if_pos h, if_pos ⟨List.mem_cons_of_mem _ h.1, h.2⟩]
      · rw [if_neg h, if_neg (fun q => h ⟨(List.mem_cons.mp q.1).elim (fun z => absurd z.symm hv) (fun z => z), q.2⟩)]
/-- one clause: the items one by one -/
def compL (t : GF) (c : BF) (f : EF) (vs : List Nat) : List D → Ev → Option (List D × Ev)
  | [], e => some ([], e)
  | d :: ds, e => (t d e).bind fun e1 => (c e1).bind fun p => if p.1 = true then (f p.2).bind fun q => (compL t c f vs ds (wipeE q.2 vs)).map fun r => (q.1 :: r.1, r.2) else compL t c f vs ds (wipeE p.2 vs)
def oComp (g : LF) (t : GF) (c : BF) (f : EF) (vs : List Nat) : OF := fun e => (g e).bind fun p => if p.1.length ≤ sizeLine ∧ (vs.all fun i => !isOw p.2[i]?) = true then (compL t c f vs p.1 (wipeE p.2 vs)).map fun r => (.li r.1, backE p.2 r.2 vs) else none
def bYes : BF := fun e => some (true, e)
/-- a clause's tests -/
structure FTs (X : Cx) (ifs : List Expr) (c : BF) : Prop where
  pts : PTs X ifs (tT X.K c)
theorem PTs.imp {X : Cx} {e : List Expr} {t t' : TT} (h : PTs X e t) (k : ∀ σ H Q, t' σ H Q → t σ H Q) : PTs X e t' := ⟨fun pins s σ H Q I q => h.run pins s σ H Q I (k _ _ _ q)⟩
theorem fts_nil {X : Cx} : FTs X [] bYes := ⟨PTs.imp pts_nil fun σ H Q ⟨z, d, e', rp, hs, hH, hf, q⟩ => by
  subst hs hH
  cases hf
  exact q z (Mv.refl z) rp rfl rfl⟩
theorem fts_one {X : Cx} {a : Expr} {c : BF} (h : FT X a c) : FTs X [a] c := ⟨pts_one h.pt⟩
theorem wipe_eq {σ σ' : L2.St} {vs ws : List Nat} (hl : σ'.length = σ.length) (h : ∀ j : Nat, j ∉ ws → σ'[j]? = σ[j]?) (hw : ∀ j ∈ ws, j ∈ vs) : L2.wipe σ' vs = L2.wipe σ vs := by
  apply List.ext_getElem?
  intro i
  rw [wipe_get, wipe_get, hl]
  by_cases hv : i ∈ vs
  · by_cases hi : i < σ.length
    · rw [if_pos ⟨hv, hi⟩, if_pos ⟨hv, hi⟩]
    · rw [if_neg (fun q => hi q.2), if_neg (fun q => hi q.2), List.getElem?_eq_none (by omega), List.getElem?_eq_none (by omega)]
  · rw [if_neg (fun q => hv q.1), if_neg (fun q => hv q.1)]
    exact h i fun q => hv (hw i q)
theorem wipe_wipe (σ : L2.St) (vs : List Nat) : L2.wipe (L2.wipe σ vs) vs = L2.wipe σ vs := wipe_eq (ws := vs) (wipe_length _ _) (fun j hj => by rw [wipe_get, if_neg (fun q => hj q.1)]) fun _ h => h
/-- a list of the heap alone is written -/
theorem Rp.write {K : Frg} {z y : Z} (r : Rp K y) {a : Addr} {o o' : HO} (h1 : y.H a = some o') (h2 : y.G a = none) (h3 : ∀ j, a ∉ y.F j) (m : Mv z y) (hn : z.H a = none) : Rp K { y with H := upd y.H a o } ∧ Mv z { y with H := upd y.H a o } := by
  refine ⟨⟨fun b x e => ?_, r.len, fun i s e => slFrame (r.ok i s e) (Same.refl _) (fun b hb => upd_ne (memNe (h3 i) hb)) fun b hb => (r.live hb).1, r.out, r.sep⟩, ⟨fun b u e hf => ?_, fun b hb => upd_none (m.dom b hb), m.g, m.gn, m.fn, m.kp, m.ln⟩⟩
  · show upd y.H a o b = some x
    rw [upd_ne (ne_of_none e h2)]; exact r.same _ _ e
  · show upd y.H a o b = some u
    rw [upd_ne (ne_of_none e hn)]; exact m.out b u e hf
section
variable {X : Cx} {pos : Pos}
theorem lc_run {K : Frg} {J : It} {y0 : Z} {ds : List D} {t : GF} {ws vs : List Nat} {c : BF} {f : EF} {xs : List D} {eN : Ev} {D0 : Addr} {Qd : Hp → Prop} {σ : L2.St}
    (r0 : Rp K y0) (hσ : L2.wipe σ vs = y0.s) (he : ∀ i ∈ vs, i < y0.e.length → y0.e[i]? = some .no) (hJ : Itr K J y0.G ds) (hws : ∀ j ∈ ws, j ∈ vs) (hlen : ds.length ≤ sizeLine) (hD : y0.H D0 = none)
    (hc : compL t c f vs ds y0.e = some (xs, eN))
    (hd : ∀ y ws', Mv y0 y → Rp K y → y.s = y0.s → y.e = eN → y.H D0 = some (.lst ws') → y.G D0 = none → (∀ j, D0 ∉ y.F j) → DvAll K y.G ws' xs → (∀ i ∈ vs, i < y.e.length → y.e[i]? = some .no) → Qd y.H) :
    ∃ W : Nat → Nat → Hp → Prop, (∃ m, W 0 m (upd y0.H D0 (.lst []))) ∧ ∀ i m H, W i m H →
      (J.stop i H ∧ Qd H) ∨ (J.go i H ∧ ∃ Nx : Hp → Prop, (∀ H', Nx H' → ∃ m', m' < m ∧ W (i + 1) m' H') ∧ ∀ x H', J.yld i H x H' → tG K t ws x (L2.wipe σ vs) H' fun σ2 H2 => L2.wipe σ2 vs = L2.wipe σ vs ∧ tT K c σ2 H2 fun b H3 =>
        if b = true then tE K f σ2 H3 fun y H4 => ∃ acc, H4 D0 = some (.lst acc) ∧ acc.length < sizeLine ∧ Nx (upd H4 D0 (.lst (acc ++ [y]))) else Nx H3) := by
  obtain ⟨Gd, Y, w, hG1, hG2⟩ := hJ
  obtain ⟨rn, mn⟩ := r0.new (o := .lst []) hD
  have hvs : ∀ i ∈ vs, isOw y0.e[i]? = false := fun i hi => by
    by_cases hl : i < y0.e.length
    · rw [he i hi hl]; rfl
    · rw [List.getElem?_eq_none (by omega)]; rfl
  refine lc_it w (fun i H => ∃ y acc don, y.H = H ∧ Rp K y ∧ y.s = y0.s ∧ Mv y0 y ∧ y.H D0 = some (.lst acc) ∧ y.G D0 = none ∧ (∀ j, D0 ∉ y.F j) ∧ DvAll K y.G acc don ∧ acc.length ≤ i ∧
    (∀ i ∈ vs, i < y.e.length → y.e[i]? = some .no) ∧ ∃ xs', compL t c f vs (ds.drop i) y.e = some (xs', eN) ∧ don ++ xs' = xs) ?_ ?_ ?_ ?_
  · exact ⟨y0.new D0 (.lst []), [], [], rfl, rn, rfl, mn, upd_same, (r0.fresh hD).1, (r0.fresh hD).2, .nil, Nat.le_refl _, he, xs, hc, rfl⟩
  · rintro i H hi ⟨y, acc, don, rfl, r, _, m, _⟩
    exact hG1 _ (m.g.trans r.same)
  · rintro i x H H' hi ⟨y, acc, don, rfl, r, hs, m, hD1, hD2, hD3, hA, hl, hno, xs', hcl, hxs⟩ hy
    have hsm : Same y0.G y.H := m.g.trans r.same
    -- the state with the item
    obtain ⟨y1, d, r1, m1, s1, e1, hH1, hdi, hdv, hD1', hD2', hD3', hA'⟩ : ∃ (y1 : Z) (d : D), Rp K y1 ∧ Mv y y1 ∧ y1.s = y.s ∧ y1.e = y.e ∧ y1.H = H' ∧ ds[i]? = some d ∧ Dv K y1.G x d ∧ y1.H D0 = some (.lst acc) ∧ y1.G D0 = none ∧ (∀ j, D0 ∉ y1.F j) ∧ DvAll K y1.G acc don := by
      rcases hG2 i y.H x H' hi hsm hy with ⟨e, d, h3, h4⟩ | ⟨T, tv, es, h3, h4, h5, h6, h7⟩
      · exact ⟨y, d, r, Mv.refl y, rfl, rfl, e.symm, h3, dvMono m.g _ _ h4, hD1, hD2, hD3, hA⟩
      · obtain ⟨ra, ma⟩ := r.add (o := .tup tv) h4
        have hne : D0 ≠ T := ne_of_none hD1 h4
        refine ⟨y.add T (.tup tv), .tuple es, ra, ma, rfl, rfl, h5.symm, h6, ?_, ?_, ?_, hD3, dvMonoAll ma.g _ _ hA⟩
        · rw [h3]
          exact .tup (SqT.of upd_same) (dvMonoAll (m.g.trans ma.g) _ _ h7)
        · show upd y.H T (.tup tv) D0 = _
          rw [upd_ne hne]; exact hD1
        · show upd y.G T (.tup tv) D0 = none
          rw [upd_ne hne]; exact hD2
    have hdrop : ds.drop i = d :: ds.drop (i + 1) := by
      obtain ⟨h1, h2⟩ := List.getElem?_eq_some_iff.mp hdi
      rw [← h2, List.drop_eq_getElem_cons h1]
    rw [hdrop] at hcl
    unfold compL at hcl
    obtain ⟨ea, ht, hcl⟩ := Option.bind_eq_some_iff.mp hcl
    obtain ⟨⟨b, eb⟩, hcc, hcl⟩ := Option.bind_eq_some_iff.mp hcl
    refine ⟨y1, d, ea, r1, by rw [s1, hs, hσ], hH1, hdv, by rw [e1]; exact ht, fun y2 m2 r2 e2 eH2 eG2 es2 => ⟨?_, ?_⟩⟩
    · rw [wipe_eq (σ := y1.s) (ws := ws) (by rw [r2.len, r1.len, m2.ln]) es2 hws, s1, hs, ← hσ, wipe_wipe]
    · have mm := (m.trans m1).trans m2
      refine ⟨y2, b, eb, r2, rfl, rfl, by rw [e2]; exact hcc, fun y3 m3 r3 s3 e3 => ?_⟩
      have keep : ∀ {p q : Z}, Mv p q → p.H D0 = some (.lst acc) → p.G D0 = none → (∀ j, D0 ∉ p.F j) → q.H D0 = some (.lst acc) ∧ q.G D0 = none ∧ (∀ j, D0 ∉ q.F j) := fun {p q} mv h1 h2 h3 =>
        ⟨mv.out _ _ h1 h3, (mv.gn _ (by rw [h1]; exact nofun) h3).trans h2, fun j hj => (mv.fn j _ hj).elim (h3 j) fun z => by rw [h1] at z; cases z⟩
      obtain ⟨k1, k2, k3⟩ := keep m2 hD1' hD2' hD3'
      obtain ⟨k1, k2, k3⟩ := keep m3 k1 k2 k3
      have hs3 : L2.wipe y3.s vs = y0.s := by
        rw [s3, wipe_eq (σ := y1.s) (ws := ws) (by rw [r2.len, r1.len, m2.ln]) es2 hws, s1, hs, ← hσ, wipe_wipe]
      cases b with
      | false =>
        have hcl' : compL t c f vs (ds.drop (i + 1)) (wipeE eb vs) = some (xs', eN) := hcl
        refine iteF ⟨y3.wipe vs, acc, don, rfl, r3.wipe vs, hs3, (mm.trans m3).wipe hvs, k1, k2, fun j hj => ?_, dvMonoAll (m2.g.trans m3.g) _ _ hA', by omega, fun j hj hjl => ?_, xs', ?_, hxs⟩
        · have hj' : D0 ∈ (if j ∈ vs then [] else y3.F j) := hj
          split at hj'
          · cases hj'
          · exact k3 j hj'
        · show (wipeE y3.e vs)[j]? = some .no
          rw [wipeE_get, if_pos ⟨hj, by have : j < (wipeE y3.e vs).length := hjl
                                        rw [wipeE_len] at this; exact this⟩]
        · show compL t c f vs (ds.drop (i + 1)) (wipeE y3.e vs) = some (xs', eN)
          rw [e3]; exact hcl'
      | true =>
        obtain ⟨⟨dv, ef⟩, hff, hcl⟩ := Option.bind_eq_some_iff.mp (show ((f eb).bind fun q => (compL t c f vs (ds.drop (i + 1)) (wipeE q.2 vs)).map fun r => (q.1 :: r.1, r.2)) = some (xs', eN) from hcl)
        obtain ⟨⟨xr, er⟩, hcr, hcl⟩ := Option.map_eq_some_iff.mp hcl
        cases hcl
        refine iteT ⟨y3, dv, ef, r3, s3, rfl, by rw [e3]; exact hff, fun v y4 m4 r4 s4 e4 p4 => ?_⟩
        obtain ⟨k1, k2, k3⟩ := keep m4 k1 k2 k3
        refine ⟨acc, k1, by have := (List.getElem?_eq_some_iff.mp hdi).1; omega, ?_⟩
        -- the list grows
        obtain ⟨r5, m5⟩ := r4.write (o := .lst (acc ++ [v])) k1 k2 k3 ((mm.trans m3).trans m4) hD
        refine ⟨Z.wipe { y4 with H := upd y4.H D0 (.lst (acc ++ [v])) } vs, acc ++ [v], don ++ [dv], rfl, r5.wipe vs, ?_, m5.wipe hvs, upd_same, k2, fun j hj => ?_, dvAll_app (dvMonoAll ((m2.g.trans m3.g).trans m4.g) _ _ hA') (dvAll_one p4), by rw [List.length_append]; simp; omega, fun j hj hjl => ?_, xr, ?_, by rw [List.append_assoc]; exact hxs⟩
        · show L2.wipe y4.s vs = y0.s
          rw [s4, ← s3]; exact hs3
        · have hj' : D0 ∈ (if j ∈ vs then [] else y4.F j) := hj
          split at hj'
          · cases hj'
          · exact k3 j hj'
        · show (wipeE y4.e vs)[j]? = some .no
          rw [wipeE_get, if_pos ⟨hj, by have : j < (wipeE y4.e vs).length := hjl
                                        rw [wipeE_len] at this; exact this⟩]
        · show compL t c f vs (ds.drop (i + 1)) (wipeE y4.e vs) = some (xr, _)
          rw [e4]; exact hcr
  · rintro H ⟨y, acc, don, rfl, r, hs, m, hD1, hD2, hD3, hA, hl, hno, xs', hcl, hxs⟩
    rw [List.drop_length] at hcl
    unfold compL at hcl
    cases hcl
    rw [List.append_nil] at hxs
    subst hxs
    exact hd y acc m r hs rfl hD1 hD2 hD3 hA hno
/-- what tLc asks, by a plain function -/
theorem lc_tO {K : Frg} {wi : TI} {gl : LF} {t : GF} {ws vs : List Nat} {cf : BF} {f : EF} {σ : L2.St} {H : Hp} {Q : VK} (hwi : ∀ σ H R, tI K gl σ H R → wi σ H R) (hws : ∀ j ∈ ws, j ∈ vs) (q : tO K (oComp gl t cf f vs) σ H Q) : tLc wi (tG K t ws) (tT K cf) (tE K f) vs σ H Q := by
  obtain ⟨z, r0, e', rp, hs, hH, hf, q⟩ := q
  subst hs hH
  obtain ⟨⟨ds, e1'⟩, h1, hf⟩ := Option.bind_eq_some_iff.mp hf
  split at hf
  · rename_i hc
    obtain ⟨⟨xs, eN⟩, h2, hf⟩ := Option.map_eq_some_iff.mp hf
    cases hf
    refine hwi _ _ _ ⟨z, ds, e1', rp, rfl, rfl, h1, fun J y m r s2 ee it D0 hn => ?_⟩
    have hno : ∀ i ∈ vs, isOw y.e[i]? = false := fun i hi => by
      have := List.all_eq_true.mp hc.2 i hi
      rw [ee]
      simpa using this
    have h2' : compL t cf f vs ds (y.wipe vs).e = some (xs, eN) := by
      show compL t cf f vs ds (wipeE y.e vs) = some (xs, eN)
      rw [ee]; exact h2
    have := lc_run (y0 := y.wipe vs) (σ := z.s) (Qd := fun H => Q (.ref D0) H) (J := J) (D0 := D0) (r.wipe vs) (by show L2.wipe z.s vs = L2.wipe y.s vs; rw [s2]) (fun i hi hl => by
        have hl' : i < (wipeE y.e vs).length := hl
        rw [wipeE_len] at hl'
        show (wipeE y.e vs)[i]? = some .no
        rw [wipeE_get, if_pos ⟨hi, hl'⟩]) (show Itr K J y.G ds from it) hws hc.1 (show y.H D0 = none from hn) h2' (fun u wl mu ru su eu hu1 hu2 hu3 hu4 hu5 => ?_)
    · exact this
    · -- back at the slots as they were
      have e1 : ∀ i : Nat, i ∉ vs → u.s[i]? = z.s[i]? := fun i hi => by
        rw [su]
        show (L2.wipe y.s vs)[i]? = z.s[i]?
        rw [wipe_get, if_neg (fun q => hi q.1), s2]
      have hlen : u.e.length = y.e.length := by
        rw [mu.ln]
        show (wipeE y.e vs).length = y.e.length
        rw [wipeE_len]
      have uF : ∀ (i : Nat) (a : Addr), a ∈ u.F i → (i ∉ vs ∧ a ∈ y.F i) ∨ y.H a = none := fun i a ha => by
        rcases mu.fn i a ha with h | h
        · have h' : a ∈ (if i ∈ vs then [] else y.F i) := h
          split at h'
          · cases h'
          · rename_i hi; exact .inl ⟨hi, h'⟩
        · exact .inr h
      have yH : ∀ (i : Nat) (a : Addr), i ∈ vs → a ∈ y.F i → u.H a = y.H a ∧ u.G a = none := fun i a hi ha => by
        obtain ⟨l1, l2⟩ := r.live ha
        have nin : ∀ j, a ∉ (y.wipe vs).F j := fun j hj => by
          have hj' : a ∈ (if j ∈ vs then [] else y.F j) := hj
          split at hj'
          · cases hj'
          · rename_i hjv
            exact r.sep i j a (fun e => hjv (e ▸ hi)) ha hj'
        refine ⟨?_, (mu.gn a l2 nin).trans l1⟩
        cases hq : y.H a with
        | none => exact absurd hq l2
        | some o => exact mu.out a o hq nin
      have ru' : Rp K { u with s := z.s, e := backE y.e u.e vs, F := fun i => if i ∈ vs then y.F i else u.F i } := by
        refine ⟨ru.same, ?_, fun i s h => ?_, fun i h => ?_, fun i j a hij hi hj => ?_⟩
        · show z.s.length = (backE y.e u.e vs).length
          rw [backE_len, ← s2, r.len, hlen]
        · have h' : (backE y.e u.e vs)[i]? = some s := h
          show SlOk K u.G u.H ((z.s[i]?).join) (if i ∈ vs then y.F i else u.F i) s
          rw [backE_get] at h'
          by_cases hi : i ∈ vs
          · rw [if_pos hi]
            by_cases hl : i < u.e.length
            · rw [if_pos ⟨hi, hl⟩] at h'
              cases hq : y.e[i]? with
              | none => rw [List.getElem?_eq_none_iff] at hq; omega
              | some sl =>
                rw [hq] at h'
                cases h'
                rw [← s2]
                exact slFrame (r.ok i _ hq) mu.g (fun a ha => (yH i a hi ha).1) fun a ha => (yH i a hi ha).2
            · rw [if_neg (fun q => hl q.2), List.getElem?_eq_none (by omega)] at h'
              cases h'
          · rw [if_neg hi]
            rw [if_neg (fun q => hi q.1)] at h'
            rw [← e1 i hi]
            exact ru.ok i s h'
        · have h' : (backE y.e u.e vs).length ≤ i := h
          rw [backE_len] at h'
          show (if i ∈ vs then y.F i else u.F i) = []
          split
          · exact r.out i (by omega)
          · exact ru.out i h'
        · have hi' : a ∈ (if i ∈ vs then y.F i else u.F i) := hi
          have hj' : a ∈ (if j ∈ vs then y.F j else u.F j) := hj
          split at hi'
          · split at hj'
            · exact r.sep i j a hij hi' hj'
            · rcases uF j a hj' with ⟨_, h⟩ | h
              · exact r.sep i j a hij hi' h
              · exact (r.live hi').2 h
          · split at hj'
            · rcases uF i a hi' with ⟨_, h⟩ | h
              · exact r.sep i j a hij h hj'
              · exact (r.live hj').2 h
            · exact ru.sep i j a hij hi' hj'
      have mz : Mv z { u with s := z.s, e := backE y.e u.e vs, F := fun i => if i ∈ vs then y.F i else u.F i } := by
        refine ⟨fun a o ha hf => ?_, fun a ha => mu.dom a (m.dom a ha), m.g.trans mu.g, fun a ha hk => (mu.gn a (m.dom a ha) fun i hi => by
          have hi' : a ∈ (if i ∈ vs then [] else y.F i) := hi
          split at hi'
          · cases hi'
          · rcases m.fn i a hi' with h | h
            · exact hk i h
            · exact ha h).trans (m.gn a ha hk), fun i a ha => ?_, fun i hi => ?_, ?_⟩
        · refine mu.out a o (m.out a o ha hf) fun i hi => ?_
          have hi' : a ∈ (if i ∈ vs then [] else y.F i) := hi
          split at hi'
          · cases hi'
          · rcases m.fn i a hi' with h | h
            · exact hf i h
            · rw [ha] at h; cases h
        · have ha' : a ∈ (if i ∈ vs then y.F i else u.F i) := ha
          split at ha'
          · exact m.fn i a ha'
          · rcases uF i a ha' with ⟨_, h⟩ | h
            · exact m.fn i a h
            · by_cases hz : z.H a = none
              · exact .inr hz
              · exact absurd h (m.dom a hz)
        · obtain ⟨k1, k2⟩ := m.kp i hi
          have hiv : i ∉ vs := fun q => by rw [hno i q] at k1; cases k1
          have k3 : isOw (y.wipe vs).e[i]? = true := by
            show isOw (wipeE y.e vs)[i]? = true
            rw [wipeE_get, if_neg (fun q => hiv q.1)]; exact k1
          refine ⟨?_, rfl⟩
          show isOw (backE y.e u.e vs)[i]? = true
          rw [backE_get, if_neg (fun q => hiv q.1)]
          exact (mu.kp i k3).1
        · show (backE y.e u.e vs).length = z.e.length
          rw [backE_len, hlen, m.ln]
      refine q (.ref D0) { u with s := z.s, e := backE y.e u.e vs, F := fun i => if i ∈ vs then y.F i else u.F i } [D0] mz ru' rfl (by show backE y.e u.e vs = backE e1' eN vs; rw [eu, ee]) ⟨D0, wl, rfl, rfl, hu2, hu1, hu4⟩ fun a ha => ?_
      rw [List.mem_singleton.mp ha]
      refine ⟨?_, fun i hi => ?_⟩
      · by_cases hz : z.H D0 = none
        · exact hz
        · exact absurd hn (m.dom D0 hz)
      · have hi' : D0 ∈ (if i ∈ vs then y.F i else u.F i) := hi
        split at hi'
        · exact (r.live hi').2 hn
        · exact hu3 i hi'
  · cases hf
theorem fo_lc {k : Nat} {elt tg iter : Expr} {ifs : List Expr} {scope : Scope} {own : List (Str × Nat)} {gl : LF} {t : GF} {ws vs : List Nat} {cf : BF} {f : EF} (c : Cc X k) (hi : FI X tg iter gl) (ok : BlkOk X.N X.env.scope scope own)
    (hg : ∀ (s : Shared) (H : Hp) (C : Addr) (cl : List (Str × Addr)) (fp : List Addr), FG (X.blk s H scope (compEnvC scope cl C X.env) fp) tg t ws)
    (ht : ∀ (s : Shared) (H : Hp) (C : Addr) (cl : List (Str × Addr)) (fp : List Addr), FTs (X.blk s H scope (compEnvC scope cl C X.env) fp) ifs cf)
    (he : ∀ (s : Shared) (H : Hp) (C : Addr) (cl : List (Str × Addr)) (fp : List Addr), FE (X.blk s H scope (compEnvC scope cl C X.env) fp) elt f)
    (hvs : own.map (·.2) = vs := by rfl) (hws : ∀ j ∈ ws, j ∈ vs := by decide) (hs : ∀ x, foldedSetIterable iter X.env x = pure x := by intro _; rfl) :
    FO X (.ListComp elt [⟨tg, iter, ifs, 0⟩] scope pos) (oComp gl t cf f vs) := by
  subst hvs
  exact ⟨PE.imp (pe_lc c.calm c.nd hi.pi ok (fun s H C cl fp => (hg s H C cl fp).pg) (fun s H C cl fp => (ht s H C cl fp).pts) (fun s H C cl fp => (he s H C cl fp).pe) hs) fun σ H Q q => lc_tO (fun _ _ _ h => h) hws q⟩
end
end Fl

set_option Elab.async false
set_option linter.all false
set_option maxRecDepth 100000
set_option maxHeartbeats 1000000
set_option autoImplicit false
/-! FnSt: statements by plain functions. -/
namespace Fl
open PySem PySem.Spec PyProof.Rows L2
/-! ### small statements -/
def sNext : SF := fun e => some (.nx e)
def sBreak : SF := fun e => some (.bk e)
def sCont : SF := fun e => some (.ct e)
/-- code that is not reached -/
def sNever : SF := fun _ => none
def sSeq (f g : SF) : SF := fun e => (f e).bind fun o => match o with
  | .nx e1 => g e1
  | o => some o
/-- what is wanted at an outcome, seen from z -/
def Out (K : Frg) (z : Z) (D : Ends) : O → Prop
  | .nx e' => ∀ y, Mv z y → Rp K y → y.e = e' → D.nx y.s y.H
  | .bk e' => ∀ y, Mv z y → Rp K y → y.e = e' → D.bk y.s y.H
  | .ct e' => ∀ y, Mv z y → Rp K y → y.e = e' → D.ct y.s y.H
  | .rt r e' => ∀ v y Fr, Mv z y → Rp K y → y.e = e' → SlOk K y.G y.H (some v) Fr r → (∀ a ∈ Fr, ∀ i, a ∉ y.F i) → (∀ a ∈ Fr, (∃ j : Nat, isOw z.e[j]? = false ∧ a ∈ z.F j) ∨ z.H a = none) → D.rt v y.H
theorem tS_out {K : Frg} {f : SF} {D : Ends} {σ : L2.St} {H : Hp} : tS K f D σ H ↔ ∃ z o, Rp K z ∧ z.s = σ ∧ z.H = H ∧ f z.e = some o ∧ Out K z D o := by
  unfold tS Out
  constructor
  · rintro ⟨z, o, h1, h2, h3, h4, h5⟩
    refine ⟨z, o, h1, h2, h3, h4, ?_⟩
    cases o <;> exact h5
  · rintro ⟨z, o, h1, h2, h3, h4, h5⟩
    refine ⟨z, o, h1, h2, h3, h4, ?_⟩
    cases o <;> exact h5
theorem Out.mv {K : Frg} {z y : Z} {D : Ends} {o : O} (h : Out K z D o) (m : Mv z y) : Out K y D o := by
  cases o with
  | nx e' => exact fun x mx rx ee => h x (m.trans mx) rx ee
  | bk e' => exact fun x mx rx ee => h x (m.trans mx) rx ee
  | ct e' => exact fun x mx rx ee => h x (m.trans mx) rx ee
  | rt r e' =>
    refine fun v x Fr mx rx ee so hf hg => h v x Fr (m.trans mx) rx ee so hf fun a ha => ?_
    rcases hg a ha with ⟨j, h1, h2⟩ | h1
    · rcases m.fn j a h2 with h3 | h3
      · refine .inl ⟨j, ?_, h3⟩
        cases q : isOw z.e[j]? with
        | false => rfl
        | true => rw [(m.kp j q).1] at h1; cases h1
      · exact .inr h3
    · by_cases q : z.H a = none
      · exact .inr q
      · exact absurd h1 (m.dom a q)
section
variable {X : Cx} {pos : Pos}
theorem fs_of {st : Stmt} {t : TS} {f : SF} (h : PS X st t) (k : ∀ D z o, Rp X.K z → f z.e = some o → Out X.K z D o → t D z.s z.H) : FS X st f := ⟨PS.imp h fun D σ H q => by
  obtain ⟨z, o, h1, h2, h3, h4, h5⟩ := tS_out.mp q
  subst h2 h3
  exact k D z o h1 h4 h5⟩
theorem fss_of {st : List Stmt} {t : TS} {f : SF} (h : PSs X st t) (k : ∀ D z o, Rp X.K z → f z.e = some o → Out X.K z D o → t D z.s z.H) : FSs X st f := ⟨PSs.imp h fun D σ H q => by
  obtain ⟨z, o, h1, h2, h3, h4, h5⟩ := tS_out.mp q
  subst h2 h3
  exact k D z o h1 h4 h5⟩
theorem fss_nil : FSs X [] sNext := fss_of pss_nil fun D z o r h q => by
  cases h
  exact q z (Mv.refl z) r rfl
theorem fss_cons {st : Stmt} {rest : List Stmt} {f g : SF} (h1 : FS X st f) (h2 : FSs X rest g) : FSs X (st :: rest) (sSeq f g) := fss_of (pss_cons h1.ps h2.ps) fun D z o r h q => by
  obtain ⟨o1, k1, k2⟩ := Option.bind_eq_some_iff.mp h
  refine tS_out.mpr ⟨z, o1, r, rfl, rfl, k1, ?_⟩
  cases o1 with
  | nx e1 => exact fun y m ry ee => tS_out.mpr ⟨y, o, ry, rfl, rfl, by rw [ee]; exact k2, q.mv m⟩
  | bk e1 => cases k2; exact q
  | ct e1 => cases k2; exact q
  | rt r1 e1 => cases k2; exact q
theorem fss_one {st : Stmt} {f : SF} (h : FS X st f) : FSs X [st] f := ⟨pss_one h.ps⟩
theorem fs_pass : FS X (.Pass pos) sNext := fs_of ps_pass fun D z o r h q => by
  cases h
  exact q z (Mv.refl z) r rfl
theorem fs_break : FS X (.Break pos) sBreak := fs_of ps_break fun D z o r h q => by
  cases h
  exact q z (Mv.refl z) r rfl
theorem fs_cont : FS X (.Continue pos) sCont := fs_of ps_continue fun D z o r h q => by
  cases h
  exact q z (Mv.refl z) r rfl
theorem fs_never {st : Stmt} : FS X st sNever := ⟨⟨fun pins s σ H D I q => by
  obtain ⟨z, o, h1, h2, h3, h4, h5⟩ := tS_out.mp q
  cases h4⟩⟩
/-- a docstring -/
theorem fs_doc {x j pos'} : FS X (.Expr (.Constant (.str x) j pos) pos') sNext := fs_of ps_doc fun D z o r h q => by
  cases h
  exact q z (Mv.refl z) r rfl
def sDrop (f : EF) : SF := fun e => (f e).map fun p => .nx p.2
theorem fs_expr {a : Expr} {f : EF} (h : FE X a f) (hs : swapsWith a none pos.line X.env = pure false := by rfl) : FS X (.Expr a pos) (sDrop f) := fs_of (ps_expr h.pe hs) fun D z o r h q => by
  obtain ⟨⟨d, e1⟩, h1, h2⟩ := Option.map_eq_some_iff.mp h
  subst h2
  exact ⟨z, d, e1, r, rfl, rfl, h1, fun v y m r2 s2 ee p => by
    show D.nx z.s y.H
    rw [← s2]; exact q y m r2 ee⟩
def sRet (f : EF) : SF := fun e => (f e).map fun p => .rt (.va p.1) p.2
theorem fs_ret {a : Expr} {f : EF} (h : FE X a f) : FS X (.Return (some a) pos) (sRet f) := fs_of (ps_ret h.pe) fun D z o r h q => by
  obtain ⟨⟨d, e1⟩, h1, h2⟩ := Option.map_eq_some_iff.mp h
  subst h2
  exact ⟨z, d, e1, r, rfl, rfl, h1, fun v y m r2 s2 ee p => q v y [] m r2 ee ⟨rfl, v, rfl, p⟩ (fun _ h => nomatch h) fun _ h => nomatch h⟩
/-- a thing of its own is handed back -/
def sRetO (f : OF) : SF := fun e => (f e).map fun p => .rt p.1 p.2
theorem fs_retO {a : Expr} {f : OF} (h : FO X a f) : FS X (.Return (some a) pos) (sRetO f) := fs_of (ps_ret h.po) fun D z o r h q => by
  obtain ⟨⟨d, e1⟩, h1, h2⟩ := Option.map_eq_some_iff.mp h
  subst h2
  exact ⟨z, d, e1, r, rfl, rfl, h1, fun v y Fr m r2 s2 ee p hf => q v y Fr m r2 ee p (fun a ha => (hf a ha).2) fun a ha => .inr (hf a ha).1⟩
theorem fs_retNone : FS X (.Return none pos) (sRet (eC .none)) := fs_of ps_retN fun D z o r h q => by
  cases h
  exact q .non z [] (Mv.refl z) r rfl ⟨rfl, _, rfl, .non⟩ (fun _ h => nomatch h) fun _ h => nomatch h
/-- a name's own thing is handed back: the name has nothing behind it -/
def sRetN (i : Nat) : SF := fun e => e[i]?.bind fun s => match s with
  | .va d => some (.rt (.va d) e)
  | .li xs => some (.rt (.li xs) (e.set i .no))
  | .di xs => some (.rt (.di xs) (e.set i .no))
  | .dt xs => some (.rt (.dt xs) (e.set i .no))
  | _ => none
def Z.dropS (z : Z) (i : Nat) : Z := { z with e := z.e.set i .no, F := fun j => if j = i then [] else z.F j }
theorem Rp.drop {K : Frg} {z : Z} (r : Rp K z) (i : Nat) (no : isOw z.e[i]? = false) : Rp K (z.dropS i) ∧ Mv z (z.dropS i) := by
  refine ⟨⟨r.same, by show z.s.length = (z.e.set i .no).length; rw [List.length_set]; exact r.len, fun j s h => ?_, fun j h => ?_, fun j k a hjk hj hk => ?_⟩, ⟨fun _ _ h _ => h, fun _ h => h, Same.refl _, fun _ _ _ => rfl, fun j a h => ?_, fun j h => ?_, List.length_set ..⟩⟩
  · have h' : (z.e.set i .no)[j]? = some s := h
    show SlOk K z.G z.H (z.s[j]?).join (if j = i then [] else z.F j) s
    by_cases e : j = i
    · subst e
      have hl : j < z.e.length := by have := (List.getElem?_eq_some_iff.mp h').1; rw [List.length_set] at this; exact this
      rw [List.getElem?_set_self hl] at h'
      cases h'
      rw [if_pos rfl]; rfl
    · rw [List.getElem?_set_ne (Ne.symm e)] at h'
      rw [if_neg e]; exact r.ok j s h'
  · have h' : (z.e.set i .no).length ≤ j := h
    rw [List.length_set] at h'
    show (if j = i then [] else z.F j) = []
    split
    · rfl
    · exact r.out j h'
  · have hj' : a ∈ (if j = i then [] else z.F j) := hj
    have hk' : a ∈ (if k = i then [] else z.F k) := hk
    split at hj'
    · cases hj'
    · split at hk'
      · cases hk'
      · exact r.sep j k a hjk hj' hk'
  · have h' : a ∈ (if j = i then [] else z.F j) := h
    split at h'
    · cases h'
    · exact .inl h'
  · have e : i ≠ j := fun e => by rw [← e, no] at h; cases h
    show isOw (z.e.set i .no)[j]? = true ∧ z.s[j]? = z.s[j]?
    rw [List.getElem?_set_ne e]; exact ⟨h, rfl⟩
theorem fs_retN {i : Nat} {x : Str} {p : Pos} (hN : X.N[i]? = some x) (hv : Vis X.env.scope x) (hd : (x == ("__debug__" : Str)) = false := by decide) (hcd : (x == ("__classdict__" : Str)) = false := by decide) : FS X (.Return (some (.Name x p)) pos) (sRetN i) :=
  fs_of (ps_ret (pe_var hN hv hd hcd)) fun D z o r h q => by
    obtain ⟨s, h1, h2⟩ := Option.bind_eq_some_iff.mp h
    have so := r.ok i s h1
    cases s with
    | va d =>
      cases h2
      obtain ⟨v, k1, k2⟩ := r.var h1
      exact ⟨v, k1, q v z [] (Mv.refl z) r rfl ⟨rfl, v, rfl, k2⟩ (fun _ h => nomatch h) fun _ h => nomatch h⟩
    | li xs =>
      cases h2
      have no : isOw z.e[i]? = false := by rw [h1]; rfl
      obtain ⟨a, vs, e1, e2, e3, e4, e5⟩ := so
      obtain ⟨r2, m2⟩ := r.drop i no
      refine ⟨.ref a, joinSome e1, q (.ref a) (z.dropS i) [a] m2 r2 rfl ⟨a, vs, rfl, rfl, e3, e4, e5⟩ (fun b hb j hj => ?_) fun b hb => .inl ⟨i, no, by rw [e2]; exact hb⟩⟩
      have hj' : b ∈ (if j = i then [] else z.F j) := hj
      split at hj'
      · cases hj'
      · rename_i hji
        exact r.sep j i b hji hj' (by rw [e2]; exact hb)
    | di xs =>
      cases h2
      have no : isOw z.e[i]? = false := by rw [h1]; rfl
      obtain ⟨a, vs, e1, e2, e3, e4, e5⟩ := so
      obtain ⟨r2, m2⟩ := r.drop i no
      refine ⟨.ref a, joinSome e1, q (.ref a) (z.dropS i) [a] m2 r2 rfl ⟨a, vs, rfl, rfl, e3, e4, e5⟩ (fun b hb j hj => ?_) fun b hb => .inl ⟨i, no, by rw [e2]; exact hb⟩⟩
      have hj' : b ∈ (if j = i then [] else z.F j) := hj
      split at hj'
      · cases hj'
      · rename_i hji
        exact r.sep j i b hji hj' (by rw [e2]; exact hb)
    | dt xs =>
      cases h2
      have no : isOw z.e[i]? = false := by rw [h1]; rfl
      obtain ⟨a, vs, e1, e2, e3, e4, e5⟩ := so
      obtain ⟨r2, m2⟩ := r.drop i no
      refine ⟨.ref a, joinSome e1, q (.ref a) (z.dropS i) [a] m2 r2 rfl ⟨a, vs, rfl, rfl, e3, e4, e5⟩ (fun b hb j hj => ?_) fun b hb => .inl ⟨i, no, by rw [e2]; exact hb⟩⟩
      have hj' : b ∈ (if j = i then [] else z.F j) := hj
      split at hj'
      · cases hj'
      · rename_i hji
        exact r.sep j i b hji hj' (by rw [e2]; exact hb)
    | no => cases h2
    | dl _ => cases h2
    | tn _ => cases h2
    | ow _ => cases h2
/-! ### stores -/
/-- name = e: a value, or a thing of its own -/
def sSet (i : Nat) (f : OF) : SF := fun e => (f e).bind fun p => if isOw p.2[i]? then none else some (.nx (p.2.set i p.1))
theorem set_go {K : Frg} {z : Z} {D : Ends} {i : Nat} {f : OF} {o : O} (r : Rp K z) (h : sSet i f z.e = some o) (q : Out K z D o) : tAsg (tO K f) (gName i) D z.s z.H := by
  obtain ⟨⟨s, e1⟩, h1, h2⟩ := Option.bind_eq_some_iff.mp h
  split at h2
  · cases h2
  · rename_i no
    cases h2
    refine ⟨z, s, e1, r, rfl, rfl, h1, fun v y Fr m r2 s2 ee so hf => ?_⟩
    have no' : isOw y.e[i]? = false := by rw [ee]; simpa using no
    have := q (y.put i v s Fr) (m.put no' fun a ha => .inr (hf a ha).1) (r2.put so fun a ha j _ => (hf a ha).2 j) (by show y.e.set i s = e1.set i s; rw [ee])
    show D.nx (z.s.set i (some v)) y.H
    rw [← s2]; exact this
theorem fs_set {i : Nat} {x : Str} {a : Expr} {f : OF} {pos' : Pos} (hN : X.N.Nodup) (hi : X.N[i]? = some x) (hx : Loc X.env.scope x) (h : FO X a f) (hs : swapsWith a (some (.Name x pos')) pos.line X.env = pure false := by rfl) (hf : X.fn x = true ∨ X.env.scope.names.lookup x = some .local := by first | exact .inl rfl | exact .inr rfl | assumption) : FS X (.Assign [.Name x pos'] a pos) (sSet i f) :=
  fs_of (ps_set hN hi hx h.po hs hf) fun D z o r h q => set_go r h q
/-- name = [..] on one line, the name a plain local one -/
theorem fs_setLc {k i : Nat} {y : Str} {py : Pos} {elt tg iter : Expr} {ifs : List Expr} {scope : Scope} {own : List (Str × Nat)} {spos : Pos} {gl : LF} {t : GF} {ws vs : List Nat} {cf : BF} {f : EF} (c : Cc X k) (hy : X.N[i]? = some y) (hyl : X.env.scope.names.lookup y = some .local)
    (hsw : swapsWith (.ListComp elt [⟨tg, iter, ifs, 0⟩] scope pos) (some (.Name y py)) spos.line X.env = pure true) (hi : FI X tg iter gl) (ok : BlkOk X.N X.env.scope scope own)
    (hg : ∀ (s : Shared) (H : Hp) (C : Addr) (cl : List (Str × Addr)) (fp : List Addr), FG (X.blk s H scope (compEnvC scope cl C X.env) fp) tg t ws)
    (ht : ∀ (s : Shared) (H : Hp) (C : Addr) (cl : List (Str × Addr)) (fp : List Addr), FTs (X.blk s H scope (compEnvC scope cl C X.env) fp) ifs cf)
    (he : ∀ (s : Shared) (H : Hp) (C : Addr) (cl : List (Str × Addr)) (fp : List Addr), FE (X.blk s H scope (compEnvC scope cl C X.env) fp) elt f)
    (hvs : own.map (·.2) = vs := by rfl) (hws : ∀ j ∈ ws, j ∈ vs := by decide) (hs : ∀ x, foldedSetIterable iter X.env x = pure x := by intro _; rfl) :
    FS X (.Assign [.Name y py] (.ListComp elt [⟨tg, iter, ifs, 0⟩] scope pos) spos) (sSet i (oComp gl t cf f vs)) := by
  subst hvs
  exact fs_of (ps_setLc c.calm c.nd hy hyl hsw hi.pi ok (fun s H C cl fp => (hg s H C cl fp).pg) (fun s H C cl fp => (ht s H C cl fp).pts) (fun s H C cl fp => (he s H C cl fp).pe) hs) fun D z o r h q => lc_tO (fun _ _ _ h => h) hws (set_go (D := D) r h q)
/-- targets = a value -/
def sAsg (f : EF) (t : GF) : SF := fun e => (f e).bind fun p => (t p.1 p.2).map fun e2 => .nx e2
theorem fs_asg {tg a : Expr} {f : EF} {t : GF} {ws : List Nat} (h : FE X a f) (hg : FG X tg t ws) (hs : swapsWithSole [tg] a pos.line X.env = pure false := by rfl) (hw : swappedStores [tg] a X.env = pure none := by rfl) (h1 : (assignEach [tg] X.env).map (·.2) = [assign tg X.env] := by rfl) : FS X (.Assign [tg] a pos) (sAsg f t) :=
  fs_of (ps_asg h.pe hg.pg hs hw h1) fun D z o r h q => by
    obtain ⟨⟨d, e1⟩, h1, h2⟩ := Option.bind_eq_some_iff.mp h
    obtain ⟨e2, h3, h4⟩ := Option.map_eq_some_iff.mp h2
    subst h4
    refine ⟨z, d, e1, r, rfl, rfl, h1, fun v y m r2 s2 ee p => ⟨y, d, e2, r2, s2, rfl, p, by rw [ee]; exact h3, fun y2 m2 r3 ee2 _ _ _ => ?_⟩⟩
    exact q y2 (m.trans m2) r3 ee2
/-! ### if, for, while -/
def sIf (c : BF) (f g : SF) : SF := fun e => (c e).bind fun p => if p.1 = true then f p.2 else g p.2
theorem fs_if {c : Expr} {a b : List Stmt} {h : BF} {f g : SF} (hc : FT X c h) (ha : FSs X a f) (hb : FSs X b g) : FS X (.If c a b pos) (sIf h f g) := fs_of (ps_if hc.pt ha.ps hb.ps) fun D z o r h q => by
  obtain ⟨⟨b, e1⟩, h1, h2⟩ := Option.bind_eq_some_iff.mp h
  refine ⟨z, b, e1, r, rfl, rfl, h1, fun y m r2 s2 ee => ?_⟩
  cases b with
  | true => exact iteT (tS_out.mpr ⟨y, o, r2, s2, rfl, by rw [ee]; exact h2, q.mv m⟩)
  | false => exact iteF (tS_out.mpr ⟨y, o, r2, s2, rfl, by rw [ee]; exact h2, q.mv m⟩)
/-- a loop's turns -/
def forL (t : GF) (b : SF) : List D → Ev → Option O
  | [], e => some (.nx e)
  | d :: ds, e => (t d e).bind fun e1 => (b e1).bind fun o => match o with
    | .nx e2 => forL t b ds e2
    | .ct e2 => forL t b ds e2
    | .bk e2 => some (.nx e2)
    | .rt r e2 => some (.rt r e2)
def sFor (g : LF) (t : GF) (b : SF) : SF := fun e => (g e).bind fun p => forL t b p.1 p.2
theorem fs_for {tg iter : Expr} {body : List Stmt} {gl : LF} {t : GF} {ws : List Nat} {b : SF} (hp : PassesOwn (model X.prog X.w) X.A X.env X.xe) (hc : X.calm = true) (hi : FI X tg iter gl) (hg : FG X tg t ws) (hb : FSs X body b)
    (hs : ∀ x, foldedSetIterable iter X.env x = pure x := by intro _; rfl) : FS X (.For tg iter body [] pos) (sFor gl t b) := fs_of (ps_for hp hc hi.pi hg.pg hb.ps hs) fun D z o r h q => by
  obtain ⟨⟨ds, e1⟩, h1, h2⟩ := Option.bind_eq_some_iff.mp h
  refine ⟨z, ds, e1, r, rfl, rfl, h1, fun J y m r2 s2 ee it => ?_⟩
  obtain ⟨Gd, Y, w, hG1, hG2⟩ := it
  rw [← s2]
  refine for_it w (fun i σ H => ∃ u, u.s = σ ∧ u.H = H ∧ Rp X.K u ∧ Mv y u ∧ forL t b (ds.drop i) u.e = some o) ⟨y, rfl, rfl, r2, Mv.refl y, by rw [ee]; exact h2⟩ ?_ ?_ ?_
  · rintro i σ H hi ⟨u, rfl, rfl, ru, mu, _⟩
    exact hG1 _ (mu.g.trans ru.same)
  · rintro i x σ H H' hi ⟨u, rfl, rfl, ru, mu, hu⟩ hy
    obtain ⟨u1, d, r1, m1, s1, e1, hH1, hdi, hdv⟩ : ∃ (u1 : Z) (d : PyData), Rp X.K u1 ∧ Mv u u1 ∧ u1.s = u.s ∧ u1.e = u.e ∧ u1.H = H' ∧ ds[i]? = some d ∧ Dv X.K u1.G x d := by
      rcases hG2 i u.H x H' hi (mu.g.trans ru.same) hy with ⟨e, d, h3, h4⟩ | ⟨T, tv, es, h3, h4, h5, h6, h7⟩
      · exact ⟨u, d, ru, Mv.refl u, rfl, rfl, e.symm, h3, dvMono mu.g _ _ h4⟩
      · obtain ⟨ra, ma⟩ := ru.add (o := .tup tv) h4
        refine ⟨u.add T (.tup tv), .tuple es, ra, ma, rfl, rfl, h5.symm, h6, ?_⟩
        rw [h3]
        exact .tup (SqT.of upd_same) (dvMonoAll (mu.g.trans ma.g) _ _ h7)
    have hdrop : ds.drop i = d :: ds.drop (i + 1) := by
      obtain ⟨h1, h2⟩ := List.getElem?_eq_some_iff.mp hdi
      rw [← h2, List.drop_eq_getElem_cons h1]
    rw [hdrop] at hu
    unfold forL at hu
    obtain ⟨ea, ht, hu⟩ := Option.bind_eq_some_iff.mp hu
    obtain ⟨ob, hbb, hu⟩ := Option.bind_eq_some_iff.mp hu
    refine ⟨u1, d, ea, r1, s1, hH1, hdv, by rw [e1]; exact ht, fun u2 m2 ru2 e2 eH2 eG2 es2 => ?_⟩
    refine tS_out.mpr ⟨u2, ob, ru2, rfl, rfl, by rw [e2]; exact hbb, ?_⟩
    have mm := (mu.trans m1).trans m2
    cases ob with
    | nx e3 => exact fun u3 m3 r3 e3' => ⟨u3, rfl, rfl, r3, mm.trans m3, by rw [e3']; exact hu⟩
    | ct e3 => exact fun u3 m3 r3 e3' => ⟨u3, rfl, rfl, r3, mm.trans m3, by rw [e3']; exact hu⟩
    | bk e3 =>
      cases hu
      exact fun u3 m3 r3 e3' => q u3 ((m.trans mm).trans m3) r3 e3'
    | rt rr e3 =>
      cases hu
      exact q.mv (m.trans mm)
  · rintro σ H ⟨u, rfl, rfl, ru, mu, hu⟩
    rw [List.drop_length] at hu
    cases hu
    exact q u (m.trans mu) ru rfl
def whileN (c : BF) (b : SF) : Nat → Ev → Option O
  | 0, _ => none
  | n + 1, e => (c e).bind fun p => if p.1 = true then (b p.2).bind fun o => match o with
      | .nx e2 => whileN c b n e2
      | .ct e2 => whileN c b n e2
      | .bk e2 => some (.nx e2)
      | .rt r e2 => some (.rt r e2)
    else some (.nx p.2)
theorem whileN_succ (c : BF) (b : SF) : ∀ (n : Nat) (e : Ev) (o : O), whileN c b n e = some o → whileN c b (n + 1) e = some o
  | 0, _, _, h => nomatch h
  | n + 1, e, o, h => by
    unfold whileN at h ⊢
    obtain ⟨⟨k, e1⟩, h1, h⟩ := Option.bind_eq_some_iff.mp h
    rw [h1]
    cases k with
    | false => exact h
    | true =>
      obtain ⟨ob, h2, h⟩ := Option.bind_eq_some_iff.mp (show ((b e1).bind _) = some o from h)
      show ((b e1).bind _) = some o
      rw [h2]
      cases ob with
      | nx e2 => exact whileN_succ c b n e2 o h
      | ct e2 => exact whileN_succ c b n e2 o h
      | bk e2 => exact h
      | rt r e2 => exact h
theorem whileN_le {c : BF} {b : SF} {n m : Nat} {e : Ev} {o : O} (h : whileN c b n e = some o) (k : n ≤ m) : whileN c b m e = some o := by
  induction k with
  | refl => exact h
  | step _ ih => exact whileN_succ c b _ e o ih
open Classical in
/-- a while's end, if it comes to one -/
noncomputable def sWhile (c : BF) (b : SF) : SF := fun e => if h : ∃ o n, whileN c b n e = some o then some h.choose else none
theorem sWhile_of {c : BF} {b : SF} {n : Nat} {e : Ev} {o : O} (h : whileN c b n e = some o) : sWhile c b e = some o := by
  have hx : ∃ o n, whileN c b n e = some o := ⟨o, n, h⟩
  unfold sWhile
  rw [dif_pos hx]
  obtain ⟨m, hm⟩ := hx.choose_spec
  have h1 := whileN_le hm (Nat.le_max_left m n)
  have h2 := whileN_le h (Nat.le_max_right m n)
  rw [h1] at h2
  exact h2
theorem sWhile_to {c : BF} {b : SF} {e : Ev} {o : O} (h : sWhile c b e = some o) : ∃ n, whileN c b n e = some o := by
  unfold sWhile at h
  split at h
  · rename_i hx
    cases h
    exact hx.choose_spec
  · cases h
theorem sWhile_eq (c : BF) (b : SF) (e : Ev) : sWhile c b e = (c e).bind fun p => if p.1 = true then (b p.2).bind fun o => match o with
      | .nx e2 => sWhile c b e2
      | .ct e2 => sWhile c b e2
      | .bk e2 => some (.nx e2)
      | .rt r e2 => some (.rt r e2)
    else some (.nx p.2) := by
  apply Option.ext
  intro o
  constructor
  · intro h
    obtain ⟨n, hn⟩ := sWhile_to h
    cases n with
    | zero => cases hn
    | succ n =>
      unfold whileN at hn
      obtain ⟨⟨k, e1⟩, h1, hn⟩ := Option.bind_eq_some_iff.mp hn
      rw [h1]
      cases k with
      | false => exact hn
      | true =>
        obtain ⟨ob, h2, hn⟩ := Option.bind_eq_some_iff.mp (show ((b e1).bind _) = some o from hn)
        show ((b e1).bind _) = some o
        rw [h2]
        cases ob with
        | nx e2 => exact sWhile_of hn
        | ct e2 => exact sWhile_of hn
        | bk e2 => exact hn
        | rt r e2 => exact hn
  · intro h
    obtain ⟨⟨k, e1⟩, h1, h⟩ := Option.bind_eq_some_iff.mp h
    cases k with
    | false => exact sWhile_of (n := 1) (by unfold whileN; rw [h1]; exact h)
    | true =>
      obtain ⟨ob, h2, h⟩ := Option.bind_eq_some_iff.mp (show ((b e1).bind _) = some o from h)
      cases ob with
      | nx e2 =>
        obtain ⟨n, hn⟩ := sWhile_to (show sWhile c b e2 = some o from h)
        refine sWhile_of (n := n + 1) ?_
        unfold whileN
        rw [h1]
        show ((b e1).bind _) = some o
        rw [h2]
        exact hn
      | ct e2 =>
        obtain ⟨n, hn⟩ := sWhile_to (show sWhile c b e2 = some o from h)
        refine sWhile_of (n := n + 1) ?_
        unfold whileN
        rw [h1]
        show ((b e1).bind _) = some o
        rw [h2]
        exact hn
      | bk e2 =>
        refine sWhile_of (n := 1) ?_
        unfold whileN
        rw [h1]
        show ((b e1).bind _) = some o
        rw [h2]
        exact h
      | rt r e2 =>
        refine sWhile_of (n := 1) ?_
        unfold whileN
        rw [h1]
        show ((b e1).bind _) = some o
        rw [h2]
        exact h
theorem fs_while {c : Expr} {body : List Stmt} {cf : BF} {b : SF} (hp : PassesOwn (model X.prog X.w) X.A X.env X.xe) (hc : FT X c cf) (hb : FSs X body b) : FS X (.While c body [] pos) (sWhile cf b) := fs_of (ps_while hp hc.pt hb.ps) fun D z o r h q => by
  obtain ⟨n, hn⟩ := sWhile_to h
  refine ⟨fun m σ H => ∃ u, u.s = σ ∧ u.H = H ∧ Rp X.K u ∧ Mv z u ∧ whileN cf b m u.e = some o, ⟨n, z, rfl, rfl, r, Mv.refl z, hn⟩, ?_⟩
  rintro m σ H ⟨u, rfl, rfl, ru, mu, hu⟩
  cases m with
  | zero => cases hu
  | succ m =>
    unfold whileN at hu
    obtain ⟨⟨k, e1⟩, h1, hu⟩ := Option.bind_eq_some_iff.mp hu
    refine ⟨u, k, e1, ru, rfl, rfl, h1, fun y my ry sy ey => ?_⟩
    cases k with
    | false =>
      cases hu
      exact iteF (by rw [← sy]; exact q y (mu.trans my) ry ey)
    | true =>
      obtain ⟨ob, h2, hu⟩ := Option.bind_eq_some_iff.mp (show ((b e1).bind _) = some o from hu)
      refine iteT ⟨fun σ' H' => ∃ u', u'.s = σ' ∧ u'.H = H' ∧ Rp X.K u' ∧ Mv z u' ∧ whileN cf b m u'.e = some o, fun σ' H' hN => ⟨m, Nat.lt_succ_self m, hN⟩, ?_⟩
      refine tS_out.mpr ⟨y, ob, ry, sy, rfl, by rw [ey]; exact h2, ?_⟩
      have mm := mu.trans my
      cases ob with
      | nx e3 => exact fun u3 m3 r3 e3' => ⟨u3, rfl, rfl, r3, mm.trans m3, by rw [e3']; exact hu⟩
      | ct e3 => exact fun u3 m3 r3 e3' => ⟨u3, rfl, rfl, r3, mm.trans m3, by rw [e3']; exact hu⟩
      | bk e3 =>
        cases hu
        exact fun u3 m3 r3 e3' => q u3 (mm.trans m3) r3 e3'
      | rt rr e3 =>
        cases hu
        exact q.mv mm
end
end Fl

set_option Elab.async false
set_option linter.all false
set_option maxRecDepth 100000
set_option maxHeartbeats 1000000
set_option autoImplicit false
/-! FnCall: defs and their calls. -/
namespace Fl
open PySem PySem.Spec PyProof.Rows L2
abbrev Fnc := List Sl → Option (Sl × List Sl)
/-- of the arguments only pinned things are told of behind a call -/
def keepE : List Sl → Ev → List Sl
  | [], _ => []
  | .ow _ :: ss, e => e.headD .no :: keepE ss e.tail
  | _ :: ss, e => .no :: keepE ss e.tail
theorem keepE_len : ∀ (ss : List Sl) (e : Ev), (keepE ss e).length = ss.length
  | [], _ => rfl
  | .ow _ :: ss, e => by show (keepE ss e.tail).length + 1 = _; rw [keepE_len ss]; rfl
  | .no :: ss, e => by show (keepE ss e.tail).length + 1 = _; rw [keepE_len ss]; rfl
  | .va _ :: ss, e => by show (keepE ss e.tail).length + 1 = _; rw [keepE_len ss]; rfl
  | .li _ :: ss, e => by show (keepE ss e.tail).length + 1 = _; rw [keepE_len ss]; rfl
  | .di _ :: ss, e => by show (keepE ss e.tail).length + 1 = _; rw [keepE_len ss]; rfl
  | .dt _ :: ss, e => by show (keepE ss e.tail).length + 1 = _; rw [keepE_len ss]; rfl
  | .dl _ :: ss, e => by show (keepE ss e.tail).length + 1 = _; rw [keepE_len ss]; rfl
  | .tn _ :: ss, e => by show (keepE ss e.tail).length + 1 = _; rw [keepE_len ss]; rfl
theorem keepE_ow : ∀ (ss : List Sl) (e : Ev) (i : Nat), isOw ss[i]? = true → (keepE ss e)[i]? = some ((e[i]?).getD .no)
  | [], _, i, h => by simp [isOw] at h
  | .ow t :: ss, e, 0, h => by cases e <;> rfl
  | .no :: ss, e, 0, h => by cases h
  | .va _ :: ss, e, 0, h => by cases h
  | .li _ :: ss, e, 0, h => by cases h
  | .di _ :: ss, e, 0, h => by cases h
  | .dt _ :: ss, e, 0, h => by cases h
  | .dl _ :: ss, e, 0, h => by cases h
  | .tn _ :: ss, e, 0, h => by cases h
  | s :: ss, e, i + 1, h => by
    have h' : isOw ss[i]? = true := by simpa using h
    have ih := keepE_ow ss e.tail i h'
    have e1 : e.tail[i]? = e[i + 1]? := by cases e <;> simp
    rw [e1] at ih
    cases s <;> exact ih
theorem keepE_no : ∀ (ss : List Sl) (e : Ev) (i : Nat), i < ss.length → isOw ss[i]? = false → (keepE ss e)[i]? = some .no
  | [], _, i, hl, _ => by cases hl
  | .ow t :: ss, e, 0, _, h => by cases h
  | .no :: ss, e, 0, _, h => rfl
  | .va _ :: ss, e, 0, _, h => rfl
  | .li _ :: ss, e, 0, _, h => rfl
  | .di _ :: ss, e, 0, _, h => rfl
  | .dt _ :: ss, e, 0, _, h => rfl
  | .dl _ :: ss, e, 0, _, h => rfl
  | .tn _ :: ss, e, 0, _, h => rfl
  | s :: ss, e, i + 1, hl, h => by
    have h' : isOw ss[i]? = false := by simpa using h
    have ih := keepE_no ss e.tail i (by simpa using hl) h'
    cases s <;> exact ih
/-- a def with n slots -/
def mkF (n : Nat) (b : SF) : Fnc := fun ss => (b (ss ++ List.replicate (n - ss.length) Sl.no)).bind fun o => match o with
  | .rt r e => some (r, keepE ss e)
  | .nx e => some (.va .none, keepE ss e)
  | _ => none
/-- what a def of np parameters promises: g -/
def spF (K : Frg) (np : Nat) (g : Fnc) : Sp := fun vs H Q _ => vs.length = np ∧ ∃ z r ss', z.s = vs.map some ∧ z.H = H ∧ Rp K z ∧ (∀ i : Nat, isOw z.e[i]? = false → z.F i = []) ∧ g z.e = some (r, ss') ∧
  ∀ v y Fr, Mv z y → Rp K y → y.s = z.s → y.e = ss' → SlOk K y.G y.H (some v) Fr r → (∀ a ∈ Fr, z.H a = none ∧ ∀ i, a ∉ y.F i) → Q v y.H
def Z.ent (z : Z) (N : List Str) (vs : List V) : Z := { z with s := L2.start N vs, e := z.e ++ List.replicate (N.length - z.e.length) Sl.no }
def Z.ret (z y : Z) : Z := { y with s := z.s, e := keepE z.e y.e, F := fun i => if isOw z.e[i]? = true then y.F i else [] }
section
variable {P : Program} {w : World} {K : Frg} {mg : Str → Option Value} {base : Heap}
theorem def_ok {x qual : Str} {st : Stmt} {f : Addr} {fd : FuncData} {N ps : List Str} {k : Nat} {b : SF} (F : Fun K x qual st f fd) (S : FnScope N ps (defScope st)) (hnp : ps.length ≤ N.length)
    (hb : ∀ (cdv : Value) (A : Around) (outer : List Env) (s : Shared) (H : Hp) (E : XK), Room k (A.deeper (envOfC qual (defScope st) s.heap.objs.size f cdv)) →
      FSs (cxOf CX0 P w K mg base N qual (defScope st) f cdv A outer s H E).nox (defBody st) b) : FnOk P w K mg base CX0 (k + 1) f fd ps (spF K ps.length (mkF N.length b)) := by
  refine F.ok S (fun vs H Q E h => h.1) (fun cdv A outer s H vs Q E hr h => ?_)
  obtain ⟨hl, z, r, ss', hs, hH, rp, har, hg, q⟩ := h
  refine ⟨_, (hb cdv A outer s H E hr).ps, ?_⟩
  subst hH
  obtain ⟨o, h1, h2⟩ := Option.bind_eq_some_iff.mp hg
  have hel : z.e.length = vs.length := by rw [← rp.len, hs, List.length_map]
  -- the state at the entry
  have r0 : Rp K (z.ent N vs) := by
    refine ⟨rp.same, ?_, fun i s h => ?_, fun i h => ?_, rp.sep⟩
    · show (L2.start N vs).length = (z.e ++ List.replicate (N.length - z.e.length) Sl.no).length
      unfold L2.start
      simp [hel]
    · have h' : (z.e ++ List.replicate (N.length - z.e.length) Sl.no)[i]? = some s := h
      show SlOk K z.G z.H (((L2.start N vs)[i]?).join) (z.F i) s
      unfold L2.start
      by_cases hi : i < z.e.length
      · rw [List.getElem?_append_left hi] at h'
        rw [List.getElem?_append_left (by rw [List.length_map, ← hel]; exact hi), ← hs]
        exact rp.ok i s h'
      · rw [List.getElem?_append_right (by omega)] at h'
        have := List.getElem?_eq_some_iff.mp h'
        obtain ⟨h3, h4⟩ := this
        rw [List.getElem_replicate] at h4
        subst h4
        exact rp.out i (by omega)
    · have h' : (z.e ++ List.replicate (N.length - z.e.length) Sl.no).length ≤ i := h
      exact rp.out i (by rw [List.length_append] at h'; omega)
  refine tS_out.mpr ⟨(z.ent N vs), o, r0, rfl, rfl, h1, ?_⟩
  have back : ∀ (y : Z), Mv (z.ent N vs) y → Rp K y →
      Rp K (z.ret y) ∧ Mv z (z.ret y) := fun y m ry => by
    have ow : ∀ i : Nat, isOw z.e[i]? = true → i < z.e.length ∧ isOw y.e[i]? = true ∧ y.s[i]? = z.s[i]? := fun i hi => by
      have hl : i < z.e.length := by
        by_cases q : i < z.e.length
        · exact q
        · rw [List.getElem?_eq_none (by omega)] at hi; cases hi
      have := m.kp i (show isOw (z.e ++ List.replicate (N.length - z.e.length) Sl.no)[i]? = true by rw [List.getElem?_append_left hl]; exact hi)
      refine ⟨hl, this.1, this.2.trans ?_⟩
      show (L2.start N vs)[i]? = z.s[i]?
      unfold L2.start
      rw [List.getElem?_append_left (by rw [List.length_map, ← hel]; exact hl), hs]
    refine ⟨⟨ry.same, ?_, fun i s h => ?_, fun i h => ?_, fun i j a hij hi hj => ?_⟩, ⟨m.out, m.dom, m.g, m.gn, fun i a h => ?_, fun i h => ?_, keepE_len _ _⟩⟩
    · show z.s.length = (keepE z.e y.e).length
      rw [keepE_len]; exact rp.len
    · have h' : (keepE z.e y.e)[i]? = some s := h
      show SlOk K y.G y.H ((z.s[i]?).join) (if isOw z.e[i]? = true then y.F i else []) s
      cases hw : isOw z.e[i]? with
      | true =>
        obtain ⟨hl, h3, h4⟩ := ow i hw
        rw [if_pos rfl, ← h4]
        rw [keepE_ow _ _ _ hw] at h'
        cases hy : y.e[i]? with
        | none => rw [hy] at h3; cases h3
        | some u => rw [hy] at h'; cases h'; exact ry.ok i _ hy
      | false =>
        rw [if_neg (by simp)]
        have hl : i < z.e.length := by have := (List.getElem?_eq_some_iff.mp h').1; rw [keepE_len] at this; exact this
        rw [keepE_no _ _ _ hl hw] at h'
        cases h'
        rfl
    · have h' : (keepE z.e y.e).length ≤ i := h
      rw [keepE_len] at h'
      show (if isOw z.e[i]? = true then y.F i else []) = []
      rw [List.getElem?_eq_none (by omega)]; rfl
    · have hi' : a ∈ (if isOw z.e[i]? = true then y.F i else []) := hi
      have hj' : a ∈ (if isOw z.e[j]? = true then y.F j else []) := hj
      split at hi'
      · split at hj'
        · exact ry.sep i j a hij hi' hj'
        · cases hj'
      · cases hi'
    · have h' : a ∈ (if isOw z.e[i]? = true then y.F i else []) := h
      split at h'
      · exact m.fn i a h'
      · cases h'
    · obtain ⟨hl, h3, h4⟩ := ow i h
      refine ⟨?_, rfl⟩
      show isOw (keepE z.e y.e)[i]? = true
      rw [keepE_ow _ _ _ h]
      cases hy : y.e[i]? with
      | none => rw [hy] at h3; cases h3
      | some u => rw [hy] at h3; exact h3
  cases o with
  | nx e1 =>
    cases h2
    intro y m ry ee
    obtain ⟨b1, b2⟩ := back y m ry
    exact q .non (z.ret y) [] b2 b1 rfl (by show keepE z.e y.e = _; rw [ee]) ⟨rfl, _, rfl, .non⟩ fun _ h => nomatch h
  | rt r1 e1 =>
    cases h2
    intro v y Fr m ry ee so hf hg
    obtain ⟨b1, b2⟩ := back y m ry
    refine q v (z.ret y) Fr b2 b1 rfl (by show keepE z.e y.e = _; rw [ee]) so fun a ha => ⟨?_, fun i hi => ?_⟩
    · rcases hg a ha with ⟨j, h3, h4⟩ | h3
      · exfalso
        have h3' : isOw (z.e ++ List.replicate (N.length - z.e.length) Sl.no)[j]? = false := h3
        have h4' : a ∈ z.F j := h4
        by_cases hj : j < z.e.length
        · rw [List.getElem?_append_left hj] at h3'
          rw [har j h3'] at h4'; cases h4'
        · rw [rp.out j (by omega)] at h4'; cases h4'
      · exact h3
    · have hi' : a ∈ (if isOw z.e[i]? = true then y.F i else []) := hi
      split at hi'
      · exact hf a ha i hi'
      · cases hi'
  | bk _ => cases h2
  | ct _ => cases h2
end
/-! ### calls: the arguments are values, or names of pinned things -/
inductive Ar where
  | vl (d : D)
  | rf (i : Nat)
abbrev AF := Ev → Option (List Ar × Ev)
/-- an argument as it stands -/
def ArOk (K : Frg) (y : Z) (v : V) : Ar → Prop
  | .vl d => Dv K y.G v d
  | .rf i => y.s[i]? = some (some v)
inductive ArsOk (K : Frg) (y : Z) : List V → List Ar → Prop
  | nil : ArsOk K y [] []
  | cons {v : V} {vs : List V} {a : Ar} {as : List Ar} : ArOk K y v a → ArsOk K y vs as → ArsOk K y (v :: vs) (a :: as)
def tR (K : Frg) (f : AF) : TA := fun σ H Q => ∃ z as e', Rp K z ∧ z.s = σ ∧ z.H = H ∧ f z.e = some (as, e') ∧ ∀ vs y, Mv z y → Rp K y → y.s = σ → y.e = e' → ArsOk K y vs as → Q vs y.H
structure FR (X : Cx) (es : List Expr) (f : AF) : Prop where
  pa : PA X es (tR X.K f)
  ln : ∀ e p, f e = some p → p.1.length = es.length
def rNil : AF := fun e => some ([], e)
def rVal (f : EF) (g : AF) : AF := fun e => (f e).bind fun p => (g p.2).map fun q => (.vl p.1 :: q.1, q.2)
def rRef (i : Nat) (g : AF) : AF := fun e => if isOw e[i]? then (g e).map fun q => (.rf i :: q.1, q.2) else none
section
variable {X : Cx} {pos : Pos}
theorem fr_nil : FR X [] rNil := ⟨PA.imp pa_nil fun σ H Q ⟨z, d, e', rp, hs, hH, hf, q⟩ => by
  subst hs hH
  cases hf
  exact q [] z (Mv.refl z) rp rfl rfl .nil, fun e p h => by cases h; rfl⟩
theorem fr_val {a : Expr} {es : List Expr} {f : EF} {g : AF} (ha : FE X a f) (hr : FR X es g) (hs : starEach (a :: es) X.env = (false, eval a X.env) :: starEach es X.env := by rfl) : FR X (a :: es) (rVal f g) :=
  ⟨PA.imp (pa_cons ha.pe hr.pa hs) fun σ H Q ⟨z, d, e', rp, hs, hH, hf, q⟩ => by
    subst hs hH
    obtain ⟨⟨x, e1⟩, h1, hf⟩ := Option.bind_eq_some_iff.mp hf
    obtain ⟨⟨xs, e2⟩, h2, h3⟩ := Option.map_eq_some_iff.mp hf
    cases h3
    refine ⟨z, x, e1, rp, rfl, rfl, h1, fun v1 y1 m1 r1 s1 ee1 p1 => ⟨y1, xs, e2, r1, s1, rfl, by rw [ee1]; exact h2, fun v2 y2 m2 r2 s2 ee2 p2 => ?_⟩⟩
    exact q (v1 :: v2) y2 (m1.trans m2) r2 s2 ee2 (.cons (dvMono m2.g _ _ p1) p2), fun e p h => by
    obtain ⟨⟨x, e1⟩, h1, hf⟩ := Option.bind_eq_some_iff.mp h
    obtain ⟨⟨xs, e2⟩, h2, h3⟩ := Option.map_eq_some_iff.mp hf
    cases h3
    exact congrArg (· + 1) (hr.ln _ _ h2)⟩
theorem fr_ref {i : Nat} {x : Str} {p : Pos} {es : List Expr} {g : AF} (hN : X.N[i]? = some x) (hv : Vis X.env.scope x) (hr : FR X es g) (hs : starEach (.Name x p :: es) X.env = (false, eval (.Name x p) X.env) :: starEach es X.env := by rfl) (hd : (x == ("__debug__" : Str)) = false := by decide) (hcd : (x == ("__classdict__" : Str)) = false := by decide) : FR X (.Name x p :: es) (rRef i g) :=
  ⟨PA.imp (pa_cons (pe_var hN hv hd hcd) hr.pa hs) (fun σ H Q ⟨z, d, e', rp, hs, hH, hf, q⟩ => by
    subst hs hH
    unfold rRef at hf
    split at hf
    · rename_i hw
      obtain ⟨⟨xs, e2⟩, h2, h3⟩ := Option.map_eq_some_iff.mp hf
      cases h3
      cases hq : z.e[i]? with
      | none => rw [hq] at hw; cases hw
      | some s =>
        rw [hq] at hw
        have so := rp.ok i s hq
        cases s with
        | ow t =>
          obtain ⟨v, e1, _⟩ := so
          refine ⟨v, joinSome e1, z, xs, _, rp, rfl, rfl, h2, fun v2 y2 m2 r2 s2 ee2 p2 => q (v :: v2) y2 m2 r2 s2 ee2 (.cons ?_ p2)⟩
          show y2.s[i]? = some (some v)
          rw [s2]; exact joinSome e1
        | no => cases hw
        | va _ => cases hw
        | li _ => cases hw
        | di _ => cases hw
        | dt _ => cases hw
        | dl _ => cases hw
        | tn _ => cases hw
    · cases hf), fun e p h => by
    unfold rRef at h
    split at h
    · obtain ⟨⟨xs, e2⟩, h2, h3⟩ := Option.map_eq_some_iff.mp h
      cases h3
      exact congrArg (· + 1) (hr.ln _ _ h2)
    · cases h⟩
/-- what the callee is told -/
def arSl (e : Ev) : Ar → Sl
  | .vl d => .va d
  | .rf i => (e[i]?).getD .no
/-- what is told behind the call: the pinned things' new contents, slot by slot -/
def arBack : List Ar → List Sl → Ev → Ev
  | .rf i :: as, s :: ss, e => arBack as ss (e.set i s)
  | .vl _ :: as, _ :: ss, e => arBack as ss e
  | _, _, e => e
def refs : List Ar → List Nat
  | [] => []
  | .rf i :: as => i :: refs as
  | .vl _ :: as => refs as
def oCall (g : Fnc) (f : AF) : OF := fun e => (f e).bind fun p => if (refs p.1).Nodup ∧ ((refs p.1).all fun i => isOw p.2[i]?) = true then (g (p.1.map (arSl p.2))).map fun q => (q.1, arBack p.1 q.2 p.2) else none
def posOf : List Ar → Nat → Nat
  | [], _ => 0
  | .rf j :: as, i => if j = i then 0 else posOf as i + 1
  | .vl _ :: as, i => posOf as i + 1
theorem posOf_spec : ∀ {as : List Ar} {i : Nat}, i ∈ refs as → as[posOf as i]? = some (.rf i)
  | [], i, h => nomatch h
  | .rf j :: as, i, h => by
    unfold posOf
    by_cases e : j = i
    · rw [if_pos e, e]; rfl
    · rw [if_neg e]
      show as[posOf as i]? = _
      exact posOf_spec ((List.mem_cons.mp h).elim (fun z => absurd z.symm e) fun z => z)
  | .vl _ :: as, i, h => by
    show as[posOf as i]? = _
    exact posOf_spec h
theorem refs_mem : ∀ {as : List Ar} {k i : Nat}, as[k]? = some (.rf i) → i ∈ refs as
  | [], k, i, h => by simp at h
  | .rf j :: as, 0, i, h => by cases h; exact List.mem_cons_self
  | .vl _ :: as, 0, i, h => by cases h
  | .rf j :: as, k + 1, i, h => List.mem_cons_of_mem _ (refs_mem (k := k) (by simpa using h))
  | .vl _ :: as, k + 1, i, h => refs_mem (as := as) (k := k) (by simpa using h)
theorem refs_one : ∀ {as : List Ar} {k l i : Nat}, (refs as).Nodup → as[k]? = some (.rf i) → as[l]? = some (.rf i) → k = l
  | [], k, l, i, _, h, _ => by simp at h
  | .vl _ :: as, 0, l, i, _, h, _ => by cases h
  | .vl _ :: as, k + 1, 0, i, _, _, h => by cases h
  | .vl _ :: as, k + 1, l + 1, i, n, h, h' => congrArg (· + 1) (refs_one (as := as) n (by simpa using h) (by simpa using h'))
  | .rf j :: as, 0, 0, i, _, _, _ => rfl
  | .rf j :: as, 0, l + 1, i, n, h, h' => by
    cases h
    exact absurd (refs_mem (as := as) (k := l) (by simpa using h')) (List.nodup_cons.mp n).1
  | .rf j :: as, k + 1, 0, i, n, h', h => by
    cases h
    exact absurd (refs_mem (as := as) (k := k) (by simpa using h')) (List.nodup_cons.mp n).1
  | .rf j :: as, k + 1, l + 1, i, n, h, h' => congrArg (· + 1) (refs_one (as := as) (List.nodup_cons.mp n).2 (by simpa using h) (by simpa using h'))
theorem arBack_len : ∀ (as : List Ar) (ss : List Sl) (e : Ev), (arBack as ss e).length = e.length
  | [], _, _ => rfl
  | .rf i :: as, [], _ => rfl
  | .vl _ :: as, [], _ => rfl
  | .rf i :: as, s :: ss, e => by show (arBack as ss (e.set i s)).length = _; rw [arBack_len as ss, List.length_set]
  | .vl _ :: as, _ :: ss, e => arBack_len as ss e
theorem arBack_get : ∀ (as : List Ar) (ss : List Sl) (e : Ev) (i : Nat), ss.length = as.length → (refs as).Nodup → (arBack as ss e)[i]? = if i ∈ refs as ∧ i < e.length then ss[posOf as i]? else e[i]?
  | [], ss, e, i, _, _ => by
    rw [if_neg (fun h => nomatch h.1)]
    cases ss <;> rfl
  | .rf j :: as, [], e, i, h, _ => by cases h
  | .vl _ :: as, [], e, i, h, _ => by cases h
  | .vl _ :: as, s :: ss, e, i, h, n => by
    show (arBack as ss e)[i]? = if i ∈ refs as ∧ i < e.length then ss[posOf as i]? else e[i]?
    exact arBack_get as ss e i (by simpa using h) n
  | .rf j :: as, s :: ss, e, i, h, n => by
    obtain ⟨n1, n2⟩ := List.nodup_cons.mp n
    show (arBack as ss (e.set j s))[i]? = if i ∈ j :: refs as ∧ i < e.length then (s :: ss)[if j = i then 0 else posOf as i + 1]? else e[i]?
    rw [arBack_get as ss _ i (by simpa using h) n2, List.length_set]
    by_cases e1 : j = i
    · subst e1
      rw [if_neg (fun q => n1 q.1), if_pos rfl]
      by_cases hl : j < e.length
      · rw [if_pos ⟨List.mem_cons_self, hl⟩, List.getElem?_set_self hl]; rfl
      · rw [if_neg (fun q => hl q.2), List.getElem?_eq_none (by rw [List.length_set]; omega), List.getElem?_eq_none (by omega)]
    · rw [if_neg e1, List.getElem?_set_ne e1]
      by_cases h2 : i ∈ refs as ∧ i < e.length
      · rw [if_pos h2, if_pos ⟨List.mem_cons_of_mem _ h2.1, h2.2⟩]; rfl
      · rw [if_neg h2, if_neg (fun q => h2 ⟨(List.mem_cons.mp q.1).elim (fun z => absurd z.symm e1) fun z => z, q.2⟩)]
theorem arsOk_len {K : Frg} {y : Z} : ∀ {vs : List V} {as : List Ar}, ArsOk K y vs as → vs.length = as.length
  | _, _, .nil => rfl
  | _, _, .cons _ t => by rw [List.length_cons, List.length_cons, arsOk_len t]
theorem arsOk_get {K : Frg} {y : Z} : ∀ {vs : List V} {as : List Ar} {k : Nat} {a : Ar}, ArsOk K y vs as → as[k]? = some a → ∃ v, vs[k]? = some v ∧ ArOk K y v a
  | _, _, k, a, .nil, h => by simp at h
  | _, _, 0, a, .cons (v := v) h t, e => by simp at e; subst e; exact ⟨v, rfl, h⟩
  | _, _, k + 1, a, .cons h t, e => by
    obtain ⟨v, h1, h2⟩ := arsOk_get (k := k) t (by simpa using e)
    exact ⟨v, by simpa using h1, h2⟩
/-- the callee's state -/
def Z.cal (y : Z) (vs : List V) (as : List Ar) : Z := { y with s := vs.map some, e := as.map (arSl y.e), F := fun k => match as[k]? with
  | some (.rf i) => y.F i
  | _ => [] }
/-- the caller's state behind it -/
def Z.aft (y u : Z) (as : List Ar) : Z := { u with s := y.s, e := arBack as u.e y.e, F := fun i => if i ∈ refs as then u.F (posOf as i) else y.F i }
theorem call_in {K : Frg} {y : Z} (r : Rp K y) {vs : List V} {as : List Ar} (ok : ArsOk K y vs as) (nd : (refs as).Nodup) (ow : ((refs as).all fun i => isOw y.e[i]?) = true) : Rp K (y.cal vs as) ∧ ∀ i : Nat, isOw (y.cal vs as).e[i]? = false → (y.cal vs as).F i = [] := by
  have hl := arsOk_len ok
  have how : ∀ k i : Nat, as[k]? = some (.rf i) → isOw y.e[i]? = true := fun k i h => List.all_eq_true.mp ow i (refs_mem h)
  refine ⟨⟨r.same, ?_, fun k s h => ?_, fun k h => ?_, fun k l a hkl hk hl' => ?_⟩, fun k h => ?_⟩
  · show (vs.map some).length = (as.map (arSl y.e)).length
    rw [List.length_map, List.length_map]; exact hl
  · have h' : (as.map (arSl y.e))[k]? = some s := h
    rw [List.getElem?_map] at h'
    obtain ⟨a, h1, h2⟩ := Option.map_eq_some_iff.mp h'
    subst h2
    obtain ⟨v, h3, h4⟩ := arsOk_get ok h1
    show SlOk K y.G y.H (((vs.map some)[k]?).join) (match as[k]? with | some (.rf i) => y.F i | _ => []) (arSl y.e a)
    rw [List.getElem?_map, h3, h1]
    cases a with
    | vl d => exact ⟨rfl, v, rfl, h4⟩
    | rf i =>
      have hi := how k i h1
      cases hq : y.e[i]? with
      | none => rw [hq] at hi; cases hi
      | some u =>
        have so := r.ok i u hq
        have h4' : y.s[i]? = some (some v) := h4
        rw [h4'] at so
        show SlOk K y.G y.H (some v) (y.F i) ((y.e[i]?).getD .no)
        rw [hq]; exact so
  · have h' : (as.map (arSl y.e)).length ≤ k := h
    rw [List.length_map] at h'
    show (match as[k]? with | some (.rf i) => y.F i | _ => []) = []
    rw [List.getElem?_eq_none h']
  · have hk' : a ∈ (match as[k]? with | some (.rf i) => y.F i | _ => []) := hk
    have hl'' : a ∈ (match as[l]? with | some (.rf i) => y.F i | _ => []) := hl'
    split at hk'
    · rename_i i hi
      split at hl''
      · rename_i j hj
        refine r.sep i j a (fun e => hkl ?_) hk' hl''
        subst e
        exact refs_one nd hi hj
      · cases hl''
    · cases hk'
  · show (match as[k]? with | some (.rf i) => y.F i | _ => []) = []
    split
    · rename_i i hi
      have h' : isOw (as.map (arSl y.e))[k]? = false := h
      rw [List.getElem?_map, hi] at h'
      have h2 := how k i hi
      cases hq : y.e[i]? with
      | none => rw [hq] at h2; cases h2
      | some u =>
        have h3 : isOw (some ((y.e[i]?).getD .no)) = false := h'
        rw [hq] at h3 h2
        have h4 : isOw (some u) = false := h3
        rw [h4] at h2; cases h2
    · rfl
theorem call_out {K : Frg} {y u : Z} (r : Rp K y) {vs : List V} {as : List Ar} (ok : ArsOk K y vs as) (nd : (refs as).Nodup) (ow : ((refs as).all fun i => isOw y.e[i]?) = true) (m : Mv (y.cal vs as) u) (ru : Rp K u) (su : u.s = (y.cal vs as).s) : Rp K (y.aft u as) ∧ Mv y (y.aft u as) := by
  have hel : u.e.length = as.length := by rw [m.ln]; show (as.map (arSl y.e)).length = _; rw [List.length_map]
  have how : ∀ i : Nat, i ∈ refs as → isOw y.e[i]? = true := fun i h => List.all_eq_true.mp ow i h
  have hlt : ∀ i : Nat, i ∈ refs as → i < y.e.length := fun i h => by
    by_cases q : i < y.e.length
    · exact q
    · have := how i h
      rw [List.getElem?_eq_none (by omega)] at this; cases this
  have cF : ∀ i : Nat, i ∈ refs as → (y.cal vs as).F (posOf as i) = y.F i := fun i h => by
    show (match as[posOf as i]? with | some (.rf i) => y.F i | _ => []) = y.F i
    rw [posOf_spec h]
  have cF2 : ∀ (k : Nat) (a : Addr), a ∈ (y.cal vs as).F k → ∃ i, i ∈ refs as ∧ as[k]? = some (.rf i) ∧ a ∈ y.F i := fun k a h => by
    have h' : a ∈ (match as[k]? with | some (.rf i) => y.F i | _ => []) := h
    split at h'
    · rename_i i hi; exact ⟨i, refs_mem hi, hi, h'⟩
    · cases h'
  have hget : ∀ i : Nat, (arBack as u.e y.e)[i]? = if i ∈ refs as ∧ i < y.e.length then u.e[posOf as i]? else y.e[i]? := fun i => arBack_get as u.e y.e i hel nd
  have sref : ∀ i : Nat, i ∈ refs as → u.s[posOf as i]? = y.s[i]? := fun i h => by
    obtain ⟨v, h3, h4⟩ := arsOk_get ok (posOf_spec h)
    rw [su]
    show (vs.map some)[posOf as i]? = y.s[i]?
    rw [List.getElem?_map, h3]
    exact (show y.s[i]? = some (some v) from h4).symm
  refine ⟨⟨ru.same, ?_, fun i s h => ?_, fun i h => ?_, fun i j a hij hi hj => ?_⟩, ⟨fun a o h hf => ?_, m.dom, m.g, fun a h hf => m.gn a h fun k hk => by
      obtain ⟨j, _, _, hja⟩ := cF2 k a hk
      exact hf j hja, fun i a h => ?_, fun i h => ?_, arBack_len _ _ _⟩⟩
  · show y.s.length = (arBack as u.e y.e).length
    rw [arBack_len]; exact r.len
  · have h' : (arBack as u.e y.e)[i]? = some s := h
    rw [hget] at h'
    show SlOk K u.G u.H ((y.s[i]?).join) (if i ∈ refs as then u.F (posOf as i) else y.F i) s
    by_cases hi : i ∈ refs as
    · rw [if_pos ⟨hi, hlt i hi⟩] at h'
      rw [if_pos hi, ← sref i hi]
      exact ru.ok _ s h'
    · rw [if_neg (fun q => hi q.1)] at h'
      rw [if_neg hi]
      refine slFrame (r.ok i s h') m.g (fun a ha => ?_) fun a ha => ?_
      · have lv := (r.live ha).2
        cases hq : y.H a with
        | none => exact absurd hq lv
        | some o =>
          refine m.out a o hq fun k hk => ?_
          obtain ⟨j, hj, _, hja⟩ := cF2 k a hk
          exact r.sep j i a (fun e => hi (e ▸ hj)) hja ha
      · refine (m.gn a (r.live ha).2 fun k hk => ?_).trans (r.live ha).1
        obtain ⟨j, hj, _, hja⟩ := cF2 k a hk
        exact r.sep j i a (fun e => hi (e ▸ hj)) hja ha
  · have h' : (arBack as u.e y.e).length ≤ i := h
    rw [arBack_len] at h'
    show (if i ∈ refs as then u.F (posOf as i) else y.F i) = []
    rw [if_neg (fun q => by have := hlt i q; omega)]
    exact r.out i h'
  · have hi' : a ∈ (if i ∈ refs as then u.F (posOf as i) else y.F i) := hi
    have hj' : a ∈ (if j ∈ refs as then u.F (posOf as j) else y.F j) := hj
    have mix : ∀ i j : Nat, i ≠ j → i ∈ refs as → a ∈ u.F (posOf as i) → a ∈ y.F j → False := fun i j hij hi h1 h2 => by
      rcases m.fn _ a h1 with h3 | h3
      · rw [cF i hi] at h3
        exact r.sep i j a hij h3 h2
      · exact (r.live h2).2 h3
    by_cases h1 : i ∈ refs as
    · rw [if_pos h1] at hi'
      by_cases h2 : j ∈ refs as
      · rw [if_pos h2] at hj'
        refine ru.sep _ _ a (fun e => hij ?_) hi' hj'
        have e1 := posOf_spec h1
        have e2 := posOf_spec h2
        rw [e, e2] at e1
        cases e1; rfl
      · rw [if_neg h2] at hj'
        exact mix i j hij h1 hi' hj'
    · rw [if_neg h1] at hi'
      by_cases h2 : j ∈ refs as
      · rw [if_pos h2] at hj'
        exact mix j i (Ne.symm hij) h2 hj' hi'
      · rw [if_neg h2] at hj'
        exact r.sep i j a hij hi' hj'
  · refine m.out a o h fun k hk => ?_
    obtain ⟨j, _, _, hja⟩ := cF2 k a hk
    exact hf j hja
  · have h' : a ∈ (if i ∈ refs as then u.F (posOf as i) else y.F i) := h
    by_cases h1 : i ∈ refs as
    · rw [if_pos h1] at h'
      have := m.fn _ a h'
      rw [cF i h1] at this
      exact this
    · rw [if_neg h1] at h'
      exact .inl h'
  · refine ⟨?_, rfl⟩
    show isOw (arBack as u.e y.e)[i]? = true
    rw [hget]
    by_cases h1 : i ∈ refs as
    · rw [if_pos ⟨h1, hlt i h1⟩]
      refine (m.kp (posOf as i) ?_).1
      show isOw (as.map (arSl y.e))[posOf as i]? = true
      rw [List.getElem?_map, posOf_spec h1]
      show isOw (some ((y.e[i]?).getD .no)) = true
      cases hq : y.e[i]? with
      | none => rw [hq] at h; cases h
      | some s => rw [hq] at h; exact h
    · rw [if_neg (fun q => h1 q.1)]; exact h
theorem fo_call {k np : Nat} {f : Addr} {fd : FuncData} {ps : List Str} {g : Fnc} {x : Str} {p : Pos} {a : Expr} {es : List Expr} {af : AF} (F : FnOk X.prog X.w X.K X.mg X.base CX0 k f fd ps (spF X.K np g)) (hr : Room k X.A) (hm : X.mg x = some (.ref f)) (hk : PySem.W.keepIn X.K (.ref f) = true) (hb : Binds X.K fd ps []) (ha : FR X (a :: es) af) (hn : (a :: es).length = np)
    (hg : Gl X x := by rfl) (hdb : (x == ("__debug__" : Str)) = false := by decide) (he : starEach (a :: es) X.env = (false, eval a X.env) :: starEach es X.env := by rfl) (hpl : (backTo pos (starEach es X.env)).any (·.1) = false := by rfl) :
    FO X (.Call (.Name x p) (a :: es) [] pos) (oCall g af) :=
  ⟨PE.imp (pe_call F hr hg hm hk hb .nil pass0 ha.pa hdb he hpl) fun σ H Q ⟨z, r, e', rp, hs, hH, hf, q⟩ => by
    subst hs hH
    obtain ⟨⟨as, e1⟩, h1, hf⟩ := Option.bind_eq_some_iff.mp hf
    split at hf
    · rename_i hc
      obtain ⟨⟨r1, ss'⟩, h2, hf⟩ := Option.map_eq_some_iff.mp hf
      cases hf
      refine ⟨z, as, e1, rp, rfl, rfl, h1, fun vs y m ry sy ey ok => ?_⟩
      obtain ⟨hc1, hc2⟩ := hc
      have hc2' : ((refs as).all fun i => isOw y.e[i]?) = true := by rw [ey]; exact hc2
      obtain ⟨c1, c2⟩ := call_in ry ok hc1 hc2'
      rw [List.append_nil]
      refine ⟨by rw [arsOk_len ok, ← hn]; exact ha.ln _ _ h1, y.cal vs as, r1, ss', rfl, rfl, c1, c2, by show g (as.map (arSl y.e)) = _; rw [ey]; exact h2, fun v u Fr mu ru su eu so hf => ?_⟩
      obtain ⟨d1, d2⟩ := call_out ry ok hc1 hc2' mu ru su
      refine q v (y.aft u as) Fr (m.trans d2) d1 sy (by show arBack as u.e y.e = _; rw [eu, ey]) so fun b hb => ⟨?_, fun i hi => ?_⟩
      · by_cases hz : z.H b = none
        · exact hz
        · exact absurd (hf b hb).1 (m.dom b hz)
      · have hi' : b ∈ (if i ∈ refs as then u.F (posOf as i) else y.F i) := hi
        split at hi'
        · exact (hf b hb).2 _ hi'
        · exact (ry.live hi').2 (hf b hb).1
    · cases hf⟩
end
end Fl

set_option Elab.async false
set_option linter.all false
set_option maxRecDepth 100000
set_option maxHeartbeats 1000000
set_option autoImplicit false
/-! FnMeth: own lists changed; stores by place; operators in place; several targets. -/
namespace Fl
open PySem PySem.Spec PyProof.Rows L2
/-! ### an own list changed -/
def liOf : Option Sl → Option (List D)
  | some (.li xs) => some xs
  | _ => none
theorem liOf_some {o : Option Sl} {xs : List D} (h : liOf o = some xs) : o = some (.li xs) := by
  unfold liOf at h
  split at h
  · cases h; rfl
  · cases h
def Z.upLi (z : Z) (i : Nat) (a : Addr) (vs : List V) (ys : List D) : Z := { z with H := upd z.H a (.lst vs), e := z.e.set i (.li ys) }
theorem Rp.upLi {K : Frg} {z : Z} (r : Rp K z) {i : Nat} {xs ys : List D} {a : Addr} {ws : List V} (h : z.e[i]? = some (.li xs)) (hs : z.s[i]? = some (some (.ref a))) (hd : DvAll K z.G ws ys) : Rp K (z.upLi i a ws ys) ∧ Mv z (z.upLi i a ws ys) := by
  obtain ⟨a', vs, e1, e2, e3, e4, e5⟩ := r.own h
  rw [hs] at e1
  cases e1
  have hl := (List.getElem?_eq_some_iff.mp h).1
  have nf : ∀ j, j ≠ i → a ∉ z.F j := fun j hj => r.sep i j a (Ne.symm hj) (by rw [e2]; simp)
  refine ⟨⟨fun b x e => ?_, ?_, fun j s hj => ?_, fun j hj => ?_, r.sep⟩, ⟨fun b o hb hf => ?_, fun b hb => upd_none hb, Same.refl _, fun _ _ _ => rfl, fun _ _ h => .inl h, fun j hj => ?_, List.length_set ..⟩⟩
  · show upd z.H a (.lst ws) b = some x
    rw [upd_ne (ne_of_none (H := z.G) e e3)]; exact r.same _ _ e
  · show z.s.length = (z.e.set i (.li ys)).length
    rw [List.length_set]; exact r.len
  · have hj' : (z.e.set i (.li ys))[j]? = some s := hj
    show SlOk K z.G (upd z.H a (.lst ws)) ((z.s[j]?).join) (z.F j) s
    by_cases e : j = i
    · subst e
      rw [List.getElem?_set_self hl] at hj'
      cases hj'
      rw [hs]
      exact ⟨a, ws, rfl, e2, e3, upd_same, hd⟩
    · rw [List.getElem?_set_ne (Ne.symm e)] at hj'
      exact slFrame (r.ok j s hj') (Same.refl _) (fun b hb => upd_ne (memNe (nf j e) hb)) fun b hb => (r.live hb).1
  · have hj' : (z.e.set i (.li ys)).length ≤ j := hj
    rw [List.length_set] at hj'
    exact r.out j hj'
  · show upd z.H a (.lst ws) b = some o
    rw [upd_ne (fun e => hf i (by rw [e, e2]; simp))]; exact hb
  · have e : i ≠ j := fun e => by rw [← e, h] at hj; cases hj
    show isOw (z.e.set i (.li ys))[j]? = true ∧ z.s[j]? = z.s[j]?
    rw [List.getElem?_set_ne e]; exact ⟨hj, rfl⟩
section
variable {X : Cx} {pos : Pos}
/-- name.m(e) of an own list: g tells the value and the new list -/
def eMt1 (g : List D → D → Option (D × List D)) (i : Nat) (f : EF) : EF := fun e => (liOf e[i]?).bind fun _ => (f e).bind fun p => (liOf p.2[i]?).bind fun xs => (g xs p.1).map fun r => (r.1, p.2.set i (.li r.2))
def eMt0 (g : List D → Option (D × List D)) (i : Nat) : EF := fun e => (liOf e[i]?).bind fun xs => (g xs).map fun r => (r.1, e.set i (.li r.2))
def Mt1 (K : Frg) (r : V → List V → Hp → VK → Prop) (g : List D → D → Option (D × List D)) : Prop := ∀ a vs xs d vd rd ys G H (Q : VK), g xs d = some (rd, ys) → Same G H → H a = some (.lst vs) → DvAll K G vs xs → Dv K G vd d →
  (∀ rv ws, Dv K G rv rd → DvAll K G ws ys → Q rv (upd H a (.lst ws))) → r (.ref a) [vd] H Q
def Mt0 (K : Frg) (r : V → List V → Hp → VK → Prop) (g : List D → Option (D × List D)) : Prop := ∀ a vs xs rd ys G H (Q : VK), g xs = some (rd, ys) → Same G H → H a = some (.lst vs) → DvAll K G vs xs →
  (∀ rv ws, Dv K G rv rd → DvAll K G ws ys → Q rv (upd H a (.lst ws))) → r (.ref a) [] H Q
theorem fe_mt1 {i : Nat} {x : Str} {p apos : Pos} {name : Str} {id : String} {r : V → List V → Hp → VK → Prop} {g : List D → D → Option (D × List D)} {a : Expr} {f : EF} (slot : Slot "list" name id) (hty : typeOf (.builtin id) = pure (.type "method_descriptor")) (hm : MtR X id r) (hg : Mt1 X.K r g)
    (hN : X.N[i]? = some x) (hv : Vis X.env.scope x) (ha : FE X a f) (hbase : attributeBase (.Name x p) name X.env (eval (.Name x p) X.env) = eval (.Name x p) X.env := by rfl) (hfew : ((backTo pos (starEach [a] X.env)).all (fun x => !x.1) && (backToKw pos (keywordEach [] X.env)).all (fun x => x.1.isSome)
      && decide (([a]).length + ([] : List Keyword).length + (if ([] : List Keyword).isEmpty then 0 else 1) < 30)) = true := by rfl) (hline : (apos.endLine == pos.line) = true := by rfl)
    (he : starEach [a] X.env = (false, eval a X.env) :: starEach [] X.env := by rfl) (hpl : (backTo pos (starEach [] X.env)).any (·.1) = false := by rfl) (hd : (x == ("__debug__" : Str)) = false := by decide) (hcd : (x == ("__classdict__" : Str)) = false := by decide) : FE X (.Call (.Attribute (.Name x p) name apos) [a] [] pos) (eMt1 g i f) :=
  ⟨PE.imp (pe_bm PySem.F.plainAttrs_list slot hty hm (pe_var hN hv hd hcd) (pa_cons ha.pe pa_nil he) hbase hfew hline he hpl) fun σ H Q ⟨z, d, e', rp, hs, hH, hf, q⟩ => by
    subst hs hH
    obtain ⟨xs0, h0, hf⟩ := Option.bind_eq_some_iff.mp hf
    obtain ⟨⟨xd, e1⟩, h1, hf⟩ := Option.bind_eq_some_iff.mp hf
    obtain ⟨xs, h2, hf⟩ := Option.bind_eq_some_iff.mp hf
    obtain ⟨⟨rd, ys⟩, h3, hf⟩ := Option.map_eq_some_iff.mp hf
    cases hf
    obtain ⟨b, vs0, k1, k2, k3, k4, k5⟩ := rp.own (liOf_some h0)
    refine ⟨.ref b, k1, .inl ⟨rfl, _, SqL.of k4⟩, z, xd, e1, rp, rfl, rfl, h1, fun v y m ry sy ey pv => ?_⟩
    have hli : y.e[i]? = some (.li xs) := by rw [ey]; exact liOf_some h2
    obtain ⟨b', vs, l1, l2, l3, l4, l5⟩ := ry.own hli
    rw [sy, k1] at l1
    cases l1
    refine hg b vs xs xd v rd ys y.G y.H Q h3 ry.same l4 l5 pv fun rv ws p1 p2 => ?_
    obtain ⟨r5, m5⟩ := ry.upLi hli (by rw [sy]; exact k1) p2
    exact q rv (y.upLi i b ws ys) (m.trans m5) r5 sy (by show y.e.set i (.li ys) = _; rw [ey]) p1⟩
theorem fe_mt0 {i : Nat} {x : Str} {p apos : Pos} {name : Str} {id : String} {r : V → List V → Hp → VK → Prop} {g : List D → Option (D × List D)} (slot : Slot "list" name id) (hty : typeOf (.builtin id) = pure (.type "method_descriptor")) (hm : MtR X id r) (hg : Mt0 X.K r g)
    (hN : X.N[i]? = some x) (hv : Vis X.env.scope x) (hbase : attributeBase (.Name x p) name X.env (eval (.Name x p) X.env) = eval (.Name x p) X.env := by rfl) (hline : (apos.endLine == pos.line) = true := by rfl)
    (hd : (x == ("__debug__" : Str)) = false := by decide) (hcd : (x == ("__classdict__" : Str)) = false := by decide) : FE X (.Call (.Attribute (.Name x p) name apos) [] [] pos) (eMt0 g i) :=
  ⟨PE.imp (pe_bm0 PySem.F.plainAttrs_list slot hty hm (pe_var hN hv hd hcd) hbase hline) fun σ H Q ⟨z, d, e', rp, hs, hH, hf, q⟩ => by
    subst hs hH
    obtain ⟨xs, h0, hf⟩ := Option.bind_eq_some_iff.mp hf
    obtain ⟨⟨rd, ys⟩, h3, hf⟩ := Option.map_eq_some_iff.mp hf
    cases hf
    obtain ⟨b, vs, k1, k2, k3, k4, k5⟩ := rp.own (liOf_some h0)
    refine ⟨.ref b, k1, .inl ⟨rfl, _, SqL.of k4⟩, hg b vs xs rd ys z.G z.H Q h3 rp.same k4 k5 fun rv ws p1 p2 => ?_⟩
    obtain ⟨r5, m5⟩ := rp.upLi (liOf_some h0) k1 p2
    exact q rv (z.upLi i b ws ys) m5 r5 rfl rfl p1⟩
def gAppend (xs : List D) (d : D) : Option (D × List D) := if xs.length < sizeLine then some (.none, xs ++ [d]) else none
theorem mt1_append {K : Frg} : Mt1 K rAppend gAppend := fun a vs xs d vd rd ys G H Q e s ha hx hd q => by
  unfold gAppend at e
  split at e
  · rename_i hl
    cases e
    exact ⟨a, vs, vd, rfl, rfl, ha, by rw [dvAll_len hx]; exact hl, q .non _ .non (dvAll_app hx (dvAll_one hd))⟩
  · cases e
def gExtend (xs : List D) : D → Option (D × List D)
  | .list zs => if xs.length + zs.length ≤ sizeLine then some (.none, xs ++ zs) else none
  | _ => none
theorem mt1_extend {K : Frg} : Mt1 K rExtend gExtend := fun a vs xs d vd rd ys G H Q e s ha hx hd q => by
  unfold gExtend at e
  split at e
  · split at e
    · rename_i zs hl
      cases e
      obtain ⟨b, ws, rfl, k1, k2⟩ := vwLst s (.inl hd)
      exact ⟨a, b, vs, ws, rfl, rfl, ha, k1, by rw [dvAll_len hx, dvAll_len k2]; exact hl, q .non _ .non (dvAll_app hx k2)⟩
    · cases e
  · cases e
def gPop (xs : List D) : Option (D × List D) := (xs[xs.length - 1]?).map fun y => (y, xs.dropLast)
theorem dvAll_dropLast {K : Frg} {G : Hp} {vs : List V} {ds : List D} (h : DvAll K G vs ds) : DvAll K G vs.dropLast ds.dropLast := by
  rw [List.dropLast_eq_take, List.dropLast_eq_take, dvAll_len h]
  exact dvAll_take _ h
theorem mt0_pop {K : Frg} : Mt0 K rPop gPop := fun a vs xs rd ys G H Q e s ha hx q => by
  obtain ⟨y, h1, h2⟩ := Option.map_eq_some_iff.mp e
  cases h2
  obtain ⟨v, h3, h4⟩ := dvAll_get hx h1
  exact ⟨a, vs, v, rfl, rfl, ha, by rw [dvAll_len hx]; exact h3, q v _ h4 (dvAll_dropLast hx)⟩
def gPopAt (xs : List D) : D → Option (D × List D)
  | .int k => if -(2 ^ 63) ≤ k ∧ k < 2 ^ 63 then (ixN xs.length k).bind fun j => (xs[j]?).map fun y => (y, xs.eraseIdx j) else none
  | _ => none
theorem mt1_popAt {K : Frg} : Mt1 K rPopAt gPopAt := fun a vs xs d vd rd ys G H Q e s ha hx hd q => by
  unfold gPopAt at e
  split at e
  · split at e
    · rename_i k hk
      obtain ⟨j, h1, e⟩ := Option.bind_eq_some_iff.mp e
      obtain ⟨y, h2, h3⟩ := Option.map_eq_some_iff.mp e
      cases h3
      cases hd
      obtain ⟨v, h4, h5⟩ := dvAll_get hx h2
      obtain ⟨k1, k2, k3, k4⟩ := ixN_seq h1
      exact ⟨a, vs, k, j, v, rfl, rfl, ha, hk.1, hk.2, by rw [dvAll_len hx]; exact k1, h4, q v _ h5 (dvAll_erase j hx)⟩
    · cases e
  · cases e
/-! ### name[i] = e of an own list -/
def sSub (i : Nat) (fi fv : EF) : SF := fun e => (fv e).bind fun p => (liOf p.2[i]?).bind fun _ => (fi p.2).bind fun q => (liOf q.2[i]?).bind fun xs => match q.1 with
  | .int k => (ixN xs.length k).map fun j => .nx (q.2.set i (.li (xs.set j p.1)))
  | _ => none
theorem fs_sub {i : Nat} {x : Str} {p p2 : Pos} {b a : Expr} {fi fv : EF} (hN : X.N[i]? = some x) (hv : Vis X.env.scope x) (hb : FE X b fi) (ha : FE X a fv)
    (hq : ∀ v, assign (.Subscript (.Name x p) b p2) X.env v = (do
      let ov ← holding [v] (eval (.Name x p) X.env)
      let iv ← holding [v, ov] (eval b X.env)
      standAt p2
      holding [v, ov, iv] (setItem ov iv v)
      release [v, ov, iv] []) := by intro _; rfl)
    (hs : swapsWithSole [.Subscript (.Name x p) b p2] a pos.line X.env = pure false := by rfl) (hw : swappedStores [.Subscript (.Name x p) b p2] a X.env = pure none := by rfl) (h1 : (assignEach [.Subscript (.Name x p) b p2] X.env).map (·.2) = [assign (.Subscript (.Name x p) b p2) X.env] := by rfl)
    (hd : (x == ("__debug__" : Str)) = false := by decide) (hcd : (x == ("__classdict__" : Str)) = false := by decide) : FS X (.Assign [.Subscript (.Name x p) b p2] a pos) (sSub i fi fv) :=
  fs_of (ps_asg ha.pe (pg_sub (pe_var hN hv hd hcd) hb.pe set_list hq) hs hw h1) fun D z o r h q => by
    obtain ⟨⟨vd, e1⟩, h1, h⟩ := Option.bind_eq_some_iff.mp h
    obtain ⟨xs0, h2, h⟩ := Option.bind_eq_some_iff.mp h
    obtain ⟨⟨kd, e2⟩, h3, h⟩ := Option.bind_eq_some_iff.mp h
    obtain ⟨xs, h4, h⟩ := Option.bind_eq_some_iff.mp h
    cases kd with
    | int k =>
      obtain ⟨j, h5, h6⟩ := Option.map_eq_some_iff.mp (show ((ixN xs.length k).map _) = some o from h)
      subst h6
      refine ⟨z, vd, e1, r, rfl, rfl, h1, fun v y m ry sy ey pv => ?_⟩
      obtain ⟨b', vs0, k1, k2, k3, k4, k5⟩ := ry.own (i := i) (xs := xs0) (by rw [ey]; exact liOf_some h2)
      refine ⟨.ref b', by rw [← sy]; exact k1, y, _, e2, ry, sy, rfl, by rw [ey]; exact h3, fun w u mu ru su eu pw => ?_⟩
      have hli : u.e[i]? = some (.li xs) := by rw [eu]; exact liOf_some h4
      obtain ⟨b2, vs, l1, l2, l3, l4, l5⟩ := ru.own hli
      rw [su, ← sy, k1] at l1
      cases l1
      cases pw
      refine ⟨b', vs, k, j, rfl, rfl, l4, by rw [dvAll_len l5]; exact h5, ?_⟩
      obtain ⟨r5, m5⟩ := ru.upLi (ws := vs.set j v) (ys := xs.set j vd) hli (by rw [su, ← sy]; exact k1) (dvAll_set (dvMono mu.g _ _ pv) j l5)
      have := q _ ((m.trans mu).trans m5) r5 (by show u.e.set i (.li (xs.set j vd)) = _; rw [eu])
      show D.nx z.s (upd u.H b' (.lst (vs.set j v)))
      rw [← su]; exact this
    | none => cases h
    | bool _ => cases h
    | str _ => cases h
    | list _ => cases h
    | tuple _ => cases h
    | dict _ => cases h
/-! ### name op= e -/
def sAug (g : D → D → Option D) (i : Nat) (f : EF) : SF := fun e => match e[i]? with
  | some (.va x) => (f e).bind fun p => (g x p.1).bind fun d => if isOw p.2[i]? then none else some (.nx (p.2.set i (.va d)))
  | _ => none
theorem fs_aug {i : Nat} {x : Str} {a : Expr} {f : EF} {op : Operator} {ti : TIp} {g : D → D → Option D} {pos' : Pos} (hN : X.N.Nodup) (hi : X.N[i]? = some x) (hx : Loc X.env.scope x) (ha : FE X a f) (ho : PIp X op ti) (hg : Op2 X.K ti g) (hf : X.fn x = true ∨ X.env.scope.names.lookup x = some .local := by first | exact .inl rfl | exact .inr rfl | assumption) : FS X (.AugAssign (.Name x pos') op a pos) (sAug g i f) :=
  fs_of (ps_aug hN hi hx ha.pe ho hf) fun D z o r h q => by
    unfold sAug at h
    split at h
    · rename_i xd hx
      obtain ⟨⟨yd, e1⟩, h1, h⟩ := Option.bind_eq_some_iff.mp h
      obtain ⟨d, h2, h⟩ := Option.bind_eq_some_iff.mp h
      split at h
      · cases h
      · rename_i no
        cases h
        obtain ⟨v, k1, k2⟩ := r.var hx
        refine ⟨v, k1, z, yd, e1, r, rfl, rfl, h1, fun w y m ry sy ey pw => ?_⟩
        have no' : isOw y.e[i]? = false := by rw [ey]; simpa using no
        refine hg xd yd d y.G y.H v w _ h2 ry.same (dvMono m.g _ _ k2) (.inl pw) (fun u pu => ?_) fun u p o hn pu => ?_
        · have := q (y.put i u (.va d) []) (m.put no' fun _ h => nomatch h) (ry.put ⟨rfl, u, rfl, pu⟩ fun _ h => nomatch h) (by show y.e.set i _ = _; rw [ey])
          show D.nx (z.s.set i (some u)) y.H
          rw [← sy]; exact this
        · obtain ⟨r5, m5⟩ := ry.add (o := o) hn
          have := q ((y.add p o).put i u (.va d) []) ((m.trans m5).put no' fun _ h => nomatch h) (r5.put ⟨rfl, u, rfl, pu⟩ fun _ h => nomatch h) (by show y.e.set i _ = _; rw [ey])
          show D.nx (z.s.set i (some u)) (upd y.H p o)
          rw [← sy]; exact this
    · cases h
/-- += of ints and texts, -= of ints -/
def dIadd : D → D → Option D
  | .int i, .int j => some (.int (i + j))
  | .str i, .str j => if i.length + j.length ≤ sizeLine then some (.str (i ++ j)) else none
  | _, _ => none
theorem ip_addA : PIp X .Add (fun x y H Q => rI0 (fun i j => .int (i + j)) x y H Q ∨ ∃ i j, x = .str i ∧ y = .str j ∧ i.length + j.length ≤ sizeLine ∧ Q (.str (i ++ j)) H) := (iop_add (X := X)).or iop_add_str
theorem ip2_add {K : Frg} : Op2 K (fun x y H Q => rI0 (fun i j => .int (i + j)) x y H Q ∨ ∃ i j, x = .str i ∧ y = .str j ∧ i.length + j.length ≤ sizeLine ∧ Q (.str (i ++ j)) H) dIadd := fun x y d G H vx vy Q e s a b q _ => by
  unfold dIadd at e
  split at e
  · cases e; cases a; rw [vwInt b]; exact .inl ⟨_, _, rfl, rfl, q _ (.int _)⟩
  · split at e
    · rename_i hc; cases e; cases a; rw [vwStr b]; exact .inr ⟨_, _, rfl, rfl, hc, q _ (.str _)⟩
    · cases e
  · cases e
theorem fs_augAdd {i : Nat} {x : Str} {a : Expr} {f : EF} {pos' : Pos} (hN : X.N.Nodup) (hi : X.N[i]? = some x) (hx : Loc X.env.scope x) (ha : FE X a f) (hf : X.fn x = true ∨ X.env.scope.names.lookup x = some .local := by first | exact .inl rfl | exact .inr rfl | assumption) : FS X (.AugAssign (.Name x pos') .Add a pos) (sAug dIadd i f) := fs_aug hN hi hx ha ip_addA ip2_add hf
theorem fs_augSub {i : Nat} {x : Str} {a : Expr} {f : EF} {pos' : Pos} (hN : X.N.Nodup) (hi : X.N[i]? = some x) (hx : Loc X.env.scope x) (ha : FE X a f) (hf : X.fn x = true ∨ X.env.scope.names.lookup x = some .local := by first | exact .inl rfl | exact .inr rfl | assumption) : FS X (.AugAssign (.Name x pos') .Sub a pos) (sAug dSub i f) := fs_aug hN hi hx ha (iop_sub (X := X)) (op_dI fun _ _ _ => .int _) hf
/-! ### several things of one's own in a row -/
abbrev OLF := Ev → Option (List Sl × Ev)
/-- made things, apart from all that is owned, and from one another -/
inductive TsOk (K : Frg) (z y : Z) : List V → List (List Addr) → List Sl → Prop
  | nil : TsOk K z y [] [] []
  | cons {v : V} {vs : List V} {Fr : List Addr} {Frs : List (List Addr)} {s : Sl} {ss : List Sl} : SlOk K y.G y.H (some v) Fr s → (∀ a ∈ Fr, z.H a = none ∧ (∀ i, a ∉ y.F i) ∧ ∀ Fq ∈ Frs, a ∉ Fq) → TsOk K z y vs Frs ss → TsOk K z y (v :: vs) (Fr :: Frs) (s :: ss)
def tOl (K : Frg) (f : OLF) : TA := fun σ H Q => ∃ z rs e', Rp K z ∧ z.s = σ ∧ z.H = H ∧ f z.e = some (rs, e') ∧ ∀ vs y Frs, Mv z y → Rp K y → y.s = σ → y.e = e' → TsOk K z y vs Frs rs → Q vs y.H
structure FOl (X : Cx) (es : List Expr) (f : OLF) : Prop where
  pa : PA X es (tOl X.K f)
def olNil : OLF := fun e => some ([], e)
def olCons (f : OF) (g : OLF) : OLF := fun e => (f e).bind fun p => (g p.2).map fun q => (p.1 :: q.1, q.2)
theorem tsLive {K : Frg} {z y : Z} : ∀ {vs : List V} {Frs : List (List Addr)} {ss : List Sl}, TsOk K z y vs Frs ss → ∀ Fq ∈ Frs, ∀ a ∈ Fq, z.H a = none
  | _, _, _, .nil, _, h => nomatch h
  | _, _, _, .cons h1 h2 h3, Fq, h => by
    intro a ha
    rcases List.mem_cons.mp h with e | h
    · subst e; exact (h2 a ha).1
    · exact tsLive h3 Fq h a ha
theorem tsBack {K : Frg} {z0 z y : Z} (m : Mv z0 z) : ∀ {vs : List V} {Frs : List (List Addr)} {ss : List Sl}, TsOk K z y vs Frs ss → TsOk K z0 y vs Frs ss
  | _, _, _, .nil => .nil
  | _, _, _, .cons h1 h2 h3 => .cons h1 (fun a ha => ⟨by
      by_cases q : z0.H a = none
      · exact q
      · exact absurd (h2 a ha).1 (m.dom a q), (h2 a ha).2⟩) (tsBack m h3)
theorem fol_nil : FOl X [] olNil := ⟨PA.imp pa_nil fun σ H Q ⟨z, d, e', rp, hs, hH, hf, q⟩ => by
  subst hs hH
  cases hf
  exact q [] z [] (Mv.refl z) rp rfl rfl .nil⟩
theorem fol_cons {a : Expr} {es : List Expr} {f : OF} {g : OLF} (ha : FO X a f) (hr : FOl X es g) (hs : starEach (a :: es) X.env = (false, eval a X.env) :: starEach es X.env := by rfl) : FOl X (a :: es) (olCons f g) :=
  ⟨PA.imp (pa_cons ha.po hr.pa hs) fun σ H Q ⟨z, d, e', rp, hs, hH, hf, q⟩ => by
    subst hs hH
    obtain ⟨⟨x, e1⟩, h1, hf⟩ := Option.bind_eq_some_iff.mp hf
    obtain ⟨⟨xs, e2⟩, h2, h3⟩ := Option.map_eq_some_iff.mp hf
    cases h3
    refine ⟨z, x, e1, rp, rfl, rfl, h1, fun v1 y1 F1 m1 r1 s1 ee1 so hf => ⟨y1, xs, _, r1, s1, rfl, by rw [ee1]; exact h2, fun v2 y2 F2 m2 r2 s2 ee2 ts => ?_⟩⟩
    have lv := slLive so
    have nd : ∀ a ∈ F1, ∀ i, a ∉ y2.F i := fun a ha i hi => by
      rcases m2.fn i a hi with h | h
      · exact (hf a ha).2 i h
      · exact (lv a ha).2 h
    have hH2 : ∀ a ∈ F1, y2.H a = y1.H a := fun a ha => by
      cases hq : y1.H a with
      | none => exact absurd hq (lv a ha).2
      | some o => exact m2.out a o hq (hf a ha).2
    refine q (v1 :: v2) y2 (F1 :: F2) (m1.trans m2) r2 s2 ee2 (.cons (slFrame so m2.g hH2 fun a ha => (m2.gn a (lv a ha).2 (hf a ha).2).trans (lv a ha).1) (fun a ha => ⟨(hf a ha).1, nd a ha, fun Fq hq hF => ?_⟩) (tsBack m1 ts))
    exact (lv a ha).2 (tsLive ts Fq hq a hF)⟩
/-- slots, one after another -/
def setAll : List Nat → List Sl → Ev → Option Ev
  | [], [], e => some e
  | i :: is, s :: ss, e => if isOw e[i]? then none else setAll is ss (e.set i s)
  | _, _, _ => none
def sPar (is : List Nat) (f : OLF) : SF := fun e => (f e).bind fun p => (setAll is p.1 p.2).map fun e2 => .nx e2
def stAll : List Nat → List V → L2.St → L2.St
  | i :: is, v :: vs, σ => stAll is vs (σ.set i (some v))
  | _, _, σ => σ
/-- the state behind such stores -/
theorem setAll_go {K : Frg} {z : Z} : ∀ {is : List Nat} {vs : List V} {Frs : List (List Addr)} {ss : List Sl} {y : Z} {e' : Ev}, Mv z y → Rp K y → TsOk K z y vs Frs ss → setAll is ss y.e = some e' →
    ∃ u, Mv z u ∧ Rp K u ∧ u.e = e' ∧ u.H = y.H ∧ u.s = stAll is vs y.s
  | [], _, _, _, y, e', m, r, .nil, h => by cases h; exact ⟨y, m, r, rfl, rfl, rfl⟩
  | [], _, _, _, y, e', m, r, .cons _ _ _, h => by cases h
  | i :: is, _, _, _, y, e', m, r, .nil, h => by cases h
  | i :: is, _, _, _, y, e', m, r, .cons (v := v) (vs := vs) (Fr := Fr) (Frs := Frs) (s := s) (ss := ss) h1 h2 h3, h => by
    have h' : (if isOw y.e[i]? = true then none else setAll is ss (y.e.set i s)) = some e' := h
    split at h'
    · cases h'
    · rename_i no
      have no' : isOw y.e[i]? = false := by simpa using no
      have r2 : Rp K (y.put i v s Fr) := r.put h1 fun a ha j _ => (h2 a ha).2.1 j
      have m2 : Mv z (y.put i v s Fr) := m.put no' fun a ha => .inr (h2 a ha).1
      have t2 : TsOk K z (y.put i v s Fr) vs Frs ss := by
        have gen : ∀ {vs : List V} {Frs : List (List Addr)} {ss : List Sl}, (∀ a ∈ Fr, ∀ Fq ∈ Frs, a ∉ Fq) → TsOk K z y vs Frs ss → TsOk K z (y.put i v s Fr) vs Frs ss := by
          intro vs Frs ss hd t
          induction t with
          | nil => exact .nil
          | cons k1 k2 k3 ih =>
            refine .cons k1 (fun a ha => ⟨(k2 a ha).1, fun j hj => ?_, (k2 a ha).2.2⟩) (ih fun a ha Fq hq => hd a ha Fq (List.mem_cons_of_mem _ hq))
            have hj' : a ∈ (if j = i then (if i < y.e.length then Fr else []) else y.F j) := hj
            split at hj'
            · split at hj'
              · exact hd a hj' _ List.mem_cons_self ha
              · cases hj'
            · exact (k2 a ha).2.1 j hj'
        exact gen (fun a ha => (h2 a ha).2.2) h3
      obtain ⟨u, u1, u2, u3, u4, u5⟩ := setAll_go (is := is) m2 r2 t2 h'
      exact ⟨u, u1, u2, u3, u4, u5⟩
/-- a, b = x, y with plain local names -/
theorem fs_par {i j : Nat} {x y : Str} {a b : Expr} {f : OLF} {px py pt : Pos} {kt k2 pt2} (hc : X.calm = true) (hN : X.N.Nodup) (hi : X.N[i]? = some x) (hj : X.N[j]? = some y) (hij : i ≠ j) (hx : X.env.scope.names.lookup x = some .local) (hy : X.env.scope.names.lookup y = some .local) (ha : FOl X [a, b] f)
    (hw : swappedStores [.Tuple [.Name x px, .Name y py] kt pt] (.Tuple [a, b] k2 pt2) X.env = pure (some [x, y])) (hs : swapsWithSole [.Tuple [.Name x px, .Name y py] kt pt] (.Tuple [a, b] k2 pt2) pos.line X.env = pure false := by rfl) : FS X (.Assign [.Tuple [.Name x px, .Name y py] kt pt] (.Tuple [a, b] k2 pt2) pos) (sPar [i, j] f) :=
  fs_of (ps_par hc hN hi hj hij hx hy ha.pa hw hs) fun D z o r h q => by
    obtain ⟨⟨ss, e1⟩, h1, h⟩ := Option.bind_eq_some_iff.mp h
    obtain ⟨e2, h2, h3⟩ := Option.map_eq_some_iff.mp h
    subst h3
    refine ⟨z, ss, e1, r, rfl, rfl, h1, fun vs y Frs m ry sy ey ts => ?_⟩
    obtain ⟨u, u1, u2, u3, u4, u5⟩ := setAll_go m ry ts (show setAll [i, j] ss y.e = some e2 by rw [ey]; exact h2)
    cases ts with
    | nil => cases h2
    | cons k1 k2 k3 =>
      cases k3 with
      | nil =>
        exfalso
        have h2' : (if isOw e1[i]? = true then none else none) = some e2 := h2
        split at h2' <;> cases h2'
      | cons l1 l2 l3 =>
        cases l3 with
        | nil =>
          refine ⟨_, _, rfl, ?_⟩
          have := q u u1 u2 u3
          rw [u4, u5, sy] at this
          exact this
        | cons _ _ _ =>
          exfalso
          have h2' : (if isOw e1[i]? = true then none else if _ then none else none) = some e2 := h2
          split at h2'
          · cases h2'
          · split at h2' <;> cases h2'
/-- names as targets -/
def gNames : List Nat → TGs
  | [] => gNil
  | i :: is => gCons (gName i) (gNames is)
theorem gNames_go : ∀ {is : List Nat} {vs : List V} {σ : L2.St} {H : Hp} {Q : L2.St → Hp → Prop}, vs.length = is.length → Q (stAll is vs σ) H → gNames is vs σ H Q
  | [], [], _, _, _, _, h => ⟨rfl, h⟩
  | i :: is, v :: vs, σ, H, Q, hl, h => ⟨v, vs, rfl, gNames_go (is := is) (by simpa using hl) h⟩
  | [], _ :: _, _, _, _, hl, _ => by cases hl
  | _ :: _, [], _, _, _, hl, _ => by cases hl
theorem tsLen {K : Frg} {z y : Z} : ∀ {vs : List V} {Frs : List (List Addr)} {ss : List Sl}, TsOk K z y vs Frs ss → vs.length = ss.length
  | _, _, _, .nil => rfl
  | _, _, _, .cons _ _ t => congrArg (· + 1) (tsLen t)
theorem setAll_len : ∀ {is : List Nat} {ss : List Sl} {e e' : Ev}, setAll is ss e = some e' → ss.length = is.length
  | [], [], _, _, _ => rfl
  | [], _ :: _, _, _, h => by cases h
  | _ :: _, [], _, _, h => by cases h
  | i :: is, s :: ss, e, e', h => by
    have h' : (if isOw e[i]? = true then none else setAll is ss (e.set i s)) = some e' := h
    split at h'
    · cases h'
    · exact congrArg (· + 1) (setAll_len h')
/-- a, b, .. = x, y, .. by way of a tuple (names that are cells, or four and more): nobody holds the tuple behind it -/
theorem fs_parT {is : List Nat} {tgs es : List Expr} {f : OLF} {kt k2 : Nat} {pt pt2 : Pos} (hc : X.calm = true) (ha : FOl X es f) (hg : PGs X tgs (gNames is)) (hl : is.length ≤ sizeLine)
    (hn : (assignEach tgs X.env).length = is.length := by rfl) (hst : (assignEach tgs X.env).findIdx? (·.1) = none := by rfl)
    (hs : swapsWithSole [.Tuple tgs kt pt] (.Tuple es k2 pt2) pos.line X.env = pure false := by rfl) (hw : swappedStores [.Tuple tgs kt pt] (.Tuple es k2 pt2) X.env = pure none := by rfl) (h1 : (assignEach [.Tuple tgs kt pt] X.env).map (·.2) = [assign (.Tuple tgs kt pt) X.env] := by rfl) :
    FS X (.Assign [.Tuple tgs kt pt] (.Tuple es k2 pt2) pos) (sPar is f) :=
  fs_of (ps_asg (pe_tup ha.pa) (pg_tup hc hg hn hst) hs hw h1) fun D z o r h q => by
    obtain ⟨⟨ss, e1⟩, h1, h⟩ := Option.bind_eq_some_iff.mp h
    obtain ⟨e2, h2, h3⟩ := Option.map_eq_some_iff.mp h
    subst h3
    have hlen := setAll_len h2
    refine ⟨z, ss, e1, r, rfl, rfl, h1, fun vs y Frs m ry sy ey ts => ⟨by rw [tsLen ts, hlen]; exact hl, fun p hp => ?_⟩⟩
    refine ⟨p, vs, rfl, SqT.of upd_same, (tsLen ts).trans hlen, gNames_go ((tsLen ts).trans hlen) ?_⟩
    obtain ⟨r5, m5⟩ := ry.new (o := .tup vs) hp
    have t5 : TsOk X.K z (y.new p (.tup vs)) vs Frs ss := by
      have gen : ∀ {ws : List V} {Frs : List (List Addr)} {ss : List Sl}, TsOk X.K z y ws Frs ss → TsOk X.K z (y.new p (.tup vs)) ws Frs ss := by
        intro ws Frs ss t
        induction t with
        | nil => exact .nil
        | cons k1 k2 k3 ih =>
          refine .cons (slFrame k1 (Same.refl _) (fun a ha => upd_ne fun e => (slLive k1 a ha).2 (by rw [e]; exact hp)) fun a ha => (slLive k1 a ha).1) (fun a ha => k2 a ha) ih
      exact gen ts
    obtain ⟨u, u1, u2, u3, u4, u5⟩ := setAll_go (m.trans m5) r5 t5 (show setAll is ss y.e = some e2 by rw [ey]; exact h2)
    have := q u u1 u2 u3
    rw [u4, u5] at this
    show D.nx (stAll is vs z.s) (upd y.H p (.tup vs))
    rw [← sy]; exact this
end
end Fl

set_option Elab.async false
set_option linter.all false
set_option maxRecDepth 100000
set_option maxHeartbeats 1000000
set_option autoImplicit false
/-! FnFrz: a name as a value (an own list stands still from then on); the tape of a law. -/
namespace Fl
open PySem PySem.Spec PyProof.Rows L2
/-- a name's value; an own list stands still from now on -/
def eNm (i : Nat) : EF := fun e => match e[i]? with
  | some (.va d) => some (d, e)
  | some (.tn ds) => some (.tuple ds, e)
  | some (.li xs) => some (.list xs, e.set i (.va (.list xs)))
  | _ => none
section
variable {X : Cx} {pos : Pos}
def Z.fz (z : Z) (i : Nat) (a : Addr) (vs : List V) (xs : List D) : Z := { z with G := upd z.G a (.lst vs), e := z.e.set i (.va (.list xs)), F := fun j => if j = i then [] else z.F j }
theorem Rp.fzName {K : Frg} {z : Z} (r : Rp K z) {i : Nat} {xs : List D} {a : Addr} {vs : List V} (h : z.e[i]? = some (.li xs)) (k1 : z.s[i]? = some (some (.ref a))) (k2 : z.F i = [a]) (k3 : z.G a = none) (k4 : z.H a = some (.lst vs)) (k5 : DvAll K z.G vs xs) : Rp K (z.fz i a vs xs) ∧ Mv z (z.fz i a vs xs) := by
  have hl := (List.getElem?_eq_some_iff.mp h).1
  have nf : ∀ j, j ≠ i → a ∉ z.F j := fun j hj => r.sep i j a (Ne.symm hj) (by rw [k2]; simp)
  refine ⟨⟨fun b x e => ?_, ?_, fun j s hj => ?_, fun j hj => ?_, fun j l b hjl hj hl' => ?_⟩, ⟨fun _ _ h _ => h, fun _ h => h, sameUpd k3, fun b hb hk => ?_, fun j b hb => ?_, fun j hj => ?_, List.length_set ..⟩⟩
  · have e' : upd z.G a (.lst vs) b = some x := e
    show z.H b = some x
    by_cases q : b = a
    · subst q; rw [upd_same] at e'; rw [k4]; exact e'
    · rw [upd_ne q] at e'; exact r.same _ _ e'
  · show z.s.length = (z.e.set i (.va (.list xs))).length
    rw [List.length_set]; exact r.len
  · have hj' : (z.e.set i (.va (.list xs)))[j]? = some s := hj
    show SlOk K (upd z.G a (.lst vs)) z.H ((z.s[j]?).join) (if j = i then [] else z.F j) s
    by_cases e : j = i
    · subst e
      rw [List.getElem?_set_self hl] at hj'
      cases hj'
      rw [if_pos rfl, k1]
      exact ⟨rfl, .ref a, rfl, .lst upd_same (dvMonoAll (sameUpd k3) _ _ k5)⟩
    · rw [List.getElem?_set_ne (Ne.symm e)] at hj'
      rw [if_neg e]
      refine slFrame (r.ok j s hj') (sameUpd k3) (fun _ _ => rfl) fun b hb => ?_
      rw [upd_ne (memNe (nf j e) hb)]
      exact (r.live hb).1
  · have hj' : (z.e.set i (.va (.list xs))).length ≤ j := hj
    rw [List.length_set] at hj'
    show (if j = i then [] else z.F j) = []
    split
    · rfl
    · exact r.out j hj'
  · have a1 : b ∈ (if j = i then [] else z.F j) := hj
    have a2 : b ∈ (if l = i then [] else z.F l) := hl'
    split at a1
    · cases a1
    · split at a2
      · cases a2
      · exact r.sep j l b hjl a1 a2
  · show upd z.G a (.lst vs) b = z.G b
    exact upd_ne fun e => hk i (by rw [e, k2]; simp)
  · have hb' : b ∈ (if j = i then [] else z.F j) := hb
    split at hb'
    · cases hb'
    · exact .inl hb'
  · have e : i ≠ j := fun e => by rw [← e, h] at hj; cases hj
    show isOw (z.e.set i (.va (.list xs)))[j]? = true ∧ z.s[j]? = z.s[j]?
    rw [List.getElem?_set_ne e]; exact ⟨hj, rfl⟩
theorem fe_nm {i : Nat} {x : Str} (hN : X.N[i]? = some x) (hv : Vis X.env.scope x) (hd : (x == ("__debug__" : Str)) = false := by decide) (hcd : (x == ("__classdict__" : Str)) = false := by decide) : FE X (.Name x pos) (eNm i) :=
  ⟨PE.imp (pe_var hN hv hd hcd) fun σ H Q ⟨z, d, e', r, hs, hH, hf, q⟩ => by
    subst hs hH
    unfold eNm at hf
    split at hf
    · rename_i d' h
      cases hf
      obtain ⟨v, h1, h2⟩ := r.var h
      exact ⟨v, h1, q v z (Mv.refl z) r rfl rfl h2⟩
    · rename_i d' h
      cases hf
      obtain ⟨a, xs, o, h1, h2, _, h4⟩ := r.tnv h
      exact ⟨_, h1, q _ z (Mv.refl z) r rfl rfl (.tup (.inl (.inr ⟨o, h2⟩)) h4)⟩
    · rename_i xs h
      cases hf
      obtain ⟨a, vs, k1, k2, k3, k4, k5⟩ := r.own h
      obtain ⟨r2, m2⟩ := r.fzName h k1 k2 k3 k4 k5
      exact ⟨.ref a, k1, q _ (z.fz i a vs xs) m2 r2 rfl rfl (.lst upd_same (dvMonoAll (sameUpd k3) _ _ k5))⟩
    · cases hf⟩
end
/-! ### the tape of a law: [numbers, a, b] -/
structure Box where
  cells : List Int
  a : Int
  b : Int
def Box.ot (b : Box) : OT := .node [.node (b.cells.map fun i => .leaf (.int i)), .leaf (.int b.a), .leaf (.int b.b)]
theorem otsInts {K : Frg} {G H : Hp} : ∀ {vs : List V} {ns : List Int} {F : List Addr}, OtsOk K G H vs (ns.map fun i => OT.leaf (.int i)) F → vs = ns.map V.int ∧ F = []
  | _, [], _, h => by cases h; exact ⟨rfl, rfl⟩
  | _, n :: ns, _, h => by
    cases h with
    | cons h1 h2 h3 =>
      cases h1 with
      | leaf h1 =>
        cases h1
        obtain ⟨e1, e2⟩ := otsInts h2
        subst e1 e2
        exact ⟨rfl, rfl⟩
theorem otsIntsMk {K : Frg} {G H : Hp} : ∀ (ns : List Int), OtsOk K G H (ns.map V.int) (ns.map fun i => OT.leaf (.int i)) []
  | [] => .nil
  | n :: ns => .cons (F1 := []) (F2 := []) (.leaf (.int n)) (otsIntsMk ns) fun _ h => nomatch h
/-- a tape on the heap: its list at p, its numbers at c -/
def BoxAt (H : Hp) (p c : Addr) (b : Box) : Prop := p ≠ c ∧ H p = some (.lst [.ref c, .int b.a, .int b.b]) ∧ H c = some (.lst (b.cells.map V.int))
theorem boxOf {K : Frg} {G H : Hp} {v : V} {F : List Addr} {b : Box} (h : OtOk K G H v b.ot F) : ∃ p c, v = .ref p ∧ F = [p, c] ∧ BoxAt H p c b ∧ G p = none ∧ G c = none := by
  cases h with
  | node h1 h2 h3 h4 =>
    cases h3 with
    | cons k1 k2 k3 =>
      cases k1 with
      | node g1 g2 g3 g4 =>
        obtain ⟨e1, e2⟩ := otsInts g3
        subst e1 e2
        cases k2 with
        | cons l1 l2 l3 =>
          cases l1 with
          | leaf l1 =>
            cases l1
            cases l2 with
            | cons m1 m2 m3 =>
              cases m1 with
              | leaf m1 =>
                cases m1
                cases m2
                refine ⟨_, _, rfl, rfl, ⟨fun e => h4 ?_, h2, g2⟩, h1, g1⟩
                rw [e]; simp
theorem boxMk {K : Frg} {G H : Hp} {p c : Addr} {b : Box} (h : BoxAt H p c b) (g1 : G p = none) (g2 : G c = none) : OtOk K G H (.ref p) b.ot [p, c] := by
  obtain ⟨h1, h2, h3⟩ := h
  have k1 : OtOk K G H (.ref c) (.node (b.cells.map fun i => OT.leaf (.int i))) [c] := .node g2 h3 (otsIntsMk _) fun h => nomatch h
  have k2 : OtsOk K G H [.int b.a, .int b.b] [.leaf (.int b.a), .leaf (.int b.b)] [] := .cons (F1 := []) (F2 := []) (.leaf (.int _)) (.cons (F1 := []) (F2 := []) (.leaf (.int _)) .nil fun _ h => nomatch h) fun _ h => nomatch h
  have k3 : OtsOk K G H [.ref c, .int b.a, .int b.b] [.node (b.cells.map fun i => OT.leaf (.int i)), .leaf (.int b.a), .leaf (.int b.b)] [c] := .cons (F1 := [c]) (F2 := []) k1 k2 fun _ _ h => nomatch h
  exact .node g1 h2 k3 (by simpa using h1)
/-- a step of the tape: what a def of it does, by hand: result and the tape behind it -/
def spBox (k : Nat) (go : Box → List V → Option (V × Box)) : Sp := fun vs H Q _ => vs.length = k + 1 ∧ ∃ p c b as r b', vs = .ref p :: as ∧ BoxAt H p c b ∧ go b as = some (r, b') ∧ ∀ H', BoxAt H' p c b' → (∀ a, a ≠ p → a ≠ c → H' a = H a) → Q r H'
/-- an int's drawing: one place -/
def gDraw (go : Box → Int → Int × Box) (ok : Int → Bool) : Fnc := fun ss => match ss with
  | [.ow (.node [.node cs, .leaf (.int a), .leaf (.int b)]), .va (.int m)] => if ok m then (cellsOf cs).map fun ns => (.va (.int (go ⟨ns, a, b⟩ m).1), [.ow (go ⟨ns, a, b⟩ m).2.ot, .no]) else none
  | _ => none
where cellsOf : List OT → Option (List Int)
  | [] => some []
  | .leaf (.int i) :: r => (cellsOf r).map (i :: ·)
  | _ :: _ => none
theorem cellsOf_map : ∀ ns : List Int, gDraw.cellsOf (ns.map fun i => OT.leaf (.int i)) = some ns
  | [] => rfl
  | n :: r => by
    show (gDraw.cellsOf (r.map fun i => OT.leaf (.int i))).map (n :: ·) = _
    rw [cellsOf_map r]; rfl
theorem cellsOf_some : ∀ {cs : List OT} {ns : List Int}, gDraw.cellsOf cs = some ns → cs = ns.map fun i => OT.leaf (.int i)
  | [], _, h => by cases h; rfl
  | .leaf (.int i) :: r, _, h => by
    obtain ⟨ms, h1, h2⟩ := Option.map_eq_some_iff.mp (show ((gDraw.cellsOf r).map (i :: ·)) = _ from h)
    subst h2
    rw [cellsOf_some h1]; rfl
  | .leaf .none :: _, _, h => nomatch h
  | .leaf (.bool _) :: _, _, h => nomatch h
  | .leaf (.str _) :: _, _, h => nomatch h
  | .leaf (.list _) :: _, _, h => nomatch h
  | .leaf (.tuple _) :: _, _, h => nomatch h
  | .leaf (.dict _) :: _, _, h => nomatch h
  | .node _ :: _, _, h => nomatch h
  | .ntup _ :: _, _, h => nomatch h
theorem gDraw_box (go : Box → Int → Int × Box) (ok : Int → Bool) (b : Box) (m : Int) (h : ok m = true) : gDraw go ok [.ow b.ot, .va (.int m)] = some (.va (.int (go b m).1), [.ow (go b m).2.ot, .no]) := by
  show (if ok m = true then (gDraw.cellsOf (b.cells.map fun i => OT.leaf (.int i))).map _ else none) = _
  rw [if_pos h, cellsOf_map]; rfl
section
variable {P : Program} {w : World} {K : Frg} {mg : Str → Option Value} {base : Heap}
/-- a drawing def's promise in the layer's words -/
theorem draw_ok {f : Addr} {fd : FuncData} {k : Nat} {ps : List Str} {go : Box → Int → Int × Box} {ok : Int → Bool} (F : FnOk P w K mg base CX0 k f fd ps (spBox 1 fun b as => match as with
    | [.int m] => if ok m then some (.int (go b m).1, (go b m).2) else none
    | _ => none)) : FnOk P w K mg base CX0 k f fd ps (spF K 2 (gDraw go ok)) := F.imp fun vs H Q E ⟨hl, z, r, ss', hs, hH, rp, har, hg, q⟩ => by
  subst hH
  refine ⟨hl, ?_⟩
  unfold gDraw at hg
  split at hg
  · rename_i cs a b m he
    split at hg
    · rename_i hok
      obtain ⟨ns, h1, h2⟩ := Option.map_eq_some_iff.mp hg
      have ec := cellsOf_some h1
      subst ec
      cases h2
      have o0 := rp.ok 0 _ (by rw [he]; rfl)
      have o1 := rp.ok 1 _ (by rw [he]; rfl)
      rw [hs] at o0 o1
      match vs, hl, hs, q, o0, o1 with
      | [v0, v1], _, hs, q, o0, o1 =>
      obtain ⟨x, e1, o0⟩ := o0
      cases e1
      obtain ⟨p, c, rfl, hF, hB, g1, g2⟩ := boxOf (b := ⟨ns, a, b⟩) o0
      obtain ⟨_, x, e2, o1⟩ := o1
      cases e2
      cases o1
      refine ⟨p, c, ⟨ns, a, b⟩, [.int m], _, _, rfl, hB, by show (if ok m = true then _ else none) = _; rw [if_pos hok], fun H' hB' hsame => ?_⟩
      have hF1 : z.F 1 = [] := by
        have := rp.ok 1 _ (show z.e[1]? = some (.va (.int m)) by rw [he]; rfl)
        exact this.1
      have hFo : ∀ i, z.F i = if i = 0 then [p, c] else [] := fun i => by
        match i with
        | 0 => rw [if_pos rfl]; exact hF
        | 1 => exact hF1
        | i + 2 => rw [if_neg (by omega)]; exact rp.out _ (by rw [he]; simp)
      have hHn : ∀ a, H' a = none → z.H a = none := fun a h => by
        by_cases e1 : a = p
        · rw [e1, hB'.2.1] at h; cases h
        · by_cases e2 : a = c
          · rw [e2, hB'.2.2] at h; cases h
          · rw [hsame a e1 e2] at h; exact h
      have nG : ∀ b x, z.G b = some x → b ≠ p ∧ b ≠ c := fun b x h => ⟨fun e => (by rw [e, g1] at h; cases h), fun e => (by rw [e, g2] at h; cases h)⟩
      have lenE : z.e.length = 2 := by rw [he]; rfl
      refine q _ { z with H := H', e := [.ow (go ⟨ns, a, b⟩ m).2.ot, .no], F := fun i => if i = 0 then [p, c] else [] } [] ⟨fun u o h hf => ?_, fun u h e => h (hHn u e), Same.refl _, fun _ _ _ => rfl, fun i u h => ?_, fun i h => ?_, by rw [he]; rfl⟩ ⟨fun u x h => ?_, ?_, fun i s h => ?_, fun i h => ?_, fun i j u hij h h' => ?_⟩ rfl rfl ⟨rfl, _, rfl, .int _⟩ fun _ h => nomatch h
      · have hp : u ∉ z.F 0 := hf 0
        rw [hF] at hp
        simp at hp
        show H' u = some o
        rw [hsame u hp.1 hp.2]; exact h
      · rw [hFo]; exact .inl h
      · match i with
        | 0 => exact ⟨rfl, rfl⟩
        | 1 => rw [he] at h; cases h
        | i + 2 => rw [he] at h; cases h
      · obtain ⟨n1, n2⟩ := nG u x h
        show H' u = some x
        rw [hsame u n1 n2]; exact rp.same _ _ h
      · show z.s.length = 2
        rw [rp.len, lenE]
      · match i with
        | 0 =>
          cases h
          show SlOk K z.G H' (z.s[0]?).join [p, c] _
          rw [hs]
          exact ⟨.ref p, rfl, boxMk hB' g1 g2⟩
        | 1 => cases h; rfl
        | i + 2 => cases h
      · show (if i = 0 then [p, c] else []) = []
        rw [if_neg (fun e => by rw [e] at h; cases h)]
      · have h1 : u ∈ (if i = 0 then [p, c] else []) := h
        have h2 : u ∈ (if j = 0 then [p, c] else []) := h'
        split at h1
        · split at h2
          · omega
          · cases h2
        · cases h1
    · cases hg
  · cases hg
end
end Fl

set_option Elab.async false
set_option linter.all false
set_option maxRecDepth 100000
set_option maxHeartbeats 1000000
set_option autoImplicit false
/-! FnShort: short words for printed terms; defs told as a whole; the built-in names. -/
namespace Fl
open PySem PySem.Spec PyProof.Rows L2
section
variable {X : Cx} {pos : Pos}
theorem fv (i : Nat) {x : Str} (hN : X.N[i]? = some x := by rfl) (hv : Vis X.env.scope x := by first | exact Or.inl rfl | exact Or.inr (Or.inl rfl) | exact Or.inr (Or.inr rfl)) (hd : (x == ("__debug__" : Str)) = false := by decide) (hcd : (x == ("__classdict__" : Str)) = false := by decide) : FE X (.Name x pos) (eVar i) := fe_var hN hv hd hcd
theorem fm (i : Nat) {x : Str} (hN : X.N[i]? = some x := by rfl) (hv : Vis X.env.scope x := by first | exact Or.inl rfl | exact Or.inr (Or.inl rfl) | exact Or.inr (Or.inr rfl)) (hd : (x == ("__debug__" : Str)) = false := by decide) (hcd : (x == ("__classdict__" : Str)) = false := by decide) : FE X (.Name x pos) (eNm i) := fe_nm hN hv hd hcd
theorem fo (i : Nat) {x : Str} (hN : X.N[i]? = some x := by rfl) (hv : Vis X.env.scope x := by first | exact Or.inl rfl | exact Or.inr (Or.inl rfl) | exact Or.inr (Or.inr rfl)) (hd : (x == ("__debug__" : Str)) = false := by decide) (hcd : (x == ("__classdict__" : Str)) = false := by decide) : FB X (.Name x pos) (eOwn i) := fb_own hN hv hd hcd
theorem fixo (i : Nat) {x : Str} {p : Pos} {b : Expr} {fb : EF} (hb : FE X b fb) (hN : X.N[i]? = some x := by rfl) (hv : Vis X.env.scope x := by first | exact Or.inl rfl | exact Or.inr (Or.inl rfl) | exact Or.inr (Or.inr rfl)) (hs : PlainIx b := by intro _ _; rfl) (hd : (x == ("__debug__" : Str)) = false := by decide) (hcd : (x == ("__classdict__" : Str)) = false := by decide) : FE X (.Subscript (.Name x p) b pos) (eIxO i fb) := fe_ixo hN hv hb hs hd hcd
theorem fgn (i : Nat) {x : Str} (hN : X.N.Nodup) (hi : X.N[i]? = some x := by rfl) (hx : Loc X.env.scope x := by first | exact Or.inl rfl | exact Or.inr rfl) (hf : X.fn x = true ∨ X.env.scope.names.lookup x = some .local := by first | exact .inl rfl | exact .inr rfl) : FG X (.Name x pos) (gNm i) [i] := fg_name hN hi hx hf
theorem fset (i : Nat) {x : Str} {a : Expr} {f : OF} {pos' : Pos} (hN : X.N.Nodup) (h : FO X a f) (hi : X.N[i]? = some x := by rfl) (hx : Loc X.env.scope x := by first | exact Or.inl rfl | exact Or.inr rfl) (hs : swapsWith a (some (.Name x pos')) pos.line X.env = pure false := by rfl) (hf : X.fn x = true ∨ X.env.scope.names.lookup x = some .local := by first | exact .inl rfl | exact .inr rfl) : FS X (.Assign [.Name x pos'] a pos) (sSet i f) := fs_set hN hi hx h hs hf
theorem fretN (i : Nat) {x : Str} {p : Pos} (hN : X.N[i]? = some x := by rfl) (hv : Vis X.env.scope x := by first | exact Or.inl rfl | exact Or.inr (Or.inl rfl) | exact Or.inr (Or.inr rfl)) (hd : (x == ("__debug__" : Str)) = false := by decide) (hcd : (x == ("__classdict__" : Str)) = false := by decide) : FS X (.Return (some (.Name x p)) pos) (sRetN i) := fs_retN hN hv hd hcd
theorem frf (i : Nat) {x : Str} {p : Pos} {es : List Expr} {g : AF} (hr : FR X es g) (hN : X.N[i]? = some x := by rfl) (hv : Vis X.env.scope x := by first | exact Or.inl rfl | exact Or.inr (Or.inl rfl) | exact Or.inr (Or.inr rfl)) (hs : starEach (.Name x p :: es) X.env = (false, eval (.Name x p) X.env) :: starEach es X.env := by rfl) (hd : (x == ("__debug__" : Str)) = false := by decide) (hcd : (x == ("__classdict__" : Str)) = false := by decide) : FR X (.Name x p :: es) (rRef i g) := fr_ref hN hv hr hs hd hcd
theorem fsub (i : Nat) {x : Str} {p p2 : Pos} {b a : Expr} {fi fv : EF} (hb : FE X b fi) (ha : FE X a fv) (hN : X.N[i]? = some x := by rfl) (hv : Vis X.env.scope x := by first | exact Or.inl rfl | exact Or.inr (Or.inl rfl) | exact Or.inr (Or.inr rfl))
    (hq : ∀ v, assign (.Subscript (.Name x p) b p2) X.env v = (do
      let ov ← holding [v] (eval (.Name x p) X.env)
      let iv ← holding [v, ov] (eval b X.env)
      standAt p2
      holding [v, ov, iv] (setItem ov iv v)
      release [v, ov, iv] []) := by intro _; rfl)
    (hs : swapsWithSole [.Subscript (.Name x p) b p2] a pos.line X.env = pure false := by rfl) (hw : swappedStores [.Subscript (.Name x p) b p2] a X.env = pure none := by rfl) (h1 : (assignEach [.Subscript (.Name x p) b p2] X.env).map (·.2) = [assign (.Subscript (.Name x p) b p2) X.env] := by rfl)
    (hd : (x == ("__debug__" : Str)) = false := by decide) (hcd : (x == ("__classdict__" : Str)) = false := by decide) : FS X (.Assign [.Subscript (.Name x p) b p2] a pos) (sSub i fi fv) := fs_sub hN hv hb ha hq hs hw h1 hd hcd
theorem faugA (i : Nat) {x : Str} {a : Expr} {f : EF} {pos' : Pos} (hN : X.N.Nodup) (ha : FE X a f) (hi : X.N[i]? = some x := by rfl) (hx : Loc X.env.scope x := by first | exact Or.inl rfl | exact Or.inr rfl) (hf : X.fn x = true ∨ X.env.scope.names.lookup x = some .local := by first | exact .inl rfl | exact .inr rfl) : FS X (.AugAssign (.Name x pos') .Add a pos) (sAug dIadd i f) := fs_augAdd hN hi hx ha hf
theorem faugS (i : Nat) {x : Str} {a : Expr} {f : EF} {pos' : Pos} (hN : X.N.Nodup) (ha : FE X a f) (hi : X.N[i]? = some x := by rfl) (hx : Loc X.env.scope x := by first | exact Or.inl rfl | exact Or.inr rfl) (hf : X.fn x = true ∨ X.env.scope.names.lookup x = some .local := by first | exact .inl rfl | exact .inr rfl) : FS X (.AugAssign (.Name x pos') .Sub a pos) (sAug dSub i f) := fs_augSub hN hi hx ha hf
theorem fpar (i j : Nat) {x y : Str} {a b : Expr} {f : OLF} {px py pt : Pos} {kt k2 pt2} (hN : X.N.Nodup) (ha : FOl X [a, b] f) (hc : X.calm = true := by rfl) (hi : X.N[i]? = some x := by rfl) (hj : X.N[j]? = some y := by rfl) (hij : i ≠ j := by decide) (hx : X.env.scope.names.lookup x = some .local := by rfl) (hy : X.env.scope.names.lookup y = some .local := by rfl)
    (hw : swappedStores [.Tuple [.Name x px, .Name y py] kt pt] (.Tuple [a, b] k2 pt2) X.env = pure (some [x, y]) := by rfl) (hs : swapsWithSole [.Tuple [.Name x px, .Name y py] kt pt] (.Tuple [a, b] k2 pt2) pos.line X.env = pure false := by rfl) : FS X (.Assign [.Tuple [.Name x px, .Name y py] kt pt] (.Tuple [a, b] k2 pt2) pos) (sPar [i, j] f) := fs_par hc hN hi hj hij hx hy ha hw hs
theorem fns_nil : PGs X [] (gNames []) := pgs_nil
theorem fns_cons (i : Nat) {is : List Nat} {x : Str} {p : Pos} {es : List Expr} (hN : X.N.Nodup) (h : PGs X es (gNames is)) (hi : X.N[i]? = some x := by rfl) (hx : Loc X.env.scope x := by first | exact Or.inl rfl | exact Or.inr rfl) (hf : X.fn x = true ∨ X.env.scope.names.lookup x = some .local := by first | exact .inl rfl | exact .inr rfl)
    (hs : (assignEach (.Name x p :: es) X.env).map (·.2) = assign (.Name x p) X.env :: (assignEach es X.env).map (·.2) := by rfl) : PGs X (.Name x p :: es) (gNames (i :: is)) := pgs_cons (pg_name hN hi hx hf) h hs
theorem fapp (i : Nat) {x : Str} {p apos : Pos} {a : Expr} {f : EF} (ha : FE X a f) (hN : X.N[i]? = some x := by rfl) (hv : Vis X.env.scope x := by first | exact Or.inl rfl | exact Or.inr (Or.inl rfl) | exact Or.inr (Or.inr rfl)) (hbase : attributeBase (.Name x p) "append" X.env (eval (.Name x p) X.env) = eval (.Name x p) X.env := by rfl)
    (hfew : ((backTo pos (starEach [a] X.env)).all (fun x => !x.1) && (backToKw pos (keywordEach [] X.env)).all (fun x => x.1.isSome)
      && decide (([a]).length + ([] : List Keyword).length + (if ([] : List Keyword).isEmpty then 0 else 1) < 30)) = true := by rfl) (hline : (apos.endLine == pos.line) = true := by rfl)
    (he : starEach [a] X.env = (false, eval a X.env) :: starEach [] X.env := by rfl) (hpl : (backTo pos (starEach [] X.env)).any (·.1) = false := by rfl) (hd : (x == ("__debug__" : Str)) = false := by decide) (hcd : (x == ("__classdict__" : Str)) = false := by decide) : FE X (.Call (.Attribute (.Name x p) "append" apos) [a] [] pos) (eMt1 gAppend i f) :=
  fe_mt1 PySem.F.slot_list_append PySem.F.type_list_append mt_append mt1_append hN hv ha hbase hfew hline he hpl hd hcd
theorem fext (i : Nat) {x : Str} {p apos : Pos} {a : Expr} {f : EF} (ha : FE X a f) (hN : X.N[i]? = some x := by rfl) (hv : Vis X.env.scope x := by first | exact Or.inl rfl | exact Or.inr (Or.inl rfl) | exact Or.inr (Or.inr rfl)) (hbase : attributeBase (.Name x p) "extend" X.env (eval (.Name x p) X.env) = eval (.Name x p) X.env := by rfl)
    (hfew : ((backTo pos (starEach [a] X.env)).all (fun x => !x.1) && (backToKw pos (keywordEach [] X.env)).all (fun x => x.1.isSome)
      && decide (([a]).length + ([] : List Keyword).length + (if ([] : List Keyword).isEmpty then 0 else 1) < 30)) = true := by rfl) (hline : (apos.endLine == pos.line) = true := by rfl)
    (he : starEach [a] X.env = (false, eval a X.env) :: starEach [] X.env := by rfl) (hpl : (backTo pos (starEach [] X.env)).any (·.1) = false := by rfl) (hd : (x == ("__debug__" : Str)) = false := by decide) (hcd : (x == ("__classdict__" : Str)) = false := by decide) : FE X (.Call (.Attribute (.Name x p) "extend" apos) [a] [] pos) (eMt1 gExtend i f) :=
  fe_mt1 PySem.F.slot_list_extend PySem.F.type_list_extend mt_extend mt1_extend hN hv ha hbase hfew hline he hpl hd hcd
theorem fpopA (i : Nat) {x : Str} {p apos : Pos} {a : Expr} {f : EF} (ha : FE X a f) (hN : X.N[i]? = some x := by rfl) (hv : Vis X.env.scope x := by first | exact Or.inl rfl | exact Or.inr (Or.inl rfl) | exact Or.inr (Or.inr rfl)) (hbase : attributeBase (.Name x p) "pop" X.env (eval (.Name x p) X.env) = eval (.Name x p) X.env := by rfl)
    (hfew : ((backTo pos (starEach [a] X.env)).all (fun x => !x.1) && (backToKw pos (keywordEach [] X.env)).all (fun x => x.1.isSome)
      && decide (([a]).length + ([] : List Keyword).length + (if ([] : List Keyword).isEmpty then 0 else 1) < 30)) = true := by rfl) (hline : (apos.endLine == pos.line) = true := by rfl)
    (he : starEach [a] X.env = (false, eval a X.env) :: starEach [] X.env := by rfl) (hpl : (backTo pos (starEach [] X.env)).any (·.1) = false := by rfl) (hd : (x == ("__debug__" : Str)) = false := by decide) (hcd : (x == ("__classdict__" : Str)) = false := by decide) : FE X (.Call (.Attribute (.Name x p) "pop" apos) [a] [] pos) (eMt1 gPopAt i f) :=
  fe_mt1 PySem.F.slot_list_pop PySem.F.type_list_pop mt_popAt mt1_popAt hN hv ha hbase hfew hline he hpl hd hcd
theorem fpop (i : Nat) {x : Str} {p apos : Pos} (hN : X.N[i]? = some x := by rfl) (hv : Vis X.env.scope x := by first | exact Or.inl rfl | exact Or.inr (Or.inl rfl) | exact Or.inr (Or.inr rfl)) (hbase : attributeBase (.Name x p) "pop" X.env (eval (.Name x p) X.env) = eval (.Name x p) X.env := by rfl) (hline : (apos.endLine == pos.line) = true := by rfl)
    (hd : (x == ("__debug__" : Str)) = false := by decide) (hcd : (x == ("__classdict__" : Str)) = false := by decide) : FE X (.Call (.Attribute (.Name x p) "pop" apos) [] [] pos) (eMt0 gPop i) :=
  fe_mt0 PySem.F.slot_list_pop PySem.F.type_list_pop mt_pop mt0_pop hN hv hbase hline hd hcd
end
/-- a made thing stands still: seen from the made one -/
theorem fz_imp {K : Frg} {f : OF} {σ : L2.St} {H : Hp} {Q : VK} (q : tO K (oE (eFz f)) σ H Q) : tO K f σ H Q := by
  obtain ⟨z, r, e', rp, hs, hH, hf, q⟩ := q
  subst hs hH
  obtain ⟨⟨d, e1⟩, h0, h2⟩ := Option.map_eq_some_iff.mp hf
  cases h2
  obtain ⟨⟨r, e1⟩, h1, hf⟩ := Option.bind_eq_some_iff.mp h0
  obtain ⟨d', h3, hf⟩ := Option.map_eq_some_iff.mp hf
  cases hf
  refine ⟨z, r, _, rp, rfl, rfl, h1, fun v y Fr m r2 s2 ee so fr => ?_⟩
  cases r with
  | va d0 =>
    cases h3
    obtain ⟨_, x, hx, p⟩ := so
    cases hx
    exact q _ y [] m r2 s2 ee ⟨rfl, _, rfl, p⟩ fun _ h => nomatch h
  | li xs =>
    cases h3
    obtain ⟨a, vs, hv, rfl, hg, hH', hd⟩ := so
    cases hv
    obtain ⟨f1, f2⟩ := fr a (by simp)
    refine q _ { y with G := upd y.G a (.lst vs) } [] ⟨m.out, m.dom, m.g.trans (sameUpd hg), fun b hb hk => ?_, m.fn, m.kp, m.ln⟩ (r2.freeze hH' hg f2) s2 ee ⟨rfl, _, rfl, .lst upd_same (dvMonoAll (sameUpd hg) _ _ hd)⟩ fun _ h => nomatch h
    show upd y.G a (.lst vs) b = z.G b
    rw [upd_ne (fun z' => hb (by rw [z']; exact f1))]
    exact m.gn b hb hk
  | tn xs =>
    cases h3
    obtain ⟨_, a, vs, o, hv, hg, _, hd⟩ := so
    cases hv
    exact q _ y [] m r2 s2 ee ⟨rfl, _, rfl, .tup (.inl (.inr ⟨o, hg⟩)) hd⟩ fun _ h => nomatch h
  | no => cases h3
  | di _ => cases h3
  | dt _ => cases h3
  | dl _ => cases h3
  | ow _ => cases h3
/-- name = [..] on one line, its list standing still from then on -/
theorem fs_setLcZ {X : Cx} {pos : Pos} {k i : Nat} {y : Str} {py : Pos} {elt tg iter : Expr} {ifs : List Expr} {scope : Scope} {own : List (Str × Nat)} {spos : Pos} {gl : LF} {t : GF} {ws vs : List Nat} {cf : BF} {f : EF} (c : Cc X k) (hy : X.N[i]? = some y) (hyl : X.env.scope.names.lookup y = some .local)
    (hsw : swapsWith (.ListComp elt [⟨tg, iter, ifs, 0⟩] scope pos) (some (.Name y py)) spos.line X.env = pure true) (hi : FI X tg iter gl) (ok : BlkOk X.N X.env.scope scope own)
    (hg : ∀ (s : Shared) (H : Hp) (C : Addr) (cl : List (Str × Addr)) (fp : List Addr), FG (X.blk s H scope (compEnvC scope cl C X.env) fp) tg t ws)
    (ht : ∀ (s : Shared) (H : Hp) (C : Addr) (cl : List (Str × Addr)) (fp : List Addr), FTs (X.blk s H scope (compEnvC scope cl C X.env) fp) ifs cf)
    (he : ∀ (s : Shared) (H : Hp) (C : Addr) (cl : List (Str × Addr)) (fp : List Addr), FE (X.blk s H scope (compEnvC scope cl C X.env) fp) elt f)
    (hvs : own.map (·.2) = vs := by rfl) (hws : ∀ j ∈ ws, j ∈ vs := by decide) (hs : ∀ x, foldedSetIterable iter X.env x = pure x := by intro _; rfl) :
    FS X (.Assign [.Name y py] (.ListComp elt [⟨tg, iter, ifs, 0⟩] scope pos) spos) (sSet i (oE (eFz (oComp gl t cf f vs)))) := by
  subst hvs
  exact fs_of (ps_setLc c.calm c.nd hy hyl hsw hi.pi ok (fun s H C cl fp => (hg s H C cl fp).pg) (fun s H C cl fp => (ht s H C cl fp).pts) (fun s H C cl fp => (he s H C cl fp).pe) hs) fun D z o r h q => lc_tO (fun _ _ _ h => h) hws (fz_imp (set_go (D := D) r h q))
/-- a def that stands at a name of the module -/
def Dk (P : Program) (w : World) (K : Frg) (mg : Str → Option Value) (base : Heap) (x : Str) (l np : Nat) (g : Fnc) : Prop :=
  ∃ (f : Addr) (fd : FuncData) (ps : List Str), FnOk P w K mg base CX0 l f fd ps (spF K np g) ∧ Binds K fd ps [] ∧ mg x = some (.ref f) ∧ PySem.W.keepIn K (.ref f) = true
theorem foc {X : Cx} {pos : Pos} {l np : Nat} {g : Fnc} {x : Str} {p : Pos} {a : Expr} {es : List Expr} {af : AF} (D : Dk X.prog X.w X.K X.mg X.base x l np g) (hr : Room l X.A) (ha : FR X (a :: es) af) (hn : (a :: es).length = np := by rfl)
    (hg : Gl X x := by rfl) (hdb : (x == ("__debug__" : Str)) = false := by decide) (he : starEach (a :: es) X.env = (false, eval a X.env) :: starEach es X.env := by rfl) (hpl : (backTo pos (starEach es X.env)).any (·.1) = false := by rfl) : FO X (.Call (.Name x p) (a :: es) [] pos) (oCall g af) := by
  obtain ⟨f, fd, ps, F, hb, hm, hk⟩ := D
  exact fo_call F hr hm hk hb ha hn hg hdb he hpl
/-- built-in names that the module leaves as they are -/
structure Bt (mg : Str → Option Value) : Prop where
  len : mg "len" = none
  range : mg "range" = none
  tuple : mg "tuple" = none
  list : mg "list" = none
  int : mg "int" = none
  bool : mg "bool" = none
  str : mg "str" = none
  all : mg "all" = none
  any : mg "any" = none
  sum : mg "sum" = none
  min : mg "min" = none
  max : mg "max" = none
  abs : mg "abs" = none
  sorted : mg "sorted" = none
  isinstance : mg "isinstance" = none
  enumerate : mg "enumerate" = none
  zip : mg "zip" = none
  set : mg "set" = none
  dict : mg "dict" = none
  reversed : mg "reversed" = none
end Fl

set_option Elab.async false
set_option linter.all false
set_option maxRecDepth 100000
set_option maxHeartbeats 1000000
set_option autoImplicit false
/-! FnMore: comparisons as values and as tests at once; chains; a list's repeat. -/
namespace Fl
open PySem PySem.Spec PyProof.Rows L2
section
variable {X : Cx} {pos : Pos}
/-- a comparison, as a value and as a test -/
structure FC (X : Cx) (e : Expr) (f : EF) : Prop where
  v : FE X e f
  t : FT X e (bB f)
theorem fc_of {a b : Expr} {op : CmpOp} {r : R2} {g : D → D → Option D} {fa fb : EF} (ho : OpR X (compareOp op) r) (hg : Op2 X.K r g) (ha : FE X a fa) (hb : FB X b fb) (hm : behindInMarks op b = false) : FC X (.Compare a [op] [b] pos) (eOp g fa fb) := ⟨fe_cmp ho hg ha hb hm, ft_cmp ho hg ha hb hm⟩
theorem op2_eq {K : Frg} : Op2 K (rEqD K) dEq := fun x y d G H vx vy Q e s a b q _ => by
  unfold dEq at e
  split at e
  · rename_i hc
    cases e
    exact ⟨x, y, Dv.dp _ _ (dvMono s _ _ a), vwAny s b, hc.1, hc.2, q _ (.bl _)⟩
  · cases e
theorem op2_ne {K : Frg} : Op2 K (rNeD K) dNe := fun x y d G H vx vy Q e s a b q _ => by
  unfold dNe at e
  split at e
  · rename_i hc
    cases e
    exact ⟨x, y, Dv.dp _ _ (dvMono s _ _ a), vwAny s b, hc.1, hc.2, q _ (.bl _)⟩
  · cases e
theorem fc_eq {k : Nat} {a b : Expr} {fa fb : EF} (c : Cc X k) (ha : FE X a fa) (hb : FB X b fb) : FC X (.Compare a [.Eq] [b] pos) (eOp dEq fa fb) := fc_of (op_eqD c.room.units) op2_eq ha hb (nomark _)
theorem fc_ne {k : Nat} {a b : Expr} {fa fb : EF} (c : Cc X k) (ha : FE X a fa) (hb : FB X b fb) : FC X (.Compare a [.NotEq] [b] pos) (eOp dNe fa fb) := fc_of (op_neD c.room.units) op2_ne ha hb (nomark _)
/-- order: ints, tuples of ints, texts -/
def asIntsT : D → Option (List Int)
  | .tuple xs => asInts xs
  | _ => none
def dLtA : D → D → Option D
  | .int i, .int j => some (.bool (decide (i < j)))
  | .str i, .str j => some (.bool (decide (i.cps.toList < j.cps.toList)))
  | .tuple xs, .tuple ys => (asInts xs).bind fun ns => (asInts ys).map fun ms => .bool (HT.lexLt ns ms)
  | _, _ => none
theorem dvInts {K : Frg} {G H : Hp} (s : Same G H) {v : V} {xs : List D} {ns : List Int} (e : asInts xs = some ns) (h : Vw K G H v (.tuple xs)) : ∃ a, v = .ref a ∧ SqT K H a (ns.map V.int) := by
  obtain ⟨a, vs, rfl, h1, h2⟩ := vwTup h
  rw [(asInts_ok e h2).1] at h1
  exact ⟨a, rfl, seqT s h1⟩
theorem op2_lt {K : Frg} : Op2 K (fun x y H Q => rI0 (fun i j => .bl (decide (i < j))) x y H Q ∨ (∃ i j, x = .str i ∧ y = .str j ∧ Q (.bl (decide (i.cps.toList < j.cps.toList))) H) ∨ rLtT K x y H Q) dLtA := fun x y d G H vx vy Q e s a b q _ => by
  unfold dLtA at e
  split at e
  · cases e; cases a; rw [vwInt b]; exact .inl ⟨_, _, rfl, rfl, q _ (.bl _)⟩
  · cases e; cases a; rw [vwStr b]; exact .inr (.inl ⟨_, _, rfl, rfl, q _ (.bl _)⟩)
  · obtain ⟨ns, h1, e⟩ := Option.bind_eq_some_iff.mp e
    obtain ⟨ms, h2, h3⟩ := Option.map_eq_some_iff.mp e
    subst h3
    obtain ⟨p, rfl, k1⟩ := dvInts s h1 (.inl a)
    obtain ⟨p2, rfl, k2⟩ := dvInts s h2 b
    exact .inr (.inr ⟨p, p2, ns, ms, rfl, rfl, k1, k2, q _ (.bl _)⟩)
  · cases e
theorem fc_lt {k : Nat} {a b : Expr} {fa fb : EF} (c : Cc X k) (ha : FE X a fa) (hb : FB X b fb) : FC X (.Compare a [.Lt] [b] pos) (eOp dLtA fa fb) := fc_of (op_lt.or (op_lt_str.or (op_ltT c.room.units0))) op2_lt ha hb (nomark _)
theorem fc_le {k : Nat} {a b : Expr} {fa fb : EF} (c : Cc X k) (ha : FE X a fa) (hb : FB X b fb) : FC X (.Compare a [.LtE] [b] pos) (eOp dLe fa fb) := fc_of op_le (op_dI fun _ _ _ => .bl _) ha hb (nomark _)
theorem fc_gt {k : Nat} {a b : Expr} {fa fb : EF} (c : Cc X k) (ha : FE X a fa) (hb : FB X b fb) : FC X (.Compare a [.Gt] [b] pos) (eOp dGt fa fb) := fc_of op_gt (op_dI fun _ _ _ => .bl _) ha hb (nomark _)
theorem fc_ge {k : Nat} {a b : Expr} {fa fb : EF} (c : Cc X k) (ha : FE X a fa) (hb : FB X b fb) : FC X (.Compare a [.GtE] [b] pos) (eOp dGe fa fb) := fc_of op_ge (op_dI fun _ _ _ => .bl _) ha hb (nomark _)
theorem op2_is {K : Frg} : Op2 K (fun x y H Q => y = .non ∧ Q (.bl (decide (x = .non))) H) dIs := fun x y d G H vx vy Q e s a b q _ => by
  unfold dIs at e
  split at e
  · rename_i hc
    cases e
    exact ⟨vwIsNon b hc, by rw [isNon_iff a]; exact q _ (.bl _)⟩
  · cases e
theorem op2_isn {K : Frg} : Op2 K (fun x y H Q => y = .non ∧ Q (.bl (!decide (x = .non))) H) dIsN := fun x y d G H vx vy Q e s a b q _ => by
  unfold dIsN at e
  split at e
  · rename_i hc
    cases e
    exact ⟨vwIsNon b hc, by rw [isNon_iff a]; exact q _ (.bl _)⟩
  · cases e
theorem fc_is {k : Nat} {a b : Expr} {fa fb : EF} (c : Cc X k) (ha : FE X a fa) (hb : FB X b fb) : FC X (.Compare a [.Is] [b] pos) (eOp dIs fa fb) := fc_of op_isN op2_is ha hb (nomark _)
theorem fc_isn {k : Nat} {a b : Expr} {fa fb : EF} (c : Cc X k) (ha : FE X a fa) (hb : FB X b fb) : FC X (.Compare a [.IsNot] [b] pos) (eOp dIsN fa fb) := fc_of op_notN op2_isn ha hb (nomark _)
/-- in: flat values in a list or a tuple -/
def flatD : D → Bool
  | .none => true
  | .bool _ => true
  | .int _ => true
  | .str _ => true
  | _ => false
theorem flat_iff {K : Frg} {G : Hp} {v : V} {d : D} (h : Dv K G v d) : flatV v = flatD d := by cases h <;> rfl
theorem eqV_iff {K : Frg} {G : Hp} {v w : V} {d e : D} (h : Dv K G v d) (k : Dv K G w e) (f1 : flatD d = true) (f2 : flatD e = true) : eqV v w = PyData.eqv d e := by
  cases h <;> cases k <;> first | rfl | cases f1 | cases f2 | (simp only [eqV, PyData.eqv])
theorem allFlat {K : Frg} {G : Hp} : ∀ {vs : List V} {ds : List D}, DvAll K G vs ds → vs.all flatV = ds.all flatD
  | _, [], h => by cases h; rfl
  | _, d :: ds, h => by
    cases h with
    | cons h1 h2 => rw [List.all_cons, List.all_cons, flat_iff h1, allFlat h2]
theorem inV_iff {K : Frg} {G : Hp} {v : V} {d : D} (h : Dv K G v d) (f : flatD d = true) : ∀ {vs : List V} {ds : List D}, DvAll K G vs ds → ds.all flatD = true → inV v vs = ds.any fun z => PyData.eqv z d
  | _, [], k, _ => by cases k; rfl
  | _, e :: ds, k, f2 => by
    cases k with
    | cons h1 h2 =>
      rw [List.all_cons, Bool.and_eq_true] at f2
      have ih := inV_iff h f h2 f2.2
      unfold inV at ih ⊢
      rw [List.any_cons, List.any_cons, ih, eqV_iff h1 h f2.1 f]
def dInB (neg : Bool) (x y : D) : Option D := match y with
  | .list ds => if flatD x = true ∧ ds.all flatD = true then some (.bool (if neg then !(ds.any fun z => PyData.eqv z x) else ds.any fun z => PyData.eqv z x)) else none
  | .tuple ds => if flatD x = true ∧ ds.all flatD = true then some (.bool (if neg then !(ds.any fun z => PyData.eqv z x) else ds.any fun z => PyData.eqv z x)) else none
  | _ => none
theorem op2_in {K : Frg} (neg : Bool) : Op2 K (rIn K neg) (dInB neg) := fun x y d G H vx vy Q e s a b q _ => by
  unfold dInB at e
  split at e
  · split at e
    · rename_i ds hc
      cases e
      obtain ⟨p, vs, rfl, h1, h2⟩ := vwLst s b
      refine ⟨p, vs, rfl, .inl (SqL.of h1), by rw [flat_iff a]; exact hc.1, by rw [allFlat h2]; exact hc.2, ?_⟩
      rw [inV_iff a hc.1 h2 hc.2]
      exact q _ (.bl _)
    · cases e
  · split at e
    · rename_i ds hc
      cases e
      obtain ⟨p, vs, rfl, h1, h2⟩ := vwTup b
      refine ⟨p, vs, rfl, .inr (seqT s h1), by rw [flat_iff a]; exact hc.1, by rw [allFlat h2]; exact hc.2, ?_⟩
      rw [inV_iff a hc.1 h2 hc.2]
      exact q _ (.bl _)
    · cases e
  · cases e
theorem fc_in {k : Nat} {a b : Expr} {fa fb : EF} (c : Cc X k) (ha : FE X a fa) (hb : FB X b fb) (hm : behindInMarks .In b = false := by with_unfolding_all rfl) : FC X (.Compare a [.In] [b] pos) (eOp (dInB false) fa fb) := fc_of op_in_seq (op2_in false) ha hb hm
theorem fc_notin {k : Nat} {a b : Expr} {fa fb : EF} (c : Cc X k) (ha : FE X a fa) (hb : FB X b fb) (hm : behindInMarks .NotIn b = false := by with_unfolding_all rfl) : FC X (.Compare a [.NotIn] [b] pos) (eOp (dInB true) fa fb) := fc_of op_notIn_seq (op2_in true) ha hb hm
/-! ### a op b op c -/
def eCh (g h : D → D → Option D) (fa fb fc : EF) : EF := fun e => (fa e).bind fun p => (fb p.2).bind fun q => (g p.1 q.1).bind fun d => match d with
  | .bool true => (fc q.2).bind fun r => (h q.1 r.1).map fun d => (d, r.2)
  | .bool false => some (.bool false, q.2)
  | _ => none
theorem ch_run {K : Frg} {r r' : R2} {g h : D → D → Option D} (hg : ∀ x y d G H vx vy (Q : VK), g x y = some d → Same G H → Dv K G vx x → Dv K G vy y → (∀ v, Dv K G v d → Q v H) → r vx vy H Q) (hh : ∀ x y d G H vx vy (Q : VK), h x y = some d → Same G H → Dv K G vx x → Dv K G vy y → (∀ v, Dv K G v d → Q v H) → r' vx vy H Q) {fa fb fc : EF} {σ : L2.St} {H : Hp} {Q : VK} (q : tE K (eCh g h fa fb fc) σ H Q) : tChain r r' (tE K fa) (tE K fb) (tE K fc) σ H Q := by
  obtain ⟨z, d, e', rp, hs, hH, hf, q⟩ := q
  subst hs hH
  obtain ⟨⟨x, e1⟩, h1, hf⟩ := Option.bind_eq_some_iff.mp hf
  obtain ⟨⟨y, e2⟩, h2, hf⟩ := Option.bind_eq_some_iff.mp hf
  obtain ⟨b, h3, hf⟩ := Option.bind_eq_some_iff.mp hf
  refine ⟨z, x, e1, rp, rfl, rfl, h1, fun vx z1 m1 r1 s1 ee1 p1 => ⟨z1, y, e2, r1, s1, rfl, by rw [ee1]; exact h2, fun vy z2 m2 r2 s2 ee2 p2 => ?_⟩⟩
  refine hg x y b z2.G z2.H vx vy _ h3 r2.same (dvMono m2.g _ _ p1) p2 fun v pv => ?_
  cases pv with
  | bl k =>
    cases k with
    | true =>
      obtain ⟨⟨w, e3⟩, h4, hf⟩ := Option.bind_eq_some_iff.mp (show ((fc e2).bind _) = some (d, e') from hf)
      obtain ⟨d', h5, hf⟩ := Option.map_eq_some_iff.mp hf
      cases hf
      refine ⟨true, rfl, iteT ⟨z2, w, e3, r2, s2, rfl, by rw [ee2]; exact h4, fun vw z3 m3 r3 s3 ee3 p3 => ?_⟩⟩
      exact hh y w d z3.G z3.H vy vw Q h5 r3.same (dvMono m3.g _ _ p2) p3 fun v pv => q v z3 ((m1.trans m2).trans m3) r3 s3 ee3 pv
    | false =>
      have hf' : some (PyData.bool false, e2) = some (d, e') := hf
      cases hf'
      exact ⟨false, rfl, iteF (q _ z2 (m1.trans m2) r2 s2 ee2 (.bl _))⟩
  | non => cases hf
  | int _ => cases hf
  | str _ => cases hf
  | lst _ _ => cases hf
  | tup _ _ => cases hf
/-- one comparison of a chain -/
structure Ch (X : Cx) (op : CmpOp) (g : D → D → Option D) : Prop where
  ex : ∃ r : R2, OpR X (compareOp op) r ∧ ∀ x y d G H vx vy (Q : VK), g x y = some d → Same G H → Dv X.K G vx x → Dv X.K G vy y → (∀ v, Dv X.K G v d → Q v H) → r vx vy H Q
theorem chI {op : CmpOp} {gv : Int → Int → Bool} (h : OpR X (compareOp op) (rI0 fun i j => .bl (gv i j))) : Ch X op (dI fun i j => .bool (gv i j)) := ⟨_, h, fun x y d G H vx vy Q e s a b q => by
  unfold dI at e
  split at e
  · cases e; cases a; cases b; exact ⟨_, _, rfl, rfl, q _ (.bl _)⟩
  · cases e⟩
theorem chLt : Ch X .Lt dLt := chI op_lt
theorem chLe : Ch X .LtE dLe := chI op_le
theorem chGt : Ch X .Gt dGt := chI op_gt
theorem chGe : Ch X .GtE dGe := chI op_ge
theorem fc_ch {a b c : Expr} {op op' : CmpOp} {g h : D → D → Option D} {fa fb fc : EF} (k1 : Ch X op g) (k2 : Ch X op' h) (ha : FE X a fa) (hb : FE X b fb) (hc : FE X c fc) (hm : lastMarks [op, op'] [b, c] = false := by with_unfolding_all rfl) : FC X (.Compare a [op, op'] [b, c] pos) (eCh g h fa fb fc) := by
  obtain ⟨r, o1, g1⟩ := k1.ex
  obtain ⟨r', o2, g2⟩ := k2.ex
  refine ⟨⟨PE.imp (pe_chain o1 o2 ha.pe hb.pe hc.pe hm) fun σ H Q q => ch_run g1 g2 q⟩, ⟨PT.imp (pt_chain o1 o2 ha.pe hb.pe hc.pe hm) fun σ H Q q => ?_⟩⟩
  obtain ⟨z, d, e', rp, hs, hH, hf, q⟩ := bB_run q
  exact ch_run g1 g2 ⟨z, d, e', rp, hs, hH, hf, q⟩
/-! ### [..] * n -/
def oRep (fa fb : EF) : OF := fun e => (fa e).bind fun p => (fb p.2).bind fun q => match p.1, q.1 with
  | .list xs, .int k => if (-(2 ^ 63) ≤ k ∧ k < 2 ^ 63) ∧ xs.length * k.toNat ≤ sizeLine then some (.li (List.replicate k.toNat xs).flatten, q.2) else none
  | _, _ => none
theorem dvAll_rep {K : Frg} {G : Hp} {vs : List V} {ds : List D} (h : DvAll K G vs ds) : ∀ k : Nat, DvAll K G (List.replicate k vs).flatten (List.replicate k ds).flatten
  | 0 => .nil
  | k + 1 => by
    rw [List.replicate_succ, List.replicate_succ, List.flatten_cons, List.flatten_cons]
    exact dvAll_app h (dvAll_rep h k)
theorem fo_rep {a b : Expr} {fa fb : EF} (ha : FE X a fa) (hb : FB X b fb) : FO X (.BinOp a .Mult b pos) (oRep fa fb) := ⟨PE.imp (pe_op op_rep ha.pe hb.pb) fun σ H Q ⟨z, r, e', rp, hs, hH, hf, q⟩ => by
  subst hs hH
  obtain ⟨⟨x, e1⟩, h1, hf⟩ := Option.bind_eq_some_iff.mp hf
  obtain ⟨⟨y, e2⟩, h2, hf⟩ := Option.bind_eq_some_iff.mp hf
  split at hf
  · rename_i xs k hx hy
    obtain rfl : x = _ := hx
    obtain rfl : y = _ := hy
    split at hf
    · rename_i hc
      cases hf
      refine ⟨z, _, e1, rp, rfl, rfl, h1, fun vx z1 m1 r1 s1 ee1 p1 => ⟨z1, _, _, r1, s1, rfl, by rw [ee1]; exact h2, fun vy z2 m2 r2 s2 ee2 p2 => ?_⟩⟩
      cases p1 with
      | lst k1 k2 =>
      refine ⟨_, k, _, rfl, vwInt p2, r2.same _ _ (m2.g _ _ k1), hc.1.1, hc.1.2, by rw [dvAll_len k2]; exact hc.2, fun p hn => ?_⟩
      obtain ⟨r3, m3, k, nf⟩ := r2.newLi hn (dvAll_rep (dvMonoAll m2.g _ _ k2) _)
      refine q _ _ [p] ((m1.trans m2).trans m3) r3 s2 ee2 k fun a ha => ?_
      rw [List.mem_singleton.mp ha]
      refine ⟨?_, nf⟩
      by_cases hz : z.H p = none
      · exact hz
      · exact absurd hn ((m1.trans m2).dom p hz)
    · cases hf
  · cases hf⟩
end
end Fl

set_option Elab.async false
set_option linter.all false
set_option maxRecDepth 100000
set_option maxHeartbeats 1000000
set_option autoImplicit false
/-! FnLaw: from the defs' functions to the law's row. -/
namespace Fl
open PySem PySem.Spec PyProof.Rows L2
/-- the tape of a script -/
def spTape (K : Frg) : Sp := fun vs H Q _ => ∃ (a : Addr) (ns : List Int), vs = [.ref a] ∧ SqL K H a (ns.map V.int) ∧ ns.length ≤ 63 ∧ ∀ H' p c, Same H H' → H p = none → H c = none → BoxAt H' p c ⟨ns, 0, 4711 + ns.length⟩ → Q (.ref p) H'
/-! ### what the tape does -/
def stir (b : Int) : Int × Int × Int :=
  let f := (b * 48271 + 17) % 2147483629
  let s := (f * 69621 + 5) % 2147483587
  (f, s, (s * 40692 + 3) % 2147483563)
def mixed (cs : List Int) (a b : Int) : Int × Box := ((stir b).1 * 4611686014132420609 + (stir b).2.1 * 2147483647 + (stir b).2.2, ⟨cs, a, (stir b).2.2⟩)
def sized (c : Int) : Int := if 0 ≤ c then 2 * c else -2 * c - 1
def loadB : Box → Int × Box
  | ⟨[], a, b⟩ => mixed [] a b
  | ⟨c :: cs, a, b⟩ => if 1000000000000000000 ≤ sized c then (sized c, ⟨cs, a, b⟩) else mixed cs a ((b * 69621 + sized c * 48271 + 11) % 2147483647)
def drawB (b : Box) (m : Int) : Int × Box :=
  if b.a < m then ((loadB b).1 % m, { (loadB b).2 with a := (loadB b).1 / m }) else (b.a % m, { b with a := b.a / m })
theorem upd_get {H : Hp} {p q : Addr} {o u : HO} (h : q ≠ p) (e : H q = some u) : upd H p o q = some u := by rw [upd_ne h]; exact e
/-- behind the numbers' end: the rest of the load -/
def tMix (p c : Addr) (a : Int) : TS := fun D σ H => ∃ cs bb c2 c3, p ≠ c ∧ σ = [some (.ref p), some (.ref c), c2, c3, none, none] ∧ H p = some (.lst [.ref c, .int a, .int bb]) ∧ H c = some (.lst (cs.map V.int)) ∧
  ∀ H', BoxAt H' p c (mixed cs a bb).2 → (∀ u, u ≠ p → u ≠ c → H' u = H u) → D.rt (.int (mixed cs a bb).1) H'
theorem cmulR {i j : Int} (h : -(2 ^ 64) < j ∧ j < 2 ^ 64) : CMul i j := .inr h
theorem cut63 (xs : List V) (h : xs.length ≤ 63) : cutV xs none (some 63) = xs := by
  unfold cutV
  rw [HT.sIx_none, show HT.sIx xs.length xs.length (some 63) = min 63 xs.length from HT.sIx_nat xs.length _ 63, Nat.min_eq_right h]
  simp
def spLaw (K : Frg) : Sp := fun vs H Q _ => ∃ (a : Addr) (ns : List Int), vs = [.ref a] ∧ SqL K H a (ns.map V.int) ∧ ns.length ≤ 63 ∧ ∀ H', Q (.bl true) H'
def box0 (ns : List Int) : Box := ⟨ns, 0, 4711 + ns.length⟩
/-- a def that the text tells, by its name -/
def Ft (K : Frg) (mg : Str → Option Value) (x : Str) (st : Stmt) (ps : List Str) : Prop := ∃ (f : Addr) (fd : FuncData), Fun K x x st f fd ∧ Binds K fd ps [] ∧ mg x = some (.ref f)
section
variable {P : Program} {w : World} {K : Frg} {mg : Str → Option Value} {base : Heap}
theorem ft_mk {h : Heap} {x : Str} {st : Stmt} {ps : List Str} {f : Addr} {oc : Value} {od an : Option Addr} {osl : Array (Option Value)} {kV doc pm cdv ct : Value} (X : K.In h) (G : h.Ns mainGlobals mg) (a : PySem.W.nsIn K mainGlobals x = some (some (.ref f)))
    (l : K.lookup f = some ⟨oc, od, .func (PySem.W.fnOf x x (defArgs st) (defBody st) (defScope st) .none kV doc pm an cdv ct), osl⟩) (c : PySem.W.codeIn K cdv x = true) (k : PySem.W.keepIn K (.ref f) = true)
    (hb : ∀ (kV doc pm : Value) (an : Option Addr) (cdv ct : Value) (us : List Value), us.length = ps.length → bindArgs (PySem.W.fnOf x x (defArgs st) (defBody st) (defScope st) .none kV doc pm an cdv ct) ⟨us, []⟩ = pure (ps.zip us)) : Ft K mg x st ps := by
  have F := fun_mk (st := st) l c k
  exact ⟨f, _, F, F.binds hb, PySem.W.mg_of X G a⟩
theorem dk_of {x : Str} {st : Stmt} {ps : List Str} {l : Nat} {g : Fnc} (T : Ft K mg x st ps) (ok : ∀ (f : Addr) (fd : FuncData), Fun K x x st f fd → FnOk P w K mg base CX0 l f fd ps (spF K ps.length g)) : Dk P w K mg base x l ps.length g := by
  obtain ⟨f, fd, F, hb, hm⟩ := T
  exact ⟨f, fd, ps, ok f fd F, hb, hm, F.kp⟩
/-- a def that calls itself: k levels of it -/
theorem dk_rec {x : Str} {st : Stmt} {ps : List Str} {l : Nat} {R : Nat → Fnc} (T : Ft K mg x st ps) (h0 : R 0 = fun _ => none)
    (ok : ∀ (f : Addr) (fd : FuncData) (k : Nat), Fun K x x st f fd → Dk P w K mg base x k ps.length (R (k - l)) → l ≤ k → FnOk P w K mg base CX0 (k + 1) f fd ps (spF K ps.length (R (k - l + 1)))) : ∀ n : Nat, Dk P w K mg base x (l + n) ps.length (R n) := by
  obtain ⟨f, fd, F, hb, hm⟩ := T
  intro n
  induction n with
  | zero =>
    refine ⟨f, fd, ps, ⟨fun vs H Q E h => h.1, fun A outer s H args us vs Q E hr he hbt hv hs => ?_⟩, hb, hm, F.kp⟩
    obtain ⟨_, z, r, ss', _, _, _, _, hg, _⟩ := hs
    rw [h0] at hg
    cases hg
  | succ n ih =>
    have := ok f fd (l + n) F (by rw [Nat.add_sub_cancel_left]; exact ih) (Nat.le_add_right l n)
    rw [Nat.add_sub_cancel_left] at this
    exact ⟨f, fd, ps, this, hb, hm, F.kp⟩
/-- the law's body: the tape, then the rest -/
theorem law_ok {st : Stmt} {N : List Str} {f fB : Addr} {fd fdB : FuncData} {k : Nat} {F1 : SF} (F : Fun K "law" "law" st f fd) (S : FnScope N ["script"] (defScope st)) (hN : 2 ≤ N.length)
    (FB : FnOk P w K mg base CX0 1 fB fdB ["script"] (spTape K)) (bB : Binds K fdB ["script"] []) (gB : mg "_law_box" = some (.ref fB)) (kB : PySem.W.keepIn K (.ref fB) = true)
    (hset : ∀ (cdv : Value) (A : Around) (outer : List Env) (s : Shared) (H : Hp) (E : XK), Room (k + 1) (A.deeper (envOfC "law" (defScope st) s.heap.objs.size f cdv)) →
      ∃ t, PS (cxOf CX0 P w K mg base N "law" (defScope st) f cdv A outer s H E).nox ((defBody st).headD (.Pass ⟨0, 0, 0, 0⟩)) t ∧ ∀ D σ H, (tAsg (tCall (spTape K) [] E0 (tCons (tVar 0) tNil)) (gName 1)) D σ H → t D σ H)
    (hb : defBody st = (defBody st).headD (.Pass ⟨0, 0, 0, 0⟩) :: (defBody st).drop 1)
    (hrest : ∀ (cdv : Value) (A : Around) (outer : List Env) (s : Shared) (H : Hp) (E : XK), Room (k + 1) (A.deeper (envOfC "law" (defScope st) s.heap.objs.size f cdv)) → FSs (cxOf CX0 P w K mg base N "law" (defScope st) f cdv A outer s H E).nox ((defBody st).drop 1) F1)
    (htrue : ∀ ns : List Int, ns.length ≤ 63 → ∃ e', F1 (.no :: .ow (box0 ns).ot :: List.replicate (N.length - 2) .no) = some (.rt (.va (.bool true)) e')) : FnOk P w K mg base CX0 (k + 2) f fd ["script"] (spLaw K) := by
  refine F.ok S (fun vs H Q E ⟨a, ns, h, _⟩ => by rw [h]; rfl) (fun cdv A outer s H vs Q E hr h => ?_)
  obtain ⟨a, ns, rfl, hS, hl, q⟩ := h
  obtain ⟨t, ht, hti⟩ := hset cdv A outer s H E hr
  rw [hb]
  refine ⟨_, pss_cons ht (hrest cdv A outer s H E hr).ps, ?_⟩
  have hσ : L2.start N [V.ref a] = some (V.ref a) :: none :: List.replicate (N.length - 2) none := by
    unfold L2.start
    have e : N.length - [V.ref a].length = (N.length - 2) + 1 := by show N.length - 1 = _; omega
    rw [e, List.replicate_succ]; rfl
  refine hti _ _ _ ?_
  rw [hσ]
  refine ⟨.ref a, rfl, a, ns, rfl, hS, hl, fun H' p c hs hp hc hB => ?_⟩
  obtain ⟨e', he'⟩ := htrue ns hl
  refine tS_out.mpr ⟨⟨fun _ => none, H', some (V.ref a) :: some (V.ref p) :: List.replicate (N.length - 2) none, .no :: .ow (box0 ns).ot :: List.replicate (N.length - 2) .no, fun i => if i = 1 then [p, c] else []⟩, _, ⟨fun b o h => (by cases h), ?_, fun i s h => ?_, fun i h => ?_, fun i j u hij hi hj => ?_⟩, rfl, rfl, he', fun v y Fr m r ee so hf hg => ?_⟩
  · show List.length (some (V.ref a) :: some (V.ref p) :: List.replicate (N.length - 2) none) = List.length (Sl.no :: Sl.ow (box0 ns).ot :: List.replicate (N.length - 2) Sl.no)
    simp
  · match i with
    | 0 => cases h; rfl
    | 1 =>
      cases h
      exact ⟨.ref p, rfl, boxMk hB rfl rfl⟩
    | i + 2 =>
      have h' : (List.replicate (N.length - 2) Sl.no)[i]? = some s := h
      have := List.getElem?_eq_some_iff.mp h'
      obtain ⟨h1, h2⟩ := this
      rw [List.getElem_replicate] at h2
      subst h2
      show (if i + 2 = 1 then [p, c] else []) = []
      rw [if_neg (by omega)]
  · show (if i = 1 then [p, c] else []) = []
    have h' : (Sl.no :: Sl.ow (box0 ns).ot :: List.replicate (N.length - 2) Sl.no).length ≤ i := h
    rw [List.length_cons, List.length_cons] at h'
    rw [if_neg (by omega)]
  · have a1 : u ∈ (if i = 1 then [p, c] else []) := hi
    have a2 : u ∈ (if j = 1 then [p, c] else []) := hj
    split at a1
    · split at a2
      · omega
      · cases a2
    · cases a1
  · obtain ⟨_, x, hx, hv⟩ := so
    cases hx
    cases hv
    exact q _
end
end Fl

set_option Elab.async false
set_option linter.all false
set_option maxRecDepth 100000
set_option maxHeartbeats 1000000
set_option autoImplicit false
/-! FnEnum: enumerate over a list or a tuple, zip of two. -/
namespace Fl
open PySem PySem.Spec PyProof.Rows L2
/-- the tuple at a, each item in a new pair with its number -/
def IteT (K : Frg) (a : Addr) : It :=
  ⟨fun i H => ∃ (xs : List V) (x : V), SqT K H a xs ∧ xs[i]? = some x, fun i H v H' => ∃ T x, v = .ref T ∧ H T = none ∧ H' = upd H T (.tup [.int (i : Nat), x]) ∧ ∀ xs, SqT K H a xs → xs[i]? = some x, fun i H => ∃ xs : List V, SqT K H a xs ∧ xs.length ≤ i⟩
theorem clsNe {h : Heap} {a b : Addr} {o o' : Obj} (h1 : h.get? a = some o) (h2 : h.get? b = some o') (hc : o.cls ≠ o'.cls) : a ≠ b := fun e => by
  subst e
  rw [h1] at h2
  cases h2
  exact hc rfl
theorem enumT_end {prog : Program} {w : World} {A : Around} {E : Value → Shared → Prop} {s : Shared} {e it l : Addr} {i : Nat} {items : Array Value} {old : Value} {Q : Option Value → Shared → Prop} (hh : A.handled = none)
    (he : IsEnum s.heap e it i old) (hit : s.heap.IsTupleIter it l i) (hl : s.heap.IsTuple l items) (hx : items[i]? = none)
    (hQ : ∀ h', Heap.ExtBut it s.heap h' → Q none { s with heap := h' }) : wpAny (model prog w) A (pyNext (.ref e)) Q E s := by
  have hT : s.TypeIs (.ref e) "enumerate" := ⟨_, he, rfl⟩
  unfold pyNext
  refine wpAny_bind (wpAny_attempt (wpAny_callSpecial?_slot (name := Str.ofString "__next__") hT F.slot_enumerate_next
    (wpAny_call_entry F.slot_enumerate_next hT F.entry_enumerate_next ?_ (F.args_enumerate_next_1 _))))
  show wpAny _ _ (field (.ref e) 2 >>= _) _ _ _
  refine wpAny_bind (wpAny_field he rfl (x := .ref it) rfl ?_)
  refine wpAny_bind (wpAny_nextOf_tuple_end hh hit hl hx fun h' x he' hx' => ?_)
  obtain ⟨o, ho, hc⟩ := hx'
  refine wpAny_bind (wpAny_isInstance (T := "StopIteration") (b := true) ⟨o, ho, hc⟩ isSubtype_stop ?_)
  exact wpAny_pure (hQ _ he')
theorem turn_enumT {P : Program} {w : World} {K : Frg} {elts : List Expr} {kk : Nat} {tpos : Pos} (a e it : Addr) :
    Turn P w K (.Tuple elts kk tpos) (IteT K a) [e, it] e (fun i h => (∃ old, IsEnum h e it ((i : Nat) : Int) old) ∧ h.IsTupleIter it a i ∧ e ≠ it) where
  mem := by simp
  obj := fun i h st b hb => by
    obtain ⟨⟨old, he⟩, ⟨o, ho, hc, hd⟩, _⟩ := st
    have e' : b = e ∨ b = it := by simpa using hb
    rcases e' with z | z
    · rw [z]; exact ⟨_, he, fun v q => nomatch q⟩
    · rw [z]; exact ⟨o, ho, fun v q => by rw [hd] at q; cases q⟩
  keep := fun i h h' st k => let ⟨⟨old, he⟩, hi, hne⟩ := st; ⟨⟨old, k e (by simp) _ he⟩, hi.at fun o q => k it (by simp) o q, hne⟩
  item := by
    intro X hP hw hK hc i pins s σ H E I hf st hg
    subst hP hw hK
    obtain ⟨⟨old, he⟩, hit, hne⟩ := st
    obtain ⟨xs, x, hq, hx⟩ := hg
    obtain ⟨its, rv, p, hz⟩ := I.tuple hq
    obtain ⟨u, hu, ru⟩ := rv.get hx
    have hel : e < s.heap.objs.size := Heap.lt_size he
    have hil : it < s.heap.objs.size := by obtain ⟨_, q, _⟩ := hit; exact Heap.lt_size q
    have hea : e ≠ a := by
      obtain ⟨o, ho, hcl, _⟩ := id p
      exact clsNe he ho (by rw [hcl]; exact fun z => by injection z with z; exact absurd z (by decide))
    have hia : a ≠ it := by
      obtain ⟨o, ho, hcl, _⟩ := id p
      obtain ⟨o2, ho2, hc2, _⟩ := id hit
      exact clsNe ho ho2 (by rw [hcl, hc2]; exact fun z => by injection z with z; exact absurd z (by decide))
    have hlt : i < its.toArray.size := by
      have := (List.getElem?_eq_some_iff.mp hu).1
      simpa using this
    refine wpAny_pyNext_enum_itemC (Draws.tuple (prog := X.prog) (w := X.w) (A := X.A.in1) (show X.A.in1.handled = none from I.ok.hd hc) it a hia its.toArray) he ⟨hit, p⟩ hlt hne (by simp [hne, hea]) fun y h' tk hy ho hst' hT hsz hk => ?_
    have ey : y = u := by
      have hy' : its[i]? = some y := by simpa using hy
      rw [hu] at hy'
      exact (Option.some.inj hy').symm
    subst ey
    refine ⟨_, rfl, wpAny_letOwnedTupleGo_enum (s := { s with heap := h', toks := tk + 1 }) ho fun h'' he' sb => ?_⟩
    have hT2 : h''.get? s.heap.objs.size = some { cls := .type "tuple", data := .seq #[.int i tk, y] } := (sb.2 _ (Nat.ne_of_gt hel)).trans hT
    have new : ObjOk X.prog X.w (upd H s.heap.objs.size (.tup [.int (i : Nat), x])) h'' s.heap.objs.size (.tup [.int (i : Nat), x]) :=
      ⟨by show 2 ≤ sizeLine; decide, [.int i tk, y], .cons ⟨_, rfl⟩ (.cons ru .nil), ⟨_, hT2, rfl, _, rfl⟩⟩
    have I1 : Inv X pins σ (upd H s.heap.objs.size (.tup [.int (i : Nat), x])) { s with heap := h'', toks := tk + 1 } :=
      I.turnedNew (ch := [e, it]) (fun b ob hb q => (sb.2 b (fun z => hb (by simp [z]))).trans (hk b ob (fun z => hb (by simp [z])) (fun z => hb (by simp [z])) q)) hf (Nat.le_refl _) new
    refine ⟨.ref s.heap.objs.size, _, I1, rfl, ⟨_, x, rfl, I.hok.fresh (Nat.le_refl _), rfl, fun ys hy => by rw [I.tuple_inj hy hq]; exact hx⟩, ⟨⟨y, ?_⟩, hst'.1.at fun o q => (sb.2 it (Ne.symm hne)).trans q, hne⟩, fun b hb => ?_⟩
    · have e1 : ((i + 1 : Nat) : Int) = (i : Int) + 1 := by omega
      rw [e1]; exact he'
    · have hb' : b < s.heap.objs.size := by
        have e' : b = e ∨ b = it := by simpa using hb
        rcases e' with z | z
        · rw [z]; exact hel
        · rw [z]; exact hil
      rw [upd_ne (Nat.ne_of_lt hb')]
      exact (hf b hb).1
  done := by
    intro X hP hw hK hc i pins s σ H E I hf st hg
    subst hP hw hK
    obtain ⟨⟨old, he⟩, hit, hne⟩ := st
    obtain ⟨xs, hq, hx⟩ := hg
    obtain ⟨its, rv, p, hz⟩ := I.tuple hq
    obtain ⟨f0, f1, f2, f3, f4, f5⟩ := hf it (by simp)
    have hl := rv.length
    exact enumT_end (I.ok.hd hc) he hit p (by simp; omega) fun h' eb => ⟨rfl, I.turned (t' := s.toks) (fun b o hb q => eb b o hb q) f0 f1 f3 f4 f5⟩
  self := fun A i s Q E st h => let ⟨⟨_, he⟩, _⟩ := st; wpAny_pyIter_enum he h
theorem newEnumT (l : Addr) (items : Array Value) (n : Nat) (dct : Option Addr) (sl : Array (Option Value)) :
    Meets (Builtin.«enumerate.__new__» ⟨[.type "enumerate", .ref l], []⟩) (fun _ R s => s.heap.get? l = some { cls := .type "tuple", dict := dct, data := .seq items n, slots := sl } ∧
      R (.ok (.ret (.ref (s.heap.push { cls := .type "tuple_iterator", data := .fields #[.ref l, .int 0 0] }).objs.size)))
        { s with heap := (s.heap.push { cls := .type "tuple_iterator", data := .fields #[.ref l, .int 0 0] }).push { cls := .type "enumerate", data := .fields #[.none, .bool false, .ref s.heap.objs.size, rawInt 0, .none, .none] } }) :=
  .of_wp fun prog w A R s h => by
    obtain ⟨hp, g, d, tk, os⟩ := s; obtain ⟨hl, h⟩ := h
    have hsub := sub_enumerate
    have hL : Heap.IsTuple (Shared.heap ⟨hp, g, d, tk, os⟩) l items := ⟨_, hl, rfl, n, rfl⟩
    have q1 : ∀ {A' : Around} {E : Value → Shared → Prop} {Q : Value → Shared → Prop}, Q (.ref hp.objs.size) ⟨hp.push { cls := .type "tuple_iterator", data := .fields #[.ref l, .int 0 0] }, g, d, tk, os⟩ → wpAny (model prog w) A' (pyIter (.ref l)) Q E ⟨hp, g, d, tk, os⟩ :=
      fun q => (begins_tuple l items).iter prog w _ _ ⟨hp, g, d, tk, os⟩ _ hL q
    wp_walk using q1
    refine wpAny_stack_any fun st => wpAny_pure ?_
    split
    · rename_i c _ _ _ _ _
      cases (c == Value.type "enumerate")
      · wp_walk using q1
        exact ⟨_, rfl, h⟩
      · wp_walk using q1
        exact ⟨_, rfl, h⟩
    · wp_walk using q1
      exact ⟨_, rfl, h⟩
theorem callEnumT {prog : Program} {w : World} {A : Around} {E : Value → Shared → Prop} {s : Shared} {l : Addr} {items : Array Value} {Q : Value → Shared → Prop} (hL : s.heap.IsTuple l items)
    (h : ∀ h', IsEnum h' (s.heap.objs.size + 1) s.heap.objs.size 0 .none → h'.IsTupleIter s.heap.objs.size l 0 → h'.objs.size = s.heap.objs.size + 2 →
      (∀ b o, s.heap.get? b = some o → h'.get? b = some o) → Q (.ref (s.heap.objs.size + 1)) { s with heap := h' }) :
    wpAny (model prog w) A (call (.type "enumerate") [.ref l]) Q E s := by
  obtain ⟨⟨c, dct, dt, sl⟩, hl, hc, n, hd⟩ := hL
  replace hc : c = .type "tuple" := hc
  replace hd : dt = .seq items n := hd
  subst hc hd
  refine callType_new F.called_enumerate (by decide) (F.typeCall_enumerate_1 _) (F.newCall_enumerate_1 _) (fun obj => F.args_object_init_2 obj _) F.entry_enumerate_new
    (newEnumT l items n dct sl) ⟨hl, ?_⟩
  have hz : (s.heap.push { cls := .type "tuple_iterator", data := .fields #[.ref l, .int 0 0] }).objs.size = s.heap.objs.size + 1 := Heap.size_push ..
  show _ ∧ _
  rw [hz]
  have he : IsEnum ((s.heap.push { cls := .type "tuple_iterator", data := .fields #[.ref l, .int 0 0] }).push
      { cls := .type "enumerate", data := .fields #[.none, .bool false, .ref s.heap.objs.size, rawInt 0, .none, .none] }) (s.heap.objs.size + 1) s.heap.objs.size 0 .none := by
    have := Heap.get?_push_size (s.heap.push { cls := .type "tuple_iterator", data := .fields #[.ref l, .int 0 0] })
      (o := { cls := .type "enumerate", data := .fields #[.none, .bool false, .ref s.heap.objs.size, rawInt 0, .none, .none] }) rfl
    rw [hz] at this; exact this
  refine ⟨⟨_, he, rfl⟩, h _ he ⟨_, Heap.get?_push_of_some _ (Heap.get?_push_size _ rfl), rfl, rfl⟩ (by rw [Heap.size_push, hz]) fun b o x => Heap.get?_push_of_some _ (Heap.get?_push_of_some _ x)⟩
def iEnumT (K : Frg) (ta : TA) : TI := fun σ H R => ta σ H fun vs H1 => ∃ a xs, vs = [.ref a] ∧ SqT K H1 a xs ∧ R (IteT K a) H1
theorem pi_enumT {X : Cx} {e : Expr} {ta : TA} {p pos tpos : Pos} {elts : List Expr} {kk : Nat} (hg : Gl X "enumerate") (hm : X.mg "enumerate" = none) (ha : PA X [e] ta) (hs : starEach [e] X.env = [(false, eval e X.env)] := by rfl) :
    PI X (.Tuple elts kk tpos) (.Call (.Name "enumerate" p) [e] [] pos) (iEnumT X.K ta) := by
  refine ⟨fun pins s σ H R I h => ?_⟩
  refine Call_ (ld_blt I hg hm boot_enumerate (PyProof.Rows.callWith_type1 (thn (ha.run pos pins s σ H _ I h) fun us s1 ⟨vs, H1, I1, r1, q1⟩ => ?_) hs rfl))
  obtain ⟨a, xs, ex, hq, q⟩ := q1
  subst ex
  cases r1 with
  | cons r rr =>
    cases rr
    cases r
    obtain ⟨its, rv, p', hz⟩ := I1.tuple hq
    refine callEnumT p' fun h' he hit hsz hk => wpAny_pyIter_enum he ?_
    have I2 : Inv X pins σ H1 { s1 with heap := h' } := I1.kept (t' := s1.toks) hk
    refine ⟨s1.heap.objs.size + 1, [s1.heap.objs.size + 1, s1.heap.objs.size], _, _, H1, rfl, I2, turn_enumT a (s1.heap.objs.size + 1) s1.heap.objs.size, ⟨⟨.none, he⟩, hit, Nat.succ_ne_self _⟩, fun b hb => ?_, q⟩
    have e' : b = s1.heap.objs.size + 1 ∨ b = s1.heap.objs.size := by simpa using hb
    have hle : s1.heap.objs.size ≤ b := by
      rcases e' with z | z
      · rw [z]; exact Nat.le_add_right _ _
      · rw [z]; exact Nat.le_refl _
    exact I1.fpOk hle (I1.hok.fresh hle)
/-- items with their numbers -/
def enD (xs : List D) : List D := xs.zipIdx.map fun p => .tuple [.int p.2, p.1]
theorem enD_len (xs : List D) : (enD xs).length = xs.length := by unfold enD; rw [List.length_map, List.length_zipIdx]
theorem enD_get {xs : List D} {i : Nat} {d : D} (h : xs[i]? = some d) : (enD xs)[i]? = some (.tuple [.int i, d]) := by
  unfold enD
  rw [List.getElem?_map, List.getElem?_zipIdx, h]
  simp
def lEnum (f : EF) : LF := fun e => (f e).bind fun p => match p.1 with
  | .tuple xs => some (enD xs, p.2)
  | .list xs => some (enD xs, p.2)
  | _ => none
theorem itr_enumL {K : Frg} {G : Hp} {a : Addr} {vs : List V} {ds : List D} (h : G a = some (.lst vs)) (hd : DvAll K G vs ds) : Itr K (Ite K a) G (enD ds) := by
  refine ⟨_, _, by rw [enD_len, ← dvAll_len hd]; exact walk_enum (K := K) (a := a) (xs := vs), fun H k => SqL.of (k _ _ h), fun i H x H' hi k y => ?_⟩
  obtain ⟨T, x1, x2, h1, h2, h3, h4, h5⟩ := y
  obtain ⟨d, k1, k2⟩ := dvAll_getV hd h5
  cases h4
  exact .inr ⟨T, _, _, h1, h2, h3, enD_get k1, .cons (.int _) (.cons k2 .nil)⟩
theorem itr_enumT {K : Frg} {G : Hp} {a : Addr} {vs : List V} {ds : List D} (h : SqT K G a vs) (hd : DvAll K G vs ds) : Itr K (IteT K a) G (enD ds) := by
  refine ⟨fun H => SqT K H a vs, fun i H v H' => ∃ T x, v = .ref T ∧ H T = none ∧ H' = upd H T (.tup [.int (i : Nat), x]) ∧ vs[i]? = some x, ?_, fun H k => seqT k h, fun i H x H' hi k y => ?_⟩
  · rw [enD_len, ← dvAll_len hd]
    exact ⟨fun i H hi q => ⟨vs, vs[i], q, by simp [hi]⟩, fun H q => ⟨vs, q, Nat.le_refl _⟩, fun i H v H' _ q ⟨T, x, h1, h2, h3, h4⟩ => ⟨T, x, h1, h2, h3, h4 vs q⟩⟩
  · obtain ⟨T, x1, h1, h2, h3, h5⟩ := y
    obtain ⟨d, k1, k2⟩ := dvAll_getV hd h5
    exact .inr ⟨T, _, _, h1, h2, h3, enD_get k1, .cons (.int _) (.cons k2 .nil)⟩
section
variable {X : Cx} {pos : Pos}
theorem fi_enum {a : Expr} {f : EF} {p tpos : Pos} {elts : List Expr} {kk : Nat} (h : FE X a f) (hm : X.mg "enumerate" = none) (hg : Gl X "enumerate" := by rfl) (hs : starEach [a] X.env = [(false, eval a X.env)] := by rfl) (hs2 : starEach [a] X.env = (false, eval a X.env) :: starEach [] X.env := by rfl) :
    FI X (.Tuple elts kk tpos) (.Call (.Name "enumerate" p) [a] [] pos) (lEnum f) :=
  ⟨PI.imp (iter_or (pi_enum hg hm (pa_cons h.pe pa_nil hs2) hs) (pi_enumT hg hm (pa_cons h.pe pa_nil hs2) hs)) fun σ H R ⟨z, ds, e', rp, hz, hH, hf, q⟩ => by
    subst hz hH
    obtain ⟨⟨x, e1⟩, h1, hf⟩ := Option.bind_eq_some_iff.mp hf
    cases x with
    | tuple xs =>
      have e2 : some (enD xs, e1) = some (ds, e') := hf
      cases e2
      refine .inr ⟨z, _, _, rp, rfl, rfl, h1, fun v y m r s2 ee p => ?_⟩
      cases p with
      | tup k1 k2 => exact ⟨_, _, rfl, seqT r.same k1, q _ y m r s2 ee (itr_enumT k1 k2)⟩
    | list xs =>
      have e2 : some (enD xs, e1) = some (ds, e') := hf
      cases e2
      refine .inl ⟨z, _, _, rp, rfl, rfl, h1, fun v y m r s2 ee p => ?_⟩
      cases p with
      | lst k1 k2 => exact ⟨_, _, rfl, SqL.of (r.same _ _ k1), q _ y m r s2 ee (itr_enumL k1 k2)⟩
    | none => cases hf
    | bool _ => cases hf
    | int _ => cases hf
    | str _ => cases hf
    | dict _ => cases hf⟩
end
end Fl

set_option Elab.async false
set_option linter.all false
set_option maxRecDepth 100000
set_option maxHeartbeats 1000000
set_option autoImplicit false
/-! FnTake: the other tape: [numbers, place, store, stir]. -/
namespace Fl
open PySem PySem.Spec PyProof.Rows L2
structure Tp where
  cells : List Int
  i : Nat
  s : Int
  m : Int
def Tp.ot (b : Tp) : OT := .node [.node (b.cells.map fun i => .leaf (.int i)), .leaf (.int b.i), .leaf (.int b.s), .leaf (.int b.m)]
def TpAt (H : Hp) (p c : Addr) (b : Tp) : Prop := p ≠ c ∧ H p = some (.lst [.ref c, .int b.i, .int b.s, .int b.m]) ∧ H c = some (.lst (b.cells.map V.int))
theorem tpOf {K : Frg} {G H : Hp} {v : V} {F : List Addr} {b : Tp} (h : OtOk K G H v b.ot F) : ∃ p c, v = .ref p ∧ F = [p, c] ∧ TpAt H p c b ∧ G p = none ∧ G c = none := by
  cases h with
  | node h1 h2 h3 h4 =>
    cases h3 with
    | cons k1 k2 k3 =>
      cases k1 with
      | node g1 g2 g3 g4 =>
        obtain ⟨e1, e2⟩ := otsInts g3
        subst e1 e2
        cases k2 with
        | cons l1 l2 l3 =>
          cases l1 with
          | leaf l1 =>
            cases l1
            cases l2 with
            | cons m1 m2 m3 =>
              cases m1 with
              | leaf m1 =>
                cases m1
                cases m2 with
                | cons n1 n2 n3 =>
                  cases n1 with
                  | leaf n1 =>
                    cases n1
                    cases n2
                    refine ⟨_, _, rfl, rfl, ⟨fun e => h4 ?_, h2, g2⟩, h1, g1⟩
                    rw [e]; simp
theorem tpMk {K : Frg} {G H : Hp} {p c : Addr} {b : Tp} (h : TpAt H p c b) (g1 : G p = none) (g2 : G c = none) : OtOk K G H (.ref p) b.ot [p, c] := by
  obtain ⟨h1, h2, h3⟩ := h
  have k1 : OtOk K G H (.ref c) (.node (b.cells.map fun i => OT.leaf (.int i))) [c] := .node g2 h3 (otsIntsMk _) fun h => nomatch h
  have k2 : OtsOk K G H [.int b.i, .int b.s, .int b.m] [.leaf (.int b.i), .leaf (.int b.s), .leaf (.int b.m)] [] := .cons (F1 := []) (F2 := []) (.leaf (.int _)) (.cons (F1 := []) (F2 := []) (.leaf (.int _)) (.cons (F1 := []) (F2 := []) (.leaf (.int _)) .nil fun _ h => nomatch h) fun _ h => nomatch h) fun _ h => nomatch h
  have k3 : OtsOk K G H [.ref c, .int b.i, .int b.s, .int b.m] [.node (b.cells.map fun i => OT.leaf (.int i)), .leaf (.int b.i), .leaf (.int b.s), .leaf (.int b.m)] [c] := .cons (F1 := [c]) (F2 := []) k1 k2 fun _ _ h => nomatch h
  exact .node g1 h2 k3 (by simpa using h1)
def spTp (k : Nat) (go : Tp → List V → Option (V × Tp)) : Sp := fun vs H Q _ => vs.length = k + 1 ∧ ∃ p c b as r b', vs = .ref p :: as ∧ TpAt H p c b ∧ go b as = some (r, b') ∧ ∀ H', TpAt H' p c b' → (∀ a, a ≠ p → a ≠ c → H' a = H a) → Q r H'
/-- a taking: one place -/
def gTake (go : Tp → Int → Int × Tp) (ok : Int → Bool) : Fnc := fun ss => match ss with
  | [.ow (.node [.node cs, .leaf (.int i), .leaf (.int s), .leaf (.int t)]), .va (.int m)] => if ok m = true ∧ 0 ≤ i then (gDraw.cellsOf cs).map fun ns => (.va (.int (go ⟨ns, i.toNat, s, t⟩ m).1), [.ow (go ⟨ns, i.toNat, s, t⟩ m).2.ot, .no]) else none
  | _ => none
theorem gTake_tp (go : Tp → Int → Int × Tp) (ok : Int → Bool) (b : Tp) (m : Int) (h : ok m = true) : gTake go ok [.ow b.ot, .va (.int m)] = some (.va (.int (go b m).1), [.ow (go b m).2.ot, .no]) := by
  show (if ok m = true ∧ 0 ≤ (b.i : Int) then (gDraw.cellsOf (b.cells.map fun i => OT.leaf (.int i))).map _ else none) = _
  rw [if_pos ⟨h, by omega⟩, cellsOf_map]; rfl
section
variable {P : Program} {w : World} {K : Frg} {mg : Str → Option Value} {base : Heap}
/-- a drawing def's promise in the layer's words -/
theorem take_ok {f : Addr} {fd : FuncData} {k : Nat} {ps : List Str} {go : Tp → Int → Int × Tp} {ok : Int → Bool} (F : FnOk P w K mg base CX0 k f fd ps (spTp 1 fun b as => match as with
    | [.int m] => if ok m then some (.int (go b m).1, (go b m).2) else none
    | _ => none)) : FnOk P w K mg base CX0 k f fd ps (spF K 2 (gTake go ok)) := F.imp fun vs H Q E ⟨hl, z, r, ss', hs, hH, rp, har, hg, q⟩ => by
  subst hH
  refine ⟨hl, ?_⟩
  unfold gTake at hg
  split at hg
  · rename_i cs j0 s0 t0 m he
    split at hg
    · rename_i hok0
      obtain ⟨hok, hj0⟩ := hok0
      obtain ⟨j1, rfl⟩ : ∃ j : Nat, j0 = (j : Int) := ⟨j0.toNat, by omega⟩
      obtain ⟨ns, h1, h2⟩ := Option.map_eq_some_iff.mp hg
      have ec := cellsOf_some h1
      subst ec
      cases h2
      have o0 := rp.ok 0 _ (by rw [he]; rfl)
      have o1 := rp.ok 1 _ (by rw [he]; rfl)
      rw [hs] at o0 o1
      match vs, hl, hs, q, o0, o1 with
      | [v0, v1], _, hs, q, o0, o1 =>
      obtain ⟨x, e1, o0⟩ := o0
      cases e1
      obtain ⟨p, c, rfl, hF, hB, g1, g2⟩ := tpOf (b := ⟨ns, j1, s0, t0⟩) o0
      obtain ⟨_, x, e2, o1⟩ := o1
      cases e2
      cases o1
      refine ⟨p, c, ⟨ns, j1, s0, t0⟩, [.int m], _, _, rfl, hB, by show (if ok m = true then _ else none) = _; rw [if_pos hok], fun H' hB' hsame => ?_⟩
      have hF1 : z.F 1 = [] := by
        have := rp.ok 1 _ (show z.e[1]? = some (.va (.int m)) by rw [he]; rfl)
        exact this.1
      have hFo : ∀ i, z.F i = if i = 0 then [p, c] else [] := fun i => by
        match i with
        | 0 => rw [if_pos rfl]; exact hF
        | 1 => exact hF1
        | i + 2 => rw [if_neg (by omega)]; exact rp.out _ (by rw [he]; simp)
      have hHn : ∀ a, H' a = none → z.H a = none := fun a h => by
        by_cases e1 : a = p
        · rw [e1, hB'.2.1] at h; cases h
        · by_cases e2 : a = c
          · rw [e2, hB'.2.2] at h; cases h
          · rw [hsame a e1 e2] at h; exact h
      have nG : ∀ b x, z.G b = some x → b ≠ p ∧ b ≠ c := fun b x h => ⟨fun e => (by rw [e, g1] at h; cases h), fun e => (by rw [e, g2] at h; cases h)⟩
      have lenE : z.e.length = 2 := by rw [he]; rfl
      refine q _ { z with H := H', e := [.ow (go ⟨ns, j1, s0, t0⟩ m).2.ot, .no], F := fun i => if i = 0 then [p, c] else [] } [] ⟨fun u o h hf => ?_, fun u h e => h (hHn u e), Same.refl _, fun _ _ _ => rfl, fun i u h => ?_, fun i h => ?_, by rw [he]; rfl⟩ ⟨fun u x h => ?_, ?_, fun i s h => ?_, fun i h => ?_, fun i j u hij h h' => ?_⟩ rfl rfl ⟨rfl, _, rfl, .int _⟩ fun _ h => nomatch h
      · have hp : u ∉ z.F 0 := hf 0
        rw [hF] at hp
        simp at hp
        show H' u = some o
        rw [hsame u hp.1 hp.2]; exact h
      · rw [hFo]; exact .inl h
      · match i with
        | 0 => exact ⟨rfl, rfl⟩
        | 1 => rw [he] at h; cases h
        | i + 2 => rw [he] at h; cases h
      · obtain ⟨n1, n2⟩ := nG u x h
        show H' u = some x
        rw [hsame u n1 n2]; exact rp.same _ _ h
      · show z.s.length = 2
        rw [rp.len, lenE]
      · match i with
        | 0 =>
          cases h
          show SlOk K z.G H' (z.s[0]?).join [p, c] _
          rw [hs]
          exact ⟨.ref p, rfl, tpMk hB' g1 g2⟩
        | 1 => cases h; rfl
        | i + 2 => cases h
      · show (if i = 0 then [p, c] else []) = []
        rw [if_neg (fun e => by rw [e] at h; cases h)]
      · have h1 : u ∈ (if i = 0 then [p, c] else []) := h
        have h2 : u ∈ (if j = 0 then [p, c] else []) := h'
        split at h1
        · split at h2
          · omega
          · cases h2
        · cases h1
    · cases hg
  · cases hg
end
/-! ### what the tape does -/
def mixN (n : Int) : Int :=
  let k := (n * 6364136223846793005 + 1442695040888963407) % 18446744073709551616
  (k * k / 4294967296 + k * 69621) % 18446744073709551557
def great (c m : Int) : Int := if 1000000000000000000 ≤ c then c else m
def loadT (t : Tp) : Tp := match t.cells[t.i]? with
  | some x => ⟨t.cells, t.i + 1, great (sized x) (mixN (mixN (sized x) + ((t.i + 1 : Nat) : Int))), mixN (t.m + sized x)⟩
  | none => ⟨t.cells, t.i, mixN (t.m + 1), mixN (t.m + 1)⟩
def takeT (t : Tp) (m : Int) : Int × Tp :=
  if t.s < m then ((loadT t).s % m, { loadT t with s := (loadT t).s / m }) else (t.s % m, { t with s := t.s / m })
def spTapeT (K : Frg) : Sp := fun vs H Q _ => ∃ (a : Addr) (ns : List Int), vs = [.ref a] ∧ SqL K H a (ns.map V.int) ∧ ns.length ≤ 63 ∧ ∀ H' p c, Same H H' → H p = none → H c = none → TpAt H' p c ⟨ns, 0, 0, 1 + ns.length⟩ → Q (.ref p) H'
def tp0 (ns : List Int) : Tp := ⟨ns, 0, 0, 1 + ns.length⟩
/-- a def of one number that leaves all as it is -/
def spInt (g : Int → Int) : Sp := fun vs H Q _ => ∃ n, vs = [.int n] ∧ Q (.int (g n)) H
theorem cut80 (xs : List V) (h : xs.length ≤ 63) : cutV xs none (some 80) = xs := by
  unfold cutV
  rw [HT.sIx_none, show HT.sIx xs.length xs.length (some 80) = min 80 xs.length from HT.sIx_nat xs.length _ 80, Nat.min_eq_right (by omega)]
  simp
section
variable {P : Program} {w : World} {K : Frg} {mg : Str → Option Value} {base : Heap}
/-- the law's body: the tape, then the rest -/
theorem law_okT {st : Stmt} {N : List Str} {f fB : Addr} {fd fdB : FuncData} {k : Nat} {F1 : SF} (F : Fun K "law" "law" st f fd) (S : FnScope N ["script"] (defScope st)) (hN : 2 ≤ N.length)
    (FB : FnOk P w K mg base CX0 1 fB fdB ["script"] (spTapeT K)) (bB : Binds K fdB ["script"] []) (gB : mg "_law_tape" = some (.ref fB)) (kB : PySem.W.keepIn K (.ref fB) = true)
    (hset : ∀ (cdv : Value) (A : Around) (outer : List Env) (s : Shared) (H : Hp) (E : XK), Room (k + 1) (A.deeper (envOfC "law" (defScope st) s.heap.objs.size f cdv)) →
      ∃ t, PS (cxOf CX0 P w K mg base N "law" (defScope st) f cdv A outer s H E).nox ((defBody st).headD (.Pass ⟨0, 0, 0, 0⟩)) t ∧ ∀ D σ H, (tAsg (tCall (spTapeT K) [] E0 (tCons (tVar 0) tNil)) (gName 1)) D σ H → t D σ H)
    (hb : defBody st = (defBody st).headD (.Pass ⟨0, 0, 0, 0⟩) :: (defBody st).drop 1)
    (hrest : ∀ (cdv : Value) (A : Around) (outer : List Env) (s : Shared) (H : Hp) (E : XK), Room (k + 1) (A.deeper (envOfC "law" (defScope st) s.heap.objs.size f cdv)) → FSs (cxOf CX0 P w K mg base N "law" (defScope st) f cdv A outer s H E).nox ((defBody st).drop 1) F1)
    (htrue : ∀ ns : List Int, ns.length ≤ 63 → ∃ e', F1 (.no :: .ow (tp0 ns).ot :: List.replicate (N.length - 2) .no) = some (.rt (.va (.bool true)) e')) : FnOk P w K mg base CX0 (k + 2) f fd ["script"] (spLaw K) := by
  refine F.ok S (fun vs H Q E ⟨a, ns, h, _⟩ => by rw [h]; rfl) (fun cdv A outer s H vs Q E hr h => ?_)
  obtain ⟨a, ns, rfl, hS, hl, q⟩ := h
  obtain ⟨t, ht, hti⟩ := hset cdv A outer s H E hr
  rw [hb]
  refine ⟨_, pss_cons ht (hrest cdv A outer s H E hr).ps, ?_⟩
  have hσ : L2.start N [V.ref a] = some (V.ref a) :: none :: List.replicate (N.length - 2) none := by
    unfold L2.start
    have e : N.length - [V.ref a].length = (N.length - 2) + 1 := by show N.length - 1 = _; omega
    rw [e, List.replicate_succ]; rfl
  refine hti _ _ _ ?_
  rw [hσ]
  refine ⟨.ref a, rfl, a, ns, rfl, hS, hl, fun H' p c hs hp hc hB => ?_⟩
  obtain ⟨e', he'⟩ := htrue ns hl
  refine tS_out.mpr ⟨⟨fun _ => none, H', some (V.ref a) :: some (V.ref p) :: List.replicate (N.length - 2) none, .no :: .ow (tp0 ns).ot :: List.replicate (N.length - 2) .no, fun i => if i = 1 then [p, c] else []⟩, _, ⟨fun b o h => (by cases h), ?_, fun i s h => ?_, fun i h => ?_, fun i j u hij hi hj => ?_⟩, rfl, rfl, he', fun v y Fr m r ee so hf hg => ?_⟩
  · show List.length (some (V.ref a) :: some (V.ref p) :: List.replicate (N.length - 2) none) = List.length (Sl.no :: Sl.ow (tp0 ns).ot :: List.replicate (N.length - 2) Sl.no)
    simp
  · match i with
    | 0 => cases h; rfl
    | 1 =>
      cases h
      exact ⟨.ref p, rfl, tpMk hB rfl rfl⟩
    | i + 2 =>
      have h' : (List.replicate (N.length - 2) Sl.no)[i]? = some s := h
      have := List.getElem?_eq_some_iff.mp h'
      obtain ⟨h1, h2⟩ := this
      rw [List.getElem_replicate] at h2
      subst h2
      show (if i + 2 = 1 then [p, c] else []) = []
      rw [if_neg (by omega)]
  · show (if i = 1 then [p, c] else []) = []
    have h' : (Sl.no :: Sl.ow (tp0 ns).ot :: List.replicate (N.length - 2) Sl.no).length ≤ i := h
    rw [List.length_cons, List.length_cons] at h'
    rw [if_neg (by omega)]
  · have a1 : u ∈ (if i = 1 then [p, c] else []) := hi
    have a2 : u ∈ (if j = 1 then [p, c] else []) := hj
    split at a1
    · split at a2
      · omega
      · cases a2
    · cases a1
  · obtain ⟨_, x, hx, hv⟩ := so
    cases hx
    cases hv
    exact q _
end
end Fl

set_option Elab.async false
set_option linter.all false
set_option maxRecDepth 100000
set_option maxHeartbeats 1000000
set_option autoImplicit false
/-! FnMore2: sorted of ints, zip of two, list and tuple of a range. -/
namespace Fl
open PySem PySem.Spec PyProof.Rows L2
def sortI (ns : List Int) : List Int := ns.mergeSort fun a b => decide (a ≤ b)
theorem sortI_perm (ns : List Int) : (sortI ns).Perm ns := List.mergeSort_perm ns _
theorem sortI_pair (ns : List Int) : (sortI ns).Pairwise (· ≤ ·) := by
  have := List.pairwise_mergeSort (le := fun a b : Int => decide (a ≤ b)) (fun a b c h1 h2 => decide_eq_true (Int.le_trans (of_decide_eq_true h1) (of_decide_eq_true h2))) (fun a b => by
    rcases Int.le_total a b with h | h
    · rw [decide_eq_true h]; rfl
    · rw [decide_eq_true h, Bool.or_true]) ns
  exact this.imp fun h => of_decide_eq_true h
theorem sortI_of {ns ms : List Int} (h : ms.Perm ns) (p : ms.Pairwise (· ≤ ·)) : ms = sortI ns :=
  List.Perm.eq_of_pairwise (le := (· ≤ ·)) (fun _ _ _ _ h1 h2 => Int.le_antisymm h1 h2) p (sortI_pair ns) (h.trans (sortI_perm ns).symm)
def dSorted : D → Option (List D)
  | .list xs => (asInts xs).map fun ns => (sortI ns).map PyData.int
  | _ => none
theorem dvAll_ints {K : Frg} {G : Hp} : ∀ ns : List Int, DvAll K G (ns.map V.int) (ns.map PyData.int)
  | [] => .nil
  | n :: ns => .cons (.int n) (dvAll_ints ns)
section
variable {X : Cx} {pos : Pos}
theorem fo_sorted {a : Expr} {p : Pos} {f : EF} (ha : FB X a f) (hm : X.mg "sorted" = none) (hg : Gl X "sorted" := by rfl) (he : starEach [a] X.env = (false, eval a X.env) :: starEach [] X.env := by rfl) : FO X (.Call (.Name "sorted" p) [a] [] pos) (oUn dSorted f) :=
  fo_call1 cr_sortedI (fun x ds G H vx Q e s h q => by
    unfold dSorted at e
    split at e
    · obtain ⟨ns, h1, h2⟩ := Option.map_eq_some_iff.mp e
      subst h2
      obtain ⟨b, vs, rfl, h3, h4⟩ := vwLst s h
      obtain ⟨e1, e2⟩ := asInts_ok h1 h4
      subst e1
      refine ⟨b, ns, rfl, SqL.of h3, fun ns' p hp hr hn => ?_⟩
      have := sortI_of hp hr
      subst this
      exact q p _ hn (dvAll_ints _)
    · cases e) hg hm (by decide +kernel) ha (by decide) (by decide) he
/-- an own list's (or any name's) cut: what stands there behind the bounds -/
def eSlO (i : Nat) (g h : PF) : EF := fun e => (e[i]?.bind vw).bind fun _ => (g e).bind fun q => (h q.2).bind fun r => (r.2[i]?.bind vw).bind fun x => (dSl q.1 r.1 x).map fun d => (d, r.2)
theorem fslo (i : Nat) {x : Str} {p p2 : Pos} {lo hi : Option Expr} {g h : PF} (hl : FP X lo g) (hh : FP X hi h) (hN : X.N[i]? = some x := by rfl) (hv : Vis X.env.scope x := by first | exact Or.inl rfl | exact Or.inr (Or.inl rfl) | exact Or.inr (Or.inr rfl)) (hd : (x == ("__debug__" : Str)) = false := by decide) (hcd : (x == ("__classdict__" : Str)) = false := by decide) : FE X (.Subscript (.Name x p) (.Slice lo hi none p2) pos) (eSlO i g h) :=
  ⟨PE.imp (pe_slice ((sl_list.or sl_tupA).or sl_str) (pe_var hN hv hd hcd) hl.po hh.po) fun σ H Q ⟨z, d, e', rp, hs, hH, hf, q⟩ => by
    subst hs hH
    obtain ⟨_, h0, hf⟩ := Option.bind_eq_some_iff.mp hf
    obtain ⟨⟨l, e1⟩, h1, hf⟩ := Option.bind_eq_some_iff.mp hf
    obtain ⟨⟨u, e2⟩, h2, hf⟩ := Option.bind_eq_some_iff.mp hf
    obtain ⟨xd, h3, hf⟩ := Option.bind_eq_some_iff.mp hf
    obtain ⟨d', h4, hf⟩ := Option.map_eq_some_iff.mp hf
    cases hf
    obtain ⟨v, hv, _⟩ := rp.has h0
    refine ⟨v, hv, z, l, e1, rp, rfl, rfl, h1, fun y2 m2 r2 s3 ee2 => ⟨y2, u, _, r2, s3, rfl, by rw [ee2]; exact h2, fun y3 m3 r3 s4 ee3 => ?_⟩⟩
    obtain ⟨v', hv', pv⟩ := r3.has (i := i) (x := xd) (by rw [ee3]; exact h3)
    rw [s4, hv] at hv'
    cases hv'
    have mm := m2.trans m3
    have finN : ∀ v p o, y3.H p = none → Dv X.K (upd y3.G p o) v d → Q v (upd y3.H p o) := fun v p o hn pv => by
      obtain ⟨r5, m5⟩ := r3.add (o := o) hn
      exact q v (y3.add p o) (mm.trans m5) r5 s4 ee3 pv
    cases xd with
    | list xs =>
      cases h4
      obtain ⟨a, vs, rfl, k1, k2⟩ := vwLst (H := y3.H) r3.same pv
      exact .inl (.inl ⟨_, _, rfl, SqL.of k1, fun p hn => finN _ p _ hn (.lst upd_same (dvMonoAll (sameUpd (r3.same.free hn)) _ _ (dvAll_cut k2 _ _)))⟩)
    | tuple xs =>
      cases h4
      obtain ⟨a, vs, rfl, k1, k2⟩ := vwTup (H := y3.H) pv
      refine .inl (.inr ⟨a, vs, rfl, seqT r3.same k1, fun hw => ?_, fun hw p hn => finN _ p _ hn (.tup (SqT.of upd_same) (dvMonoAll (sameUpd (r3.same.free hn)) _ _ (dvAll_cut k2 _ _)))⟩)
      refine q _ y3 mm r3 s4 ee3 ?_
      rw [dvAll_len k2] at hw
      rw [cut_all hw]
      exact .tup k1 k2
    | str z =>
      have h4' : (if z.length ≤ sizeLine then some (PyData.str (cutS z l u)) else none) = some d := h4
      split at h4'
      · rename_i hz
        cases h4'
        exact .inr ⟨_, vwStr (H := y3.H) pv, hz, q _ y3 mm r3 s4 ee3 (.str _)⟩
      · cases h4'
    | none => cases h4
    | bool _ => cases h4
    | int _ => cases h4
    | dict _ => cases h4⟩
end
end Fl

set_option Elab.async false
set_option linter.all false
set_option maxRecDepth 100000
set_option maxHeartbeats 1000000
set_option autoImplicit false
/-! FnRev: t[::-1] of a tuple, xs[::-1] of a list. -/
namespace Fl
open PySem PySem.Spec PyProof.Rows L2 HT
section
variable {prog : Program} {w : World} {A : Around} {E : Value → Shared → Prop} {s : Shared}
theorem applied_rev {sl : Addr} {vl vu vs : Value} {n : Nat} {Q : Int × Int × Nat → Shared → Prop} (hs : s.heap.IsSliceOf sl vl vu vs) (pl : IsPart vl none) (pu : IsPart vu none) (ps : IsPart vs (some (-1)))
    (h : Q ((n : Int) - 1, -1, n) s) : wpAny (model prog w) A (Builtin.Slice.sliceApplied (.ref sl) (pure (n : Int))) Q E s := by
  obtain ⟨os, hos, hcs, hds⟩ := id hs
  unfold Builtin.Slice.sliceApplied Builtin.Slice.sliceFields
  refine wpAny_bind (wpAny_bind (wpAny_field hos hds (x := vl) rfl (wpAny_bind (wpAny_field hos hds (x := vu) rfl (wpAny_bind (wpAny_field hos hds (x := vs) rfl (wpAny_pure ?_)))))))
  refine wpAny_bind (slicePart_ ps ?_)
  show wpAny _ _ (if ((-1 : Int) == 0) = true then _ else _) _ _ s
  rw [if_neg (by decide)]
  refine wpAny_bind (slicePart_ pl (wpAny_bind (slicePart_ pu (wpAny_bind (wpAny_pure ?_)))))
  show wpAny _ _ (match Builtin.Slice.sliceAdjust none none (-1) (n : Int) with | (lo, hi) => pure (lo, (-1 : Int), Builtin.Slice.slicePlaces lo hi (-1))) _ _ s
  have e1 : Builtin.Slice.sliceAdjust none none (-1) (n : Int) = ((n : Int) - 1, -1) := rfl
  have e2 : Builtin.Slice.slicePlaces ((n : Int) - 1) (-1) (-1) = n := by
    unfold Builtin.Slice.slicePlaces
    rw [if_neg (by decide)]
    by_cases hn : (n : Int) - 1 > -1
    · rw [if_pos hn, show (-(-1 : Int)) = 1 by decide, Int.ediv_one]; omega
    · rw [if_neg hn]; omega
  rw [e1]
  show wpAny _ _ (pure ((n : Int) - 1, (-1 : Int), Builtin.Slice.slicePlaces ((n : Int) - 1) (-1) (-1))) _ _ s
  rw [e2]
  exact wpAny_pure h
theorem pick_rev (xs : List Value) : ((List.range xs.length).filterMap fun (m : Nat) => xs.toArray[((xs.length : Int) - 1 + (m : Int) * (-1)).toNat]?) = xs.reverse := by
  apply List.ext_getElem?
  intro i
  have e : (List.range xs.length).filterMap (fun (m : Nat) => xs.toArray[((xs.length : Int) - 1 + (m : Int) * (-1)).toNat]?) = (List.range xs.length).map fun m => xs.getD (xs.length - 1 - m) (.none) := by
    have key : ∀ (ms : List Nat), (∀ m ∈ ms, m < xs.length) → ms.filterMap (fun (m : Nat) => xs.toArray[((xs.length : Int) - 1 + (m : Int) * (-1)).toNat]?) = ms.map fun m => xs.getD (xs.length - 1 - m) (.none) := fun ms => by
      induction ms with
      | nil => intro _; rfl
      | cons m ms ih =>
        intro hms
        have hm' := hms m List.mem_cons_self
        have h1 : ((xs.length : Int) - 1 + (m : Int) * (-1)).toNat = xs.length - 1 - m := by omega
        have h2 : xs.length - 1 - m < xs.length := by omega
        have h3 : xs.toArray[((xs.length : Int) - 1 + (m : Int) * (-1)).toNat]? = some (xs.getD (xs.length - 1 - m) .none) := by
          rw [h1, List.getElem?_toArray, List.getD_eq_getElem?_getD, List.getElem?_eq_getElem h2]; rfl
        rw [List.filterMap_cons, h3, List.map_cons]
        show _ :: _ = _ :: _
        rw [ih fun k hk => hms k (List.mem_cons_of_mem _ hk)]
    exact key _ fun m hm => List.mem_range.mp hm
  rw [e, List.getElem?_map]
  by_cases hi : i < xs.length
  · rw [List.getElem?_range hi, List.getElem?_reverse hi]
    have h2 : xs.length - 1 - i < xs.length := by omega
    rw [List.getElem?_eq_getElem h2]
    show some (xs.getD _ _) = _
    rw [List.getD_eq_getElem?_getD, List.getElem?_eq_getElem h2]; rfl
  · rw [List.getElem?_eq_none (by rw [List.length_range]; omega), List.getElem?_eq_none (by rw [List.length_reverse]; omega)]; rfl
theorem getItem_rev {t sl : Addr} {items : List Value} {vl vu vs : Value} {Q : Value → Shared → Prop} (ht : IsTup s.heap t items.toArray) (hs : s.heap.IsSliceOf sl vl vu vs) (pl : IsPart vl none) (pu : IsPart vu none) (ps : IsPart vs (some (-1)))
    (h : Q (.ref s.heap.objs.size) { s with heap := s.heap.push { cls := .type "tuple", data := .seq items.reverse.toArray } }) (hsz : items.length ≤ sizeLine) : wpAny (model prog w) A (getItem (.ref t) (.ref sl)) Q E s := by
  have htake : sizeOk (.seq items.reverse.toArray) := by
    show items.reverse.toArray.size ≤ sizeLine
    rw [List.size_toArray, List.length_reverse]; exact hsz
  obtain ⟨os, hos, hcs, hds⟩ := id hs
  have hTs : s.TypeIs (.ref sl) "slice" := ⟨os, hos, hcs⟩
  unfold getItem
  try with_reducible refine wpAny_holding ?_
  first | refine wpAny_bind (wpAny_pure ?_) | skip
  refine wpAny_bind (wpAny_sequenceKey ht.typeIs (by decide) ?_)
  refine wpAny_bind (wpAny_callSpecial?_slot (name := Str.ofString "__getitem__") ht.typeIs PyProof.Rows.slot_tuple_getitem
    (wpAny_call_entry PyProof.Rows.slot_tuple_getitem ht.typeIs entry_tuple_getitem ?_ (args_tuple_getitem _ _)))
  show wpAny _ _ (Builtin.Tuple.tupleItemsOf (.ref t) >>= _) _ _ s
  refine wpAny_bind (tupleItemsOf_ ht ?_)
  refine wpAny_bind (wpAny_typeOf hTs ?_)
  rw [if_pos (by decide)]
  refine wpAny_bind (applied_rev hs pl pu ps ?_)
  rw [List.size_toArray]
  show wpAny _ _ (if (((items.length : Int) - 1) == 0 && (-1 : Int) == 1 && (items.length == items.length)) = true then _ else _) _ _ s
  rw [if_neg (by simp)]
  have hp := pick_rev items
  rw [show (fun (k : Nat) => items.toArray[((items.length : Int) - 1 + (k : Int) * -1).toNat]?) = fun (m : Nat) => items.toArray[((items.length : Int) - 1 + (m : Int) * (-1)).toNat]? from rfl, hp]
  first
    | exact wpAny_bind (m := Builtin.Tuple.tupleExact _) (wpAny_newObj_type (wpAny_pure ⟨_, rfl, wpAny_pure h⟩) htake)
    | exact wpAny_bind (m := Builtin.Tuple.tupleExact _) (wpAny_newObj_type (wpAny_bind (wpAny_pure (wpAny_pure ⟨_, rfl, wpAny_pure h⟩))) htake)
    | exact wpAny_bind (wpAny_bind (m := Builtin.Tuple.tupleExact _) (wpAny_newObj_type (wpAny_pure (wpAny_pure ⟨_, rfl, wpAny_pure h⟩)) htake))
    | exact wpAny_bind (wpAny_bind (m := Builtin.Tuple.tupleExact _) (wpAny_newObj_type (wpAny_pure ⟨_, rfl, wpAny_pure h⟩) htake))
end
section
variable {X : Cx}
def tRevT (K : Frg) (te : TE) : TE := fun σ H Q => te σ H fun x H1 => ∃ a xs, x = .ref a ∧ SqT K H1 a xs ∧ ∀ p, H1 p = none → Q (.ref p) (upd H1 p (.tup xs.reverse))
theorem pe_revT {e : Expr} {te : TE} {k : Nat} {p1 p2 p3 pos : Pos} (he : PE X e te) : PE X (.Subscript e (.Slice none none (some (.UnaryOp .USub (.Constant (.int 1) k p1) p2)) p3) pos) (tRevT X.K te) := by
  refine ⟨fun pins s σ H Q I h => ?_⟩
  refine Subscript_ (thn (he.run pins s σ H _ I h) fun v s1 ⟨x, H1, I1, r1, q1⟩ => ?_)
  obtain ⟨a, xs, ex, hx, q⟩ := q1
  subst ex
  cases r1
  have hst : PO X (some (.UnaryOp .USub (.Constant (.int 1) k p1) p2)) (tPart (tUn (rU fun i => .int (-i)) (tC (.int 1)))) := po_some (pe_un un_neg pe_int)
  refine wpAny_Slice (thn (po_none.run pins s1 σ H1 (fun o H2 => o = none ∧ H2 = H1) I1 ⟨rfl, rfl⟩) fun vl s2 ⟨l, H2, I2, pl, el, e2⟩ => ?_)
  subst el e2
  refine thn (po_none.run pins s2 σ H2 (fun o H3 => o = none ∧ H3 = H2) I2 ⟨rfl, rfl⟩) fun vu s3 ⟨u, H3, I3, pu, eu, e3⟩ => ?_
  subst eu e3
  refine thn (hst.run pins s3 σ H3 (fun o H4 => o = some (-1) ∧ H4 = H3) I3 ⟨1, rfl, -1, rfl, rfl, rfl⟩) fun vs s4 ⟨o, H4, I4, ps, eo, e4⟩ => ?_
  subst eo e4
  have I5 : Inv X pins σ H4 { s4 with heap := s4.heap.push { cls := .type "slice", data := .fields #[vl, vu, vs] } } := I4.kept (t' := s4.toks) fun b ob q => Heap.get?_push_of_some _ q
  obtain ⟨its, r, ht, hz⟩ := I5.tuple hx
  have hlen := r.length
  show wpAny (model X.prog X.w) X.A (subscriptTail e (.Slice none none (some (.UnaryOp .USub (.Constant (.int 1) k p1) p2)) p3) (.ref a) (.ref s4.heap.objs.size)) (EP X pins σ Q) X.xe { s4 with heap := s4.heap.push { cls := .type "slice", data := .fields #[vl, vu, vs] } }
  refine tail_any (ops := [.ref a, .ref s4.heap.objs.size]) ht.typeIs (PyProof.Rows.slot_tuple_getitem.lookup) ?_ (by with_unfolding_all rfl)
  refine getItem_rev ht (Heap.IsSliceOf.new _ vl vu vs) pl pu ps ?_ (by omega)
  refine ⟨.ref _, _, I5.laid (t' := s4.toks) (o := .tup xs.reverse) (fun b ob q => Heap.get?_push_of_some _ q) (Nat.le_refl _) ?_, rfl, q _ (I5.hok.fresh (Nat.le_refl _))⟩
  exact ⟨by rw [List.length_reverse]; exact hz, _, r.reverse, ⟨_, Heap.get?_push_size _ rfl, rfl, 0, rfl⟩⟩
theorem pe_or {e : Expr} {t1 t2 : TE} (h1 : PE X e t1) (h2 : PE X e t2) : PE X e (fun σ H Q => t1 σ H Q ∨ t2 σ H Q) := ⟨fun pins s σ H Q I q => q.elim (h1.run pins s σ H Q I) (h2.run pins s σ H Q I)⟩
def rRvL (K : Frg) : V → Hp → VK → Prop := fun x H1 Q => ∃ a xs, x = .ref a ∧ SqL K H1 a xs ∧ ∀ p, H1 p = none → Q (.ref p) (upd H1 p (.lst xs.reverse))
def rRvT (K : Frg) : V → Hp → VK → Prop := fun x H1 Q => ∃ a xs, x = .ref a ∧ SqT K H1 a xs ∧ ∀ p, H1 p = none → Q (.ref p) (upd H1 p (.tup xs.reverse))
def dRevL : D → Option D
  | .list xs => some (.list xs.reverse)
  | _ => none
def dRevT : D → Option D
  | .tuple xs => some (.tuple xs.reverse)
  | _ => none
def dRev : D → Option D
  | .list xs => some (.list xs.reverse)
  | .tuple xs => some (.tuple xs.reverse)
  | _ => none
theorem un_revL {K : Frg} : Un1 K (rRvL K) dRevL := fun x d G H vx Q e s h q qn => by
  unfold dRevL at e
  split at e
  · cases e
    obtain ⟨a, vs, rfl, k1, k2⟩ := vwLst s h
    exact ⟨a, vs, rfl, SqL.of k1, fun p hn => qn _ p _ hn (.lst upd_same (dvMonoAll (sameUpd (s.free hn)) _ _ (dvAll_rev k2)))⟩
  · cases e
theorem un_revT {K : Frg} : Un1 K (rRvT K) dRevT := fun x d G H vx Q e s h q qn => by
  unfold dRevT at e
  split at e
  · cases e
    obtain ⟨a, vs, rfl, k1, k2⟩ := vwTup h
    exact ⟨a, vs, rfl, seqT s k1, fun p hn => qn _ p _ hn (.tup (SqT.of upd_same) (dvMonoAll (sameUpd (s.free hn)) _ _ (dvAll_rev k2)))⟩
  · cases e
theorem fe_rev {a : Expr} {f : EF} {k : Nat} {p1 p2 p3 pos : Pos} (ha : FB X a f) : FE X (.Subscript a (.Slice none none (some (.UnaryOp .USub (.Constant (.int 1) k p1) p2)) p3) pos) (eUn dRev f) :=
  ⟨PE.imp (pe_or (pe_revL ha.pb) (pe_revT ha.pb)) fun σ H Q ⟨z, d, e', rp, hs, hH, hf, q⟩ => by
    obtain ⟨⟨x, e1⟩, h1, hf⟩ := Option.bind_eq_some_iff.mp hf
    obtain ⟨d', h3, hf⟩ := Option.map_eq_some_iff.mp hf
    cases hf
    cases x with
    | list xs =>
      refine .inl (un_run (r := rRvL X.K) un_revL ⟨z, d, _, rp, hs, hH, ?_, q⟩)
      have h4 : dRevL (.list xs) = some d := h3
      unfold eUn
      rw [h1, Option.bind_some, h4, Option.map_some]
    | tuple xs =>
      refine .inr (un_run (r := rRvT X.K) un_revT ⟨z, d, _, rp, hs, hH, ?_, q⟩)
      have h4 : dRevT (.tuple xs) = some d := h3
      unfold eUn
      rw [h1, Option.bind_some, h4, Option.map_some]
    | none => cases h3
    | bool _ => cases h3
    | int _ => cases h3
    | str _ => cases h3
    | dict _ => cases h3⟩
end
end Fl

set_option Elab.async false
set_option linter.all false
set_option maxRecDepth 100000
set_option maxHeartbeats 1000000
set_option autoImplicit false
/-! FnRng: list(range(n)), tuple(range(n)). -/
namespace Fl
open PySem PySem.Spec PyProof.Rows L2
def Rl (n : Int) : Prop := -16777216 ≤ n ∧ n ≤ 16777216
instance (n : Int) : Decidable (Rl n) := inferInstanceAs (Decidable (-16777216 ≤ n ∧ n ≤ 16777216))
theorem rl_of {n : Int} (h1 : -1000000 ≤ n) (h2 : n ≤ 1000000) : Rl n := ⟨by omega, by omega⟩
theorem Rl.ok {n : Int} (h : Rl n) : RgOk 0 n := by
  obtain ⟨h1, h2⟩ := h
  exact ⟨by omega, by omega, by omega, by omega, by omega⟩
def dRngL : D → Option (List D)
  | .int n => if Rl n then some (rngD 0 n.toNat) else none
  | _ => none
def dRngT : D → Option D
  | .int n => if Rl n then some (.tuple (rngD 0 n.toNat)) else none
  | _ => none
theorem dvAll_map {K : Frg} {G : Hp} (f : Nat → V) (g : Nat → D) (h : ∀ i, Dv K G (f i) (g i)) : ∀ is : List Nat, DvAll K G (is.map f) (is.map g)
  | [] => .nil
  | i :: is => .cons (h i) (dvAll_map f g h is)
theorem dvAll_rg {K : Frg} {G : Hp} (n : Int) : DvAll K G (rgV 0 n) (rngD 0 n.toNat) := by
  unfold rgV rngD
  rw [Int.sub_zero]
  exact dvAll_map _ _ (fun i => .int _) _
def rRgL : V → Hp → VK → Prop := fun x H1 Q => ∃ n, x = .int n ∧ RgOk 0 n ∧ ∀ q, H1 q = none → Q (.ref q) (upd H1 q (.lst (rgV 0 n)))
def rRgT : V → Hp → VK → Prop := fun x H1 Q => ∃ n, x = .int n ∧ RgOk 0 n ∧ ∀ q, H1 q = none → Q (.ref q) (upd H1 q (.tup (rgV 0 n)))
theorem un_rgL {K : Frg} : Un1L K rRgL dRngL := fun x ds G H vx Q e s h q => by
  unfold dRngL at e
  split at e
  · split at e
    · rename_i n hn
      cases e
      have := vwInt h
      subst this
      exact ⟨n, rfl, hn.ok, fun p hp => q p _ hp (dvAll_rg n)⟩
    · cases e
  · cases e
theorem un_rgT {K : Frg} : Un1 K rRgT dRngT := fun x d G H vx Q e s h q qn => by
  unfold dRngT at e
  split at e
  · split at e
    · rename_i n hn
      cases e
      have := vwInt h
      subst this
      exact ⟨n, rfl, hn.ok, fun p hp => qn _ p _ hp (.tup (SqT.of upd_same) (dvAll_rg n))⟩
    · cases e
  · cases e
section
variable {X : Cx} {pos : Pos}
theorem fo_listRg {a : Expr} {f : EF} {p p2 pos2 : Pos} (ha : FB X a f) (hc : X.calm = true) (hm : X.mg "list" = none) (hm2 : X.mg "range" = none) (hg : Gl X "list" := by rfl) (hg2 : Gl X "range" := by rfl) (he : starEach [a] X.env = (false, eval a X.env) :: starEach [] X.env := by rfl) (he2 : starEach [.Call (.Name "range" p2) [a] [] pos2] X.env = (false, eval (.Call (.Name "range" p2) [a] [] pos2) X.env) :: starEach [] X.env := by rfl) :
    FO X (.Call (.Name "list" p) [.Call (.Name "range" p2) [a] [] pos2] [] pos) (oUn dRngL f) :=
  ⟨PE.imp (pe_listRg hc hg hm (prg_1 hg2 hm2 ha.pb he) he2) fun σ H Q h => unL_run (r := rRgL) un_rgL h⟩
theorem fe_tupRg {a : Expr} {f : EF} {p p2 pos2 : Pos} (ha : FB X a f) (hc : X.calm = true) (hm : X.mg "tuple" = none) (hm2 : X.mg "range" = none) (hg : Gl X "tuple" := by rfl) (hg2 : Gl X "range" := by rfl) (he : starEach [a] X.env = (false, eval a X.env) :: starEach [] X.env := by rfl) (he2 : starEach [.Call (.Name "range" p2) [a] [] pos2] X.env = (false, eval (.Call (.Name "range" p2) [a] [] pos2) X.env) :: starEach [] X.env := by rfl) :
    FE X (.Call (.Name "tuple" p) [.Call (.Name "range" p2) [a] [] pos2] [] pos) (eUn dRngT f) :=
  ⟨PE.imp (pe_tupRg hc hg hm (prg_1 hg2 hm2 ha.pb he) he2) fun σ H Q h => un_run (r := rRgT) un_rgT h⟩
end
end Fl

set_option Elab.async false
set_option linter.all false
set_option maxRecDepth 100000
set_option maxHeartbeats 1000000
set_option autoImplicit false
/-! FnZip: zip of two tuples or two lists. -/
namespace Fl
open PySem PySem.Spec PyProof.Rows L2 RZ
def zipD (xs ys : List D) : List D := List.zipWith (fun x y => .tuple [x, y]) xs ys
theorem zipD_len (xs ys : List D) : (zipD xs ys).length = min xs.length ys.length := List.length_zipWith
theorem zipD_get {xs ys : List D} {i : Nat} {x y : D} (h : xs[i]? = some x) (k : ys[i]? = some y) : (zipD xs ys)[i]? = some (.tuple [x, y]) := by
  unfold zipD
  rw [List.getElem?_zipWith, h, k]
def lZip (f g : EF) : LF := fun e => (f e).bind fun p => (g p.2).bind fun q => match p.1, q.1 with
  | .tuple xs, .tuple ys => some (zipD xs ys, q.2)
  | .list xs, .list ys => some (zipD xs ys, q.2)
  | _, _ => none
theorem itr_zipL {K : Frg} {G : Hp} {a b : Addr} {vs ws : List V} {ds es : List D} (h : G a = some (.lst vs)) (hd : DvAll K G vs ds) (k : G b = some (.lst ws)) (kd : DvAll K G ws es) : Itr K (Itz K a b) G (zipD ds es) := by
  refine ⟨_, _, walk_zip (K := K) (a := a) (b := b) (xs := vs) (ys := ws) (by rw [zipD_len, dvAll_len hd, dvAll_len kd]), fun H s => ⟨SqL.of (s _ _ h), SqL.of (s _ _ k)⟩, fun i H x H' hi s y => ?_⟩
  obtain ⟨T, x1, x2, h1, h2, h3, h4, h5⟩ := y
  obtain ⟨d1, k1, k2⟩ := dvAll_getV hd h4
  obtain ⟨d2, k3, k4⟩ := dvAll_getV kd h5
  exact .inr ⟨T, _, _, h1, h2, h3, zipD_get k1 k3, .cons k2 (.cons k4 .nil)⟩
theorem itr_zipT {K : Frg} {G : Hp} {a b : Addr} {vs ws : List V} {ds es : List D} (h : SqT K G a vs) (hd : DvAll K G vs ds) (k : SqT K G b ws) (kd : DvAll K G ws es) : Itr K (ItzT K a b) G (zipD ds es) := by
  have e1 := dvAll_len hd
  have e2 := dvAll_len kd
  refine ⟨fun H => SqT K H a vs ∧ SqT K H b ws, fun i H v H' => ∃ T x y, v = .ref T ∧ H T = none ∧ H' = upd H T (.tup [x, y]) ∧ vs[i]? = some x ∧ ws[i]? = some y, ?_, fun H s => ⟨seqT s h, seqT s k⟩, fun i H x H' hi s y => ?_⟩
  · rw [zipD_len]
    refine ⟨fun i H hi q => ?_, fun H q => ⟨vs, ws, q.1, q.2, by omega⟩, fun i H v H' _ q ⟨T, x, y, h1, h2, h3, h4, h5⟩ => ⟨T, x, y, h1, h2, h3, h4 vs q.1, h5 ws q.2⟩⟩
    have h1 : i < vs.length := by omega
    have h2 : i < ws.length := by omega
    exact ⟨vs, ws, vs[i], ws[i], q.1, q.2, by simp [h1], by simp [h2]⟩
  · obtain ⟨T, x1, x2, h1, h2, h3, h4, h5⟩ := y
    obtain ⟨d1, k1, k2⟩ := dvAll_getV hd h4
    obtain ⟨d2, k3, k4⟩ := dvAll_getV kd h5
    exact .inr ⟨T, _, _, h1, h2, h3, zipD_get k1 k3, .cons k2 (.cons k4 .nil)⟩
section
variable {X : Cx} {pos : Pos}
theorem fi_zip {a b : Expr} {f g : EF} {p tpos : Pos} {elts : List Expr} {kk : Nat} (h : FE X a f) (k : FE X b g) (hm : X.mg "zip" = none) (hg : Gl X "zip" := by rfl) (hs : starEach [a, b] X.env = (false, eval a X.env) :: starEach [b] X.env := by rfl) (hs2 : starEach [b] X.env = (false, eval b X.env) :: starEach [] X.env := by rfl) (hpl : (backTo pos (starEach [b] X.env)).any (·.1) = false := by rfl) :
    FI X (.Tuple elts kk tpos) (.Call (.Name "zip" p) [a, b] [] pos) (lZip f g) :=
  ⟨PI.imp (pi_zipA hg hm (pa_cons h.pe (pa_cons k.pe pa_nil hs2) hs) hs hpl) fun σ H R ⟨z, ds, e', rp, hz, hH, hf, q⟩ => by
    subst hz hH
    obtain ⟨⟨x, e1⟩, h1, hf⟩ := Option.bind_eq_some_iff.mp hf
    obtain ⟨⟨y, e2⟩, h2, hf⟩ := Option.bind_eq_some_iff.mp hf
    refine ⟨z, _, _, rp, rfl, rfl, h1, fun v1 z1 m1 r1 s1 ee1 p1 => ⟨z1, _, _, r1, s1, rfl, by rw [ee1]; exact h2, fun v2 z2 m2 r2 s2 ee2 p2 => ?_⟩⟩
    have p1' := dvMono m2.g _ _ p1
    cases x with
    | tuple xs =>
      cases y with
      | tuple ys =>
        have e3 : some (zipD xs ys, e2) = some (ds, e') := hf
        cases e3
        cases p1' with
        | tup k1 k2 =>
          cases p2 with
          | tup l1 l2 => exact ⟨_, _, _, _, rfl, .inr ⟨seqT r2.same k1, seqT r2.same l1, q _ z2 (m1.trans m2) r2 s2 ee2 (itr_zipT k1 k2 l1 l2)⟩⟩
      | _ => cases hf
    | list xs =>
      cases y with
      | list ys =>
        have e3 : some (zipD xs ys, e2) = some (ds, e') := hf
        cases e3
        cases p1' with
        | lst k1 k2 =>
          cases p2 with
          | lst l1 l2 => exact ⟨_, _, _, _, rfl, .inl ⟨SqL.of (r2.same _ _ k1), SqL.of (r2.same _ _ l1), q _ z2 (m1.trans m2) r2 s2 ee2 (itr_zipL k1 k2 l1 l2)⟩⟩
      | _ => cases hf
    | _ => cases hf⟩
end
end Fl

set_option Elab.async false
set_option linter.all false
set_option maxRecDepth 100000
set_option maxHeartbeats 1000000
set_option autoImplicit false
/-! FnRem: xs.remove(k), ints. -/
namespace Fl
open PySem PySem.Spec PyProof.Rows L2
def gRemove (xs : List D) : D → Option (D × List D)
  | .int k => (asInts xs).bind fun ns => (ns.findIdx? (· == k)).map fun j => (.none, (ns.eraseIdx j).map PyData.int)
  | _ => none
theorem mt1_remove {K : Frg} : Mt1 K rRemI gRemove := fun a vs xs d vd rd ys G H Q e s ha hx hd q => by
  unfold gRemove at e
  split at e
  · rename_i k
    obtain ⟨ns, h1, h2⟩ := Option.bind_eq_some_iff.mp e
    obtain ⟨j, h3, h4⟩ := Option.map_eq_some_iff.mp h2
    cases h4
    obtain ⟨e1, e2⟩ := asInts_ok h1 hx
    subst e1
    cases hd
    obtain ⟨hj, hk, hno⟩ := List.findIdx?_eq_some_iff_getElem.mp h3
    refine ⟨a, ns, k, j, rfl, rfl, ha, ?_, fun m hm hmk => ?_, q .non _ .non ?_⟩
    · rw [List.getElem?_eq_getElem hj]
      have := eq_of_beq hk
      rw [this]
    · have hml : m < ns.length := by omega
      rw [List.getElem?_eq_getElem hml] at hmk
      have := hno m hm
      rw [Option.some.inj hmk] at this
      exact this (beq_self_eq_true k)
    · exact dvAll_ints _
  · cases e
section
variable {X : Cx} {pos : Pos}
theorem frem (i : Nat) {x : Str} {p apos : Pos} {a : Expr} {f : EF} (ha : FE X a f) (hN : X.N[i]? = some x := by rfl) (hv : Vis X.env.scope x := by first | exact Or.inl rfl | exact Or.inr (Or.inl rfl) | exact Or.inr (Or.inr rfl)) (hbase : attributeBase (.Name x p) "remove" X.env (eval (.Name x p) X.env) = eval (.Name x p) X.env := by rfl)
    (hfew : ((backTo pos (starEach [a] X.env)).all (fun x => !x.1) && (backToKw pos (keywordEach [] X.env)).all (fun x => x.1.isSome)
      && decide (([a]).length + ([] : List Keyword).length + (if ([] : List Keyword).isEmpty then 0 else 1) < 30)) = true := by rfl) (hline : (apos.endLine == pos.line) = true := by rfl)
    (he : starEach [a] X.env = (false, eval a X.env) :: starEach [] X.env := by rfl) (hpl : (backTo pos (starEach [] X.env)).any (·.1) = false := by rfl) (hd : (x == ("__debug__" : Str)) = false := by decide) (hcd : (x == ("__classdict__" : Str)) = false := by decide) : FE X (.Call (.Attribute (.Name x p) "remove" apos) [a] [] pos) (eMt1 gRemove i f) :=
  fe_mt1 PySem.F.slot_list_remove PySem.F.type_list_remove mt_remove mt1_remove hN hv ha hbase hfew hline he hpl hd hcd
def dStr : D → Option D
  | .int i => if i.natAbs.log2 < 1920 then some (.str (toString i)) else none
  | _ => none
theorem fe_strOf {x : Expr} {p : Pos} {f : EF} (ha : FB X x f) (hm : X.mg "str" = none) (hg : Gl X "str" := by rfl) (he : starEach [x] X.env = (false, eval x X.env) :: starEach [] X.env := by rfl) : FE X (.Call (.Name "str" p) [x] [] pos) (eUn dStr f) :=
  fe_callT1 call_str_int (fun x d G H vx Q e s h q qn => by
    unfold dStr at e
    split at e
    · split at e
      · rename_i i hi
        cases e
        have := vwInt h
        subst this
        exact ⟨i, rfl, hi, q _ (.str _)⟩
      · cases e
    · cases e) hg hm (by decide +kernel) ha (by decide) (by decide) he
end
/-- a constant of the module -/
def CtOk (K : Frg) (mg : Str → Option Value) (x : Str) (d : D) : Prop := ∃ (u : Value) (v : V), mg x = some u ∧ RelV v u ∧ ∀ G : Hp, Dv K G v d
theorem fe_gl {X : Cx} {pos : Pos} {x : Str} {d : D} (h : CtOk X.K X.mg x d) (hg : Gl X x := by rfl) (hd : (x == ("__debug__" : Str)) = false := by decide) : FE X (.Name x pos) (eC d) := by
  obtain ⟨u, v, h1, h2, h3⟩ := h
  exact fe_glob hg h1 h2 h3 hd
theorem ct_int {K : Frg} {mg : Str → Option Value} {x : Str} {i : Int} {t : Tok} (h : mg x = some (.int i t)) : CtOk K mg x (.int i) := ⟨_, .int i, h, ⟨t, rfl⟩, fun _ => .int i⟩
theorem ct_str {K : Frg} {mg : Str → Option Value} {x s : Str} {t : Tok} (h : mg x = some (.str s t)) : CtOk K mg x (.str s) := ⟨_, .str s, h, ⟨t, rfl⟩, fun _ => .str s⟩
end Fl

set_option Elab.async false
set_option linter.all false
set_option maxRecDepth 100000
set_option maxHeartbeats 4000000
set_option autoImplicit false
/-! FnTup: sorted of a tuple of ints, a tuple times a number. -/
namespace Fl
open PySem PySem.Spec PyProof.Rows L2
section
variable {prog : Program} {w : World} {A : Around} {E : Value → Shared → Prop} {s : Shared}
/-- what collect makes of a tuple -/
theorem coll_tup {l : Addr} {o : Obj} {its : List Value} {n : Nat} {Q : List Value → Shared → Prop} (ho : s.heap.get? l = some o) (hc : o.cls = .type "tuple") (hd : o.data = .seq its.toArray n) (hz : its.length ≤ sizeLine)
    (h : Q its { s with heap := (s.heap.push (seqObj "list" #[] 0)).update s.heap.objs.size (Obj.mapSeq (· ++ its.toArray)) }) : wpAny (model prog w) A (collect (.ref l)) Q E s := by
  have hN : (s.heap.push (seqObj "list" #[] 0)).get? s.heap.objs.size = some (seqObj "list" #[] 0) := Heap.get?_push_size _ rfl
  have hO : (s.heap.push (seqObj "list" #[] 0)).get? l = some o := Heap.get?_push_of_some _ ho
  unfold collect
  refine wpAny_bind (wpAny_runValue (codeAny_builtin entry_proto_collect' ?_))
  show wpAny _ _ (newList [] >>= fun r => again (.builtin "list.__iadd__" ⟨[r, .ref l], []⟩)) _ _ s
  refine wpAny_bind (wpAny_newList (wpAny_pure ⟨Code.quiet_builtin _ (by decide +kernel), codeAny_builtin entry_list_iadd' ?_⟩))
  show wpAny _ _ (Builtin.List.listExtendWith (.ref s.heap.objs.size) (.ref l) (.ref s.heap.objs.size)) _ _ ({ s with heap := s.heap.push (seqObj "list" #[] 0) } : Shared)
  unfold Builtin.List.listExtendWith
  refine wpAny_bind (wpAny_typeOf (T := "tuple") ⟨o, hO, hc⟩ ?_)
  have ht : (Value.type "tuple" == Value.type "tuple") = true := by decide +kernel
  rw [if_pos (by rw [ht, Bool.or_true])]
  refine wpAny_bind (listItems_at hO hd (wpAny_bind (listItems_at (xs := #[]) (n := 0) hN rfl ?_)))
  rw [if_neg (by simp)]
  refine wpAny_bind (listUpdate_at (xs := #[]) (n := 0) hN rfl ?_ (Nat.zero_le _) (by simp only [List.size_toArray, Array.empty_append]; omega))
  refine wpAny_pure ?_
  show wpAny (model prog w) A (load s.heap.objs.size >>= fun o => match o.data with
    | .seq xs _ => pure xs.toList
    | _ => unsupported "internal:collect") Q E ({ s with heap := (s.heap.push (seqObj "list" #[] 0)).update s.heap.objs.size (Obj.mapSeq (· ++ its.toArray)) } : Shared)
  refine wpAny_bind (wpAny_load (get?_update_seq hN _) ?_)
  show wpAny _ _ (pure (#[] ++ its.toArray : Array Value).toList) Q E _
  rw [Array.empty_append, List.toList_toArray]
  exact wpAny_pure h
open SrtO in
theorem sorted_tup {l : Addr} {o : Obj} {vs : List Value} {n : Nat} {ltv : Value → Value → Bool} {Q : Value → Shared → Prop} (O : Swo ltv) (ho : s.heap.get? l = some o) (hc : o.cls = .type "tuple") (hd : o.data = .seq vs.toArray n) (hz : vs.length ≤ sizeLine)
    (hS : 2 ≤ vs.length → ∀ (h₁ : Heap) (a : Addr), h₁.get? a = some (seqObj "list" vs.toArray 0) → SortableO prog w A.in1.in1 { s with heap := h₁ } a vs ltv)
    (h : ∀ out : List Value, Srtd ltv out → Stb ltv out vs → Q (.ref (s.heap.objs.size + 1)) { s with heap := sortedAll s.heap vs out.toArray }) : wpAny (model prog w) A (call (.builtin "sorted") [.ref l]) Q E s := by
  refine Calls.call_function_entry kind_sorted plain_sorted entry_sorted (args_sorted1 _) ?_
  unfold Builtin.«sorted»
  refine wpAny_bind (m := checkCount "sorted" 1 1 _) (wpAny_pure (wpAny_bind (coll_tup ho hc hd hz (wpAny_bind (wpAny_newList ?_ hz)))))
  have e1 : ((s.heap.push (seqObj "list" #[] 0)).update s.heap.objs.size (Obj.mapSeq (· ++ vs.toArray))).objs.size = s.heap.objs.size + 1 := (Heap.size_update _ _ _).trans (size_push' _ _)
  have e2 : (((s.heap.push (seqObj "list" #[] 0)).update s.heap.objs.size (Obj.mapSeq (· ++ vs.toArray))).push (seqObj "list" vs.toArray 0)).get? (s.heap.objs.size + 1) = some (seqObj "list" vs.toArray 0) := e1 ▸ Heap.get?_push_size _ rfl
  show wpAny _ _ _ _ _ ({ s with heap := ((s.heap.push (seqObj "list" #[] 0)).update s.heap.objs.size (Obj.mapSeq (· ++ vs.toArray))).push (seqObj "list" vs.toArray 0) } : Shared)
  rw [e1]
  exact wpAny_bind (wpAny_holding (wpAny_call_entry slot_list_sort ⟨_, e2, rfl⟩ entry_list_sort (list_sort_ord O e2 hz (fun h2 => hS h2 _ _ e2) fun out hs hb => ⟨_, rfl, wpAny_pure ⟨_, rfl, h out hs hb⟩⟩) (args_list_sort _)))
end
def rSortedT (K : PySem.W.Frag) : List V → Hp → VK → Prop := fun vs H Q => ∃ (a : Addr) (ns : List Int), vs = [V.ref a] ∧ SqT K H a (ns.map V.int) ∧ ∀ (ms : List Int) (p : Addr), ms.Perm ns → ms.Pairwise (· ≤ ·) → H p = none → Q (.ref p) (upd H p (.lst (ms.map V.int)))
theorem cr_sortedT {X : Cx} : CallR X (.builtin "sorted") (rSortedT X.K) := by
  intro pins s σ H vs us Q I r h
  obtain ⟨a, ns, rfl, hT, q⟩ := h
  obtain ⟨its, rv, ⟨o, ho, hc, n, hd⟩, hz⟩ := I.tuple hT
  have hi := rv.ints
  rw [Vals.ref1 r]
  refine sorted_tup SrtO.swo_int ho hc hd (by rw [← rv.length]; exact hz) (fun h2 h₁ a' k => SrtO.ints_sortable hi h2) fun out h1 h2 => ?_
  obtain ⟨k1, k2, k3⟩ := SrtO.ints_out hi h1 h2
  obtain ⟨ep, he'⟩ := PyProof.Rows.sortedAll_at s.heap its out.toArray
  have hl : ((out.map SrtO.iv).map V.int).length ≤ sizeLine := by rw [List.length_map, k2.length_eq, ← List.length_map (f := V.int)]; exact hz
  refine ⟨.ref _, upd H (s.heap.objs.size + 1) (.lst ((out.map SrtO.iv).map V.int)), ?_, rfl, q _ _ k2 k3 (I.hok.fresh (Nat.le_succ _))⟩
  exact I.laid (t' := s.toks) (fun _ _ => PyProof.Rows.sortedAll_old) (Nat.le_succ _) ⟨hl, out, ep, vals_of_ints k1, he'⟩
/-- sorted of a list or a tuple of ints -/
def dSortA : D → Option (List D)
  | .list xs => (asInts xs).map fun ns => (sortI ns).map PyData.int
  | .tuple xs => (asInts xs).map fun ns => (sortI ns).map PyData.int
  | _ => none
/-! ### a tuple times a number -/
theorem tmul_one (l : Addr) (items : Array Value) (n : Nat) (dd : Option Addr) (sl : Array (Option Value)) (u : Tok) :
    Meets (Builtin.«tuple.__mul__» ⟨[.ref l, .int 1 u], []⟩) (fun _ R s => s.heap.get? l = some { cls := .type "tuple", dict := dd, data := .seq items n, slots := sl } ∧ R (.ok (.ret (.ref l))) s) :=
  .of_wp fun prog w A R s h => by
    obtain ⟨hp, g, d, tk, os⟩ := s
    obtain ⟨hl, h⟩ := h
    have f1 := AutoSeq1.idx_int
    have c1 : (items.isEmpty || (1 : Int) == 1) = true := by rw [show ((1 : Int) == 1) = true from rfl, Bool.or_true]
    wp_walk using wpAny_loadPart' hl
    repeat (first
      | (refine wpAny_ite_false (decide_eq_false (by decide)) ?_; wp_walk using wpAny_loadPart' hl)
      | (refine wpAny_ite_true (decide_eq_true c1) ?_; wp_walk using wpAny_loadPart' hl)
      | (refine wpAny_ite_true (decide_eq_true rfl) ?_; wp_walk using wpAny_loadPart' hl))
    exact ⟨_, rfl, h⟩
theorem tmul_nil (l : Addr) (items : Array Value) (n : Nat) (dd : Option Addr) (sl : Array (Option Value)) (x : Int) (u : Tok) (c0 : (decide (x < -(2 ^ 63)) || decide (x ≥ 2 ^ 63)) = false) (c1 : (items.isEmpty || x == 1) = false) (c2 : (decide (x ≤ 0) || items.isEmpty) = true) :
    Meets (Builtin.«tuple.__mul__» ⟨[.ref l, .int x u], []⟩) (fun _ R s => s.heap.get? l = some { cls := .type "tuple", dict := dd, data := .seq items n, slots := sl } ∧
      R (.ok (.ret (Value.ref s.heap.objs.size))) { s with heap := s.heap.push { cls := Value.type "tuple", data := Data.seq #[] }, toks := s.toks }) :=
  .of_wp fun prog w A R s h => by
    obtain ⟨hp, g, d, tk, os⟩ := s
    obtain ⟨hl, h⟩ := h
    have f1 := AutoSeq1.idx_int
    wp_walk using wpAny_loadPart' hl
    repeat (first
      | (refine wpAny_ite_false (decide_eq_false (by rw [c0]; decide)) ?_; wp_walk using wpAny_loadPart' hl)
      | (refine wpAny_ite_false (decide_eq_false (by rw [c1]; decide)) ?_; wp_walk using wpAny_loadPart' hl)
      | (refine wpAny_ite_true (decide_eq_true c2) ?_; wp_walk using wpAny_loadPart' hl))
    exact ⟨_, rfl, h⟩
def rRepS (K : PySem.W.Frag) : R2 := fun x y H Q => ∃ l k xs, x = .ref l ∧ y = .int k ∧ SqT K H l xs ∧ xs ≠ [] ∧ -1000 ≤ k ∧ k ≤ 1 ∧ (k = 1 → Q (.ref l) H) ∧ (k ≤ 0 → ∀ p, H p = none → Q (.ref p) (upd H p (.tup [])))
theorem op_repS {X : Cx} : OpR X (binaryOp .Mult) (rRepS X.K) := by
  intro pins s σ H x y v u Q I rx ry h
  obtain ⟨l, k, xs, rfl, rfl, hT, hne, h1, h2, q1, q0⟩ := h
  cases rx
  obtain ⟨t, rfl⟩ := ry
  obtain ⟨its, r, ⟨⟨cls, dd, data, sl⟩, ho, hc, n, hd⟩, hs⟩ := I.tuple hT
  simp only at hc hd
  subst hc hd
  have hi : its.toArray.isEmpty = false := by
    cases its with
    | nil => exact absurd (List.eq_nil_of_length_eq_zero r.length) hne
    | cons a b => rfl
  have c0 : (decide (k < -(2 ^ 63)) || decide (k ≥ 2 ^ 63)) = false := by rw [decide_eq_false (by omega), decide_eq_false (by omega)]; rfl
  by_cases h : k = 1
  · subst h
    refine wpAny_binaryOp_repeat_ref (T := "tuple") (U := "int") (by decide) ⟨_, ho, rfl⟩ (fun s' => typeIs_int s' 1 t) noFill_tuple_mul F.fills_int_mul F.slot_int_rmul repeat_tuple F.slot_int_index.lookup
      (call_meets F.slot_int_rmul (typeIs_int s 1 t) F.entry_int_rmul (F.args_int_rmul_2 _ _) (int_rmul_tuple 1 t l its.toArray n dd sl) ⟨ho, rfl, ⟨_, ho, rfl⟩, call_meets F.slot_tuple_mul ⟨_, ho, rfl⟩ F.entry_tuple_mul (F.args_tuple_mul_2 _ _) (tmul_one l its.toArray n dd sl t) ⟨ho, ?_⟩⟩)
    exact ⟨.ref l, H, I, rfl, q1 rfl⟩
  · have c1 : (its.toArray.isEmpty || k == 1) = false := by rw [hi, Bool.false_or]; exact beq_eq_false_iff_ne.mpr h
    have c2 : (decide (k ≤ 0) || its.toArray.isEmpty) = true := by rw [decide_eq_true (by omega)]; rfl
    refine wpAny_binaryOp_repeat_ref (T := "tuple") (U := "int") (by decide) ⟨_, ho, rfl⟩ (fun s' => typeIs_int s' k t) noFill_tuple_mul F.fills_int_mul F.slot_int_rmul repeat_tuple F.slot_int_index.lookup
      (call_meets F.slot_int_rmul (typeIs_int s k t) F.entry_int_rmul (F.args_int_rmul_2 _ _) (int_rmul_tuple k t l its.toArray n dd sl) ⟨ho, rfl, ⟨_, ho, rfl⟩, call_meets F.slot_tuple_mul ⟨_, ho, rfl⟩ F.entry_tuple_mul (F.args_tuple_mul_2 _ _) (tmul_nil l its.toArray n dd sl k t c0 c1 c2) ⟨ho, ?_⟩⟩)
    refine ⟨.ref s.heap.objs.size, _, I.laid (t' := s.toks) (o := .tup []) (fun b ob q => Heap.get?_push_of_some _ q) (Nat.le_refl _) ?_, rfl, q0 (by omega) _ (I.hok.fresh (Nat.le_refl _))⟩
    exact ⟨Nat.zero_le _, _, .nil, IsTup.new _ _⟩
def Mu (n : Nat) (k : Int) : Prop := -1000 ≤ k ∧ k ≤ 1000 ∧ n ≤ 1000 ∧ n ≠ 0
instance (n : Nat) (k : Int) : Decidable (Mu n k) := inferInstanceAs (Decidable (-1000 ≤ k ∧ k ≤ 1000 ∧ n ≤ 1000 ∧ n ≠ 0))
def dMulT : D → D → Option D
  | .tuple xs, .int k => if Mu xs.length k then some (.tuple (List.replicate k.toNat xs).flatten) else none
  | _, _ => none
theorem op2_mulT {K : Frg} : Op2 K (fun x y H Q => rRepT K x y H Q ∨ rRepS K x y H Q) dMulT := fun x y d G H vx vy Q e s a b q qn => by
  unfold dMulT at e
  split at e
  · split at e
    · rename_i xs k hm
      cases e
      obtain ⟨h1, h2, h3, h4⟩ := hm
      have := vwInt b
      subst this
      cases a with
      | tup k1 k2 =>
      rename_i l vs
      have hl := dvAll_len k2
      have hne : vs ≠ [] := fun e => h4 (by rw [← hl, e]; rfl)
      by_cases h : 2 ≤ k
      · exact .inl ⟨l, k, vs, rfl, rfl, seqT s k1, hne, h, h2, by omega, fun p hp => qn _ p _ hp (.tup (SqT.of upd_same) (dvAll_rep (dvMonoAll (sameUpd (s.free hp)) _ _ k2) _))⟩
      · refine .inr ⟨l, k, vs, rfl, rfl, seqT s k1, hne, h1, by omega, fun h' => ?_, fun h' p hp => qn _ p _ hp ?_⟩
        · subst h'
          refine q _ ?_
          show Dv K _ _ (.tuple (xs ++ []))
          rw [List.append_nil]
          exact .tup k1 k2
        · rw [show k.toNat = 0 by omega]
          exact .tup (SqT.of upd_same) .nil
    · cases e
  · cases e
/-! ### in, of anything that == takes -/
def rInT (K : PySem.W.Frag) (neg : Bool) : R2 := fun x y H Q => ∃ d ds, Dp K H x d ∧ Dp K H y (.tuple ds) ∧ SeqAt.shaped d = true ∧ SeqAt.shaped (.tuple ds) = true ∧ Q (.bl (if neg then !(ds.any fun z => PyData.eqv z d) else ds.any fun z => PyData.eqv z d)) H
theorem op_inT {X : Cx} (hu : X.A.units + 65 < cLine) : OpR X (compareOp .In) (rInT X.K false) := by
  intro pins s σ H x y v u Q I rx ry ⟨d, ds, hd, he, sd, se, q⟩
  obtain ⟨as, r1⟩ := Dp.reads I d x v hd rx
  obtain ⟨bs, r2⟩ := Dp.reads I (.tuple ds) y u he ry
  exact SeqAt.in_tuple_reads r2 r1 (SeqAt.canLay_of_shaped se) (SeqAt.canLay_of_shaped sd) (room_in_shaped sd hu) ⟨.bl _, H, I, rfl, q⟩
theorem op_notInT {X : Cx} (hu : X.A.units + 65 < cLine) : OpR X (compareOp .NotIn) (rInT X.K true) := by
  intro pins s σ H x y v u Q I rx ry ⟨d, ds, hd, he, sd, se, q⟩
  obtain ⟨as, r1⟩ := Dp.reads I d x v hd rx
  obtain ⟨bs, r2⟩ := Dp.reads I (.tuple ds) y u he ry
  exact SeqAt.notIn_tuple_reads r2 r1 (SeqAt.canLay_of_shaped se) (SeqAt.canLay_of_shaped sd) (room_in_shaped sd hu) ⟨.bl _, H, I, rfl, q⟩
def dInD (neg : Bool) (x : D) : D → Option D
  | .list ds => if SeqAt.shaped x = true ∧ SeqAt.shaped (.list ds) = true then some (.bool (if neg then !(ds.any fun z => PyData.eqv z x) else ds.any fun z => PyData.eqv z x)) else none
  | .tuple ds => if SeqAt.shaped x = true ∧ SeqAt.shaped (.tuple ds) = true then some (.bool (if neg then !(ds.any fun z => PyData.eqv z x) else ds.any fun z => PyData.eqv z x)) else none
  | _ => none
def dInA (neg : Bool) (x y : D) : Option D := (dInB neg x y).or (dInD neg x y)
theorem or_some {α : Type} {a b : Option α} {d : α} (h : a.or b = some d) : a = some d ∨ b = some d := by
  cases a with
  | none => exact .inr h
  | some x => exact .inl h
theorem op2_inA {K : Frg} : Op2 K (fun x y H Q => rIn K false x y H Q ∨ rInD K x y H Q ∨ rInT K false x y H Q) (dInA false) := fun x y d G H vx vy Q e s a b q qn => by
  rcases or_some e with e | e
  · exact .inl (op2_in false x y d G H vx vy Q e s a b q qn)
  · unfold dInD at e
    split at e
    · split at e
      · rename_i hc
        cases e
        exact .inr (.inl ⟨x, _, Dv.dp _ _ (dvMono s _ _ a), vwAny s b, hc.1, hc.2, q _ (.bl _)⟩)
      · cases e
    · split at e
      · rename_i hc
        cases e
        exact .inr (.inr ⟨x, _, Dv.dp _ _ (dvMono s _ _ a), vwAny s b, hc.1, hc.2, q _ (.bl _)⟩)
      · cases e
    · cases e
theorem op2_ninA {K : Frg} : Op2 K (fun x y H Q => rIn K true x y H Q ∨ rNotInD K x y H Q ∨ rInT K true x y H Q) (dInA true) := fun x y d G H vx vy Q e s a b q qn => by
  rcases or_some e with e | e
  · exact .inl (op2_in true x y d G H vx vy Q e s a b q qn)
  · unfold dInD at e
    split at e
    · split at e
      · rename_i hc
        cases e
        exact .inr (.inl ⟨x, _, Dv.dp _ _ (dvMono s _ _ a), vwAny s b, hc.1, hc.2, q _ (.bl _)⟩)
      · cases e
    · split at e
      · rename_i hc
        cases e
        exact .inr (.inr ⟨x, _, Dv.dp _ _ (dvMono s _ _ a), vwAny s b, hc.1, hc.2, q _ (.bl _)⟩)
      · cases e
    · cases e
/-! ### is True, is False, of a bool -/
def dIsB : D → D → Option D
  | .bool a, .bool b => some (.bool (decide (a = b)))
  | _, _ => none
def dIsNB : D → D → Option D
  | .bool a, .bool b => some (.bool (!decide (a = b)))
  | _, _ => none
theorem op2_isB {K : Frg} : Op2 K rIsB dIsB := fun x y d G H vx vy Q e s a b q _ => by
  unfold dIsB at e
  split at e
  · cases e
    cases a
    rcases b with b | ⟨_, _, _, _, h, _⟩
    · cases b
      exact ⟨_, _, rfl, rfl, q _ (.bl _)⟩
    · cases h
  · cases e
theorem op2_isNB {K : Frg} : Op2 K rNotB dIsNB := fun x y d G H vx vy Q e s a b q _ => by
  unfold dIsNB at e
  split at e
  · cases e
    cases a
    rcases b with b | ⟨_, _, _, _, h, _⟩
    · cases b
      exact ⟨_, _, rfl, rfl, q _ (.bl _)⟩
    · cases h
  · cases e
section
variable {X : Cx} {pos : Pos}
theorem fc_isB {k : Nat} {a b : Expr} {fa fb : EF} (c : Cc X k) (ha : FE X a fa) (hb : FB X b fb) : FC X (.Compare a [.Is] [b] pos) (eOp dIsB fa fb) := fc_of op_isBl op2_isB ha hb (nomark _)
theorem fc_isNB {k : Nat} {a b : Expr} {fa fb : EF} (c : Cc X k) (ha : FE X a fa) (hb : FB X b fb) : FC X (.Compare a [.IsNot] [b] pos) (eOp dIsNB fa fb) := fc_of op_notBl op2_isNB ha hb (nomark _)
theorem fc_inA {k : Nat} {a b : Expr} {fa fb : EF} (c : Cc X k) (ha : FE X a fa) (hb : FB X b fb) (hm : behindInMarks .In b = false := by with_unfolding_all rfl) : FC X (.Compare a [.In] [b] pos) (eOp (dInA false) fa fb) := fc_of (op_in_seq.or ((op_inD (by have := c.room.un; omega)).or (op_inT (by have := c.room.un; omega)))) op2_inA ha hb hm
theorem fc_notinA {k : Nat} {a b : Expr} {fa fb : EF} (c : Cc X k) (ha : FE X a fa) (hb : FB X b fb) (hm : behindInMarks .NotIn b = false := by with_unfolding_all rfl) : FC X (.Compare a [.NotIn] [b] pos) (eOp (dInA true) fa fb) := fc_of (op_notIn_seq.or ((op_notInD (by have := c.room.un; omega)).or (op_notInT (by have := c.room.un; omega)))) op2_ninA ha hb hm
theorem fo_sortA {a : Expr} {p : Pos} {f : EF} (ha : FB X a f) (hm : X.mg "sorted" = none) (hg : Gl X "sorted" := by rfl) (he : starEach [a] X.env = (false, eval a X.env) :: starEach [] X.env := by rfl) : FO X (.Call (.Name "sorted" p) [a] [] pos) (oUn dSortA f) :=
  fo_call1 (cr_sortedI.or cr_sortedT) (fun x ds G H vx Q e s h q => by
    cases x with
    | list xs =>
      obtain ⟨ns, h1, rfl⟩ := Option.map_eq_some_iff.mp e
      obtain ⟨b, vs, rfl, h3, h4⟩ := vwLst s h
      obtain ⟨rfl, e2⟩ := asInts_ok h1 h4
      refine .inl ⟨b, ns, rfl, SqL.of h3, fun ms p hp hr hn => ?_⟩
      rw [sortI_of hp hr]
      exact q p _ hn (dvAll_ints _)
    | tuple xs =>
      obtain ⟨ns, h1, rfl⟩ := Option.map_eq_some_iff.mp e
      obtain ⟨b, vs, rfl, h3, h4⟩ := vwTup h
      obtain ⟨rfl, e2⟩ := asInts_ok h1 h4
      refine .inr ⟨b, ns, rfl, seqT s h3, fun ms p hp hr hn => ?_⟩
      rw [sortI_of hp hr]
      exact q p _ hn (dvAll_ints _)
    | none => cases e
    | bool _ => cases e
    | int _ => cases e
    | str _ => cases e
    | dict _ => cases e) hg hm (by decide +kernel) ha (by decide) (by decide) he
theorem fe_mulT {a b : Expr} {fa fb : EF} (ha : FE X a fa) (hb : FB X b fb) : FE X (.BinOp a .Mult b pos) (eOp dMulT fa fb) := fe_op (op_repT.or op_repS) op2_mulT ha hb
end
end Fl

set_option Elab.async false
set_option linter.all false
set_option maxRecDepth 100000
set_option maxHeartbeats 1000000
set_option autoImplicit false
/-! FnOwn: a comprehension over an own list that stays own: it does not look at the list but by its items. -/
namespace Fl
open PySem PySem.Spec PyProof.Rows L2
def Z.wipe2 (z : Z) (io : Nat) (vs : List Nat) : Z := { z with s := L2.wipe z.s vs, e := wipeE z.e (io :: vs), F := fun i => if i ∈ io :: vs then [] else z.F i }
theorem Rp.wipe2 {K : Frg} {z : Z} (r : Rp K z) (io : Nat) (vs : List Nat) : Rp K (z.wipe2 io vs) := by
  refine ⟨r.same, ?_, fun i s h => ?_, fun i h => ?_, fun i j a hij hi hj => ?_⟩
  · show (L2.wipe z.s vs).length = (wipeE z.e (io :: vs)).length
    rw [wipe_length, wipeE_len]; exact r.len
  · have h' : (wipeE z.e (io :: vs))[i]? = some s := h
    show SlOk K z.G z.H (((L2.wipe z.s vs)[i]?).join) (if i ∈ io :: vs then [] else z.F i) s
    rw [wipeE_get] at h'
    by_cases hv : i ∈ io :: vs
    · rw [if_pos hv]
      by_cases hl : i < z.e.length
      · rw [if_pos ⟨hv, hl⟩] at h'
        cases h'
        rfl
      · rw [if_neg (fun q => hl q.2), List.getElem?_eq_none (by omega)] at h'
        cases h'
    · rw [if_neg hv, wipe_get, if_neg (fun q => hv (List.mem_cons_of_mem _ q.1))]
      rw [if_neg (fun q => hv q.1)] at h'
      exact r.ok i s h'
  · have h' : (wipeE z.e (io :: vs)).length ≤ i := h
    rw [wipeE_len] at h'
    show (if i ∈ io :: vs then [] else z.F i) = []
    split
    · rfl
    · exact r.out i h'
  · have hi' : a ∈ (if i ∈ io :: vs then [] else z.F i) := hi
    have hj' : a ∈ (if j ∈ io :: vs then [] else z.F j) := hj
    split at hi'
    · cases hi'
    · split at hj'
      · cases hj'
      · exact r.sep i j a hij hi' hj'
/-- items that stand as long as P does -/
def ItrP (K : Frg) (J : It) (G : Hp) (P : Hp → Prop) (ds : List D) : Prop := ∃ Gd Y, Walk J ds.length Gd Y ∧ (∀ H, Same G H → P H → Gd H) ∧ ∀ i H x H', i < ds.length → Same G H → P H → Y i H x H' →
  (H' = H ∧ ∃ d, ds[i]? = some d ∧ Dv K G x d) ∨ (∃ T vs es, x = .ref T ∧ H T = none ∧ H' = upd H T (.tup vs) ∧ ds[i]? = some (.tuple es) ∧ DvAll K G vs es)
theorem itrP_own {K : Frg} {G : Hp} {a : Addr} {vs : List V} {ds : List D} (hd : DvAll K G vs ds) : ItrP K (Itl K a) G (fun H => H a = some (.lst vs)) ds := by
  refine ⟨_, _, by rw [← dvAll_len hd]; exact walk_list (K := K) (a := a) (xs := vs), fun H _ k => SqL.of k, fun i H x H' hi _ _ y => ?_⟩
  obtain ⟨e, q⟩ := y
  obtain ⟨d, h1, h2⟩ := dvAll_getV hd q
  exact .inl ⟨e, d, h1, h2⟩
theorem lcP_run {K : Frg} {J : It} {P : Hp → Prop} {y0 : Z} {ds : List D} {t : GF} {ws vs : List Nat} {c : BF} {f : EF} {xs : List D} {eN : Ev} {D0 : Addr} {Qd : Hp → Prop} {σ : L2.St}
    (r0 : Rp K y0) (hσ : L2.wipe σ vs = y0.s) (he : ∀ i ∈ vs, i < y0.e.length → y0.e[i]? = some .no) (hJ : ItrP K J y0.G P ds) (hP : ∀ y, Mv y0 y → Rp K y → P y.H) (hws : ∀ j ∈ ws, j ∈ vs) (hlen : ds.length ≤ sizeLine) (hD : y0.H D0 = none)
    (hc : compL t c f vs ds y0.e = some (xs, eN))
    (hd : ∀ y ws', Mv y0 y → Rp K y → y.s = y0.s → y.e = eN → y.H D0 = some (.lst ws') → y.G D0 = none → (∀ j, D0 ∉ y.F j) → DvAll K y.G ws' xs → (∀ i ∈ vs, i < y.e.length → y.e[i]? = some .no) → Qd y.H) :
    ∃ W : Nat → Nat → Hp → Prop, (∃ m, W 0 m (upd y0.H D0 (.lst []))) ∧ ∀ i m H, W i m H →
      (J.stop i H ∧ Qd H) ∨ (J.go i H ∧ ∃ Nx : Hp → Prop, (∀ H', Nx H' → ∃ m', m' < m ∧ W (i + 1) m' H') ∧ ∀ x H', J.yld i H x H' → tG K t ws x (L2.wipe σ vs) H' fun σ2 H2 => L2.wipe σ2 vs = L2.wipe σ vs ∧ tT K c σ2 H2 fun b H3 =>
        if b = true then tE K f σ2 H3 fun y H4 => ∃ acc, H4 D0 = some (.lst acc) ∧ acc.length < sizeLine ∧ Nx (upd H4 D0 (.lst (acc ++ [y]))) else Nx H3) := by
  obtain ⟨Gd, Y, w, hG1, hG2⟩ := hJ
  obtain ⟨rn, mn⟩ := r0.new (o := .lst []) hD
  have hvs : ∀ i ∈ vs, isOw y0.e[i]? = false := fun i hi => by
    by_cases hl : i < y0.e.length
    · rw [he i hi hl]; rfl
    · rw [List.getElem?_eq_none (by omega)]; rfl
  refine lc_it w (fun i H => ∃ y acc don, y.H = H ∧ Rp K y ∧ y.s = y0.s ∧ Mv y0 y ∧ y.H D0 = some (.lst acc) ∧ y.G D0 = none ∧ (∀ j, D0 ∉ y.F j) ∧ DvAll K y.G acc don ∧ acc.length ≤ i ∧
    (∀ i ∈ vs, i < y.e.length → y.e[i]? = some .no) ∧ ∃ xs', compL t c f vs (ds.drop i) y.e = some (xs', eN) ∧ don ++ xs' = xs) ?_ ?_ ?_ ?_
  · exact ⟨y0.new D0 (.lst []), [], [], rfl, rn, rfl, mn, upd_same, (r0.fresh hD).1, (r0.fresh hD).2, .nil, Nat.le_refl _, he, xs, hc, rfl⟩
  · rintro i H hi ⟨y, acc, don, rfl, r, _, m, _⟩
    exact hG1 _ (m.g.trans r.same) (hP y m r)
  · rintro i x H H' hi ⟨y, acc, don, rfl, r, hs, m, hD1, hD2, hD3, hA, hl, hno, xs', hcl, hxs⟩ hy
    have hsm : Same y0.G y.H := m.g.trans r.same
    -- the state with the item
    obtain ⟨y1, d, r1, m1, s1, e1, hH1, hdi, hdv, hD1', hD2', hD3', hA'⟩ : ∃ (y1 : Z) (d : D), Rp K y1 ∧ Mv y y1 ∧ y1.s = y.s ∧ y1.e = y.e ∧ y1.H = H' ∧ ds[i]? = some d ∧ Dv K y1.G x d ∧ y1.H D0 = some (.lst acc) ∧ y1.G D0 = none ∧ (∀ j, D0 ∉ y1.F j) ∧ DvAll K y1.G acc don := by
      rcases hG2 i y.H x H' hi hsm (hP y m r) hy with ⟨e, d, h3, h4⟩ | ⟨T, tv, es, h3, h4, h5, h6, h7⟩
      · exact ⟨y, d, r, Mv.refl y, rfl, rfl, e.symm, h3, dvMono m.g _ _ h4, hD1, hD2, hD3, hA⟩
      · obtain ⟨ra, ma⟩ := r.add (o := .tup tv) h4
        have hne : D0 ≠ T := ne_of_none hD1 h4
        refine ⟨y.add T (.tup tv), .tuple es, ra, ma, rfl, rfl, h5.symm, h6, ?_, ?_, ?_, hD3, dvMonoAll ma.g _ _ hA⟩
        · rw [h3]
          exact .tup (SqT.of upd_same) (dvMonoAll (m.g.trans ma.g) _ _ h7)
        · show upd y.H T (.tup tv) D0 = _
          rw [upd_ne hne]; exact hD1
        · show upd y.G T (.tup tv) D0 = none
          rw [upd_ne hne]; exact hD2
    have hdrop : ds.drop i = d :: ds.drop (i + 1) := by
      obtain ⟨h1, h2⟩ := List.getElem?_eq_some_iff.mp hdi
      rw [← h2, List.drop_eq_getElem_cons h1]
    rw [hdrop] at hcl
    unfold compL at hcl
    obtain ⟨ea, ht, hcl⟩ := Option.bind_eq_some_iff.mp hcl
    obtain ⟨⟨b, eb⟩, hcc, hcl⟩ := Option.bind_eq_some_iff.mp hcl
    refine ⟨y1, d, ea, r1, by rw [s1, hs, hσ], hH1, hdv, by rw [e1]; exact ht, fun y2 m2 r2 e2 eH2 eG2 es2 => ⟨?_, ?_⟩⟩
    · rw [wipe_eq (σ := y1.s) (ws := ws) (by rw [r2.len, r1.len, m2.ln]) es2 hws, s1, hs, ← hσ, wipe_wipe]
    · have mm := (m.trans m1).trans m2
      refine ⟨y2, b, eb, r2, rfl, rfl, by rw [e2]; exact hcc, fun y3 m3 r3 s3 e3 => ?_⟩
      have keep : ∀ {p q : Z}, Mv p q → p.H D0 = some (.lst acc) → p.G D0 = none → (∀ j, D0 ∉ p.F j) → q.H D0 = some (.lst acc) ∧ q.G D0 = none ∧ (∀ j, D0 ∉ q.F j) := fun {p q} mv h1 h2 h3 =>
        ⟨mv.out _ _ h1 h3, (mv.gn _ (by rw [h1]; exact nofun) h3).trans h2, fun j hj => (mv.fn j _ hj).elim (h3 j) fun z => by rw [h1] at z; cases z⟩
      obtain ⟨k1, k2, k3⟩ := keep m2 hD1' hD2' hD3'
      obtain ⟨k1, k2, k3⟩ := keep m3 k1 k2 k3
      have hs3 : L2.wipe y3.s vs = y0.s := by
        rw [s3, wipe_eq (σ := y1.s) (ws := ws) (by rw [r2.len, r1.len, m2.ln]) es2 hws, s1, hs, ← hσ, wipe_wipe]
      cases b with
      | false =>
        have hcl' : compL t c f vs (ds.drop (i + 1)) (wipeE eb vs) = some (xs', eN) := hcl
        refine iteF ⟨y3.wipe vs, acc, don, rfl, r3.wipe vs, hs3, (mm.trans m3).wipe hvs, k1, k2, fun j hj => ?_, dvMonoAll (m2.g.trans m3.g) _ _ hA', by omega, fun j hj hjl => ?_, xs', ?_, hxs⟩
        · have hj' : D0 ∈ (if j ∈ vs then [] else y3.F j) := hj
          split at hj'
          · cases hj'
          · exact k3 j hj'
        · show (wipeE y3.e vs)[j]? = some .no
          rw [wipeE_get, if_pos ⟨hj, by have : j < (wipeE y3.e vs).length := hjl
                                        rw [wipeE_len] at this; exact this⟩]
        · show compL t c f vs (ds.drop (i + 1)) (wipeE y3.e vs) = some (xs', eN)
          rw [e3]; exact hcl'
      | true =>
        obtain ⟨⟨dv, ef⟩, hff, hcl⟩ := Option.bind_eq_some_iff.mp (show ((f eb).bind fun q => (compL t c f vs (ds.drop (i + 1)) (wipeE q.2 vs)).map fun r => (q.1 :: r.1, r.2)) = some (xs', eN) from hcl)
        obtain ⟨⟨xr, er⟩, hcr, hcl⟩ := Option.map_eq_some_iff.mp hcl
        cases hcl
        refine iteT ⟨y3, dv, ef, r3, s3, rfl, by rw [e3]; exact hff, fun v y4 m4 r4 s4 e4 p4 => ?_⟩
        obtain ⟨k1, k2, k3⟩ := keep m4 k1 k2 k3
        refine ⟨acc, k1, by have := (List.getElem?_eq_some_iff.mp hdi).1; omega, ?_⟩
        -- the list grows
        obtain ⟨r5, m5⟩ := r4.write (o := .lst (acc ++ [v])) k1 k2 k3 ((mm.trans m3).trans m4) hD
        refine ⟨Z.wipe { y4 with H := upd y4.H D0 (.lst (acc ++ [v])) } vs, acc ++ [v], don ++ [dv], rfl, r5.wipe vs, ?_, m5.wipe hvs, upd_same, k2, fun j hj => ?_, dvAll_app (dvMonoAll ((m2.g.trans m3.g).trans m4.g) _ _ hA') (dvAll_one p4), by rw [List.length_append]; simp; omega, fun j hj hjl => ?_, xr, ?_, by rw [List.append_assoc]; exact hxs⟩
        · show L2.wipe y4.s vs = y0.s
          rw [s4, ← s3]; exact hs3
        · have hj' : D0 ∈ (if j ∈ vs then [] else y4.F j) := hj
          split at hj'
          · cases hj'
          · exact k3 j hj'
        · show (wipeE y4.e vs)[j]? = some .no
          rw [wipeE_get, if_pos ⟨hj, by have : j < (wipeE y4.e vs).length := hjl
                                        rw [wipeE_len] at this; exact this⟩]
        · show compL t c f vs (ds.drop (i + 1)) (wipeE y4.e vs) = some (xr, _)
          rw [e4]; exact hcr
  · rintro H ⟨y, acc, don, rfl, r, hs, m, hD1, hD2, hD3, hA, hl, hno, xs', hcl, hxs⟩
    rw [List.drop_length] at hcl
    unfold compL at hcl
    cases hcl
    rw [List.append_nil] at hxs
    subst hxs
    exact hd y acc m r hs rfl hD1 hD2 hD3 hA hno
def tIo (K : Frg) (io : Nat) : TI := fun σ H R => ∃ (z : Z) (a : Addr) (vs : List V), Rp K z ∧ z.s = σ ∧ z.H = H ∧ z.s[io]? = some (some (.ref a)) ∧ z.H a = some (.lst vs) ∧ R (Itl K a) z.H
def oCompO (io : Nat) (t : GF) (c : BF) (f : EF) (vs : List Nat) : OF := fun e => (liOf e[io]?).bind fun xs => if xs.length ≤ sizeLine ∧ (vs.all fun i => !isOw e[i]?) = true ∧ io ∉ vs then (compL t c f vs xs (wipeE e (io :: vs))).map fun r => (.li r.1, backE e r.2 (io :: vs)) else none
theorem lco_tO {K : Frg} {wi : TI} {io : Nat} {t : GF} {ws vs : List Nat} {cf : BF} {f : EF} {σ : L2.St} {H : Hp} {Q : VK} (hwi : ∀ σ H R, tIo K io σ H R → wi σ H R) (hws : ∀ j ∈ ws, j ∈ vs) (q : tO K (oCompO io t cf f vs) σ H Q) : tLc wi (tG K t ws) (tT K cf) (tE K f) vs σ H Q := by
  obtain ⟨z, r0, e', rp, hs, hH, hf, q⟩ := q
  subst hs hH
  obtain ⟨ds, h1, hf⟩ := Option.bind_eq_some_iff.mp hf
  split at hf
  · rename_i hc
    obtain ⟨⟨xs, eN⟩, h2, hf⟩ := Option.map_eq_some_iff.mp hf
    cases hf
    have h1' : z.e[io]? = some (.li ds) := by
      cases hq : z.e[io]? with
      | none => rw [hq] at h1; cases h1
      | some sl =>
        rw [hq] at h1
        cases sl <;> first | (cases h1; rfl) | cases h1
    obtain ⟨ao, vo, hv, hF, hG, hHo, hdo⟩ := rp.ok io _ h1'
    have hvs0 : z.s[io]? = some (some (.ref ao)) := by
      cases hq : z.s[io]? with
      | none => rw [hq] at hv; cases hv
      | some o => rw [hq] at hv; cases o <;> first | (cases hv; rfl) | cases hv
    refine hwi _ _ _ ⟨z, ao, vo, rp, rfl, rfl, hvs0, hHo, fun D0 hn => ?_⟩
    obtain ⟨y, hy⟩ : ∃ y, y = z := ⟨z, rfl⟩
    have m : Mv z y := hy ▸ Mv.refl z
    have r : Rp K y := hy ▸ rp
    have s2 : y.s = z.s := by rw [hy]
    have ee : y.e = z.e := by rw [hy]
    have hHo' : y.H ao = some (.lst vo) := by rw [hy]; exact hHo
    have hdo' : DvAll K y.G vo ds := by rw [hy]; exact hdo
    have hFo' : y.F io = [ao] := by rw [hy]; exact hF
    have hn : y.H D0 = none := by rw [hy]; exact hn
    have hout : ∀ i, ao ∉ (y.wipe2 io vs).F i := fun j hj => by
      have hj' : ao ∈ (if j ∈ io :: vs then [] else y.F j) := hj
      split at hj'
      · cases hj'
      · rename_i hjv
        exact r.sep io j ao (fun e => hjv (by rw [← e]; exact List.mem_cons_self)) (by rw [hFo']; exact List.mem_cons_self) hj'
    have hno : ∀ i ∈ io :: vs, isOw y.e[i]? = false := fun i hi => by
      rw [ee]
      rcases List.mem_cons.mp hi with rfl | hi
      · rw [h1']; rfl
      · have := List.all_eq_true.mp hc.2.1 i hi
        simpa using this
    have h2' : compL t cf f vs ds (y.wipe2 io vs).e = some (xs, eN) := by
      show compL t cf f vs ds (wipeE y.e (io :: vs)) = some (xs, eN)
      rw [ee]; exact h2
    have := lcP_run (P := fun H => H ao = some (.lst vo)) (y0 := y.wipe2 io vs) (σ := z.s) (Qd := fun H => Q (.ref D0) H) (J := Itl K ao) (D0 := D0) (r.wipe2 io vs) (by show L2.wipe z.s vs = L2.wipe y.s vs; rw [s2]) (fun i hi hl => by
        have hl' : i < (wipeE y.e (io :: vs)).length := hl
        rw [wipeE_len] at hl'
        show (wipeE y.e (io :: vs))[i]? = some .no
        rw [wipeE_get, if_pos ⟨List.mem_cons_of_mem _ hi, hl'⟩]) (itrP_own hdo') (fun u mu ru => mu.out _ _ hHo' hout) hws hc.1 (show y.H D0 = none from hn) h2' (fun u wl mu ru su eu hu1 hu2 hu3 hu4 hu5 => ?_)
    · have e0 : (y.wipe2 io vs).H = z.H := by rw [hy]; rfl
      rw [e0] at this
      exact this
    · -- back at the slots as they were
      have e1 : ∀ i : Nat, i ∉ io :: vs → u.s[i]? = z.s[i]? := fun i hi => by
        rw [su]
        show (L2.wipe y.s vs)[i]? = z.s[i]?
        rw [wipe_get, if_neg (fun q => hi (List.mem_cons_of_mem _ q.1)), s2]
      have hlen : u.e.length = y.e.length := by
        rw [mu.ln]
        show (wipeE y.e (io :: vs)).length = y.e.length
        rw [wipeE_len]
      have uF : ∀ (i : Nat) (a : Addr), a ∈ u.F i → (i ∉ io :: vs ∧ a ∈ y.F i) ∨ y.H a = none := fun i a ha => by
        rcases mu.fn i a ha with h | h
        · have h' : a ∈ (if i ∈ io :: vs then [] else y.F i) := h
          split at h'
          · cases h'
          · rename_i hi; exact .inl ⟨hi, h'⟩
        · exact .inr h
      have yH : ∀ (i : Nat) (a : Addr), i ∈ io :: vs → a ∈ y.F i → u.H a = y.H a ∧ u.G a = none := fun i a hi ha => by
        obtain ⟨l1, l2⟩ := r.live ha
        have nin : ∀ j, a ∉ (y.wipe2 io vs).F j := fun j hj => by
          have hj' : a ∈ (if j ∈ io :: vs then [] else y.F j) := hj
          split at hj'
          · cases hj'
          · rename_i hjv
            exact r.sep i j a (fun e => hjv (e ▸ hi)) ha hj'
        refine ⟨?_, (mu.gn a l2 nin).trans l1⟩
        cases hq : y.H a with
        | none => exact absurd hq l2
        | some o => exact mu.out a o hq nin
      have ru' : Rp K { u with s := z.s, e := backE y.e u.e (io :: vs), F := fun i => if i ∈ io :: vs then y.F i else u.F i } := by
        refine ⟨ru.same, ?_, fun i s h => ?_, fun i h => ?_, fun i j a hij hi hj => ?_⟩
        · show z.s.length = (backE y.e u.e (io :: vs)).length
          rw [backE_len, ← s2, r.len, hlen]
        · have h' : (backE y.e u.e (io :: vs))[i]? = some s := h
          show SlOk K u.G u.H ((z.s[i]?).join) (if i ∈ io :: vs then y.F i else u.F i) s
          rw [backE_get] at h'
          by_cases hi : i ∈ io :: vs
          · rw [if_pos hi]
            by_cases hl : i < u.e.length
            · rw [if_pos ⟨hi, hl⟩] at h'
              cases hq : y.e[i]? with
              | none => rw [List.getElem?_eq_none_iff] at hq; omega
              | some sl =>
                rw [hq] at h'
                cases h'
                rw [← s2]
                exact slFrame (r.ok i _ hq) mu.g (fun a ha => (yH i a hi ha).1) fun a ha => (yH i a hi ha).2
            · rw [if_neg (fun q => hl q.2), List.getElem?_eq_none (by omega)] at h'
              cases h'
          · rw [if_neg hi]
            rw [if_neg (fun q => hi q.1)] at h'
            rw [← e1 i hi]
            exact ru.ok i s h'
        · have h' : (backE y.e u.e (io :: vs)).length ≤ i := h
          rw [backE_len] at h'
          show (if i ∈ io :: vs then y.F i else u.F i) = []
          split
          · exact r.out i (by omega)
          · exact ru.out i h'
        · have hi' : a ∈ (if i ∈ io :: vs then y.F i else u.F i) := hi
          have hj' : a ∈ (if j ∈ io :: vs then y.F j else u.F j) := hj
          split at hi'
          · split at hj'
            · exact r.sep i j a hij hi' hj'
            · rcases uF j a hj' with ⟨_, h⟩ | h
              · exact r.sep i j a hij hi' h
              · exact (r.live hi').2 h
          · split at hj'
            · rcases uF i a hi' with ⟨_, h⟩ | h
              · exact r.sep i j a hij h hj'
              · exact (r.live hj').2 h
            · exact ru.sep i j a hij hi' hj'
      have mz : Mv z { u with s := z.s, e := backE y.e u.e (io :: vs), F := fun i => if i ∈ io :: vs then y.F i else u.F i } := by
        refine ⟨fun a o ha hf => ?_, fun a ha => mu.dom a (m.dom a ha), m.g.trans mu.g, fun a ha hk => (mu.gn a (m.dom a ha) fun i hi => by
          have hi' : a ∈ (if i ∈ io :: vs then [] else y.F i) := hi
          split at hi'
          · cases hi'
          · rcases m.fn i a hi' with h | h
            · exact hk i h
            · exact ha h).trans (m.gn a ha hk), fun i a ha => ?_, fun i hi => ?_, ?_⟩
        · refine mu.out a o (m.out a o ha hf) fun i hi => ?_
          have hi' : a ∈ (if i ∈ io :: vs then [] else y.F i) := hi
          split at hi'
          · cases hi'
          · rcases m.fn i a hi' with h | h
            · exact hf i h
            · rw [ha] at h; cases h
        · have ha' : a ∈ (if i ∈ io :: vs then y.F i else u.F i) := ha
          split at ha'
          · exact m.fn i a ha'
          · rcases uF i a ha' with ⟨_, h⟩ | h
            · exact m.fn i a h
            · by_cases hz : z.H a = none
              · exact .inr hz
              · exact absurd h (m.dom a hz)
        · obtain ⟨k1, k2⟩ := m.kp i hi
          have hiv : i ∉ io :: vs := fun q => by rw [hno i q] at k1; cases k1
          have k3 : isOw (y.wipe2 io vs).e[i]? = true := by
            show isOw (wipeE y.e (io :: vs))[i]? = true
            rw [wipeE_get, if_neg (fun q => hiv q.1)]; exact k1
          refine ⟨?_, rfl⟩
          show isOw (backE y.e u.e (io :: vs))[i]? = true
          rw [backE_get, if_neg (fun q => hiv q.1)]
          exact (mu.kp i k3).1
        · show (backE y.e u.e (io :: vs)).length = z.e.length
          rw [backE_len, hlen, m.ln]
      refine q (.ref D0) { u with s := z.s, e := backE y.e u.e (io :: vs), F := fun i => if i ∈ io :: vs then y.F i else u.F i } [D0] mz ru' rfl (by show backE y.e u.e (io :: vs) = backE z.e eN (io :: vs); rw [eu, ee]) ⟨D0, wl, rfl, rfl, hu2, hu1, hu4⟩ fun a ha => ?_
      rw [List.mem_singleton.mp ha]
      refine ⟨?_, fun i hi => ?_⟩
      · by_cases hz : z.H D0 = none
        · exact hz
        · exact absurd hn (m.dom D0 hz)
      · have hi' : D0 ∈ (if i ∈ io :: vs then y.F i else u.F i) := hi
        split at hi'
        · exact (r.live hi').2 hn
        · exact hu3 i hi'
  · cases hf
section
variable {X : Cx} {pos : Pos}
theorem fo_lcO {k : Nat} (io : Nat) {x : Str} {p : Pos} {elt tg : Expr} {ifs : List Expr} {scope : Scope} {own : List (Str × Nat)} {t : GF} {ws vs : List Nat} {cf : BF} {f : EF} (c : Cc X k) (ok : BlkOk X.N X.env.scope scope own)
    (hg : ∀ (s : Shared) (H : Hp) (C : Addr) (cl : List (Str × Addr)) (fp : List Addr), FG (X.blk s H scope (compEnvC scope cl C X.env) fp) tg t ws)
    (ht : ∀ (s : Shared) (H : Hp) (C : Addr) (cl : List (Str × Addr)) (fp : List Addr), FTs (X.blk s H scope (compEnvC scope cl C X.env) fp) ifs cf)
    (he : ∀ (s : Shared) (H : Hp) (C : Addr) (cl : List (Str × Addr)) (fp : List Addr), FE (X.blk s H scope (compEnvC scope cl C X.env) fp) elt f)
    (hvs : own.map (·.2) = vs := by rfl) (hws : ∀ j ∈ ws, j ∈ vs := by decide) (hs : ∀ y, foldedSetIterable (.Name x p) X.env y = pure y := by intro _; rfl)
    (hN : X.N[io]? = some x := by rfl) (hv : Vis X.env.scope x := by first | exact Or.inl rfl | exact Or.inr (Or.inl rfl) | exact Or.inr (Or.inr rfl)) (hd : (x == ("__debug__" : Str)) = false := by decide) (hcd : (x == ("__classdict__" : Str)) = false := by decide) :
    FO X (.ListComp elt [⟨tg, .Name x p, ifs, 0⟩] scope pos) (oCompO io t cf f vs) := by
  subst hvs
  refine ⟨PE.imp (pe_lc c.calm c.nd (pi_list (pe_var hN hv hd hcd)) ok (fun s H C cl fp => (hg s H C cl fp).pg) (fun s H C cl fp => (ht s H C cl fp).pts) (fun s H C cl fp => (he s H C cl fp).pe) hs) fun σ H Q q => lco_tO (fun σ H R h => ?_) hws q⟩
  obtain ⟨z, a, vs, rp, rfl, rfl, h1, h2, h3⟩ := h
  exact ⟨.ref a, h1, a, rfl, ⟨vs, SqL.of h2⟩, h3⟩
/-- by what the slot holds -/
def oiteC (f g : OF) (e : Ev) : Option Sl → Option (Sl × Ev)
  | some (.li _) => f e
  | _ => g e
def oIte (io : Nat) (f g : OF) : OF := fun e => oiteC f g e e[io]?
theorem fo_ite {a : Expr} {io : Nat} {f g : OF} (h1 : FO X a f) (h2 : FO X a g) : FO X a (oIte io f g) := ⟨⟨fun pins s σ H Q I ⟨z, r, e', rp, hs, hH, hf, q⟩ => by
  have hf' : f z.e = some (r, e') ∨ g z.e = some (r, e') := by
    have hf0 : oiteC f g z.e z.e[io]? = some (r, e') := hf
    cases hq : z.e[io]? with
    | none => rw [hq] at hf0; exact .inr hf0
    | some sl =>
      rw [hq] at hf0
      cases sl <;> first | exact .inl hf0 | exact .inr hf0
  rcases hf' with hf' | hf'
  · exact h1.po.run pins s σ H Q I ⟨z, r, e', rp, hs, hH, hf', q⟩
  · exact h2.po.run pins s σ H Q I ⟨z, r, e', rp, hs, hH, hf', q⟩⟩⟩
theorem ite_cases {K : Frg} {io : Nat} {f g : OF} {σ : L2.St} {H : Hp} {Q : VK} (q : tO K (oIte io f g) σ H Q) : tO K f σ H Q ∨ tO K g σ H Q := by
  obtain ⟨z, r, e', rp, hs, hH, hf, q⟩ := q
  have hf0 : oiteC f g z.e z.e[io]? = some (r, e') := hf
  cases hq : z.e[io]? with
  | none => rw [hq] at hf0; exact .inr ⟨z, r, e', rp, hs, hH, hf0, q⟩
  | some sl =>
    rw [hq] at hf0
    cases sl <;> first | exact .inl ⟨z, r, e', rp, hs, hH, hf0, q⟩ | exact .inr ⟨z, r, e', rp, hs, hH, hf0, q⟩
theorem pi_either {tg : Expr} {io : Nat} {x : Str} {p : Pos} {gl : LF} (hi : FI X tg (.Name x p) gl) (hN : X.N[io]? = some x) (hv : Vis X.env.scope x) (hd : (x == ("__debug__" : Str)) = false) (hcd : (x == ("__classdict__" : Str)) = false) :
    PI X tg (.Name x p) (fun σ H R => tIo X.K io σ H R ∨ tI X.K gl σ H R) := iter_or (PI.imp (pi_list (pe_var hN hv hd hcd)) fun σ H R h => by
  obtain ⟨z, a, vs, rp, rfl, rfl, h1, h2, h3⟩ := h
  exact ⟨.ref a, h1, a, rfl, ⟨vs, SqL.of h2⟩, h3⟩) hi.pi
theorem either_run {K : Frg} {io : Nat} {gl : LF} {t : GF} {ws vs : List Nat} {cf : BF} {f : EF} {σ : L2.St} {H : Hp} {Q : VK} (hws : ∀ j ∈ ws, j ∈ vs) (q : tO K (oIte io (oCompO io t cf f vs) (oComp gl t cf f vs)) σ H Q) : tLc (fun σ H R => tIo K io σ H R ∨ tI K gl σ H R) (tG K t ws) (tT K cf) (tE K f) vs σ H Q := by
  rcases ite_cases q with q | q
  · exact lco_tO (fun _ _ _ h => .inl h) hws q
  · exact lc_tO (fun _ _ _ h => .inr h) hws q
theorem fs_setLcZO {k i : Nat} (io : Nat) {x y : Str} {p py : Pos} {elt tg : Expr} {ifs : List Expr} {scope : Scope} {own : List (Str × Nat)} {spos : Pos} {gl : LF} {t : GF} {ws vs : List Nat} {cf : BF} {f : EF} (c : Cc X k) (hy : X.N[i]? = some y) (hyl : X.env.scope.names.lookup y = some .local)
    (hsw : swapsWith (.ListComp elt [⟨tg, .Name x p, ifs, 0⟩] scope pos) (some (.Name y py)) spos.line X.env = pure true) (hi : FI X tg (.Name x p) gl) (ok : BlkOk X.N X.env.scope scope own)
    (hg : ∀ (s : Shared) (H : Hp) (C : Addr) (cl : List (Str × Addr)) (fp : List Addr), FG (X.blk s H scope (compEnvC scope cl C X.env) fp) tg t ws)
    (ht : ∀ (s : Shared) (H : Hp) (C : Addr) (cl : List (Str × Addr)) (fp : List Addr), FTs (X.blk s H scope (compEnvC scope cl C X.env) fp) ifs cf)
    (he : ∀ (s : Shared) (H : Hp) (C : Addr) (cl : List (Str × Addr)) (fp : List Addr), FE (X.blk s H scope (compEnvC scope cl C X.env) fp) elt f)
    (hvs : own.map (·.2) = vs := by rfl) (hws : ∀ j ∈ ws, j ∈ vs := by decide) (hs : ∀ y, foldedSetIterable (.Name x p) X.env y = pure y := by intro _; rfl)
    (hN : X.N[io]? = some x := by rfl) (hv : Vis X.env.scope x := by first | exact Or.inl rfl | exact Or.inr (Or.inl rfl) | exact Or.inr (Or.inr rfl)) (hd : (x == ("__debug__" : Str)) = false := by decide) (hcd : (x == ("__classdict__" : Str)) = false := by decide) :
    FS X (.Assign [.Name y py] (.ListComp elt [⟨tg, .Name x p, ifs, 0⟩] scope pos) spos) (sSet i (oE (eFz (oIte io (oCompO io t cf f vs) (oComp gl t cf f vs))))) := by
  subst hvs
  exact fs_of (ps_setLc c.calm c.nd hy hyl hsw (pi_either hi hN hv hd hcd) ok (fun s H C cl fp => (hg s H C cl fp).pg) (fun s H C cl fp => (ht s H C cl fp).pts) (fun s H C cl fp => (he s H C cl fp).pe) hs) fun D z o r h q => either_run hws (fz_imp (set_go (D := D) r h q))
theorem fs_setLcO {k i : Nat} (io : Nat) {x y : Str} {p py : Pos} {elt tg : Expr} {ifs : List Expr} {scope : Scope} {own : List (Str × Nat)} {spos : Pos} {gl : LF} {t : GF} {ws vs : List Nat} {cf : BF} {f : EF} (c : Cc X k) (hy : X.N[i]? = some y) (hyl : X.env.scope.names.lookup y = some .local)
    (hsw : swapsWith (.ListComp elt [⟨tg, .Name x p, ifs, 0⟩] scope pos) (some (.Name y py)) spos.line X.env = pure true) (hi : FI X tg (.Name x p) gl) (ok : BlkOk X.N X.env.scope scope own)
    (hg : ∀ (s : Shared) (H : Hp) (C : Addr) (cl : List (Str × Addr)) (fp : List Addr), FG (X.blk s H scope (compEnvC scope cl C X.env) fp) tg t ws)
    (ht : ∀ (s : Shared) (H : Hp) (C : Addr) (cl : List (Str × Addr)) (fp : List Addr), FTs (X.blk s H scope (compEnvC scope cl C X.env) fp) ifs cf)
    (he : ∀ (s : Shared) (H : Hp) (C : Addr) (cl : List (Str × Addr)) (fp : List Addr), FE (X.blk s H scope (compEnvC scope cl C X.env) fp) elt f)
    (hvs : own.map (·.2) = vs := by rfl) (hws : ∀ j ∈ ws, j ∈ vs := by decide) (hs : ∀ y, foldedSetIterable (.Name x p) X.env y = pure y := by intro _; rfl)
    (hN : X.N[io]? = some x := by rfl) (hv : Vis X.env.scope x := by first | exact Or.inl rfl | exact Or.inr (Or.inl rfl) | exact Or.inr (Or.inr rfl)) (hd : (x == ("__debug__" : Str)) = false := by decide) (hcd : (x == ("__classdict__" : Str)) = false := by decide) :
    FS X (.Assign [.Name y py] (.ListComp elt [⟨tg, .Name x p, ifs, 0⟩] scope pos) spos) (sSet i (oIte io (oCompO io t cf f vs) (oComp gl t cf f vs))) := by
  subst hvs
  exact fs_of (ps_setLc c.calm c.nd hy hyl hsw (pi_either hi hN hv hd hcd) ok (fun s H C cl fp => (hg s H C cl fp).pg) (fun s H C cl fp => (ht s H C cl fp).pts) (fun s H C cl fp => (he s H C cl fp).pe) hs) fun D z o r h q => either_run hws ((set_go (D := D) r h q))
end
end Fl

set_option Elab.async false
set_option linter.all false
set_option maxRecDepth 100000
set_option maxHeartbeats 1000000
set_option autoImplicit false
/-! FnDict: own dicts whose keys are ints and texts. -/
namespace Fl
open PySem PySem.Spec PyProof.Rows L2
def keyD : D → Option Key
  | .int i => some (.inl i)
  | .str s => some (.inr s)
  | _ => none
def dK : Key → D
  | .inl i => .int i
  | .inr s => .str s
theorem keyV {K : Frg} {G : Hp} {v : V} {d : D} {k : Key} (h : keyD d = some k) (p : Dv K G v d) : v = kV k := by
  unfold keyD at h
  split at h
  · cases h; cases p; rfl
  · cases h; cases p; rfl
  · cases h
def lookD (kvs : List (Key × D)) (k : Key) : Option D := (kvs.find? fun kv => decide (kv.1 = k)).map (·.2)
def putD (kvs : List (Key × D)) (k : Key) (d : D) : List (Key × D) := if (kvs.any fun kv => decide (kv.1 = k)) = true then kvs.map (fun kv => if kv.1 = k then (kv.1, d) else kv) else kvs ++ [(k, d)]
def dropD (kvs : List (Key × D)) (k : Key) : List (Key × D) := kvs.filter fun kv => decide (kv.1 ≠ k)
theorem kv_look {K : Frg} {G : Hp} (k : Key) : ∀ {r : List (Key × V)} {s : List (Key × D)}, KvOk K G r s → (valV r k = none ∧ lookD s k = none) ∨ ∃ v d, valV r k = some v ∧ lookD s k = some d ∧ Dv K G v d
  | _, _, .nil => .inl ⟨rfl, rfl⟩
  | _, _, .cons (k := k') (v := v) (d := d) (r := r) (s := s) h t => by
    by_cases e : k' = k
    · refine .inr ⟨v, d, valV_pos e, ?_, h⟩
      unfold lookD
      rw [List.find?_cons_of_pos (by simpa using e)]; rfl
    · have e1 : valV ((k', v) :: r) k = valV r k := valV_neg e
      have e2 : lookD ((k', d) :: s) k = lookD s k := by
        unfold lookD
        rw [List.find?_cons_of_neg (by simpa using e)]
      rw [e1, e2]
      exact kv_look k t
theorem kv_any {K : Frg} {G : Hp} (k : Key) : ∀ {r : List (Key × V)} {s : List (Key × D)}, KvOk K G r s → (r.any fun kv => decide (kv.1 = k)) = (s.any fun kv => decide (kv.1 = k))
  | _, _, .nil => rfl
  | _, _, .cons h t => by rw [List.any_cons, List.any_cons, kv_any k t]
theorem kv_map {K : Frg} {G : Hp} (k : Key) {v : V} {d : D} (hv : Dv K G v d) : ∀ {r : List (Key × V)} {s : List (Key × D)}, KvOk K G r s → KvOk K G (r.map fun kv => if kv.1 = k then (kv.1, v) else kv) (s.map fun kv => if kv.1 = k then (kv.1, d) else kv)
  | _, _, .nil => .nil
  | _, _, .cons (k := k') h t => by
    rw [List.map_cons, List.map_cons]
    by_cases e : k' = k
    · simp only [e, if_true]
      exact .cons hv (kv_map k hv t)
    · simp only [e, if_false]
      exact .cons h (kv_map k hv t)
theorem kv_app {K : Frg} {G : Hp} : ∀ {r r2 : List (Key × V)} {s s2 : List (Key × D)}, KvOk K G r s → KvOk K G r2 s2 → KvOk K G (r ++ r2) (s ++ s2)
  | _, _, _, _, .nil, h => h
  | _, _, _, _, .cons h t, h2 => .cons h (kv_app t h2)
theorem kv_put {K : Frg} {G : Hp} (k : Key) {v : V} {d : D} (hv : Dv K G v d) {r : List (Key × V)} {s : List (Key × D)} (h : KvOk K G r s) : KvOk K G (putK r k v) (putD s k d) := by
  unfold putK putD
  rw [kv_any k h]
  split
  · exact kv_map k hv h
  · exact kv_app h (.cons hv .nil)
theorem kv_drop {K : Frg} {G : Hp} (k : Key) : ∀ {r : List (Key × V)} {s : List (Key × D)}, KvOk K G r s → KvOk K G (dropK r k) (dropD s k)
  | _, _, .nil => .nil
  | _, _, .cons (k := k') (v := v) (d := d) h t => by
    unfold dropK dropD
    by_cases e : k' = k
    · rw [List.filter_cons_of_neg (by simpa using e), List.filter_cons_of_neg (by simpa using e)]
      exact kv_drop k t
    · rw [List.filter_cons_of_pos (by simpa using e), List.filter_cons_of_pos (by simpa using e)]
      exact .cons h (kv_drop k t)
/-! ### slots that hold dicts -/
def diOf : Option Sl → Option (List (Key × D))
  | some (.di kvs) => some kvs
  | _ => none
def rdOf : Option Sl → Option (List (Key × D))
  | some (.di kvs) => some kvs
  | some (.dl kvs) => some kvs
  | _ => none
theorem diOf_some {o : Option Sl} {kvs : List (Key × D)} (h : diOf o = some kvs) : o = some (.di kvs) := by
  unfold diOf at h
  split at h
  · cases h; rfl
  · cases h
theorem Rp.dict {K : Frg} {z : Z} (r : Rp K z) {i : Nat} {kvs : List (Key × D)} (h : diOf z.e[i]? = some kvs) : ∃ a q, z.s[i]? = some (some (.ref a)) ∧ z.F i = [a] ∧ z.G a = none ∧ z.H a = some (.dK q) ∧ KvOk K z.G q kvs := by
  obtain ⟨a, q, h1, h2, h3, h4, h5⟩ := r.ok i _ (diOf_some h)
  exact ⟨a, q, joinSome h1, h2, h3, h4, h5⟩
theorem Rp.rdd {K : Frg} {z : Z} (r : Rp K z) {i : Nat} {kvs : List (Key × D)} (h : rdOf z.e[i]? = some kvs) : ∃ a q, z.s[i]? = some (some (.ref a)) ∧ Rd z.H a (.dK q) ∧ KvOk K z.G q kvs := by
  cases hq : z.e[i]? with
  | none => rw [hq] at h; cases h
  | some sl =>
    rw [hq] at h
    cases sl with
    | di k =>
      cases h
      obtain ⟨a, q, h1, h2, h3, h4, h5⟩ := r.ok i _ hq
      exact ⟨a, q, joinSome h1, .inl h4, h5⟩
    | dl k =>
      cases h
      obtain ⟨h0, a, q, o, h1, h2, h3⟩ := r.ok i _ hq
      exact ⟨a, q, joinSome h1, .inr ⟨o, r.same _ _ h2⟩, h3⟩
    | no => cases h
    | va _ => cases h
    | li _ => cases h
    | dt _ => cases h
    | tn _ => cases h
    | ow _ => cases h
/-- a dict changed -/
def Z.upDi (z : Z) (i : Nat) (a : Addr) (q : List (Key × V)) (ys : List (Key × D)) : Z := { z with H := upd z.H a (.dK q), e := z.e.set i (.di ys) }
theorem Rp.upDi {K : Frg} {z : Z} (r : Rp K z) {i : Nat} {xs ys : List (Key × D)} {a : Addr} {ws : List (Key × V)} (h : diOf z.e[i]? = some xs) (hs : z.s[i]? = some (some (.ref a))) (hd : KvOk K z.G ws ys) : Rp K (z.upDi i a ws ys) ∧ Mv z (z.upDi i a ws ys) := by
  obtain ⟨a', vs, e1, e2, e3, e4, e5⟩ := r.dict h
  have h := diOf_some h
  rw [hs] at e1
  cases e1
  have hl := (List.getElem?_eq_some_iff.mp h).1
  have nf : ∀ j, j ≠ i → a ∉ z.F j := fun j hj => r.sep i j a (Ne.symm hj) (by rw [e2]; simp)
  refine ⟨⟨fun b x e => ?_, ?_, fun j s hj => ?_, fun j hj => ?_, r.sep⟩, ⟨fun b o hb hf => ?_, fun b hb => upd_none hb, Same.refl _, fun _ _ _ => rfl, fun _ _ h => .inl h, fun j hj => ?_, List.length_set ..⟩⟩
  · show upd z.H a (.dK ws) b = some x
    rw [upd_ne (ne_of_none (H := z.G) e e3)]; exact r.same _ _ e
  · show z.s.length = (z.e.set i (.di ys)).length
    rw [List.length_set]; exact r.len
  · have hj' : (z.e.set i (.di ys))[j]? = some s := hj
    show SlOk K z.G (upd z.H a (.dK ws)) ((z.s[j]?).join) (z.F j) s
    by_cases e : j = i
    · subst e
      rw [List.getElem?_set_self hl] at hj'
      cases hj'
      rw [hs]
      exact ⟨a, ws, rfl, e2, e3, upd_same, hd⟩
    · rw [List.getElem?_set_ne (Ne.symm e)] at hj'
      exact slFrame (r.ok j s hj') (Same.refl _) (fun b hb => upd_ne (memNe (nf j e) hb)) fun b hb => (r.live hb).1
  · have hj' : (z.e.set i (.di ys)).length ≤ j := hj
    rw [List.length_set] at hj'
    exact r.out j hj'
  · show upd z.H a (.dK ws) b = some o
    rw [upd_ne (fun e => hf i (by rw [e, e2]; simp))]; exact hb
  · have e : i ≠ j := fun e => by rw [← e, h] at hj; cases hj
    show isOw (z.e.set i (.di ys))[j]? = true ∧ z.s[j]? = z.s[j]?
    rw [List.getElem?_set_ne e]; exact ⟨hj, rfl⟩
section
variable {X : Cx} {pos : Pos}
/-! ### reading -/
def eDget (i : Nat) (fk : EF) : EF := fun e => (rdOf e[i]?).bind fun _ => (fk e).bind fun q => (rdOf q.2[i]?).bind fun kvs => (keyD q.1).bind fun k => (lookD kvs k).map fun d => (d, q.2)
theorem fe_dget {k : Nat} (i : Nat) {x : Str} {p : Pos} {b : Expr} {fk : EF} (c : Cc X k) (hk : FE X b fk) (hN : X.N[i]? = some x := by rfl) (hv : Vis X.env.scope x := by first | exact Or.inl rfl | exact Or.inr (Or.inl rfl) | exact Or.inr (Or.inr rfl)) (hs : NoSl b := by intro _ _; rfl) (hd : (x == ("__debug__" : Str)) = false := by decide) (hcd : (x == ("__classdict__" : Str)) = false := by decide) : FE X (.Subscript (.Name x p) b pos) (eDget i fk) :=
  ⟨PE.imp (pe_dget (by have := c.room.un; omega) (pe_var hN hv hd hcd) hk.pe hs) fun σ H Q ⟨z, d, e', rp, hs, hH, hf, q⟩ => by
    subst hs hH
    obtain ⟨_, h0, hf⟩ := Option.bind_eq_some_iff.mp hf
    obtain ⟨⟨kd, e1⟩, h1, hf⟩ := Option.bind_eq_some_iff.mp hf
    obtain ⟨kvs, h2, hf⟩ := Option.bind_eq_some_iff.mp hf
    obtain ⟨ky, h3, hf⟩ := Option.bind_eq_some_iff.mp hf
    obtain ⟨d', h4, hf⟩ := Option.map_eq_some_iff.mp hf
    cases hf
    obtain ⟨a, r, g1, g2, g3⟩ := rp.rdd h0
    refine ⟨.ref a, g1, z, kd, e1, rp, rfl, rfl, h1, fun v y m ry sy ey pv => ?_⟩
    obtain ⟨a', r', l1, l2, l3⟩ := ry.rdd (i := i) (kvs := kvs) (by rw [ey]; exact h2)
    rw [sy, g1] at l1
    cases l1
    rcases kv_look ky l3 with ⟨_, n⟩ | ⟨u, d2, n1, n2, n3⟩
    · rw [h4] at n; cases n
    · rw [h4] at n2
      cases n2
      exact ⟨a, u, rfl, .inl ⟨r', ky, l2, keyV h3 pv, n1.symm⟩, q u y m ry sy ey n3⟩⟩
def eDin (neg : Bool) (i : Nat) (fk : EF) : EF := fun e => (fk e).bind fun q => (rdOf q.2[i]?).bind fun kvs => (keyD q.1).map fun k => (.bool (if neg then !(lookD kvs k).isSome else (lookD kvs k).isSome), q.2)
theorem din_run {K : Frg} {i : Nat} {neg : Bool} {fk : EF} {σ : L2.St} {H : Hp} {Q : VK} (q : tE K (eDin neg i fk) σ H Q) : tE K fk σ H fun y H1 => ∃ v, σ[i]? = some (some v) ∧ ∃ a o, v = .ref a ∧ DGet H1 a y o ∧ Q (.bl (if neg then !o.isSome else o.isSome)) H1 := by
  obtain ⟨z, d, e', rp, hs, hH, hf, q⟩ := q
  subst hs hH
  obtain ⟨⟨kd, e1⟩, h1, hf⟩ := Option.bind_eq_some_iff.mp hf
  obtain ⟨kvs, h2, hf⟩ := Option.bind_eq_some_iff.mp hf
  obtain ⟨ky, h3, hf⟩ := Option.map_eq_some_iff.mp hf
  cases hf
  refine ⟨z, kd, e1, rp, rfl, rfl, h1, fun v y m ry sy ey pv => ?_⟩
  obtain ⟨a, r, l1, l2, l3⟩ := ry.rdd (i := i) (kvs := kvs) (by rw [ey]; exact h2)
  refine ⟨.ref a, by rw [← sy]; exact l1, a, valV r ky, rfl, .inl ⟨r, ky, l2, keyV h3 pv, rfl⟩, ?_⟩
  have hh : (valV r ky).isSome = (lookD kvs ky).isSome := by
    rcases kv_look ky l3 with ⟨n1, n2⟩ | ⟨u, d2, n1, n2, n3⟩
    · rw [n1, n2]; rfl
    · rw [n1, n2]; rfl
  rw [hh]
  exact q _ y m ry sy ey (.bl _)
theorem fc_din {k : Nat} (i : Nat) {x : Str} {p : Pos} {b : Expr} {fk : EF} (c : Cc X k) (hk : FE X b fk) (hN : X.N[i]? = some x := by rfl) (hv : Vis X.env.scope x := by first | exact Or.inl rfl | exact Or.inr (Or.inl rfl) | exact Or.inr (Or.inr rfl)) (hd : (x == ("__debug__" : Str)) = false := by decide) (hcd : (x == ("__classdict__" : Str)) = false := by decide) : FC X (.Compare b [.In] [.Name x p] pos) (eDin false i fk) :=
  ⟨⟨PE.imp (pe_cmp (pc_din (by have := c.room.un; omega) hk.pe (pe_var hN hv hd hcd))) fun σ H Q q => din_run q⟩,
   ⟨PT.imp (pt_cmp (pc_din (by have := c.room.un; omega) hk.pe (pe_var hN hv hd hcd))) fun σ H Q q => din_run (bB_run q)⟩⟩
theorem fc_dnin {k : Nat} (i : Nat) {x : Str} {p : Pos} {b : Expr} {fk : EF} (c : Cc X k) (hk : FE X b fk) (hN : X.N[i]? = some x := by rfl) (hv : Vis X.env.scope x := by first | exact Or.inl rfl | exact Or.inr (Or.inl rfl) | exact Or.inr (Or.inr rfl)) (hd : (x == ("__debug__" : Str)) = false := by decide) (hcd : (x == ("__classdict__" : Str)) = false := by decide) : FC X (.Compare b [.NotIn] [.Name x p] pos) (eDin true i fk) :=
  ⟨⟨PE.imp (pe_cmp (pc_dnotin (by have := c.room.un; omega) hk.pe (pe_var hN hv hd hcd))) fun σ H Q q => din_run q⟩,
   ⟨PT.imp (pt_cmp (pc_dnotin (by have := c.room.un; omega) hk.pe (pe_var hN hv hd hcd))) fun σ H Q q => din_run (bB_run q)⟩⟩
/-! ### len -/
theorem call_len_dK : CallR X (.builtin "len") (fun xs H Q => ∃ p kvs, xs = [.ref p] ∧ Rd H p (.dK kvs) ∧ Q (.int ((kvs.length : Nat) : Int)) H) := by
  intro pins s σ H xs us Q I r h
  obtain ⟨p, kvs, rfl, hp, q⟩ := h
  obtain ⟨u, rfl, rx⟩ := vals1 r
  obtain rfl : u = .ref p := rx
  exact d_len I hp fun t s' I' => ⟨.int ((kvs.length : Nat) : Int), H, I', ⟨_, rfl⟩, q⟩
def eDlen (i : Nat) : EF := fun e => (rdOf e[i]?).map fun kvs => (.int ((kvs.length : Nat) : Int), e)
theorem fe_dlen (i : Nat) {x : Str} {p p2 : Pos} (hm : X.mg "len" = none) (hg : Gl X "len" := by rfl) (he : starEach [.Name x p2] X.env = (false, eval (.Name x p2) X.env) :: starEach [] X.env := by rfl) (hN : X.N[i]? = some x := by rfl) (hv : Vis X.env.scope x := by first | exact Or.inl rfl | exact Or.inr (Or.inl rfl) | exact Or.inr (Or.inr rfl)) (hd : (x == ("__debug__" : Str)) = false := by decide) (hcd : (x == ("__classdict__" : Str)) = false := by decide) : FE X (.Call (.Name "len" p) [.Name x p2] [] pos) (eDlen i) :=
  ⟨PE.imp (pe_callB call_len_dK hg hm (by decide +kernel) (pa_cons (pe_var hN hv hd hcd) pa_nil he) (by decide) (by decide) he rfl) fun σ H Q ⟨z, d, e', rp, hs, hH, hf, q⟩ => by
    subst hs hH
    obtain ⟨kvs, h1, hf⟩ := Option.map_eq_some_iff.mp hf
    cases hf
    obtain ⟨a, r, g1, g2, g3⟩ := rp.rdd h1
    refine ⟨.ref a, g1, a, r, rfl, g2, ?_⟩
    rw [kvLen g3]
    exact q _ z (Mv.refl z) rp rfl rfl (.int _)⟩
/-! ### get -/
def eDgt2 (i : Nat) (fk fd : EF) : EF := fun e => (rdOf e[i]?).bind fun _ => (fk e).bind fun q => (fd q.2).bind fun w => (rdOf w.2[i]?).bind fun kvs => (keyD q.1).map fun k => ((lookD kvs k).getD w.1, w.2)
def eDgt1 (i : Nat) (fk : EF) : EF := fun e => (rdOf e[i]?).bind fun _ => (fk e).bind fun q => (rdOf q.2[i]?).bind fun kvs => (keyD q.1).map fun k => ((lookD kvs k).getD .none, q.2)
theorem isD_of {H : Hp} {a : Addr} {q : List (Key × V)} (h : Rd H a (.dK q)) : IsD H a := .inl ⟨q, h⟩
theorem fe_dgt2 {k : Nat} (i : Nat) {x : Str} {p apos : Pos} {b b2 : Expr} {fk fd : EF} (c : Cc X k) (hk : FE X b fk) (hf2 : FE X b2 fd) (hm : M2 X (.Name x p) "get" apos b b2 pos := by exact ⟨rfl, rfl, rfl, rfl⟩) (hN : X.N[i]? = some x := by rfl) (hv : Vis X.env.scope x := by first | exact Or.inl rfl | exact Or.inr (Or.inl rfl) | exact Or.inr (Or.inr rfl)) (hd : (x == ("__debug__" : Str)) = false := by decide) (hcd : (x == ("__classdict__" : Str)) = false := by decide) : FE X (.Call (.Attribute (.Name x p) "get" apos) [b, b2] [] pos) (eDgt2 i fk fd) :=
  ⟨PE.imp (pe_dget2 (by have := c.room.un; omega) (pe_var hN hv hd hcd) hk.pe hf2.pe hm) fun σ H Q ⟨z, d, e', rp, hs, hH, hf, q⟩ => by
    subst hs hH
    obtain ⟨_, h0, hf⟩ := Option.bind_eq_some_iff.mp hf
    obtain ⟨⟨kd, e1⟩, h1, hf⟩ := Option.bind_eq_some_iff.mp hf
    obtain ⟨⟨dd, e2⟩, h2, hf⟩ := Option.bind_eq_some_iff.mp hf
    obtain ⟨kvs, h3, hf⟩ := Option.bind_eq_some_iff.mp hf
    obtain ⟨ky, h4, hf⟩ := Option.map_eq_some_iff.mp hf
    cases hf
    obtain ⟨a, r, g1, g2, g3⟩ := rp.rdd h0
    refine ⟨.ref a, g1, a, rfl, isD_of g2, z, kd, e1, rp, rfl, rfl, h1, fun v y m ry sy ey pv => ⟨y, dd, e2, ry, sy, rfl, by rw [ey]; exact h2, fun v2 y2 m2 ry2 sy2 ey2 pv2 => ?_⟩⟩
    obtain ⟨a', r', l1, l2, l3⟩ := ry2.rdd (i := i) (kvs := kvs) (by rw [ey2]; exact h3)
    rw [sy2, g1] at l1
    cases l1
    refine ⟨valV r' ky, .inl ⟨r', ky, l2, keyV h4 pv, rfl⟩, ?_⟩
    rcases kv_look ky l3 with ⟨n1, n2⟩ | ⟨u, d2, n1, n2, n3⟩
    · rw [n1]
      exact q _ y2 (m.trans m2) ry2 sy2 ey2 (by rw [n2]; exact pv2)
    · rw [n1]
      exact q _ y2 (m.trans m2) ry2 sy2 ey2 (by rw [n2]; exact n3)⟩
theorem fe_dgt1 {k : Nat} (i : Nat) {x : Str} {p apos : Pos} {b : Expr} {fk : EF} (c : Cc X k) (hk : FE X b fk) (hm : M1 X (.Name x p) "get" apos b pos := by exact ⟨rfl, rfl, rfl, rfl⟩) (hN : X.N[i]? = some x := by rfl) (hv : Vis X.env.scope x := by first | exact Or.inl rfl | exact Or.inr (Or.inl rfl) | exact Or.inr (Or.inr rfl)) (hd : (x == ("__debug__" : Str)) = false := by decide) (hcd : (x == ("__classdict__" : Str)) = false := by decide) : FE X (.Call (.Attribute (.Name x p) "get" apos) [b] [] pos) (eDgt1 i fk) :=
  ⟨PE.imp (pe_dget1 (by have := c.room.un; omega) (pe_var hN hv hd hcd) hk.pe hm) fun σ H Q ⟨z, d, e', rp, hs, hH, hf, q⟩ => by
    subst hs hH
    obtain ⟨_, h0, hf⟩ := Option.bind_eq_some_iff.mp hf
    obtain ⟨⟨kd, e1⟩, h1, hf⟩ := Option.bind_eq_some_iff.mp hf
    obtain ⟨kvs, h3, hf⟩ := Option.bind_eq_some_iff.mp hf
    obtain ⟨ky, h4, hf⟩ := Option.map_eq_some_iff.mp hf
    cases hf
    obtain ⟨a, r, g1, g2, g3⟩ := rp.rdd h0
    refine ⟨.ref a, g1, a, rfl, isD_of g2, z, kd, e1, rp, rfl, rfl, h1, fun v y m ry sy ey pv => ?_⟩
    obtain ⟨a', r', l1, l2, l3⟩ := ry.rdd (i := i) (kvs := kvs) (by rw [ey]; exact h3)
    rw [sy, g1] at l1
    cases l1
    refine ⟨valV r' ky, .inl ⟨r', ky, l2, keyV h4 pv, rfl⟩, ?_⟩
    rcases kv_look ky l3 with ⟨n1, n2⟩ | ⟨u, d2, n1, n2, n3⟩
    · rw [n1]
      exact q _ y m ry sy ey (by rw [n2]; exact .non)
    · rw [n1]
      exact q _ y m ry sy ey (by rw [n2]; exact n3)⟩
/-! ### pop -/
def eDpop (i : Nat) (fk : EF) : EF := fun e => (diOf e[i]?).bind fun _ => (fk e).bind fun q => (diOf q.2[i]?).bind fun kvs => (keyD q.1).bind fun k => (lookD kvs k).map fun d => (d, q.2.set i (.di (dropD kvs k)))
theorem fe_dpop (i : Nat) {x : Str} {p apos : Pos} {b : Expr} {fk : EF} (hk : FE X b fk) (hm : M1 X (.Name x p) "pop" apos b pos := by exact ⟨rfl, rfl, rfl, rfl⟩) (hN : X.N[i]? = some x := by rfl) (hv : Vis X.env.scope x := by first | exact Or.inl rfl | exact Or.inr (Or.inl rfl) | exact Or.inr (Or.inr rfl)) (hd : (x == ("__debug__" : Str)) = false := by decide) (hcd : (x == ("__classdict__" : Str)) = false := by decide) : FE X (.Call (.Attribute (.Name x p) "pop" apos) [b] [] pos) (eDpop i fk) :=
  ⟨PE.imp (pe_dpop1 (pe_var hN hv hd hcd) hk.pe hm) fun σ H Q ⟨z, d, e', rp, hs, hH, hf, q⟩ => by
    subst hs hH
    obtain ⟨_, h0, hf⟩ := Option.bind_eq_some_iff.mp hf
    obtain ⟨⟨kd, e1⟩, h1, hf⟩ := Option.bind_eq_some_iff.mp hf
    obtain ⟨kvs, h3, hf⟩ := Option.bind_eq_some_iff.mp hf
    obtain ⟨ky, h4, hf⟩ := Option.bind_eq_some_iff.mp hf
    obtain ⟨d', h5, hf⟩ := Option.map_eq_some_iff.mp hf
    cases hf
    obtain ⟨a, r, g1, g2, g3, g4, g5⟩ := rp.dict h0
    refine ⟨.ref a, g1, a, rfl, isD_of (.inl g4), z, kd, e1, rp, rfl, rfl, h1, fun v y m ry sy ey pv => ?_⟩
    have hy : diOf y.e[i]? = some kvs := by rw [ey]; exact h3
    obtain ⟨a', r', l1, l2, l3, l4, l5⟩ := ry.dict hy
    have l1' := l1
    rw [sy, g1] at l1
    cases l1
    rcases kv_look ky l5 with ⟨n1, n2⟩ | ⟨u, d2, n1, n2, n3⟩
    · rw [h5] at n2; cases n2
    · rw [h5] at n2
      cases n2
      obtain ⟨r5, m5⟩ := ry.upDi (ws := dropK r' ky) (ys := dropD kvs ky) hy l1' (kv_drop ky l5)
      exact ⟨r', ky, u, l4, keyV h4 pv, n1, q u _ (m.trans m5) r5 sy (by show y.e.set i _ = _; rw [ey]) n3⟩⟩
/-! ### stores -/
def sDput (i : Nat) (fk fv : EF) : SF := fun e => (fv e).bind fun p => (diOf p.2[i]?).bind fun _ => (fk p.2).bind fun q => (diOf q.2[i]?).bind fun kvs => (keyD q.1).bind fun k => if kvs.length < sizeLine then some (.nx (q.2.set i (.di (putD kvs k p.1)))) else none
theorem fs_dput {k : Nat} (i : Nat) {x : Str} {p p2 : Pos} {b a : Expr} {fk fv : EF} (c : Cc X k) (hk : FE X b fk) (ha : FE X a fv) (hs : swapsWith a (some (.Subscript (.Name x p) b p2)) pos.line X.env = pure false := by rfl) (hN : X.N[i]? = some x := by rfl) (hv : Vis X.env.scope x := by first | exact Or.inl rfl | exact Or.inr (Or.inl rfl) | exact Or.inr (Or.inr rfl)) (hd : (x == ("__debug__" : Str)) = false := by decide) (hcd : (x == ("__classdict__" : Str)) = false := by decide) : FS X (.Assign [.Subscript (.Name x p) b p2] a pos) (sDput i fk fv) :=
  fs_of (ps_dput (by have := c.room.un; omega) (pe_var hN hv hd hcd) hk.pe ha.pe hs) fun D z o r h q => by
    obtain ⟨⟨vd, e1⟩, h1, h⟩ := Option.bind_eq_some_iff.mp h
    obtain ⟨xs0, h2, h⟩ := Option.bind_eq_some_iff.mp h
    obtain ⟨⟨kd, e2⟩, h3, h⟩ := Option.bind_eq_some_iff.mp h
    obtain ⟨kvs, h4, h⟩ := Option.bind_eq_some_iff.mp h
    obtain ⟨ky, h5, h⟩ := Option.bind_eq_some_iff.mp h
    split at h
    · rename_i hlt
      cases h
      refine ⟨z, vd, e1, r, rfl, rfl, h1, fun v y m ry sy ey pv => ?_⟩
      obtain ⟨b', r0, k1, k2, k3, k4, k5⟩ := ry.dict (i := i) (kvs := xs0) (by rw [ey]; exact h2)
      refine ⟨.ref b', by rw [← sy]; exact k1, y, _, e2, ry, sy, rfl, by rw [ey]; exact h3, fun w u mu ru su eu pw => ?_⟩
      have hdi : diOf u.e[i]? = some kvs := by rw [eu]; exact h4
      obtain ⟨b2, r2, l1, l2, l3, l4, l5⟩ := ru.dict hdi
      have l1' := l1
      rw [su, ← sy, k1] at l1
      cases l1
      obtain ⟨r5, m5⟩ := ru.upDi (ws := putK r2 ky v) (ys := putD kvs ky vd) hdi l1' (kv_put ky (dvMono mu.g _ _ pv) l5)
      refine ⟨b', upd u.H b' (.dK (putK r2 ky v)), rfl, .inl ⟨r2, ky, l4, keyV h5 pw, by rw [kvLen l5]; exact hlt, rfl⟩, ?_⟩
      have := q _ ((m.trans mu).trans m5) r5 (by show u.e.set i (.di (putD kvs ky vd)) = _; rw [eu])
      show D.nx z.s (upd u.H b' (.dK (putK r2 ky v)))
      rw [← su]; exact this
    · cases h
end
end Fl

set_option Elab.async false
set_option linter.all false
set_option maxRecDepth 100000
set_option maxHeartbeats 1000000
set_option autoImplicit false
/-! FnLock: displays of dicts; comprehensions over an own dict, which is locked meanwhile. -/
namespace Fl
open PySem PySem.Spec PyProof.Rows L2
/-! ### what stands still, without one locked dict -/
def dropG (G : Hp) (a : Addr) : Hp := fun b => if b = a then none else G b
theorem dropG_ne {G : Hp} {a b : Addr} (h : b ≠ a) : dropG G a b = G b := if_neg h
theorem dropG_same {G : Hp} {a : Addr} : dropG G a a = none := if_pos rfl
theorem seqT_drop {K : Frg} {G : Hp} {a b : Addr} {o : Obj} {q : List (Key × V)} {xs : List V} (h : G a = some (.frz o (.dK q))) (s : SqT K G b xs) : SqT K (dropG G a) b xs := by
  rcases s with s | s
  · have hb : b ≠ a := fun e => by
      rw [e] at s
      rcases s with s | ⟨o', s⟩
      · rw [h] at s; cases s
      · rw [h] at s; cases s
    refine .inl ?_
    rcases s with s | ⟨o', s⟩
    · exact .inl (by rw [dropG_ne hb]; exact s)
    · exact .inr ⟨o', by rw [dropG_ne hb]; exact s⟩
  · exact .inr s
mutual
theorem dvDrop {K : Frg} {G : Hp} {a : Addr} {o : Obj} {q : List (Key × V)} (e : G a = some (.frz o (.dK q))) : ∀ (d : D) (v : V), Dv K G v d → Dv K (dropG G a) v d
  | .none, _, h => by cases h; exact .non
  | .bool b, _, h => by cases h; exact .bl b
  | .int i, _, h => by cases h; exact .int i
  | .str x, _, h => by cases h; exact .str x
  | .list ds, _, h => by
    cases h with
    | lst hs ha => exact .lst (by rw [dropG_ne (fun z => by rw [z, e] at hs; cases hs)]; exact hs) (dvDropAll e ds _ ha)
  | .tuple ds, _, h => by
    cases h with
    | tup hs ha => exact .tup (seqT_drop e hs) (dvDropAll e ds _ ha)
  | .dict _, _, h => by cases h
theorem dvDropAll {K : Frg} {G : Hp} {a : Addr} {o : Obj} {q : List (Key × V)} (e : G a = some (.frz o (.dK q))) : ∀ (ds : List D) (vs : List V), DvAll K G vs ds → DvAll K (dropG G a) vs ds
  | [], _, h => by cases h; exact .nil
  | d :: ds, _, h => by
    cases h with
    | cons h1 h2 => exact .cons (dvDrop e d _ h1) (dvDropAll e ds _ h2)
end
theorem kvDrop {κ : Type} {K : Frg} {G : Hp} {a : Addr} {o : Obj} {q : List (Key × V)} (e : G a = some (.frz o (.dK q))) : ∀ {r : List (κ × V)} {s : List (κ × D)}, KvOk K G r s → KvOk K (dropG G a) r s
  | _, _, .nil => .nil
  | _, _, .cons h t => .cons (dvDrop e _ _ h) (kvDrop e t)
mutual
theorem otDrop {K : Frg} {G H H' : Hp} {a : Addr} {o : Obj} {q : List (Key × V)} (e : G a = some (.frz o (.dK q))) (hH : ∀ b, b ≠ a → H' b = H b) : ∀ (t : OT) (v : V) (F : List Addr), OtOk K G H v t F → OtOk K (dropG G a) H' v t F
  | .leaf d, _, _, h => by
    cases h with
    | leaf h => exact .leaf (dvDrop e _ _ h)
  | .node ts, _, _, h => by
    cases h with
    | node h1 h2 h3 h4 =>
      have ne : _ ≠ a := ne_of_none e h1 |>.symm
      exact .node (by rw [dropG_ne ne]; exact h1) ((hH _ ne).trans h2) (otsDrop e hH ts _ _ h3) h4
  | .ntup ts, _, _, h => by
    cases h with
    | ntup h1 h2 h3 h4 =>
      have ne : _ ≠ a := ne_of_none e h1 |>.symm
      exact .ntup (by rw [dropG_ne ne]; exact h1) ((hH _ ne).trans h2) (otsDrop e hH ts _ _ h3) h4
theorem otsDrop {K : Frg} {G H H' : Hp} {a : Addr} {o : Obj} {q : List (Key × V)} (e : G a = some (.frz o (.dK q))) (hH : ∀ b, b ≠ a → H' b = H b) : ∀ (ts : List OT) (vs : List V) (F : List Addr), OtsOk K G H vs ts F → OtsOk K (dropG G a) H' vs ts F
  | [], _, _, h => by cases h; exact .nil
  | t :: ts, _, _, h => by
    cases h with
    | cons h1 h2 h3 => exact .cons (otDrop e hH t _ _ h1) (otsDrop e hH ts _ _ h2) h3
end
def isDl : Option Sl → Bool
  | some (.dl _) => true
  | _ => false
theorem slDrop {K : Frg} {G H H' : Hp} {a : Addr} {o : Obj} {q : List (Key × V)} (e : G a = some (.frz o (.dK q))) (hH : ∀ b, b ≠ a → H' b = H b) {v : Option V} {F : List Addr} {s : Sl} (hd : isDl (some s) = false) (h : SlOk K G H v F s) : SlOk K (dropG G a) H' v F s := by
  cases s with
  | no => exact h
  | va d => obtain ⟨h1, x, h2, h3⟩ := h; exact ⟨h1, x, h2, dvDrop e _ _ h3⟩
  | li xs =>
    obtain ⟨b, vs, h1, h2, h3, h4, h5⟩ := h
    have ne : b ≠ a := (ne_of_none e h3).symm
    exact ⟨b, vs, h1, h2, by rw [dropG_ne ne]; exact h3, (hH _ ne).trans h4, dvDropAll e _ _ h5⟩
  | di xs =>
    obtain ⟨b, vs, h1, h2, h3, h4, h5⟩ := h
    have ne : b ≠ a := (ne_of_none e h3).symm
    exact ⟨b, vs, h1, h2, by rw [dropG_ne ne]; exact h3, (hH _ ne).trans h4, kvDrop e h5⟩
  | dt xs =>
    obtain ⟨b, vs, h1, h2, h3, h4, h5⟩ := h
    have ne : b ≠ a := (ne_of_none e h3).symm
    exact ⟨b, vs, h1, h2, by rw [dropG_ne ne]; exact h3, (hH _ ne).trans h4, kvDrop e h5⟩
  | dl xs => cases hd
  | tn xs =>
    obtain ⟨h0, b, vs, o', h1, h2, h3, h4⟩ := h
    have ne : b ≠ a := fun z => by rw [z, e] at h2; cases h2
    exact ⟨h0, b, vs, o', h1, by rw [dropG_ne ne]; exact h2, h3, dvDropAll e _ _ h4⟩
  | ow t => obtain ⟨x, h1, h2⟩ := h; exact ⟨x, h1, otDrop e hH _ _ _ h2⟩
/-! ### a dict locked, and unlocked -/
def Z.lock (z : Z) (io : Nat) (a : Addr) (o : Obj) (q : List (Key × V)) (kvs : List (Key × D)) : Z :=
  { z with G := upd z.G a (.frz o (.dK q)), H := upd z.H a (.frz o (.dK q)), e := z.e.set io (.dl kvs), F := fun j => if j = io then [] else z.F j }
theorem Rp.lock {K : Frg} {z : Z} (r : Rp K z) {io : Nat} {a : Addr} {q : List (Key × V)} {kvs : List (Key × D)} (o : Obj) (h : diOf z.e[io]? = some kvs) (k1 : z.s[io]? = some (some (.ref a))) (k2 : z.F io = [a]) (k3 : z.G a = none) (k5 : KvOk K z.G q kvs) : Rp K (z.lock io a o q kvs) := by
  have h := diOf_some h
  have hl := (List.getElem?_eq_some_iff.mp h).1
  have nf : ∀ j, j ≠ io → a ∉ z.F j := fun j hj => r.sep io j a (Ne.symm hj) (by rw [k2]; simp)
  refine ⟨fun b x e => ?_, ?_, fun j s hj => ?_, fun j hj => ?_, fun j k b hjk hj hk => ?_⟩
  · have e' : upd z.G a (.frz o (.dK q)) b = some x := e
    show upd z.H a (.frz o (.dK q)) b = some x
    by_cases hb : b = a
    · subst hb; rw [upd_same] at e' ⊢; exact e'
    · rw [upd_ne hb] at e' ⊢; exact r.same _ _ e'
  · show z.s.length = (z.e.set io (.dl kvs)).length
    rw [List.length_set]; exact r.len
  · have hj' : (z.e.set io (.dl kvs))[j]? = some s := hj
    show SlOk K (upd z.G a _) (upd z.H a _) ((z.s[j]?).join) (if j = io then [] else z.F j) s
    by_cases e : j = io
    · subst e
      rw [List.getElem?_set_self hl] at hj'
      cases hj'
      rw [if_pos rfl, k1]
      exact ⟨rfl, a, q, o, rfl, upd_same, kvMono (sameUpd k3) k5⟩
    · rw [List.getElem?_set_ne (Ne.symm e)] at hj'
      rw [if_neg e]
      exact slFrame (r.ok j s hj') (sameUpd k3) (fun b hb => upd_ne (memNe (nf j e) hb)) fun b hb => by
        show upd z.G a _ b = none
        rw [upd_ne (memNe (nf j e) hb)]; exact (r.live hb).1
  · have hj' : (z.e.set io (.dl kvs)).length ≤ j := hj
    rw [List.length_set] at hj'
    show (if j = io then [] else z.F j) = []
    split
    · rfl
    · exact r.out j hj'
  · have hj' : b ∈ (if j = io then [] else z.F j) := hj
    have hk' : b ∈ (if k = io then [] else z.F k) := hk
    split at hj'
    · cases hj'
    · split at hk'
      · cases hk'
      · exact r.sep j k b hjk hj' hk'
def Z.unlock (y : Z) (io : Nat) (a : Addr) (q : List (Key × V)) (kvs : List (Key × D)) : Z :=
  { y with G := dropG y.G a, H := upd y.H a (.dK q), e := y.e.set io (.di kvs), F := fun j => if j = io then [a] else y.F j }
/-- no other locked dict stands in a slot -/
def dlFree (e : Ev) (io : Nat) : Bool := (List.range e.length).all fun j => j == io || !isDl e[j]?
theorem dlFree_get {e : Ev} {io j : Nat} (h : dlFree e io = true) (hj : j ≠ io) : isDl e[j]? = false := by
  by_cases hl : j < e.length
  · have := List.all_eq_true.mp h j (List.mem_range.mpr hl)
    have hj' : (j == io) = false := by simpa using hj
    rw [hj', Bool.false_or] at this
    simpa using this
  · rw [List.getElem?_eq_none (by omega)]; rfl
theorem Rp.unlock {K : Frg} {z y : Z} {io : Nat} {a : Addr} {o : Obj} {q : List (Key × V)} {kvs : List (Key × D)} (rz : Rp K z) (h : diOf z.e[io]? = some kvs) (k1 : z.s[io]? = some (some (.ref a))) (k2 : z.F io = [a]) (k3 : z.G a = none) (k4 : z.H a = some (.dK q)) (k5 : KvOk K z.G q kvs)
    (m : Mv (z.lock io a o q kvs) y) (r : Rp K y) (ys : y.s = z.s) (fr : dlFree y.e io = true) : Rp K (y.unlock io a q kvs) ∧ Mv z (y.unlock io a q kvs) ∧ y.G a = some (.frz o (.dK q)) := by
  have h0 := diOf_some h
  have hl0 := (List.getElem?_eq_some_iff.mp h0).1
  have hyl : y.e.length = z.e.length := by rw [m.ln]; exact List.length_set ..
  have hl : io < y.e.length := by omega
  have hG : y.G a = some (.frz o (.dK q)) := m.g a _ (show upd z.G a _ a = _ from upd_same)
  have nz : ∀ j, j ≠ io → a ∉ z.F j := fun j hj => rz.sep io j a (Ne.symm hj) (by rw [k2]; simp)
  have ny : ∀ j, a ∉ y.F j := fun j hj => by rw [(r.live hj).1] at hG; cases hG
  have hgz : Same z.G (dropG y.G a) := fun b x e => by
    have ne : b ≠ a := ne_of_none e k3
    rw [dropG_ne ne]
    exact m.g b x (show upd z.G a _ b = _ by rw [upd_ne ne]; exact e)
  have hups : ∀ b, b ≠ a → upd y.H a (.dK q) b = y.H b := fun b hb => upd_ne hb
  refine ⟨⟨fun b x e => ?_, ?_, fun j s hj => ?_, fun j hj => ?_, fun j k b hjk hj hk => ?_⟩, ⟨fun b x hb hf => ?_, fun b hb => ?_, hgz, fun b hb hk => ?_, fun j b hb => ?_, fun j hj => ?_, ?_⟩, hG⟩
  · have e' : dropG y.G a b = some x := e
    have ne : b ≠ a := fun z => by rw [z, dropG_same] at e'; cases e'
    show upd y.H a (.dK q) b = some x
    rw [upd_ne ne]
    rw [dropG_ne ne] at e'
    exact r.same _ _ e'
  · show y.s.length = (y.e.set io (.di kvs)).length
    rw [List.length_set]; exact r.len
  · have hj' : (y.e.set io (.di kvs))[j]? = some s := hj
    show SlOk K (dropG y.G a) (upd y.H a _) ((y.s[j]?).join) (if j = io then [a] else y.F j) s
    by_cases e : j = io
    · subst e
      rw [List.getElem?_set_self hl] at hj'
      cases hj'
      rw [if_pos rfl, ys, k1]
      exact ⟨a, q, rfl, rfl, dropG_same, upd_same, kvMono hgz k5⟩
    · rw [List.getElem?_set_ne (Ne.symm e)] at hj'
      rw [if_neg e]
      have := dlFree_get fr e
      rw [hj'] at this
      exact slDrop hG hups this (r.ok j s hj')
  · have hj' : (y.e.set io (.di kvs)).length ≤ j := hj
    rw [List.length_set] at hj'
    show (if j = io then [a] else y.F j) = []
    rw [if_neg (by omega)]
    exact r.out j hj'
  · have hj' : b ∈ (if j = io then [a] else y.F j) := hj
    have hk' : b ∈ (if k = io then [a] else y.F k) := hk
    by_cases e1 : j = io
    · rw [if_pos e1] at hj'
      rw [if_neg (fun e2 => hjk (e1.trans e2.symm))] at hk'
      rw [List.mem_singleton.mp hj'] at hk'
      exact ny k hk'
    · rw [if_neg e1] at hj'
      by_cases e2 : k = io
      · rw [if_pos e2] at hk'
        rw [List.mem_singleton.mp hk'] at hj'
        exact ny j hj'
      · rw [if_neg e2] at hk'
        exact r.sep j k b hjk hj' hk'
  · have ne : b ≠ a := fun e => hf io (by rw [e, k2]; simp)
    show upd y.H a (.dK q) b = some x
    rw [upd_ne ne]
    refine m.out b x (show upd z.H a _ b = _ by rw [upd_ne ne]; exact hb) fun j hj => ?_
    have hj' : b ∈ (if j = io then [] else z.F j) := hj
    split at hj'
    · cases hj'
    · exact hf j hj'
  · show upd y.H a (.dK q) b ≠ none
    by_cases ne : b = a
    · rw [ne, upd_same]; exact nofun
    · rw [upd_ne ne]
      exact m.dom b (show upd z.H a _ b ≠ none by rw [upd_ne ne]; exact hb)
  · have ne : b ≠ a := fun e => hk io (by rw [e, k2]; simp)
    show dropG y.G a b = z.G b
    rw [dropG_ne ne]
    have := m.gn b (show upd z.H a _ b ≠ none by rw [upd_ne ne]; exact hb) fun j hj => by
      have hj' : b ∈ (if j = io then [] else z.F j) := hj
      split at hj'
      · cases hj'
      · exact hk j hj'
    rw [this]
    exact upd_ne ne
  · have hb' : b ∈ (if j = io then [a] else y.F j) := hb
    by_cases e1 : j = io
    · rw [if_pos e1] at hb'
      rw [e1, k2]; exact .inl hb'
    · rw [if_neg e1] at hb'
      rcases m.fn j b hb' with h | h
      · have h' : b ∈ (if j = io then [] else z.F j) := h
        rw [if_neg e1] at h'
        exact .inl h'
      · have h' : upd z.H a (.frz o (.dK q)) b = none := h
        by_cases ne : b = a
        · rw [ne, upd_same] at h'; cases h'
        · rw [upd_ne ne] at h'; exact .inr h'
  · have e1 : j ≠ io := fun e => by rw [e, h0] at hj; cases hj
    have h1 : isOw (z.lock io a o q kvs).e[j]? = true := by
      show isOw (z.e.set io (.dl kvs))[j]? = true
      rw [List.getElem?_set_ne (Ne.symm e1)]; exact hj
    obtain ⟨h2, h3⟩ := m.kp j h1
    refine ⟨?_, h3⟩
    show isOw (y.e.set io (.di kvs))[j]? = true
    rw [List.getElem?_set_ne (Ne.symm e1)]; exact h2
  · show (y.e.set io (.di kvs)).length = z.e.length
    rw [List.length_set]; exact hyl
def oLock (io : Nat) (f : OF) : OF := fun e => (diOf e[io]?).bind fun kvs => (f (e.set io (.dl kvs))).bind fun r => if dlFree r.2 io = true ∧ isDl (some r.1) = false then some (r.1, r.2.set io (.di kvs)) else none
section
variable {X : Cx} {pos : Pos}
theorem fo_lock {e : Expr} {f : OF} (io : Nat) (h : FO X e f) : FO X e (oLock io f) := ⟨PE.imp (pe_lock h.po) fun σ H Q ⟨z, r0, e', rp, hs, hH, hf, q⟩ => by
  subst hs hH
  obtain ⟨kvs, h1, hf⟩ := Option.bind_eq_some_iff.mp hf
  obtain ⟨⟨r1, e1⟩, h2, hf⟩ := Option.bind_eq_some_iff.mp hf
  split at hf
  · rename_i hc
    cases hf
    obtain ⟨a, d, k1, k2, k3, k4, k5⟩ := rp.dict h1
    refine ⟨a, .dK d, k4, trivial, fun od => ?_⟩
    refine ⟨z.lock io a od d kvs, r1, e1, rp.lock od h1 k1 k2 k3 k5, rfl, rfl, h2, fun v y Fr m r ys ye so hfr => ?_⟩
    obtain ⟨ru, mu, hG⟩ := Rp.unlock rp h1 k1 k2 k3 k4 k5 m r ys (by rw [ye]; exact hc.1)
    refine ⟨r.same _ _ hG, ?_⟩
    refine q v (y.unlock io a d kvs) Fr mu ru ys (by show y.e.set io (.di kvs) = _; rw [ye]) (slDrop hG (fun b hb => upd_ne hb) hc.2 so) fun b hb => ?_
    obtain ⟨f1, f2⟩ := hfr b hb
    have f1' : upd z.H a (.frz od (.dK d)) b = none := f1
    have ne : b ≠ a := fun e => by rw [e, upd_same] at f1'; cases f1'
    rw [upd_ne ne] at f1'
    refine ⟨f1', fun j hj => ?_⟩
    have hj' : b ∈ (if j = io then [a] else y.F j) := hj
    split at hj'
    · exact ne (List.mem_singleton.mp hj')
    · exact f2 j hj'
  · cases hf⟩
/-- the keys of a locked dict -/
def lKeys (io : Nat) : LF := fun e => match e[io]? with
  | some (.dl kvs) => some (kvs.map fun kv => dK kv.1, e)
  | _ => none
theorem kv_key {K : Frg} {G : Hp} : ∀ {r : List (Key × V)} {s : List (Key × D)} {i : Nat} {k : Key} {v : V}, KvOk K G r s → r[i]? = some (k, v) → ∃ d, s[i]? = some (k, d) ∧ Dv K G v d
  | _, _, i, k, v, .nil, h => by simp at h
  | _, _, 0, k, v, .cons h t, e => by cases e; exact ⟨_, rfl, h⟩
  | _, _, i + 1, k, v, .cons h t, e => by
    obtain ⟨d, h1, h2⟩ := kv_key (i := i) t (by simpa using e)
    exact ⟨d, by simpa using h1, h2⟩
theorem dv_key {K : Frg} {G : Hp} (k : Key) : Dv K G (kV k) (dK k) := by
  cases k with
  | inl i => exact .int i
  | inr s => exact .str s
theorem itr_keys {K : Frg} {G : Hp} {a : Addr} {o : Obj} {q : List (Key × V)} {kvs : List (Key × D)} (h : G a = some (.frz o (.dK q))) (hk : KvOk K G q kvs) : Itr K (Itk a o q) G (kvs.map fun kv => dK kv.1) := by
  have hl : (kvs.map fun kv => dK kv.1).length = q.length := by rw [List.length_map, kvLen hk]
  refine ⟨_, _, by rw [hl]; exact walk_keys, fun H s => s _ _ h, fun i H x H' hi s y => ?_⟩
  obtain ⟨e, k, v, h1, h2⟩ := y
  obtain ⟨d, h3, h4⟩ := kv_key hk h1
  refine .inl ⟨e, dK k, by rw [List.getElem?_map, h3]; rfl, ?_⟩
  rw [h2]; exact dv_key k
theorem fi_keys {tg : Expr} (io : Nat) {x : Str} {p : Pos} (hN : X.N[io]? = some x := by rfl) (hv : Vis X.env.scope x := by first | exact Or.inl rfl | exact Or.inr (Or.inl rfl) | exact Or.inr (Or.inr rfl)) (hd : (x == ("__debug__" : Str)) = false := by decide) (hcd : (x == ("__classdict__" : Str)) = false := by decide) : FI X tg (.Name x p) (lKeys io) :=
  ⟨PI.imp (pi_keys (pe_var hN hv hd hcd)) fun σ H R ⟨z, ds, e', rp, hs, hH, hf, q⟩ => by
    subst hs hH
    unfold lKeys at hf
    split at hf
    · rename_i kvs hq
      cases hf
      obtain ⟨h0, a, r, o, h1, h2, h3⟩ := rp.ok io _ hq
      exact ⟨.ref a, joinSome h1, a, o, rfl, .inl ⟨r, rp.same _ _ h2, q _ z (Mv.refl z) rp rfl rfl (itr_keys h2 h3)⟩⟩
    · cases hf⟩
/-! ### displays -/
inductive PrOk (K : Frg) (G : Hp) : List (V × V) → List (D × D) → Prop
  | nil : PrOk K G [] []
  | cons {u v : V} {c d : D} {r : List (V × V)} {s : List (D × D)} : Dv K G u c → Dv K G v d → PrOk K G r s → PrOk K G ((u, v) :: r) ((c, d) :: s)
abbrev PrF := Ev → Option (List (D × D) × Ev)
def tPr (K : Frg) (g : PrF) (σ : L2.St) (H : Hp) (Q : List (V × V) → Hp → Prop) : Prop := ∃ z ds e', Rp K z ∧ z.s = σ ∧ z.H = H ∧ g z.e = some (ds, e') ∧ ∀ ps y, Mv z y → Rp K y → y.s = σ → y.e = e' → PrOk K y.G ps ds → Q ps y.H
structure FPs (X : Cx) (pos : Pos) (keys : List (Option Expr)) (values : List Expr) (g : PrF) : Prop where
  ex : ∃ trs, PPs X pos keys values trs ∧ ∀ σ H Q, tPr X.K g σ H Q → tPairs trs σ H Q
def prNil : PrF := fun e => some ([], e)
def prCons (fk fv : EF) (g : PrF) : PrF := fun e => (fk e).bind fun p => (fv p.2).bind fun q => (g q.2).map fun r => ((p.1, q.1) :: r.1, r.2)
theorem fps_nil : FPs X pos [] [] prNil := ⟨[], pps_nil, fun σ H Q ⟨z, ds, e', rp, hs, hH, hf, q⟩ => by
  subst hs hH
  cases hf
  exact q [] z (Mv.refl z) rp rfl rfl .nil⟩
theorem fps_cons {k v : Expr} {ks : List (Option Expr)} {vs : List Expr} {fk fv : EF} {g : PrF} (hk : FE X k fk) (hv : FE X v fv) (hr : FPs X pos ks vs g) : FPs X pos (some k :: ks) (v :: vs) (prCons fk fv g) := by
  obtain ⟨trs, h1, h2⟩ := hr.ex
  refine ⟨_, pps_cons hk.pe hv.pe h1, fun σ H Q ⟨z, ds, e', rp, hs, hH, hf, q⟩ => ?_⟩
  subst hs hH
  obtain ⟨⟨c, e1⟩, f1, hf⟩ := Option.bind_eq_some_iff.mp hf
  obtain ⟨⟨d, e2⟩, f2, hf⟩ := Option.bind_eq_some_iff.mp hf
  obtain ⟨⟨r, e3⟩, f3, hf⟩ := Option.map_eq_some_iff.mp hf
  cases hf
  refine ⟨z, c, e1, rp, rfl, rfl, f1, fun u y m ry sy ey pu => ⟨y, d, e2, ry, sy, rfl, by rw [ey]; exact f2, fun w y2 m2 ry2 sy2 ey2 pw => ?_⟩⟩
  refine h2 _ _ _ ⟨y2, r, e3, ry2, sy2, rfl, by rw [ey2]; exact f3, fun ps y3 m3 ry3 sy3 ey3 pp => ?_⟩
  exact q _ y3 ((m.trans m2).trans m3) ry3 sy3 ey3 (.cons (dvMono (m2.trans m3).g _ _ pu) (dvMono m3.g _ _ pw) pp)
def keysD : List (D × D) → Option (List (Key × D))
  | [] => some []
  | (c, d) :: r => (keyD c).bind fun k => (keysD r).map fun s => (k, d) :: s
def mergeD (kvs more : List (Key × D)) : List (Key × D) := more.foldl (fun acc kv => putD acc kv.1 kv.2) kvs
theorem keys_ok {K : Frg} {G : Hp} : ∀ {ps : List (V × V)} {ds : List (D × D)} {kvs : List (Key × D)}, PrOk K G ps ds → keysD ds = some kvs → ∃ r : List (Key × V), ps = r.map (fun kv => (kV kv.1, kv.2)) ∧ KvOk K G r kvs
  | _, _, _, .nil, h => by cases h; exact ⟨[], rfl, .nil⟩
  | _, _, _, .cons (v := v) h1 h2 t, h => by
    obtain ⟨k, e1, h⟩ := Option.bind_eq_some_iff.mp h
    obtain ⟨s, e2, h⟩ := Option.map_eq_some_iff.mp h
    cases h
    obtain ⟨r, e3, e4⟩ := keys_ok t e2
    exact ⟨(k, v) :: r, by rw [keyV e1 h1, e3]; rfl, .cons h2 e4⟩
theorem kv_merge {K : Frg} {G : Hp} : ∀ {r : List (Key × V)} {s : List (Key × D)} {r0 : List (Key × V)} {s0 : List (Key × D)}, KvOk K G r s → KvOk K G r0 s0 → KvOk K G (mergeK r0 r) (mergeD s0 s)
  | _, _, _, _, .nil, h => h
  | _, _, r0, s0, .cons (k := k) (v := v) (d := d) (r := r) (s := s) h t, h0 => by
    show KvOk K G (mergeK (putK r0 k v) r) (mergeD (putD s0 k d) s)
    exact kv_merge t (kv_put k h h0)
def oDisp (g : PrF) : OF := fun e => (g e).bind fun p => (keysD p.1).bind fun kvs => if kvs.length ≤ 15 then some (.di (mergeD [] kvs), p.2) else none
theorem new_dict {K : Frg} {z y : Z} {p : Addr} {o o' : HO} (r : Rp K y) (h1 : y.H p = some o') (h2 : y.G p = none) (h3 : ∀ j, p ∉ y.F j) (m : Mv z y) (hn : z.H p = none) : Rp K { y with H := upd y.H p o } ∧ Mv z { y with H := upd y.H p o } := r.write h1 h2 h3 m hn
theorem fo_disp {keys : List (Option Expr)} {values : List Expr} {g : PrF} (h : FPs X pos keys values g) (hall : keys.all (·.isSome) = true := by rfl) (hl : keys.length = values.length := by rfl) (h0 : keys ≠ [] := by exact nofun) (h15 : keys.length ≤ 15 := by decide) : FO X (.Dict keys values pos) (oDisp g) := by
  obtain ⟨trs, h1, h2⟩ := h.ex
  refine ⟨PE.imp (pe_disp h1 hall hl h0 h15) fun σ H Q ⟨z, r0, e', rp, hs, hH, hf, q⟩ => ?_⟩
  subst hs hH
  obtain ⟨⟨ds, e1⟩, f1, hf⟩ := Option.bind_eq_some_iff.mp hf
  obtain ⟨kvs, f2, hf⟩ := Option.bind_eq_some_iff.mp hf
  split at hf
  · rename_i hc
    cases hf
    intro p hn
    obtain ⟨rn, mn⟩ := rp.new (o := .dK []) hn
    obtain ⟨fG, fF⟩ := rp.fresh hn
    refine h2 _ _ _ ⟨z.new p (.dK []), ds, e1, rn, rfl, rfl, f1, fun ps y m r sy ey pp => ?_⟩
    have hp : y.H p = some (.dK []) := m.out p _ (show upd z.H p _ p = _ from upd_same) fF
    have hpG : y.G p = none := (m.gn p (show upd z.H p _ p ≠ none by rw [upd_same]; exact nofun) fF).trans fG
    have hpF : ∀ j, p ∉ y.F j := fun j hj => (m.fn j p hj).elim (fF j) fun h => by
      have h' : upd z.H p (.dK []) p = none := h
      rw [upd_same] at h'; cases h'
    obtain ⟨r', e3, e4⟩ := keys_ok pp f2
    obtain ⟨r5, m5⟩ := r.write (o := .dK (mergeK [] r')) hp hpG hpF (mn.trans m) hn
    refine ⟨hp, r', e3, by rw [kvLen e4]; exact hc, ?_⟩
    refine q (.ref p) { y with H := upd y.H p (.dK (mergeK [] r')) } [p] m5 r5 sy ey ⟨p, mergeK [] r', rfl, rfl, hpG, upd_same, kv_merge e4 .nil⟩ fun b hb => ?_
    rw [List.mem_singleton.mp hb]
    exact ⟨hn, hpF⟩
  · cases hf
def oDnew : OF := fun e => some (.di [], e)
theorem fo_dnew : FO X (.Dict [] [] pos) oDnew := ⟨PE.imp pe_dnewK fun σ H Q ⟨z, r0, e', rp, hs, hH, hf, q⟩ => by
  subst hs hH
  cases hf
  intro p hn
  obtain ⟨rn, mn⟩ := rp.new (o := .dK []) hn
  obtain ⟨fG, fF⟩ := rp.fresh hn
  refine q (.ref p) (z.new p (.dK [])) [p] mn rn rfl rfl ⟨p, [], rfl, rfl, fG, upd_same, .nil⟩ fun b hb => ?_
  rw [List.mem_singleton.mp hb]
  exact ⟨hn, fF⟩⟩
end
end Fl

set_option Elab.async false
set_option linter.all false
set_option maxRecDepth 100000
set_option maxHeartbeats 1000000
set_option autoImplicit false
/-! FnMinP: min of a list of pairs of ints. -/
namespace Fl
open PySem PySem.Spec PyProof.Rows L2 PySem.W
def isPr : D → Bool
  | .tuple [.int _, .int _] => true
  | _ => false
theorem isPr_ex {d : D} (h : isPr d = true) : ∃ a b : Int, d = .tuple [.int a, .int b] := by
  unfold isPr at h
  split at h
  · exact ⟨_, _, rfl⟩
  · cases h
theorem pr_lay {ds : List D} (h : ds.all isPr = true) : PyData.canLayAll0 ds = true ∧ PyData.depthAll ds ≤ 1 := by
  induction ds with
  | nil => exact ⟨by rw [PyData.canLayAll0], by rw [PyData.depthAll]; omega⟩
  | cons d ds ih =>
    obtain ⟨h1, h2⟩ := Bool.and_eq_true_iff.mp h
    obtain ⟨a, b, rfl⟩ := isPr_ex h1
    obtain ⟨k1, k2⟩ := ih h2
    refine ⟨?_, ?_⟩
    · rw [PyData.canLayAll0, k1]; simp [PyData.canLay0, PyData.canLayAll0]
    · rw [PyData.depthAll]; simp [PyData.depth, PyData.depthAll]; omega
theorem pr_alike {ds : List D} (h : ds.all isPr = true) : AlikeAll ds := by
  refine ⟨fun x hx y hy => ?_, fun x hx => ?_⟩
  · obtain ⟨a, b, rfl⟩ := isPr_ex (List.all_eq_true.mp h x hx)
    obtain ⟨c, d, rfl⟩ := isPr_ex (List.all_eq_true.mp h y hy)
    simp [alike, alikeAll]
  · obtain ⟨a, b, rfl⟩ := isPr_ex (List.all_eq_true.mp h x hx)
    exact nofun
theorem minD_mem : ∀ (x : D) (xs : List D), minD x xs ∈ x :: xs := by
  intro x xs
  unfold minD
  induction xs generalizing x with
  | nil => exact List.mem_singleton.mpr rfl
  | cons y ys ih =>
    rw [List.foldl_cons]
    rcases List.mem_cons.mp (ih (if dataLt y x = true then y else x)) with h | h
    · rw [h]
      split
      · exact List.mem_cons_of_mem _ List.mem_cons_self
      · exact List.mem_cons_self
    · exact List.mem_cons_of_mem _ (List.mem_cons_of_mem _ h)
theorem canLay_mem {d : D} : ∀ {ds : List D}, PyData.canLayAll0 ds = true → d ∈ ds → d.canLay0 = true
  | [], _, h => nomatch h
  | e :: ds, h, hd => by
    rw [PyData.canLayAll0, Bool.and_eq_true] at h
    rcases List.mem_cons.mp hd with rfl | hd
    · exact h.1
    · exact canLay_mem h.2 hd
def rMinQ (K : PySem.W.Frag) : List V → Hp → VK → Prop := fun vs H Q => ∃ (a : Addr) (ys : List V) (x : D) (xs : List D), vs = [V.ref a] ∧ SqL K H a ys ∧ DpAll K H ys (x :: xs) ∧ (x :: xs).all isPr = true ∧ ∀ (i : Nat) v, ys[i]? = some v → (x :: xs)[i]? = some (minD x xs) → Q v H
theorem valsGetR : ∀ {xs : List V} {us : List Value} {i : Nat} {u : Value}, Vals xs us → us[i]? = some u → ∃ x, xs[i]? = some x ∧ RelV x u := by
  intro xs us i u h
  induction h generalizing i with
  | nil => intro e; simp at e
  | cons r rs ih =>
    intro e
    cases i with
    | zero => cases e; exact ⟨_, rfl, r⟩
    | succ i => exact ih (by simpa using e)
theorem readsAll_nth {h : Heap} : ∀ {vs : List Value} {xs : List PyData} {as : List Addr}, ReadsAll h vs xs as → ∀ (i : Nat) (v : Value), vs[i]? = some v → ∃ d bs, xs[i]? = some d ∧ Reads h v d bs
  | _, _, _, .nil, _, _, hv => by simp at hv
  | _, _, _, .cons r rs, 0, v, hv => by cases hv; exact ⟨_, _, rfl, r⟩
  | _, _, _, .cons r rs, i + 1, v, hv => by
    obtain ⟨d, bs, h1, h2⟩ := readsAll_nth rs i v (by simpa using hv)
    exact ⟨d, bs, by simpa using h1, h2⟩
theorem cr_minQ {X : Cx} {k : Nat} (c : Cc X k) : CallR X (.builtin "min") (rMinQ X.K) := by
  intro pins s σ H vs us Q I r h
  obtain ⟨a, ys, x, xs, rfl, hs, hd, hp, q⟩ := h
  obtain ⟨its, rv, hl, _⟩ := I.list hs
  rw [Vals.ref1 r]
  obtain ⟨as, hr⟩ := Dp.readsAll I (x :: xs) ys its hd rv
  obtain ⟨l1, l2⟩ := pr_lay hp
  refine min_list_data (I.ok.hd c.calm) hl.isList (show ReadsAll s.heap its.toArray.toList (x :: xs) as from hr) (pr_alike hp) (by have := c.room.un; omega) fun i v h' tk bs hi hr' hk => ?_
  have hi' : its[i]? = some v := by simpa using hi
  obtain ⟨y, hy, ry⟩ := valsGetR rv hi'
  obtain ⟨d, bs2, e1, e2⟩ := readsAll_nth hr i v hi'
  have hd1 : d.canLay0 = true := canLay_mem l1 (List.mem_of_getElem? e1)
  have hd2 : (minD x xs).canLay0 = true := canLay_mem l1 (minD_mem x xs)
  have f1 := SeqAt.readOf_eq hd1 (reads_keeps hk e2)
  have f2 := SeqAt.readOf_eq hd2 hr'
  rw [f1] at f2
  exact ⟨y, H, I.kept hk, ry, q i y hy (by rw [e1, f2])⟩
def dMinQ : D → Option D
  | .list (x :: xs) => if (x :: xs).all isPr = true then some (minD x xs) else none
  | _ => none
section
variable {X : Cx} {pos : Pos}
theorem fe_minQ {k : Nat} {a : Expr} {p : Pos} {f : EF} (c : Cc X k) (ha : FB X a f) (hm : X.mg "min" = none) (hg : Gl X "min" := by rfl) (he : starEach [a] X.env = (false, eval a X.env) :: starEach [] X.env := by rfl) : FE X (.Call (.Name "min" p) [a] [] pos) (eUn dMinQ f) :=
  fe_call1 (cr_minQ c) (fun x d G H vx Q e s h q _ => by
    unfold dMinQ at e
    split at e
    · rename_i y ys
      split at e
      · rename_i hp
        cases e
        obtain ⟨b, vs, rfl, h3, h4⟩ := vwLst s h
        refine ⟨b, vs, y, ys, rfl, SqL.of h3, DvAll.dp _ _ (dvMonoAll s _ _ h4), hp, fun i v h5 h6 => q v ?_⟩
        obtain ⟨v', e1, e2⟩ := dvAll_get h4 h6
        rw [h5] at e1
        cases e1
        exact e2
      · cases e
    · cases e) hg hm (by decide +kernel) ha (by decide) (by decide) he
end
end Fl

set_option Elab.async false
set_option linter.all false
set_option maxRecDepth 100000
set_option maxHeartbeats 1000000
set_option autoImplicit false
/-! FnNev: what the rules do not cover: no value (such places are never reached). -/
namespace Fl
open PySem PySem.Spec PyProof.Rows L2
def eNever : EF := fun _ => none
def bNever : BF := fun _ => none
section
variable {X : Cx}
theorem fe_never {e : Expr} : FE X e eNever := ⟨⟨fun pins s σ H Q I ⟨_, _, _, _, _, _, h, _⟩ => nomatch h⟩⟩
theorem ft_never {e : Expr} : FT X e bNever := ⟨⟨fun pins s σ H Q I ⟨_, _, _, _, _, _, h, _⟩ => nomatch h⟩⟩
end
end Fl

set_option Elab.async false
set_option linter.all false
set_option maxRecDepth 100000
set_option maxHeartbeats 4000000
set_option autoImplicit false
/-! FnSet: sorted(set(a list of ints)). -/
namespace Fl
open PySem PySem.Spec PyProof.Rows L2
section
variable {P : Program} {w : World} {A : Around} {E : Value → Shared → Prop} {s : Shared}
set_option maxHeartbeats 3200000 in
theorem set_lst {l : Addr} {items : Array Value} (ns : List Int) {Q : Value → Shared → Prop} (hh : A.handled = none) (hl : s.heap.IsList l items) (hit : IntsAre items.toList ns) (hb : ns.length + 1 < scanBound)
    (h : ∀ (h' : Heap) (tk c : Nat), SetR w h' s.heap.objs.size (fun j => decide (j ∈ ns)) c → c ≤ ns.length → (∀ b o, s.heap.get? b = some o → h'.get? b = some o) → Q (.ref s.heap.objs.size) { s with heap := h', toks := tk }) :
    wpAny (model P w) A (call (.type "set") [.ref l]) Q E s := by
  have hisz : items.size = ns.length := by
    have q := IntsAre.length hit
    rw [Array.length_toList] at q
    exact q
  obtain ⟨c, tl, hmro⟩ := F.called_set.mro
  have hmade := F.called_set.made
  have hsub := F.called_set.sub
  refine wpAny_call (codeAny_of_tree ?_)
  show wpAny _ _ (callAny (.type "set") _) _ _ _
  refine wpAny_pure ⟨Code.quiet_builtin _ (by decide +kernel), codeAny_builtin F.entry_type_call ?_⟩
  rw [Around.under_plain (weight_type_call_type "set" [.ref l] []) rfl]
  have h1 := F.called_set.notType
  have h2 := F.called_set.canCreate
  have hct := F.typeCall_set_1 (.ref l)
  repeat (any_goals (first | assumption | wp_step))
  refine codeAny_mono (code_set_led1 (.ref l) (E := E) (Q₁ := fun obj s₁ => obj = .ref s.heap.objs.size ∧ s₁ = { s with heap := s.heap.push { cls := .type "set", dict := none, data := .set #[] 0 (.fresh 0 0 (!w.params.followText "set-order")) } }) ⟨rfl, rfl⟩) fun r s₁ hr => ?_
  cases r with
  | error e => exact hr
  | ok fl =>
    cases fl with
    | ret obj =>
      obtain ⟨rfl, rfl⟩ := hr
      have hS : (s.heap.push ({ cls := .type "set", dict := none, data := .set #[] 0 (.fresh 0 0 (!w.params.followText "set-order")) } : Obj)).get? s.heap.objs.size = some ({ cls := .type "set", dict := none, data := .set #[] 0 (.fresh 0 0 (!w.params.followText "set-order")) } : Obj) := Heap.get?_push_size _ rfl
      have hT : Shared.TypeIs { s with heap := s.heap.push ({ cls := .type "set", dict := none, data := .set #[] 0 (.fresh 0 0 (!w.params.followText "set-order")) } : Obj) } (.ref s.heap.objs.size) "set" := ⟨_, hS, rfl⟩
      have hli := F.called_set.init.lookup
      have hbi := F.called_set.init.bind (.ref s.heap.objs.size)
      repeat (any_goals (first | assumption | wp_step))
      refine codeAny_mono (codeAny_call_builtin (R := wants (fun r s₂ => r = .none ∧ ∃ h' tk c, s₂ = { s with heap := h', toks := tk } ∧ SetR w h' s.heap.objs.size (fun j => decide (j ∈ ns)) c ∧ c ≤ ns.length ∧
          (∀ b o, s.heap.get? b = some o → h'.get? b = some o)) E) F.called_set.init.plain F.entry_set_init (check_set_init_1 hT ?_)) fun r₂ s₂ hr₂ => ?_
      · obtain ⟨ol, hol, hcl, nl, hdl⟩ := hl
        obtain ⟨ocls, odict, odata, oslots⟩ := ol
        simp only at hcl hdl
        subst hcl; subst hdl
        have hol' : (s.heap.push ({ cls := .type "set", dict := none, data := .set #[] 0 (.fresh 0 0 (!w.params.followText "set-order")) } : Obj)).get? l = some { cls := .type "list", dict := odict, data := .seq items nl, slots := oslots } := Heap.get?_push_of_some _ hol
        have hsls := F.sub_list_set
        have hslf := F.sub_list_frozenset
        have hne : (Value.type "list" == Value.type "dict") = false := by decide
        have hl1 : (s.heap.push ({ cls := .type "set", dict := none, data := .set #[] 0 (.fresh 0 0 (!w.params.followText "set-order")) } : Obj)).IsList l items := ⟨_, hol', rfl, nl, rfl⟩
        unfold Builtin.«set.__init__» noKeywords Builtin.Frozenset.updateFrom
        generalize hPI : pyIter = PI
        wp_walk
        subst hPI
        refine wpAny_pyIter_list hl1 ?_
        refine wpAny_bind (wpAny_runValue ?_)
        have hlS : l < s.heap.objs.size := Heap.lt_size hol
        have hh3 : A.in1.in1.in1.handled = none := by simp [hh]
        have hneI : l ≠ (s.heap.push ({ cls := .type "set", dict := none, data := .set #[] 0 (.fresh 0 0 (!w.params.followText "set-order")) } : Obj)).objs.size := by
          rw [Heap.size_push]; exact Nat.ne_of_lt (Nat.lt_succ_of_lt hlS)
        have hSf : s.heap.objs.size ∉ [(s.heap.push ({ cls := .type "set", dict := none, data := .set #[] 0 (.fresh 0 0 (!w.params.followText "set-order")) } : Obj)).objs.size, l] := by
          rw [Heap.size_push]; simp only [List.mem_cons, List.mem_singleton, List.not_mem_nil, or_false, not_or]
          exact ⟨Nat.ne_of_lt (Nat.lt_succ_self _), Nat.ne_of_gt hlS⟩
        have hval : ∀ (i : Nat) (v : Value), items[i]? = some v → ∃ k t, ns[i]? = some k ∧ v = .int k t := fun i v hv => by
          have hi : i < ns.length := by rw [← hisz]; exact (Array.getElem?_eq_some_iff.mp hv).1
          obtain ⟨t, e⟩ := PyProof.Rows.IntsAre.int_at hit i v (by rw [Array.getElem?_toList]; exact hv)
          refine ⟨ns[i], t, List.getElem?_eq_getElem hi, ?_⟩
          rw [e, List.getD_eq_getElem?_getD, List.getElem?_eq_getElem hi] <;> rfl
        refine set_update_ints ((Walks.list hh3 _ l hneI items).toS) s.heap.objs.size
          hSf ns hisz hb hval (items.size - 0) 0 _ (by omega) (Nat.zero_le _)
          ⟨⟨_, Heap.get?_push_size _ rfl, rfl, rfl⟩, (hl1.push _)⟩ ?hS0 ?hR
        case hS0 =>
          have hget : ((s.heap.push ({ cls := .type "set", dict := none, data := .set #[] 0 (.fresh 0 0 (!w.params.followText "set-order")) } : Obj)).push { cls := .type "list_iterator", data := .fields #[.ref l, .int 0 0] }).get? s.heap.objs.size = some ({ cls := .type "set", dict := none, data := .set #[] 0 (.fresh 0 0 (!w.params.followText "set-order")) } : Obj) := Heap.get?_push_of_some _ hS
          exact ⟨0, Nat.le_refl 0, setR_new_at hget⟩
        case hR =>
          intro s' c' hm hc' hS'
          obtain ⟨h', g2, d', tk', os'⟩ := s'
          have eg : g2 = s.gens := hm.gens
          have ed : d' = s.drawn := hm.drawn
          have eo : os' = s.os := hm.os
          subst eg; subst ed; subst eo
          show wpAny _ _ _ _ _ _
          refine wpAny_pure ?_
          show wpAny _ _ (ret Value.none) _ _ _
          rw [hisz] at hc'
          refine wpAny_pure ⟨rfl, h', tk', c', rfl, hS', hc', fun b o e => ?_⟩
          have hb0 : b < s.heap.objs.size := Heap.lt_size e
          have hb1 : b ≠ s.heap.objs.size := Nat.ne_of_lt hb0
          have hb2 : b ≠ (s.heap.push ({ cls := .type "set", dict := none, data := .set #[] 0 (.fresh 0 0 (!w.params.followText "set-order")) } : Obj)).objs.size := by
            rw [Heap.size_push]; exact Nat.ne_of_lt (Nat.lt_succ_of_lt hb0)
          exact hm.heap b o (by simp only [List.mem_cons, List.mem_singleton, List.not_mem_nil, or_false, not_or]; exact ⟨hb1, hb2⟩) (Heap.get?_push_of_some _ (Heap.get?_push_of_some _ e))
      · cases r₂ with
        | error e => exact hr₂
        | ok fl₂ =>
          cases fl₂ with
          | ret r =>
            obtain ⟨rfl, h', tk, c', rfl, hS', hc', hk'⟩ := hr₂
            repeat (any_goals (first | assumption | wp_step))
            exact h _ _ _ hS' hc' hk'
          | _ => exact hr₂.elim
    | _ => exact hr.elim
end
end Fl
namespace Fl
open PySem PySem.Spec PyProof.Rows L2
def rSortSet (K : PySem.W.Frag) : V → Hp → VK → Prop := fun x H1 Q => ∃ (l : Addr) (ns : List Int), x = .ref l ∧ SqL K H1 l (ns.map V.int) ∧ ns.length < 64 ∧
  ∀ (ms : List Int) (p : Addr), ms.Pairwise (· < ·) → (∀ k : Int, k ∈ ms ↔ k ∈ ns) → H1 p = none → Q (.ref p) (upd H1 p (.lst (ms.map V.int)))
theorem pe_sortSet {X : Cx} {a : Expr} {ta : TE} {p p2 q pos : Pos} (hg : Gl X "sorted") (hm : X.mg "sorted" = none) (hg2 : Gl X "set") (hm2 : X.mg "set" = none) (ha : PE X a ta) (hc : X.calm = true)
    (na : starEach [a] X.env = (false, eval a X.env) :: starEach [] X.env) : PE X (.Call (.Name "sorted" p) [.Call (.Name "set" p2) [a] [] q] [] pos) (tUn (rSortSet X.K) ta) := by
  refine ⟨fun pins s σ H Q I h => ?_⟩
  refine Call_ (ld_blt I hg hm (by decide +kernel : bootBuiltins "sorted" = some (.builtin "sorted")) ?_)
  refine PyProof.Rows.callWith_builtin1 (PyProof.Rows.args_cons ?_ rfl) rfl rfl
  refine Call_ (ld_blt I hg2 hm2 boot_set ?_)
  refine PyProof.Rows.callWith_type1 (PyProof.Rows.args_cons (thn (ha.run pins s σ H _ I h) fun v s1 ⟨x, H1, I1, r1, q1⟩ => PyProof.Rows.args_nil ?_) na) na rfl
  obtain ⟨l, ns, rfl, hq, hl, q1⟩ := q1
  cases r1
  obtain ⟨its, r, pl, hz⟩ := I1.list hq
  refine set_lst ns (I1.ok.hd hc) pl.isList (by simpa using r.ints) (by unfold scanBound; omega) fun h' tk c hS hcl hk => ?_
  refine PyProof.Rows.args_nil ?_
  have I2 : Inv X pins σ H1 { s1 with heap := h', toks := tk } := I1.kept fun b o e => hk b o e
  refine sorted_set (s := { s1 with heap := h', toks := tk }) hS (I2.ok.hd hc) (by omega) fun s' p out c' ms k g o hp hgt hi hs hmem hlen => ?_
  have hlm : (ms.map V.int).length ≤ sizeLine := by rw [List.length_map, hlen, sizeLine_eq]; omega
  have hn : H1 p = none := I2.hok.fresh hp
  have J : Inv X pins σ (upd H1 p (.lst (ms.map V.int))) { ({ s1 with heap := h', toks := tk } : Shared) with heap := s'.heap, gens := s'.gens, drawn := s'.drawn, toks := s'.toks } :=
    I2.call (ch := []) (Un.laid k hp hn) (I2.hok.laid k hp ⟨hlm, out.toList, c', vals_of_ints hi, hgt⟩) (by rw [g]; exact I2.bare) (fun _ z => nomatch z)
  have e : s' = { ({ s1 with heap := h', toks := tk } : Shared) with heap := s'.heap, gens := s'.gens, drawn := s'.drawn, toks := s'.toks } := by
    cases s'
    cases s1
    cases o
    rfl
  rw [e]
  exact ⟨.ref p, _, J, rfl, q1 ms p hs (fun k => by rw [hmem k]; exact decide_eq_true_iff) hn⟩
/-- the different ones -/
def ded : List Int → List Int
  | [] => []
  | x :: xs => if x ∈ xs then ded xs else x :: ded xs
theorem ded_mem : ∀ {xs : List Int} {k : Int}, k ∈ ded xs ↔ k ∈ xs
  | [], k => Iff.rfl
  | x :: xs, k => by
    unfold ded
    split
    · rename_i h
      rw [ded_mem, List.mem_cons]
      exact ⟨.inr, fun z => z.elim (fun e => e ▸ h) id⟩
    · rw [List.mem_cons, List.mem_cons, ded_mem]
theorem ded_nodup : ∀ xs : List Int, (ded xs).Nodup
  | [] => List.nodup_nil
  | x :: xs => by
    unfold ded
    split
    · exact ded_nodup xs
    · rename_i h; exact List.nodup_cons.mpr ⟨fun z => h (ded_mem.mp z), ded_nodup xs⟩
def setI (ns : List Int) : List Int := sortI (ded ns)
theorem setI_mem {ns : List Int} {k : Int} : k ∈ setI ns ↔ k ∈ ns := by unfold setI; rw [(sortI_perm _).mem_iff, ded_mem]
theorem setI_lt (ns : List Int) : (setI ns).Pairwise (· < ·) := by
  have h1 := sortI_pair (ded ns)
  have h2 : (sortI (ded ns)).Nodup := (sortI_perm _).nodup_iff.mpr (ded_nodup ns)
  exact (h1.and h2).imp fun ⟨a, b⟩ => by omega
theorem asc_uniq : ∀ {xs ys : List Int}, xs.Pairwise (· < ·) → ys.Pairwise (· < ·) → (∀ k, k ∈ xs ↔ k ∈ ys) → xs = ys
  | [], [], _, _, _ => rfl
  | [], y :: ys, _, _, h => absurd ((h y).mpr List.mem_cons_self) (by simp)
  | x :: xs, [], _, _, h => absurd ((h x).mp List.mem_cons_self) (by simp)
  | x :: xs, y :: ys, hx, hy, h => by
    obtain ⟨x1, x2⟩ := List.pairwise_cons.mp hx
    obtain ⟨y1, y2⟩ := List.pairwise_cons.mp hy
    have e : x = y := by
      rcases List.mem_cons.mp ((h x).mp List.mem_cons_self) with e | e
      · exact e
      · rcases List.mem_cons.mp ((h y).mpr List.mem_cons_self) with e' | e'
        · exact e'.symm
        · have := y1 x e; have := x1 y e'; omega
    subst e
    rw [asc_uniq x2 y2 fun k => ⟨fun hk => (List.mem_cons.mp ((h k).mp (List.mem_cons_of_mem _ hk))).elim (fun e => by have := x1 k hk; omega) id,
      fun hk => (List.mem_cons.mp ((h k).mpr (List.mem_cons_of_mem _ hk))).elim (fun e => by have := y1 k hk; omega) id⟩]
theorem setI_of {ms ns : List Int} (h : ms.Pairwise (· < ·)) (k : ∀ x, x ∈ ms ↔ x ∈ ns) : ms = setI ns :=
  asc_uniq h (setI_lt ns) fun x => (k x).trans setI_mem.symm
def dSortSet : D → Option (List D)
  | .list xs => (asInts xs).bind fun ns => if ns.length < 64 then some ((setI ns).map PyData.int) else none
  | _ => none
section
variable {X : Cx} {pos : Pos}
theorem fo_sortSet {k : Nat} {a : Expr} {p p2 q : Pos} {f : EF} (c : Cc X k) (ha : FB X a f) (hm : X.mg "sorted" = none) (hm2 : X.mg "set" = none) (hg : Gl X "sorted" := by rfl) (hg2 : Gl X "set" := by rfl) (na : starEach [a] X.env = (false, eval a X.env) :: starEach [] X.env := by rfl) :
    FO X (.Call (.Name "sorted" p) [.Call (.Name "set" p2) [a] [] q] [] pos) (oUn dSortSet f) :=
  ⟨PE.imp (pe_sortSet hg hm hg2 hm2 ha.pb c.calm na) fun σ H Q h => unL_run (r := rSortSet X.K) (fun x ds G H vx Q e s h q => by
    unfold dSortSet at e
    split at e
    · obtain ⟨ns, h1, h2⟩ := Option.bind_eq_some_iff.mp e
      split at h2
      · rename_i h64
        cases h2
        obtain ⟨b, vs, rfl, h3, h4⟩ := vwLst s h
        obtain ⟨e1, e2⟩ := asInts_ok h1 h4
        subst e1
        refine ⟨b, ns, rfl, SqL.of h3, h64, fun ms p hp hr hn => ?_⟩
        rw [setI_of hp hr]
        exact q p _ hn (dvAll_ints _)
      · cases h2
    · cases e) h⟩
end
end Fl

set_option Elab.async false
set_option linter.all false
set_option maxRecDepth 100000
set_option maxHeartbeats 1000000
set_option autoImplicit false
/-! FnDcomp: dict comprehensions; the keys of an own dict as a list. -/
namespace Fl
open PySem PySem.Spec PyProof.Rows L2
def compK (t : GF) (c : BF) (fk fv : EF) (vs : List Nat) : List D → List (Key × D) → Ev → Option (List (Key × D) × Ev)
  | [], acc, e => some (acc, e)
  | d :: ds, acc, e => (t d e).bind fun e1 => (c e1).bind fun p => if p.1 = true then (fk p.2).bind fun q => (keyD q.1).bind fun k => (fv q.2).bind fun r => compK t c fk fv vs ds (putD acc k r.1) (wipeE r.2 vs) else compK t c fk fv vs ds acc (wipeE p.2 vs)
def oDcomp (g : LF) (t : GF) (c : BF) (fk fv : EF) (vs : List Nat) : OF := fun e => (g e).bind fun p => if p.1.length ≤ sizeLine ∧ (vs.all fun i => !isOw p.2[i]?) = true then (compK t c fk fv vs p.1 [] (wipeE p.2 vs)).map fun r => (.di r.1, backE p.2 r.2 vs) else none
section
variable {X : Cx} {pos : Pos}
theorem dc_run {K : Frg} {J : It} {y0 : Z} {ds : List D} {t : GF} {ws vs : List Nat} {c : BF} {fk fv : EF} {xs : List (Key × D)} {eN : Ev} {D0 : Addr} {Qd : Hp → Prop} {σ : L2.St}
    (r0 : Rp K y0) (hσ : L2.wipe σ vs = y0.s) (he : ∀ i ∈ vs, i < y0.e.length → y0.e[i]? = some .no) (hJ : Itr K J y0.G ds) (hws : ∀ j ∈ ws, j ∈ vs) (hlen : ds.length ≤ sizeLine) (hD : y0.H D0 = none)
    (hc : compK t c fk fv vs ds [] y0.e = some (xs, eN))
    (hd : ∀ y ws', Mv y0 y → Rp K y → y.s = y0.s → y.e = eN → y.H D0 = some (.dK ws') → y.G D0 = none → (∀ j, D0 ∉ y.F j) → KvOk K y.G ws' xs → (∀ i ∈ vs, i < y.e.length → y.e[i]? = some .no) → Qd y.H) :
    ∃ W : Nat → Nat → Hp → Prop, (∃ m, W 0 m (upd y0.H D0 (.dK []))) ∧ ∀ i m H, W i m H →
      (J.stop i H ∧ Qd H) ∨ (J.go i H ∧ ∃ Nx : Hp → Prop, (∀ H', Nx H' → ∃ m', m' < m ∧ W (i + 1) m' H') ∧ ∀ x H', J.yld i H x H' → tG K t ws x (L2.wipe σ vs) H' fun σ2 H2 => L2.wipe σ2 vs = L2.wipe σ vs ∧ tT K c σ2 H2 fun b H3 =>
        if b = true then tE K fk σ2 H3 fun y H4 => tE K fv σ2 H4 fun u H5 => ∃ kvs k, y = kV k ∧ H5 D0 = some (.dK kvs) ∧ kvs.length < sizeLine ∧ Nx (upd H5 D0 (.dK (putK kvs k u))) else Nx H3) := by
  obtain ⟨Gd, Y, w, hG1, hG2⟩ := hJ
  obtain ⟨rn, mn⟩ := r0.new (o := .dK []) hD
  have hvs : ∀ i ∈ vs, isOw y0.e[i]? = false := fun i hi => by
    by_cases hl : i < y0.e.length
    · rw [he i hi hl]; rfl
    · rw [List.getElem?_eq_none (by omega)]; rfl
  suffices hh : ∃ Pv : Nat → Hp → Prop, Pv 0 (upd y0.H D0 (.dK [])) ∧ (∀ i H, i ≤ ds.length → Pv i H → Gd H) ∧ (∀ i x H H', i < ds.length → Pv i H → Y i H x H' → tG K t ws x (L2.wipe σ vs) H' fun σ2 H2 => L2.wipe σ2 vs = L2.wipe σ vs ∧ tT K c σ2 H2 fun b H3 =>
      if b = true then tE K fk σ2 H3 fun y H4 => tE K fv σ2 H4 fun u H5 => ∃ kvs k, y = kV k ∧ H5 D0 = some (.dK kvs) ∧ kvs.length < sizeLine ∧ Pv (i + 1) (upd H5 D0 (.dK (putK kvs k u))) else Pv (i + 1) H3) ∧ ∀ H, Pv ds.length H → Qd H by
    obtain ⟨Pv, h0, hG, hs, hd⟩ := hh
    refine ⟨fun i m H => m = ds.length - i ∧ i ≤ ds.length ∧ Pv i H, ⟨ds.length, by simp, Nat.zero_le _, h0⟩, ?_⟩
    rintro i m H ⟨rfl, hi, p⟩
    have q := hG i H hi p
    by_cases hlt : i < ds.length
    · refine .inr ⟨w.goes i H hlt q, Pv (i + 1), fun H' p' => ⟨ds.length - (i + 1), by omega, rfl, hlt, p'⟩, fun x H' y => hs i x H H' hlt p (w.yields i H x H' hlt q y)⟩
    · have e : i = ds.length := by omega
      subst e
      exact .inl ⟨w.stops H q, hd H p⟩
  refine ⟨(fun i H => ∃ y acc don, y.H = H ∧ Rp K y ∧ y.s = y0.s ∧ Mv y0 y ∧ y.H D0 = some (.dK acc) ∧ y.G D0 = none ∧ (∀ j, D0 ∉ y.F j) ∧ KvOk K y.G acc don ∧ acc.length ≤ i ∧
    (∀ i ∈ vs, i < y.e.length → y.e[i]? = some .no) ∧ compK t c fk fv vs (ds.drop i) don y.e = some (xs, eN)), ?_, ?_, ?_, ?_⟩
  · exact ⟨y0.new D0 (.dK []), [], [], rfl, rn, rfl, mn, upd_same, (r0.fresh hD).1, (r0.fresh hD).2, .nil, Nat.le_refl _, he, hc⟩
  · rintro i H hi ⟨y, acc, don, rfl, r, _, m, _⟩
    exact hG1 _ (m.g.trans r.same)
  · rintro i x H H' hi ⟨y, acc, don, rfl, r, hs, m, hD1, hD2, hD3, hA, hl, hno, hcl⟩ hy
    have hsm : Same y0.G y.H := m.g.trans r.same
    -- the state with the item
    obtain ⟨y1, d, r1, m1, s1, e1, hH1, hdi, hdv, hD1', hD2', hD3', hA'⟩ : ∃ (y1 : Z) (d : D), Rp K y1 ∧ Mv y y1 ∧ y1.s = y.s ∧ y1.e = y.e ∧ y1.H = H' ∧ ds[i]? = some d ∧ Dv K y1.G x d ∧ y1.H D0 = some (.dK acc) ∧ y1.G D0 = none ∧ (∀ j, D0 ∉ y1.F j) ∧ KvOk K y1.G acc don := by
      rcases hG2 i y.H x H' hi hsm hy with ⟨e, d, h3, h4⟩ | ⟨T, tv, es, h3, h4, h5, h6, h7⟩
      · exact ⟨y, d, r, Mv.refl y, rfl, rfl, e.symm, h3, dvMono m.g _ _ h4, hD1, hD2, hD3, hA⟩
      · obtain ⟨ra, ma⟩ := r.add (o := .tup tv) h4
        have hne : D0 ≠ T := ne_of_none hD1 h4
        refine ⟨y.add T (.tup tv), .tuple es, ra, ma, rfl, rfl, h5.symm, h6, ?_, ?_, ?_, hD3, kvMono ma.g hA⟩
        · rw [h3]
          exact .tup (SqT.of upd_same) (dvMonoAll (m.g.trans ma.g) _ _ h7)
        · show upd y.H T (.tup tv) D0 = _
          rw [upd_ne hne]; exact hD1
        · show upd y.G T (.tup tv) D0 = none
          rw [upd_ne hne]; exact hD2
    have hdrop : ds.drop i = d :: ds.drop (i + 1) := by
      obtain ⟨h1, h2⟩ := List.getElem?_eq_some_iff.mp hdi
      rw [← h2, List.drop_eq_getElem_cons h1]
    rw [hdrop] at hcl
    unfold compK at hcl
    obtain ⟨ea, ht, hcl⟩ := Option.bind_eq_some_iff.mp hcl
    obtain ⟨⟨b, eb⟩, hcc, hcl⟩ := Option.bind_eq_some_iff.mp hcl
    refine ⟨y1, d, ea, r1, by rw [s1, hs, hσ], hH1, hdv, by rw [e1]; exact ht, fun y2 m2 r2 e2 eH2 eG2 es2 => ⟨?_, ?_⟩⟩
    · rw [wipe_eq (σ := y1.s) (ws := ws) (by rw [r2.len, r1.len, m2.ln]) es2 hws, s1, hs, ← hσ, wipe_wipe]
    · have mm := (m.trans m1).trans m2
      refine ⟨y2, b, eb, r2, rfl, rfl, by rw [e2]; exact hcc, fun y3 m3 r3 s3 e3 => ?_⟩
      have keep : ∀ {p q : Z}, Mv p q → p.H D0 = some (.dK acc) → p.G D0 = none → (∀ j, D0 ∉ p.F j) → q.H D0 = some (.dK acc) ∧ q.G D0 = none ∧ (∀ j, D0 ∉ q.F j) := fun {p q} mv h1 h2 h3 =>
        ⟨mv.out _ _ h1 h3, (mv.gn _ (by rw [h1]; exact nofun) h3).trans h2, fun j hj => (mv.fn j _ hj).elim (h3 j) fun z => by rw [h1] at z; cases z⟩
      obtain ⟨k1, k2, k3⟩ := keep m2 hD1' hD2' hD3'
      obtain ⟨k1, k2, k3⟩ := keep m3 k1 k2 k3
      have hs3 : L2.wipe y3.s vs = y0.s := by
        rw [s3, wipe_eq (σ := y1.s) (ws := ws) (by rw [r2.len, r1.len, m2.ln]) es2 hws, s1, hs, ← hσ, wipe_wipe]
      cases b with
      | false =>
        have hcl' : compK t c fk fv vs (ds.drop (i + 1)) don (wipeE eb vs) = some (xs, eN) := hcl
        refine iteF ⟨y3.wipe vs, acc, don, rfl, r3.wipe vs, hs3, (mm.trans m3).wipe hvs, k1, k2, fun j hj => ?_, kvMono (m2.g.trans m3.g) hA', by omega, fun j hj hjl => ?_, ?_⟩
        · have hj' : D0 ∈ (if j ∈ vs then [] else y3.F j) := hj
          split at hj'
          · cases hj'
          · exact k3 j hj'
        · show (wipeE y3.e vs)[j]? = some .no
          rw [wipeE_get, if_pos ⟨hj, by have : j < (wipeE y3.e vs).length := hjl
                                        rw [wipeE_len] at this; exact this⟩]
        · show compK t c fk fv vs (ds.drop (i + 1)) don (wipeE y3.e vs) = some (xs, eN)
          rw [e3]; exact hcl'
      | true =>
        obtain ⟨⟨dk, ef⟩, hff, hcl⟩ := Option.bind_eq_some_iff.mp (show ((fk eb).bind fun q => (keyD q.1).bind fun k => (fv q.2).bind fun r => compK t c fk fv vs (ds.drop (i + 1)) (putD don k r.1) (wipeE r.2 vs)) = some (xs, eN) from hcl)
        obtain ⟨kk, hkk, hcl⟩ := Option.bind_eq_some_iff.mp hcl
        obtain ⟨⟨dv, eg⟩, hfv, hcr⟩ := Option.bind_eq_some_iff.mp hcl
        refine iteT ⟨y3, dk, ef, r3, s3, rfl, by rw [e3]; exact hff, fun v y4 m4 r4 s4 e4 p4 => ⟨y4, dv, eg, r4, s4, rfl, by rw [e4]; exact hfv, fun u y5 m5 r5 s5 e5 p5 => ?_⟩⟩
        obtain ⟨k1, k2, k3⟩ := keep m4 k1 k2 k3
        obtain ⟨k1, k2, k3⟩ := keep m5 k1 k2 k3
        refine ⟨acc, kk, keyV hkk p4, k1, by have := (List.getElem?_eq_some_iff.mp hdi).1; omega, ?_⟩
        -- the dict grows
        obtain ⟨r6, m6⟩ := r5.write (o := .dK (putK acc kk u)) k1 k2 k3 (((mm.trans m3).trans m4).trans m5) hD
        refine ⟨Z.wipe { y5 with H := upd y5.H D0 (.dK (putK acc kk u)) } vs, putK acc kk u, putD don kk dv, rfl, r6.wipe vs, ?_, m6.wipe hvs, upd_same, k2, fun j hj => ?_, kv_put kk p5 (kvMono (((m2.g.trans m3.g).trans m4.g).trans m5.g) hA'), by have := length_putK acc kk u; omega, fun j hj hjl => ?_, ?_⟩
        · show L2.wipe y5.s vs = y0.s
          rw [s5, ← s3]; exact hs3
        · have hj' : D0 ∈ (if j ∈ vs then [] else y5.F j) := hj
          split at hj'
          · cases hj'
          · exact k3 j hj'
        · show (wipeE y5.e vs)[j]? = some .no
          rw [wipeE_get, if_pos ⟨hj, by have : j < (wipeE y5.e vs).length := hjl
                                        rw [wipeE_len] at this; exact this⟩]
        · show compK t c fk fv vs (ds.drop (i + 1)) (putD don kk dv) (wipeE y5.e vs) = some (xs, _)
          rw [e5]; exact hcr
  · rintro H ⟨y, acc, don, rfl, r, hs, m, hD1, hD2, hD3, hA, hl, hno, hcl⟩
    rw [List.drop_length] at hcl
    unfold compK at hcl
    cases hcl
    exact hd y acc m r hs rfl hD1 hD2 hD3 hA hno
/-- what tLc asks, by a plain function -/
theorem dc_tO {K : Frg} {wi : TI} {gl : LF} {t : GF} {ws vs : List Nat} {cf : BF} {fk fv : EF} {σ : L2.St} {H : Hp} {Q : VK} (hwi : ∀ σ H R, tI K gl σ H R → wi σ H R) (hws : ∀ j ∈ ws, j ∈ vs) (q : tO K (oDcomp gl t cf fk fv vs) σ H Q) : tDc wi (tG K t ws) (tT K cf) (tE K fk) (tE K fv) vs σ H Q := by
  obtain ⟨z, r0, e', rp, hs, hH, hf, q⟩ := q
  subst hs hH
  obtain ⟨⟨ds, e1'⟩, h1, hf⟩ := Option.bind_eq_some_iff.mp hf
  split at hf
  · rename_i hc
    obtain ⟨⟨xs, eN⟩, h2, hf⟩ := Option.map_eq_some_iff.mp hf
    cases hf
    refine hwi _ _ _ ⟨z, ds, e1', rp, rfl, rfl, h1, fun J y m r s2 ee it D0 hn => ?_⟩
    have hno : ∀ i ∈ vs, isOw y.e[i]? = false := fun i hi => by
      have := List.all_eq_true.mp hc.2 i hi
      rw [ee]
      simpa using this
    have h2' : compK t cf fk fv vs ds [] (y.wipe vs).e = some (xs, eN) := by
      show compK t cf fk fv vs ds [] (wipeE y.e vs) = some (xs, eN)
      rw [ee]; exact h2
    have := dc_run (y0 := y.wipe vs) (σ := z.s) (Qd := fun H => Q (.ref D0) H) (J := J) (D0 := D0) (r.wipe vs) (by show L2.wipe z.s vs = L2.wipe y.s vs; rw [s2]) (fun i hi hl => by
        have hl' : i < (wipeE y.e vs).length := hl
        rw [wipeE_len] at hl'
        show (wipeE y.e vs)[i]? = some .no
        rw [wipeE_get, if_pos ⟨hi, hl'⟩]) (show Itr K J y.G ds from it) hws hc.1 (show y.H D0 = none from hn) h2' (fun u wl mu ru su eu hu1 hu2 hu3 hu4 hu5 => ?_)
    · exact this
    · -- back at the slots as they were
      have e1 : ∀ i : Nat, i ∉ vs → u.s[i]? = z.s[i]? := fun i hi => by
        rw [su]
        show (L2.wipe y.s vs)[i]? = z.s[i]?
        rw [wipe_get, if_neg (fun q => hi q.1), s2]
      have hlen : u.e.length = y.e.length := by
        rw [mu.ln]
        show (wipeE y.e vs).length = y.e.length
        rw [wipeE_len]
      have uF : ∀ (i : Nat) (a : Addr), a ∈ u.F i → (i ∉ vs ∧ a ∈ y.F i) ∨ y.H a = none := fun i a ha => by
        rcases mu.fn i a ha with h | h
        · have h' : a ∈ (if i ∈ vs then [] else y.F i) := h
          split at h'
          · cases h'
          · rename_i hi; exact .inl ⟨hi, h'⟩
        · exact .inr h
      have yH : ∀ (i : Nat) (a : Addr), i ∈ vs → a ∈ y.F i → u.H a = y.H a ∧ u.G a = none := fun i a hi ha => by
        obtain ⟨l1, l2⟩ := r.live ha
        have nin : ∀ j, a ∉ (y.wipe vs).F j := fun j hj => by
          have hj' : a ∈ (if j ∈ vs then [] else y.F j) := hj
          split at hj'
          · cases hj'
          · rename_i hjv
            exact r.sep i j a (fun e => hjv (e ▸ hi)) ha hj'
        refine ⟨?_, (mu.gn a l2 nin).trans l1⟩
        cases hq : y.H a with
        | none => exact absurd hq l2
        | some o => exact mu.out a o hq nin
      have ru' : Rp K { u with s := z.s, e := backE y.e u.e vs, F := fun i => if i ∈ vs then y.F i else u.F i } := by
        refine ⟨ru.same, ?_, fun i s h => ?_, fun i h => ?_, fun i j a hij hi hj => ?_⟩
        · show z.s.length = (backE y.e u.e vs).length
          rw [backE_len, ← s2, r.len, hlen]
        · have h' : (backE y.e u.e vs)[i]? = some s := h
          show SlOk K u.G u.H ((z.s[i]?).join) (if i ∈ vs then y.F i else u.F i) s
          rw [backE_get] at h'
          by_cases hi : i ∈ vs
          · rw [if_pos hi]
            by_cases hl : i < u.e.length
            · rw [if_pos ⟨hi, hl⟩] at h'
              cases hq : y.e[i]? with
              | none => rw [List.getElem?_eq_none_iff] at hq; omega
              | some sl =>
                rw [hq] at h'
                cases h'
                rw [← s2]
                exact slFrame (r.ok i _ hq) mu.g (fun a ha => (yH i a hi ha).1) fun a ha => (yH i a hi ha).2
            · rw [if_neg (fun q => hl q.2), List.getElem?_eq_none (by omega)] at h'
              cases h'
          · rw [if_neg hi]
            rw [if_neg (fun q => hi q.1)] at h'
            rw [← e1 i hi]
            exact ru.ok i s h'
        · have h' : (backE y.e u.e vs).length ≤ i := h
          rw [backE_len] at h'
          show (if i ∈ vs then y.F i else u.F i) = []
          split
          · exact r.out i (by omega)
          · exact ru.out i h'
        · have hi' : a ∈ (if i ∈ vs then y.F i else u.F i) := hi
          have hj' : a ∈ (if j ∈ vs then y.F j else u.F j) := hj
          split at hi'
          · split at hj'
            · exact r.sep i j a hij hi' hj'
            · rcases uF j a hj' with ⟨_, h⟩ | h
              · exact r.sep i j a hij hi' h
              · exact (r.live hi').2 h
          · split at hj'
            · rcases uF i a hi' with ⟨_, h⟩ | h
              · exact r.sep i j a hij h hj'
              · exact (r.live hj').2 h
            · exact ru.sep i j a hij hi' hj'
      have mz : Mv z { u with s := z.s, e := backE y.e u.e vs, F := fun i => if i ∈ vs then y.F i else u.F i } := by
        refine ⟨fun a o ha hf => ?_, fun a ha => mu.dom a (m.dom a ha), m.g.trans mu.g, fun a ha hk => (mu.gn a (m.dom a ha) fun i hi => by
          have hi' : a ∈ (if i ∈ vs then [] else y.F i) := hi
          split at hi'
          · cases hi'
          · rcases m.fn i a hi' with h | h
            · exact hk i h
            · exact ha h).trans (m.gn a ha hk), fun i a ha => ?_, fun i hi => ?_, ?_⟩
        · refine mu.out a o (m.out a o ha hf) fun i hi => ?_
          have hi' : a ∈ (if i ∈ vs then [] else y.F i) := hi
          split at hi'
          · cases hi'
          · rcases m.fn i a hi' with h | h
            · exact hf i h
            · rw [ha] at h; cases h
        · have ha' : a ∈ (if i ∈ vs then y.F i else u.F i) := ha
          split at ha'
          · exact m.fn i a ha'
          · rcases uF i a ha' with ⟨_, h⟩ | h
            · exact m.fn i a h
            · by_cases hz : z.H a = none
              · exact .inr hz
              · exact absurd h (m.dom a hz)
        · obtain ⟨k1, k2⟩ := m.kp i hi
          have hiv : i ∉ vs := fun q => by rw [hno i q] at k1; cases k1
          have k3 : isOw (y.wipe vs).e[i]? = true := by
            show isOw (wipeE y.e vs)[i]? = true
            rw [wipeE_get, if_neg (fun q => hiv q.1)]; exact k1
          refine ⟨?_, rfl⟩
          show isOw (backE y.e u.e vs)[i]? = true
          rw [backE_get, if_neg (fun q => hiv q.1)]
          exact (mu.kp i k3).1
        · show (backE y.e u.e vs).length = z.e.length
          rw [backE_len, hlen, m.ln]
      refine q (.ref D0) { u with s := z.s, e := backE y.e u.e vs, F := fun i => if i ∈ vs then y.F i else u.F i } [D0] mz ru' rfl (by show backE y.e u.e vs = backE e1' eN vs; rw [eu, ee]) ⟨D0, wl, rfl, rfl, hu2, hu1, hu4⟩ fun a ha => ?_
      rw [List.mem_singleton.mp ha]
      refine ⟨?_, fun i hi => ?_⟩
      · by_cases hz : z.H D0 = none
        · exact hz
        · exact absurd hn (m.dom D0 hz)
      · have hi' : D0 ∈ (if i ∈ vs then y.F i else u.F i) := hi
        split at hi'
        · exact (r.live hi').2 hn
        · exact hu3 i hi'
  · cases hf
theorem fo_dc {k : Nat} {kx vx tg iter : Expr} {ifs : List Expr} {scope : Scope} {own : List (Str × Nat)} {gl : LF} {t : GF} {ws vs : List Nat} {cf : BF} {fk fv : EF} (c : Cc X k) (hi : FI X tg iter gl) (ok : BlkOk X.N X.env.scope scope own)
    (hg : ∀ (s : Shared) (H : Hp) (C : Addr) (cl : List (Str × Addr)) (fp : List Addr), FG (X.blk s H scope (compEnvC scope cl C X.env) fp) tg t ws)
    (ht : ∀ (s : Shared) (H : Hp) (C : Addr) (cl : List (Str × Addr)) (fp : List Addr), FTs (X.blk s H scope (compEnvC scope cl C X.env) fp) ifs cf)
    (hk : ∀ (s : Shared) (H : Hp) (C : Addr) (cl : List (Str × Addr)) (fp : List Addr), FE (X.blk s H scope (compEnvC scope cl C X.env) fp) kx fk)
    (he : ∀ (s : Shared) (H : Hp) (C : Addr) (cl : List (Str × Addr)) (fp : List Addr), FE (X.blk s H scope (compEnvC scope cl C X.env) fp) vx fv)
    (hvs : own.map (·.2) = vs := by rfl) (hws : ∀ j ∈ ws, j ∈ vs := by decide) (hs : ∀ x, foldedSetIterable iter X.env x = pure x := by intro _; rfl) :
    FO X (.DictComp kx vx [⟨tg, iter, ifs, 0⟩] scope pos) (oDcomp gl t cf fk fv vs) := by
  subst hvs
  exact ⟨PE.imp (pe_dc c.calm c.nd hi.pi ok (fun s H C cl fp => (hg s H C cl fp).pg) (fun s H C cl fp => (ht s H C cl fp).pts) (fun s H C cl fp => (hk s H C cl fp).pe) (fun s H C cl fp => (he s H C cl fp).pe) hs) fun σ H Q q => dc_tO (fun _ _ _ h => h) hws q⟩
end
/-! ### the keys of an own dict -/
def kInts : List (Key × D) → Option (List Int)
  | [] => some []
  | (.inl i, _) :: r => (kInts r).map fun is => i :: is
  | _ => none
theorem kInts_ok {K : Frg} {G : Hp} : ∀ {r : List (Key × V)} {s : List (Key × D)} {is : List Int}, KvOk K G r s → kInts s = some is → r.map (·.1) = is.map Sum.inl
  | _, _, _, .nil, h => by cases h; rfl
  | _, _, _, .cons (k := .inl i) (s := s) hv t, h => by
    obtain ⟨is, h1, h2⟩ := Option.map_eq_some_iff.mp (show (kInts s).map (fun is => i :: is) = some _ from h)
    subst h2
    rw [List.map_cons, List.map_cons, kInts_ok t h1]
  | _, _, _, .cons (k := .inr x) hv t, h => by cases h
theorem kvKeys {K : Frg} {G : Hp} : ∀ {r : List (Key × V)} {s : List (Key × D)}, KvOk K G r s → DvAll K G (r.map fun kv => kV kv.1) (s.map fun kv => dK kv.1)
  | _, _, .nil => .nil
  | _, _, .cons (k := .inl i) hv t => .cons (.int i) (kvKeys t)
  | _, _, .cons (k := .inr x) hv t => .cons (.str x) (kvKeys t)
def oKeysL (i : Nat) : OF := fun e => (rdOf e[i]?).map fun kvs => (.li (kvs.map fun kv => dK kv.1), e)
def oKeysS (i : Nat) : OF := fun e => (rdOf e[i]?).bind fun kvs => (kInts kvs).bind fun ks => if ks.length < 64 then some (.li ((sortI ks).map PyData.int), e) else none
section
variable {X : Cx} {pos : Pos}
theorem fo_listD {k : Nat} (i : Nat) {x : Str} {p p2 : Pos} (c : Cc X k) (hm : X.mg "list" = none) (hg : Gl X "list" := by rfl) (he : starEach [.Name x p2] X.env = (false, eval (.Name x p2) X.env) :: starEach [] X.env := by rfl) (hN : X.N[i]? = some x := by rfl) (hv : Vis X.env.scope x := by first | exact Or.inl rfl | exact Or.inr (Or.inl rfl) | exact Or.inr (Or.inr rfl)) (hd : (x == ("__debug__" : Str)) = false := by decide) (hcd : (x == ("__classdict__" : Str)) = false := by decide) : FO X (.Call (.Name "list" p) [.Name x p2] [] pos) (oKeysL i) :=
  ⟨PE.imp (pe_callTy (call_listD c.calm) hg hm (by decide +kernel) (pa_cons (pe_var hN hv hd hcd) pa_nil he) (by decide) (by decide) he rfl) fun σ H Q ⟨z, d, e', rp, hs, hH, hf, q⟩ => by
    subst hs hH
    obtain ⟨kvs, h1, hf⟩ := Option.map_eq_some_iff.mp hf
    cases hf
    obtain ⟨a, r, g1, g2, g3⟩ := rp.rdd h1
    refine ⟨.ref a, g1, a, r, rfl, g2, fun p hn => ?_⟩
    obtain ⟨r3, m3, k, nf⟩ := rp.newLi hn (kvKeys g3)
    refine q _ _ [p] m3 r3 rfl rfl k fun b hb => ?_
    rw [List.mem_singleton.mp hb]
    exact ⟨hn, nf⟩⟩
theorem fo_sortD {k : Nat} (i : Nat) {x : Str} {p p2 : Pos} (c : Cc X k) (hm : X.mg "sorted" = none) (hg : Gl X "sorted" := by rfl) (he : starEach [.Name x p2] X.env = (false, eval (.Name x p2) X.env) :: starEach [] X.env := by rfl) (hN : X.N[i]? = some x := by rfl) (hv : Vis X.env.scope x := by first | exact Or.inl rfl | exact Or.inr (Or.inl rfl) | exact Or.inr (Or.inr rfl)) (hd : (x == ("__debug__" : Str)) = false := by decide) (hcd : (x == ("__classdict__" : Str)) = false := by decide) : FO X (.Call (.Name "sorted" p) [.Name x p2] [] pos) (oKeysS i) :=
  ⟨PE.imp (pe_callB (call_sortedDI c.calm) hg hm (by decide +kernel) (pa_cons (pe_var hN hv hd hcd) pa_nil he) (by decide) (by decide) he rfl) fun σ H Q ⟨z, d, e', rp, hs, hH, hf, q⟩ => by
    subst hs hH
    obtain ⟨kvs, h1, hf⟩ := Option.bind_eq_some_iff.mp hf
    obtain ⟨ks, h2, hf⟩ := Option.bind_eq_some_iff.mp hf
    split at hf
    · rename_i h64
      cases hf
      obtain ⟨a, r, g1, g2, g3⟩ := rp.rdd h1
      refine ⟨.ref a, g1, a, r, ks, rfl, g2, kInts_ok g3 h2, h64, fun ys p hp hr hn => ?_⟩
      have e := sortI_of hp hr
      subst e
      obtain ⟨r3, m3, k, nf⟩ := rp.newLi hn (dvAll_ints (K := X.K) (G := z.G) (sortI ks))
      refine q _ _ [p] m3 r3 rfl rfl k fun b hb => ?_
      rw [List.mem_singleton.mp hb]
      exact ⟨hn, nf⟩
    · cases hf⟩
end
section
variable {X : Cx}
theorem sw_trueD {kx vx : Expr} {gs : List Comprehension} {scope : Scope} {pos py : Pos} {y : Str} {l : Nat} {env : Env} (hk : env.scope.kind = .function) (hy : env.scope.names.lookup y = some .local) (hl : (py.line == pos.line) = true)
    (hn : (scope.names.any fun (n, k) => n == y && (k == .local || k == .cell)) = false) : swapsWith (.DictComp kx vx gs scope pos) (some (.Name y py)) l env = pure true :=
  sw_true (elt := kx) (gs := gs) (pos := pos) (l := l) hk hy hl hn
theorem ps_setDc {i : Nat} {y : Str} {py : Pos} {kx vx tg iter : Expr} {ifs : List Expr} {scope : Scope} {own : List (Str × Nat)} {pos spos : Pos} {wi : TI} {g : TG} {tt : TT} {tk tv : TE} (hc : X.calm = true) (hN : X.N.Nodup) (hy : X.N[i]? = some y) (hyl : X.env.scope.names.lookup y = some .local)
    (hsw : swapsWith (.DictComp kx vx [⟨tg, iter, ifs, 0⟩] scope pos) (some (.Name y py)) spos.line X.env = pure true) (hi : PI X tg iter wi) (ok : BlkOk X.N X.env.scope scope own)
    (hg : ∀ (s : Shared) (H : Hp) (C : Addr) (cl : List (Str × Addr)) (fp : List Addr), PG (X.blk s H scope (compEnvC scope cl C X.env) fp) tg g) (ht : ∀ (s : Shared) (H : Hp) (C : Addr) (cl : List (Str × Addr)) (fp : List Addr), PTs (X.blk s H scope (compEnvC scope cl C X.env) fp) ifs tt)
    (hk : ∀ (s : Shared) (H : Hp) (C : Addr) (cl : List (Str × Addr)) (fp : List Addr), PE (X.blk s H scope (compEnvC scope cl C X.env) fp) kx tk)
    (he : ∀ (s : Shared) (H : Hp) (C : Addr) (cl : List (Str × Addr)) (fp : List Addr), PE (X.blk s H scope (compEnvC scope cl C X.env) fp) vx tv) (hs : ∀ x, foldedSetIterable iter X.env x = pure x) :
    PS X (.Assign [.Name y py] (.DictComp kx vx [⟨tg, iter, ifs, 0⟩] scope pos) spos) (tAsg (tDc wi g tt tk tv (own.map (·.2))) (gName i)) := by
  refine ⟨fun pins s σ H D I h => ?_⟩
  rw [exec_Assign_Name_used _ _ _ _ hsw]
  refine wpAny_bind (wpAny_standAt (wpAny_bind ?_))
  show wpAny _ X.A (do let _ ← comprehension (.DictComp kx vx [⟨tg, iter, ifs, 0⟩] scope pos) scope X.env (firstIterPos [⟨tg, iter, ifs, 0⟩] pos) newDict false (eval iter X.env) (some (assign (.Name y py) X.env))) _ _ s
  have h : tDc wi g tt tk tv (own.map (·.2)) σ H (fun x H1 => gName i x σ H1 D.nx) := h
  refine wpAny_bind (thn (dc_core (Qf := fun _ s' => SP X pins D .next s') hc hN I hi ok hg ht hk he hs h fun L C s' m H' I' q hn f => ?_) fun _ s' hq => wpAny_pure (wpAny_pure hq))
  show wpAny _ _ (assign (.Name y py) X.env (.ref L)) _ _ _
  refine wpAny_assign_Name (store_ok2 (v := V.ref L) I' hN hy (.inl hyl) rfl (fun s2 I2 ⟨a, sb, ha⟩ => ?_) (.inr hyl))
  obtain ⟨f0, f1, f2, f3, f4, f5⟩ := f
  have haC : C ≠ a := by
    rcases ha with z | z
    · rw [z]; exact f1
    · exact fun e => f4 y a z e.symm
  refine ⟨m, hn.sameBut sb haC, fun h3 sb3 => ?_⟩
  exact ⟨_, H', I2.turned (t' := s2.toks) (fun b o hb e => (sb3.2 b hb).trans e) f0 f1 f3 f4 f5, q⟩
theorem fs_setDc {k i : Nat} {y : Str} {py pos : Pos} {kx vx tg iter : Expr} {ifs : List Expr} {scope : Scope} {own : List (Str × Nat)} {spos : Pos} {gl : LF} {t : GF} {ws vs : List Nat} {cf : BF} {fk fv : EF} (c : Cc X k) (hy : X.N[i]? = some y) (hyl : X.env.scope.names.lookup y = some .local)
    (hsw : swapsWith (.DictComp kx vx [⟨tg, iter, ifs, 0⟩] scope pos) (some (.Name y py)) spos.line X.env = pure true) (hi : FI X tg iter gl) (ok : BlkOk X.N X.env.scope scope own)
    (hg : ∀ (s : Shared) (H : Hp) (C : Addr) (cl : List (Str × Addr)) (fp : List Addr), FG (X.blk s H scope (compEnvC scope cl C X.env) fp) tg t ws)
    (ht : ∀ (s : Shared) (H : Hp) (C : Addr) (cl : List (Str × Addr)) (fp : List Addr), FTs (X.blk s H scope (compEnvC scope cl C X.env) fp) ifs cf)
    (hk : ∀ (s : Shared) (H : Hp) (C : Addr) (cl : List (Str × Addr)) (fp : List Addr), FE (X.blk s H scope (compEnvC scope cl C X.env) fp) kx fk)
    (he : ∀ (s : Shared) (H : Hp) (C : Addr) (cl : List (Str × Addr)) (fp : List Addr), FE (X.blk s H scope (compEnvC scope cl C X.env) fp) vx fv)
    (hvs : own.map (·.2) = vs := by rfl) (hws : ∀ j ∈ ws, j ∈ vs := by decide) (hs : ∀ x, foldedSetIterable iter X.env x = pure x := by intro _; rfl) :
    FS X (.Assign [.Name y py] (.DictComp kx vx [⟨tg, iter, ifs, 0⟩] scope pos) spos) (sSet i (oDcomp gl t cf fk fv vs)) := by
  subst hvs
  exact fs_of (ps_setDc c.calm c.nd hy hyl hsw hi.pi ok (fun s H C cl fp => (hg s H C cl fp).pg) (fun s H C cl fp => (ht s H C cl fp).pts) (fun s H C cl fp => (hk s H C cl fp).pe) (fun s H C cl fp => (he s H C cl fp).pe) hs) fun D z o r h q => dc_tO (fun _ _ _ h => h) hws (set_go (D := D) r h q)
end
end Fl

set_option Elab.async false
set_option linter.all false
set_option maxRecDepth 100000
set_option maxHeartbeats 1000000
set_option autoImplicit false
/-! FnAug: xs[i] += e and xs[i] -= e on own lists. -/
namespace Fl
open PySem PySem.Spec PyProof.Rows L2
section
variable {X : Cx}
def rGetL (K : PySem.W.Frag) : V → V → Hp → VK → Prop := fun x y H Q => ∃ p xs i v, x = .ref p ∧ y = .int i ∧ SqL K H p xs ∧ atI xs i = some v ∧ Q v H
theorem get_list : PGet X (rGetL X.K) := by
  intro pins s σ H x y v u Q I rx ry h
  obtain ⟨p, xs, i, z, rfl, rfl, hq, he, q⟩ := h
  cases rx
  obtain ⟨t, rfl⟩ := ry
  obtain ⟨its, r, pl, hz⟩ := I.list hq
  obtain ⟨j, h1, h2, h3, h4, h5⟩ := atI_get he
  obtain ⟨w, ew, rw'⟩ := r.get h2
  have hl := r.length
  have hn := line63
  have fin : EP X pins σ Q w s := ⟨z, H, I, rw', q⟩
  by_cases h0 : 0 ≤ i
  · have hj : i.toNat = j := by
      rw [seqIndex_of h0 h5] at h1
      exact Option.some.inj h1
    exact wpAny_getItem_list pl.isList h0 (by omega) (by rw [hj]; simpa using ew) fin
  · have hj : (i + (its.toArray.size : Int)).toNat = j := by
      rw [seqIndex_neg (by omega) h4] at h1
      rw [List.size_toArray, ← hl]
      exact Option.some.inj h1
    exact wpAny_getItem_list_neg pl.isList (by omega) (by rw [List.size_toArray] <;> omega) (by omega) (by rw [hj]; simpa using ew) fin
def sAugI (g : D → D → Option D) (io : Nat) (fi fv : EF) : SF := fun e => (liOf e[io]?).bind fun _ => (fi e).bind fun q => (liOf q.2[io]?).bind fun xs => match q.1 with
  | .int k => (atI xs k).bind fun old => (fv q.2).bind fun p => (liOf p.2[io]?).bind fun ys => (g old p.1).bind fun nw => (ixN ys.length k).map fun j => .nx (p.2.set io (.li (ys.set j nw)))
  | _ => none
theorem dvAt {K : Frg} {G : Hp} {vs : List V} {ds : List D} {k : Int} {d : D} (h : DvAll K G vs ds) (e : atI ds k = some d) : ∃ v, atI vs k = some v ∧ Dv K G v d := by
  unfold atI at e ⊢
  rw [dvAll_len h]
  cases hx : ixN ds.length k with
  | none => rw [hx] at e; cases e
  | some j =>
    rw [hx] at e
    exact dvAll_get h (show ds[j]? = some d from e)
theorem fs_augI {io : Nat} {x : Str} {p p2 pos : Pos} {b a : Expr} {fi fv : EF} {op : Operator} {ti : TIp} {g : D → D → Option D} (hN : X.N[io]? = some x) (hv : Vis X.env.scope x) (hb : FE X b fi) (ha : FE X a fv) (ho : PIp X op ti) (hg : Op2 X.K ti g)
    (hau : ∀ ov iv new, augStore b ov iv new = (do holding [new, ov, iv] (setItem ov iv new); release [new, ov, iv] []; pure .next) := by intros; rfl)
    (hd : (x == ("__debug__" : Str)) = false := by decide) (hcd : (x == ("__classdict__" : Str)) = false := by decide) : FS X (.AugAssign (.Subscript (.Name x p) b p2) op a pos) (sAugI g io fi fv) :=
  fs_of (ps_augS (pe_var hN hv hd hcd) hb.pe get_list ha.pe ho set_list hau) fun D z o r h q => by
    obtain ⟨xs0, h0, h⟩ := Option.bind_eq_some_iff.mp h
    obtain ⟨⟨kd, e1⟩, h1, h⟩ := Option.bind_eq_some_iff.mp h
    obtain ⟨xs, h2, h⟩ := Option.bind_eq_some_iff.mp h
    cases kd with
    | int k =>
      obtain ⟨old, h3, h⟩ := Option.bind_eq_some_iff.mp (show ((atI xs k).bind _) = some o from h)
      obtain ⟨⟨vd, e2⟩, h4, h⟩ := Option.bind_eq_some_iff.mp h
      obtain ⟨ys, h5, h⟩ := Option.bind_eq_some_iff.mp h
      obtain ⟨nw, h6, h⟩ := Option.bind_eq_some_iff.mp h
      obtain ⟨j, h7, h8⟩ := Option.map_eq_some_iff.mp h
      subst h8
      obtain ⟨b0, vs0, k1, k2, k3, k4, k5⟩ := r.own (i := io) (xs := xs0) (liOf_some h0)
      refine ⟨.ref b0, k1, z, _, e1, r, rfl, rfl, h1, fun w y m ry sy ey pw => ?_⟩
      cases pw
      have hli : y.e[io]? = some (.li xs) := by rw [ey]; exact liOf_some h2
      obtain ⟨b1, vs, l1, l2, l3, l4, l5⟩ := ry.own hli
      rw [sy, k1] at l1
      cases l1
      obtain ⟨vo, n1, n2⟩ := dvAt l5 h3
      refine ⟨b0, vs, k, vo, rfl, rfl, SqL.of l4, n1, ?_⟩
      refine ⟨y, vd, e2, ry, sy, rfl, by rw [ey]; exact h4, fun v u mu ru su eu pv => ?_⟩
      have hli2 : u.e[io]? = some (.li ys) := by rw [eu]; exact liOf_some h5
      obtain ⟨b2, ws, t1, t2, t3, t4, t5⟩ := ru.own hli2
      rw [su, k1] at t1
      cases t1
      have hmm := m.trans mu
      refine hg old vd nw u.G u.H vo v _ h6 ru.same (dvMono mu.g _ _ n2) (.inl pv) (fun nv pn => ?_) fun nv pa oo hn pn => ?_
      · refine ⟨b0, ws, k, j, rfl, rfl, t4, by rw [dvAll_len t5]; exact h7, ?_⟩
        obtain ⟨r5, m5⟩ := ru.upLi (ws := ws.set j nv) (ys := ys.set j nw) hli2 (by rw [su]; exact k1) (dvAll_set pn j t5)
        have := q _ (hmm.trans m5) r5 (by show u.e.set io (.li (ys.set j nw)) = _; rw [eu])
        show D.nx z.s (upd u.H b0 (.lst (ws.set j nv)))
        rw [← su]; exact this
      · obtain ⟨ra, ma⟩ := ru.add (o := oo) hn
        have hne : b0 ≠ pa := ne_of_none t4 hn
        have hli3 : (u.add pa oo).e[io]? = some (.li ys) := hli2
        refine ⟨b0, ws, k, j, rfl, rfl, by show upd u.H pa oo b0 = _; rw [upd_ne hne]; exact t4, by rw [dvAll_len t5]; exact h7, ?_⟩
        obtain ⟨r5, m5⟩ := ra.upLi (ws := ws.set j nv) (ys := ys.set j nw) hli3 (by show u.s[io]? = _; rw [su]; exact k1) (dvAll_set pn j (dvMonoAll ma.g _ _ t5))
        have := q _ ((hmm.trans ma).trans m5) r5 (by show u.e.set io (.li (ys.set j nw)) = _; rw [eu])
        show D.nx z.s (upd (upd u.H pa oo) b0 (.lst (ws.set j nv)))
        rw [← su]; exact this
    | none => cases h
    | bool _ => cases h
    | str _ => cases h
    | list _ => cases h
    | tuple _ => cases h
    | dict _ => cases h
theorem fs_augIA (io : Nat) {x : Str} {p p2 pos : Pos} {b a : Expr} {fi fv : EF} (hb : FE X b fi) (ha : FE X a fv) (hN : X.N[io]? = some x := by rfl) (hv : Vis X.env.scope x := by first | exact Or.inl rfl | exact Or.inr (Or.inl rfl) | exact Or.inr (Or.inr rfl))
    (hau : ∀ ov iv new, augStore b ov iv new = (do holding [new, ov, iv] (setItem ov iv new); release [new, ov, iv] []; pure .next) := by intros; rfl)
    (hd : (x == ("__debug__" : Str)) = false := by decide) (hcd : (x == ("__classdict__" : Str)) = false := by decide) : FS X (.AugAssign (.Subscript (.Name x p) b p2) .Add a pos) (sAugI dIadd io fi fv) := fs_augI hN hv hb ha ip_addA ip2_add hau hd hcd
theorem fs_augIS (io : Nat) {x : Str} {p p2 pos : Pos} {b a : Expr} {fi fv : EF} (hb : FE X b fi) (ha : FE X a fv) (hN : X.N[io]? = some x := by rfl) (hv : Vis X.env.scope x := by first | exact Or.inl rfl | exact Or.inr (Or.inl rfl) | exact Or.inr (Or.inr rfl))
    (hau : ∀ ov iv new, augStore b ov iv new = (do holding [new, ov, iv] (setItem ov iv new); release [new, ov, iv] []; pure .next) := by intros; rfl)
    (hd : (x == ("__debug__" : Str)) = false := by decide) (hcd : (x == ("__classdict__" : Str)) = false := by decide) : FS X (.AugAssign (.Subscript (.Name x p) b p2) .Sub a pos) (sAugI dSub io fi fv) := fs_augI hN hv hb ha (iop_sub (X := X)) (op_dI fun _ _ _ => .int _) hau hd hcd
end
end Fl

set_option Elab.async false
set_option linter.all false
set_option maxRecDepth 100000
set_option maxHeartbeats 4000000
set_option autoImplicit false
/-! FnSrt: sorted lists and tuples of tuples of ints. -/
namespace Fl
open PySem PySem.Spec PyProof.Rows L2
/-! ### the order -/
theorem lex_irr : ∀ a : List Int, HT.lexLt a a = false
  | [] => rfl
  | x :: a => by rw [HT.lexLt_cons, if_pos rfl]; exact lex_irr a
theorem lex_asym : ∀ {a b : List Int}, HT.lexLt a b = true → HT.lexLt b a = false
  | [], [], h => by cases h
  | [], _ :: _, _ => rfl
  | _ :: _, [], h => by cases h
  | x :: a, y :: b, h => by
    rw [HT.lexLt_cons] at h ⊢
    by_cases e : x = y
    · rw [if_pos e] at h
      rw [if_pos e.symm]
      exact lex_asym h
    · rw [if_neg e] at h
      rw [if_neg (Ne.symm e)]
      have := of_decide_eq_true h
      exact decide_eq_false (by omega)
theorem lex_le_trans : ∀ {a b c : List Int}, HT.lexLt b a = false → HT.lexLt c b = false → HT.lexLt c a = false
  | [], [], [], _, _ => rfl
  | [], [], _ :: _, _, h => rfl
  | [], _ :: _, [], _, h => by cases h
  | [], _ :: _, _ :: _, _, _ => rfl
  | _ :: _, [], _, h, _ => by cases h
  | _ :: _, _ :: _, [], _, h => by cases h
  | x :: a, y :: b, z :: c, h1, h2 => by
    rw [HT.lexLt_cons] at h1 h2 ⊢
    by_cases e1 : y = x
    · rw [if_pos e1] at h1
      by_cases e2 : z = y
      · rw [if_pos e2] at h2
        rw [if_pos (e2.trans e1)]
        exact lex_le_trans h1 h2
      · rw [if_neg e2] at h2
        rw [if_neg (by omega)]
        have := of_decide_eq_false h2
        exact decide_eq_false (by omega)
    · rw [if_neg e1] at h1
      have := of_decide_eq_false h1
      by_cases e2 : z = y
      · rw [if_neg (by omega)]
        exact decide_eq_false (by omega)
      · rw [if_neg e2] at h2
        have := of_decide_eq_false h2
        rw [if_neg (by omega)]
        exact decide_eq_false (by omega)
theorem lex_anti : ∀ {a b : List Int}, HT.lexLt a b = false → HT.lexLt b a = false → a = b
  | [], [], _, _ => rfl
  | [], _ :: _, h, _ => by cases h
  | _ :: _, [], _, h => by cases h
  | x :: a, y :: b, h1, h2 => by
    rw [HT.lexLt_cons] at h1 h2
    by_cases e : x = y
    · rw [if_pos e] at h1
      rw [if_pos e.symm] at h2
      rw [e, lex_anti h1 h2]
    · rw [if_neg e] at h1
      rw [if_neg (Ne.symm e)] at h2
      have := of_decide_eq_false h1
      have := of_decide_eq_false h2
      omega
theorem swo_lexL {α : Type} (k : α → List Int) : SrtO.Swo fun v u => HT.lexLt (k v) (k u) := ⟨fun _ _ h => lex_asym h, fun _ _ _ h1 h2 => lex_le_trans h1 h2⟩
/-! ### the kit's comparison -/
section
variable {prog : Program} {w : World} {A : Around} {E : Value → Shared → Prop} {s : Shared} {Q : Bool → Shared → Prop}
theorem kat_lexI {b fin : Bool} {xs ys : List Value} {ns ms : List Int} (i : Nat) (hx : IntsAre xs ns) (hy : IntsAre ys ms) (hf : fin = decide (ns.length < ms.length)) (h : Q (HT.lexLt ns ms) s) : PySem.W.KatLex prog w A b fin Q (xs.zip ys) i s := by
  induction hx generalizing ys ms i with
  | nil =>
    cases hy with
    | nil =>
      rw [hf]
      exact PySem.W.kat_nil h
    | cons q u hy =>
      have e : fin = true := by
        rw [hf]
        exact decide_eq_true (by rw [List.length_cons]; exact Nat.succ_pos _)
      rw [e]
      exact PySem.W.kat_nil h
  | @cons p t xs ns hx ih =>
    cases hy with
    | nil =>
      have e : fin = false := by
        rw [hf]
        exact decide_eq_false (Nat.not_lt_zero _)
      rw [e]
      exact PySem.W.kat_nil h
    | @cons q u ys ms hy =>
      have hf' : fin = decide (ns.length < ms.length) := by
        rw [hf]
        exact decide_eq_decide.mpr (by rw [List.length_cons, List.length_cons]; omega)
      show PySem.W.KatLex prog w A b fin Q ((Value.int p t, Value.int q u) :: xs.zip ys) i s
      refine PySem.W.kat_cons (wpAny_eqBool_int ?_)
      by_cases e : p = q
      · subst e
        rw [beq_self_eq_true]
        rw [HT.lexLt_cons, if_pos rfl] at h
        refine PySem.W.kat_yes ?_
        first
          | exact ih (i + 1) hy hf' h
          | exact ih _ _ (i + 1) hy hf' h
      · rw [show (p == q) = false from beq_eq_false_iff_ne.mpr e]
        rw [HT.lexLt_cons, if_neg e] at h
        exact PySem.W.kat_no (TS.oneLt_ints _ h)
theorem ints_cmp {vs : List Value} {k : Value → List Int} (hp : ∀ v ∈ vs, TS.TupInts s.heap v (k v)) : SrtO.Cmp prog w A s (tuples' true) (fun p => p.1 ∈ vs) (SrtO.lt2 fun v u => HT.lexLt (k v) (k u)) := by
  intro p q hm hm'
  have h1 := hp _ hm
  have h2 := hp _ hm'
  show wpAny (model prog w) A (keyLt' (tuples' true) p.1 q.1) (fun r s' => s' = s ∧ r = HT.lexLt (k p.1) (k q.1)) (fun _ _ => False) s
  generalize k p.1 = ns at h1 ⊢
  generalize k q.1 = ms at h2 ⊢
  obtain ⟨a, xs, e, ⟨o, ho, hc, n, hd⟩, hi⟩ := h1
  obtain ⟨a', xs', e', ⟨o', ho', hc', n', hd'⟩, hi'⟩ := h2
  rw [e, e']
  have l1 := hi.length
  have l2 := hi'.length
  rw [Array.length_toList] at l1 l2
  exact PySem.W.kat_lt ho hd ho' hd' (kat_lexI 0 hi hi' (by rw [l1, l2]) ⟨rfl, rfl⟩)
theorem firsts_ints {h : Heap} {k : Value → List Int} : ∀ vs : List Value, (∀ v ∈ vs, TS.TupInts h v (k v) ∧ k v ≠ []) → ∃ fs, PySem.W.KatTups h vs fs ∧ fs.length = vs.length ∧ ∀ f, f ∈ fs → ∃ n t, f = Value.int n t
  | [], _ => ⟨[], PySem.W.KatTups.nil, rfl, fun f hf => by simp at hf⟩
  | v :: vs, x => by
    obtain ⟨fs, kk, hl, hi⟩ := firsts_ints vs fun u hu => x u (List.mem_cons_of_mem _ hu)
    obtain ⟨⟨a, xs, rfl, ⟨o, ho, hc, n, hdt⟩, i⟩, hne⟩ := x v (List.mem_cons_self ..)
    obtain ⟨y, ys, e⟩ : ∃ y ys, xs.toList = y :: ys := by
      cases q : xs.toList with
      | nil =>
        rw [q] at i
        have l := i.length
        rw [List.length_nil] at l
        exact absurd (List.eq_nil_of_length_eq_zero l.symm) hne
      | cons y ys => exact ⟨y, ys, rfl⟩
    obtain ⟨m, t, hy⟩ := i.all y (by rw [e]; exact List.mem_cons_self ..)
    refine ⟨y :: fs, PySem.W.KatTups.cons ho hc hdt ?_ kk, by simp [hl], ?_⟩
    · have z := congrArg (fun l : List Value => l[0]?) e
      simpa using z
    · intro f hf
      rcases List.mem_cons.mp hf with e1 | hf
      · exact ⟨m, t, e1.trans hy⟩
      · exact hi f hf
theorem ints_sortableL {a : Addr} {vs : List Value} {k : Value → List Int} (h0 : 0 < vs.length) (hp : ∀ v ∈ vs, TS.TupInts s.heap v (k v) ∧ k v ≠ []) (ha : ∀ o, s.heap.get? a = some o → o.cls ≠ .type "tuple") : SrtO.SortableO prog w A s a vs fun v u => HT.lexLt (k v) (k u) := by
  intro h' keep
  have hp' : ∀ v ∈ vs, TS.TupInts h' v (k v) ∧ k v ≠ [] := fun v hm => ⟨(hp v hm).1.keeps fun b o e c => keep b o (fun z => by subst z; exact ha o e c) e, (hp v hm).2⟩
  obtain ⟨fs, h1, h2, h3⟩ := firsts_ints vs hp'
  refine ⟨tuples' true, fun Q E hq => ?_, ints_cmp fun v hv => (hp' v hv).1⟩
  refine PySem.W.kat_kind (T := .type "int") h1 (by omega) (fun f hm => ?_) (by rfl) ?_
  · obtain ⟨x, t, rfl⟩ := h3 f hm
    exact PySem.W.Looks.now
  · have e : (Value.type "int" != Value.type "tuple") = true := by first | decide +kernel | rfl | decide
    rw [e]
    exact hq
open SrtO in
theorem sorted_tup2 {l : Addr} {o : Obj} {vs : List Value} {n : Nat} {ltv : Value → Value → Bool} {Q : Value → Shared → Prop} (O : Swo ltv) (ho : s.heap.get? l = some o) (hc : o.cls = .type "tuple") (hd : o.data = .seq vs.toArray n) (hz : vs.length ≤ sizeLine)
    (hS : 2 ≤ vs.length → ∀ (h₁ : Heap) (a : Addr), h₁.get? a = some (seqObj "list" vs.toArray 0) → (∀ b o, s.heap.get? b = some o → h₁.get? b = some o) → SortableO prog w A.in1.in1 { s with heap := h₁ } a vs ltv)
    (h : ∀ out : List Value, Srtd ltv out → Stb ltv out vs → Q (.ref (s.heap.objs.size + 1)) { s with heap := sortedAll s.heap vs out.toArray }) : wpAny (model prog w) A (call (.builtin "sorted") [.ref l]) Q E s := by
  refine Calls.call_function_entry kind_sorted plain_sorted entry_sorted (args_sorted1 _) ?_
  unfold Builtin.«sorted»
  refine wpAny_bind (m := checkCount "sorted" 1 1 _) (wpAny_pure (wpAny_bind (coll_tup ho hc hd hz (wpAny_bind (wpAny_newList ?_ hz)))))
  have e1 : ((s.heap.push (seqObj "list" #[] 0)).update s.heap.objs.size (Obj.mapSeq (· ++ vs.toArray))).objs.size = s.heap.objs.size + 1 := (Heap.size_update _ _ _).trans (size_push' _ _)
  have e2 : (((s.heap.push (seqObj "list" #[] 0)).update s.heap.objs.size (Obj.mapSeq (· ++ vs.toArray))).push (seqObj "list" vs.toArray 0)).get? (s.heap.objs.size + 1) = some (seqObj "list" vs.toArray 0) := e1 ▸ Heap.get?_push_size _ rfl
  have keep : ∀ b u, s.heap.get? b = some u → (((s.heap.push (seqObj "list" #[] 0)).update s.heap.objs.size (Obj.mapSeq (· ++ vs.toArray))).push (seqObj "list" vs.toArray 0)).get? b = some u := fun b u q => by
    have hlt : b < s.heap.objs.size := Heap.lt_size q
    rw [Heap.get?_push_ne _ _ _ (by rw [e1]; exact Nat.ne_of_lt (Nat.lt_succ_of_lt hlt)), Heap.get?_update_ne _ _ _ _ (Nat.ne_of_lt hlt), Heap.get?_push_ne _ _ _ (Nat.ne_of_lt hlt)]
    exact q
  show wpAny _ _ _ _ _ ({ s with heap := ((s.heap.push (seqObj "list" #[] 0)).update s.heap.objs.size (Obj.mapSeq (· ++ vs.toArray))).push (seqObj "list" vs.toArray 0) } : Shared)
  rw [e1]
  exact wpAny_bind (wpAny_holding (wpAny_call_entry slot_list_sort ⟨_, e2, rfl⟩ entry_list_sort (list_sort_ord O e2 hz (fun h2 => hS h2 _ _ e2 keep) fun out hs hb => ⟨_, rfl, wpAny_pure ⟨_, rfl, h out hs hb⟩⟩) (args_list_sort _)))
end
end Fl
namespace Fl
open PySem PySem.Spec PyProof.Rows L2
def rSortL (K : PySem.W.Frag) : V → Hp → VK → Prop := fun x H Q => ∃ (a : Addr) (xs : List V), x = V.ref a ∧ (SqL K H a xs ∨ SqT K H a xs) ∧ (∀ x ∈ xs, ∃ ns, TupI K H x ns ∧ ns ≠ []) ∧
  ∀ (ys : List V) (p : Addr), ys.Perm xs → ys.Pairwise (fun x y => ∀ n m, TupI K H x n → TupI K H y m → HT.lexLt m n = false) → H p = none → Q (.ref p) (upd H p (.lst ys))
theorem cr_sortL {X : Cx} : CallR X (.builtin "sorted") (fun vs => fun H Q => ∃ x, vs = [x] ∧ rSortL X.K x H Q) := by
  intro pins s σ H vs us Q I r h
  obtain ⟨x, rfl, a, xs, rfl, hs, hx, q⟩ := h
  rw [Vals.ref1 r]
  -- the items
  have go : ∀ (its : List Value), Vals xs its → xs.length ≤ sizeLine → (∀ v ∈ its, TS.TupInts s.heap v (TS.intsOf s.heap v) ∧ TS.intsOf s.heap v ≠ []) ∧
      ∀ out : List Value, SrtO.Srtd (fun v u => HT.lexLt (TS.intsOf s.heap v) (TS.intsOf s.heap u)) out → SrtO.Stb (fun v u => HT.lexLt (TS.intsOf s.heap v) (TS.intsOf s.heap u)) out its → EP X pins σ Q (.ref (s.heap.objs.size + 1)) { s with heap := sortedAll s.heap its out.toArray } := fun its rv hz => by
    obtain ⟨e1, e2⟩ := bkV_refs rv fun x m => by
      obtain ⟨ns, ⟨t, e, _⟩, _⟩ := hx x m
      exact ⟨t, e⟩
    refine ⟨fun v hv => ?_, fun out h1 h2 => ?_⟩
    · obtain ⟨t, rfl⟩ := e2 v hv
      have hm : V.ref t ∈ xs := by rw [e1]; exact List.mem_map.mpr ⟨_, hv, rfl⟩
      obtain ⟨ns, ⟨t', e, ht⟩, hne⟩ := hx _ hm
      cases e
      have hr := tupI_raw I ht
      rw [hr.ints]
      exact ⟨hr, hne⟩
    · have h3 : ∀ u ∈ out, ∃ a, u = Value.ref a := fun u hu => e2 u (h2.perm.mem_iff.mp hu)
      obtain ⟨ep, he'⟩ := PyProof.Rows.sortedAll_at s.heap its out.toArray
      have hb : (out.map bkV).Perm xs := by rw [e1]; exact h2.perm.map _
      have hl : (out.map bkV).length ≤ sizeLine := by rw [hb.length_eq]; exact hz
      refine ⟨.ref _, upd H (s.heap.objs.size + 1) (.lst (out.map bkV)), ?_, rfl, q _ _ hb ?_ (I.hok.fresh (Nat.le_succ _))⟩
      · exact I.laid (t' := s.toks) (fun _ _ => PyProof.Rows.sortedAll_old) (Nat.le_succ _) ⟨hl, out, ep, bkV_vals h3, he'⟩
      · refine List.pairwise_map.mpr ((show out.Pairwise _ from h1).imp_of_mem fun {u v} hu hv hlt n m hn hm => ?_)
        obtain ⟨tu, rfl⟩ := h3 u hu
        obtain ⟨tv, rfl⟩ := h3 v hv
        obtain ⟨t1, e3, k1⟩ := hn
        obtain ⟨t2, e4, k2⟩ := hm
        cases e3
        cases e4
        have a1 := (tupI_raw I k1).ints
        have a2 := (tupI_raw I k2).ints
        have hlt' : HT.lexLt (TS.intsOf s.heap (Value.ref tv)) (TS.intsOf s.heap (Value.ref tu)) = false := hlt
        rw [a1, a2] at hlt'
        exact hlt'
  rcases hs with hs | hs
  · obtain ⟨its, rv, hl, hz⟩ := I.list hs
    obtain ⟨g1, g2⟩ := go its rv hz
    refine SrtO.sorted_ord (swo_lexL (TS.intsOf s.heap)) hl.isList (by rw [← rv.length]; exact hz) (fun h2 h₁ a' ha kk => ?_) g2
    refine ints_sortableL (s := { s with heap := h₁ }) (by omega) (fun v hm => ⟨(g1 v hm).1.keeps fun b o e _ => (kk b o e).2, (g1 v hm).2⟩) fun o e => ?_
    have e' : some o = some (seqObj "list" its.toArray 0) := e.symm.trans ha
    cases e'
    intro c
    exact absurd (Value.type.inj c) (by decide)
  · obtain ⟨its, rv, ⟨o, ho, hc, n, hd⟩, hz⟩ := I.tuple hs
    obtain ⟨g1, g2⟩ := go its rv hz
    refine sorted_tup2 (swo_lexL (TS.intsOf s.heap)) ho hc hd (by rw [← rv.length]; exact hz) (fun h2 h₁ a' ha kk => ?_) g2
    refine ints_sortableL (s := { s with heap := h₁ }) (by omega) (fun v hm => ⟨(g1 v hm).1.keeps fun b o e _ => kk b o e, (g1 v hm).2⟩) fun o e => ?_
    have e' : some o = some (seqObj "list" its.toArray 0) := e.symm.trans ha
    cases e'
    intro c
    exact absurd (Value.type.inj c) (by decide)
/-! ### as a rule -/
abbrev tlI (ns : List Int) : D := .tuple (ns.map PyData.int)
def asIL : List D → Option (List (List Int))
  | [] => some []
  | .tuple xs :: r => (asInts xs).bind fun ns => if ns = [] then none else (asIL r).map fun ls => ns :: ls
  | _ => none
theorem asInts_inv : ∀ {xs : List D} {ns : List Int}, asInts xs = some ns → xs = ns.map PyData.int
  | [], _, e => by cases e; rfl
  | .int i :: r, _, e => by
    obtain ⟨ns, h1, rfl⟩ := Option.map_eq_some_iff.mp (show (asInts r).map (fun ns => i :: ns) = some _ from e)
    rw [asInts_inv h1]; rfl
  | .none :: _, _, e => by cases e
  | .bool _ :: _, _, e => by cases e
  | .tuple _ :: _, _, e => by cases e
  | .str _ :: _, _, e => by cases e
  | .list _ :: _, _, e => by cases e
  | .dict _ :: _, _, e => by cases e
theorem asIL_ok : ∀ {ds : List D} {ls : List (List Int)}, asIL ds = some ls → ds = ls.map tlI ∧ ∀ l ∈ ls, l ≠ []
  | [], _, e => by cases e; exact ⟨rfl, fun _ h => nomatch h⟩
  | .tuple xs :: r, ls, e => by
    obtain ⟨ns, h1, h2⟩ := Option.bind_eq_some_iff.mp (show ((asInts xs).bind fun ns => if ns = [] then none else (asIL r).map fun ls => ns :: ls) = some ls from e)
    split at h2
    · cases h2
    · rename_i hne
      obtain ⟨ls', h3, rfl⟩ := Option.map_eq_some_iff.mp h2
      obtain ⟨h4, h5⟩ := asIL_ok h3
      have hx : xs = ns.map PyData.int := asInts_inv h1
      refine ⟨by rw [h4, hx]; rfl, fun l hl => ?_⟩
      rcases List.mem_cons.mp hl with rfl | hl
      · exact hne
      · exact h5 l hl
  | .none :: _, _, e => by cases e
  | .bool _ :: _, _, e => by cases e
  | .int _ :: _, _, e => by cases e
  | .str _ :: _, _, e => by cases e
  | .list _ :: _, _, e => by cases e
  | .dict _ :: _, _, e => by cases e
theorem dvAll_perm {K : Frg} {G : Hp} {ys vs : List V} (h : ys.Perm vs) : ∀ {ds : List D}, DvAll K G vs ds → ∃ es : List D, es.Perm ds ∧ DvAll K G ys es := by
  induction h with
  | nil => intro ds hd; exact ⟨ds, .refl _, hd⟩
  | cons x _ ih =>
    intro ds hd
    cases hd with
    | cons h1 h2 =>
      obtain ⟨es, k1, k2⟩ := ih h2
      exact ⟨_ :: es, k1.cons _, .cons h1 k2⟩
  | swap x y t =>
    intro ds hd
    cases hd with
    | cons h1 h2 =>
      cases h2 with
      | cons h3 h4 => exact ⟨_, List.Perm.swap _ _ _, .cons h3 (.cons h1 h4)⟩
  | trans _ _ ih1 ih2 =>
    intro ds hd
    obtain ⟨e2, k1, k2⟩ := ih2 hd
    obtain ⟨e1, k3, k4⟩ := ih1 k2
    exact ⟨e1, k3.trans k1, k4⟩
def sortL (ls : List (List Int)) : List (List Int) := ls.mergeSort fun a b => !HT.lexLt b a
theorem sortL_perm (ls : List (List Int)) : (sortL ls).Perm ls := List.mergeSort_perm ls _
theorem sortL_pair (ls : List (List Int)) : (sortL ls).Pairwise fun a b => HT.lexLt b a = false := by
  have := List.pairwise_mergeSort (le := fun a b : List Int => !HT.lexLt b a) (fun a b c h1 h2 => by
    simp only [Bool.not_eq_true'] at h1 h2 ⊢
    exact lex_le_trans h1 h2) (fun a b => by
    cases h : HT.lexLt b a with
    | false => rfl
    | true => rw [lex_asym h]; rfl) ls
  exact this.imp fun h => by simpa using h
theorem sortL_of {ls ms : List (List Int)} (h : ms.Perm ls) (p : ms.Pairwise fun a b => HT.lexLt b a = false) : ms = sortL ls :=
  List.Perm.eq_of_pairwise (le := fun a b => HT.lexLt b a = false) (fun _ _ _ _ h1 h2 => lex_anti h2 h1) p (sortL_pair ls) (h.trans (sortL_perm ls).symm)
def dSortL : D → Option (List D)
  | .list xs => (asIL xs).map fun ls => (sortL ls).map tlI
  | .tuple xs => (asIL xs).map fun ls => (sortL ls).map tlI
  | _ => none
theorem perm_tl {es : List D} {ls : List (List Int)} (h : es.Perm (ls.map tlI)) : ∃ ms : List (List Int), es = ms.map tlI ∧ ms.Perm ls := by
  obtain ⟨ms, h1, h2⟩ := perm_lift tlI h ls rfl
  exact ⟨ms, h2.symm, h1⟩
theorem dv_tl {K : Frg} {G : Hp} {v : V} {ns : List Int} (h : Dv K G v (tlI ns)) : TupI K G v ns := by
  cases h with
  | tup h1 h2 =>
    obtain ⟨e1, _⟩ := asInts_ok (asInts_map ns) h2
    subst e1
    exact ⟨_, rfl, h1⟩
theorem sortL_un {K : Frg} {G H : Hp} {vs : List V} {ls : List (List Int)} {Q : VK} (s : Same G H) (hne : ∀ l ∈ ls, l ≠ []) (hd : DvAll K G vs (ls.map tlI)) (q : ∀ p ws, H p = none → DvAll K G ws ((sortL ls).map tlI) → Q (.ref p) (upd H p (.lst ws))) :
    (∀ x ∈ vs, ∃ ns, TupI K H x ns ∧ ns ≠ []) ∧ ∀ (ys : List V) (p : Addr), ys.Perm vs → ys.Pairwise (fun x y => ∀ n m, TupI K H x n → TupI K H y m → HT.lexLt m n = false) → H p = none → Q (.ref p) (upd H p (.lst ys)) := by
  refine ⟨fun x hx => ?_, fun ys p hp hw hn => ?_⟩
  · obtain ⟨i, hi⟩ := List.getElem?_of_mem hx
    obtain ⟨d, k1, k2⟩ := dvAll_getV hd hi
    rw [List.getElem?_map] at k1
    obtain ⟨l, k3, rfl⟩ := Option.map_eq_some_iff.mp k1
    obtain ⟨t, e, k4⟩ := dv_tl k2
    exact ⟨l, ⟨t, e, seqT s k4⟩, hne l (List.mem_of_getElem? k3)⟩
  · obtain ⟨es, k1, k2⟩ := dvAll_perm hp hd
    obtain ⟨ms, rfl, k3⟩ := perm_tl k1
    have hpw : ms.Pairwise fun a b => HT.lexLt b a = false := by
      refine List.pairwise_iff_getElem.mpr fun i j hi hj hij => ?_
      have hy := dvAll_len k2
      rw [List.length_map] at hy
      obtain ⟨vi, a1, a2⟩ := dvAll_get k2 (i := i) (d := tlI ms[i]) (by rw [List.getElem?_map, List.getElem?_eq_getElem hi]; rfl)
      obtain ⟨vj, b1, b2⟩ := dvAll_get k2 (i := j) (d := tlI ms[j]) (by rw [List.getElem?_map, List.getElem?_eq_getElem hj]; rfl)
      obtain ⟨ti, c1, c2⟩ := dv_tl a2
      obtain ⟨tj, d1, d2⟩ := dv_tl b2
      obtain ⟨hyi, ei⟩ := List.getElem?_eq_some_iff.mp a1
      obtain ⟨hyj, ej⟩ := List.getElem?_eq_some_iff.mp b1
      have := List.pairwise_iff_getElem.mp hw i j hyi hyj hij
      rw [ei, ej] at this
      exact this _ _ ⟨ti, c1, seqT s c2⟩ ⟨tj, d1, seqT s d2⟩
    have e := sortL_of k3 hpw
    subst e
    exact q p ys hn k2
section
variable {X : Cx} {pos : Pos}
theorem CallR.orX {id : Value} {r r' : List V → Hp → VK → Prop} (h : CallR X id r) (h' : CallR X id r') : CallR X id (fun vs H Q => r vs H Q ∨ r' vs H Q) := h.or h'
def dSortB (x : D) : Option (List D) := (dSortA x).or (dSortL x)
theorem fo_sortB {a : Expr} {p : Pos} {f : EF} (ha : FB X a f) (hm : X.mg "sorted" = none) (hg : Gl X "sorted" := by rfl) (he : starEach [a] X.env = (false, eval a X.env) :: starEach [] X.env := by rfl) : FO X (.Call (.Name "sorted" p) [a] [] pos) (oUn dSortB f) :=
  fo_call1 ((cr_sortedI.or cr_sortedT).or cr_sortL) (fun x ds G H vx Q e s h q => by
    unfold dSortB at e
    cases hA : dSortA x with
    | some es =>
      rw [hA] at e
      cases e
      cases x with
      | list xs =>
        obtain ⟨ns, h1, rfl⟩ := Option.map_eq_some_iff.mp hA
        obtain ⟨b, vs, rfl, h3, h4⟩ := vwLst s h
        obtain ⟨rfl, e2⟩ := asInts_ok h1 h4
        refine .inl (.inl ⟨b, ns, rfl, SqL.of h3, fun ms p hp hr hn => ?_⟩)
        rw [sortI_of hp hr]
        exact q p _ hn (dvAll_ints _)
      | tuple xs =>
        obtain ⟨ns, h1, rfl⟩ := Option.map_eq_some_iff.mp hA
        obtain ⟨b, vs, rfl, h3, h4⟩ := vwTup h
        obtain ⟨rfl, e2⟩ := asInts_ok h1 h4
        refine .inl (.inr ⟨b, ns, rfl, seqT s h3, fun ms p hp hr hn => ?_⟩)
        rw [sortI_of hp hr]
        exact q p _ hn (dvAll_ints _)
      | none => cases hA
      | bool _ => cases hA
      | int _ => cases hA
      | str _ => cases hA
      | dict _ => cases hA
    | none =>
      rw [hA] at e
      have e : dSortL x = some ds := e
      cases x with
      | list xs =>
        obtain ⟨ls, h1, rfl⟩ := Option.map_eq_some_iff.mp e
        obtain ⟨rfl, hne⟩ := asIL_ok h1
        obtain ⟨b, vs, rfl, h3, h4⟩ := vwLst s h
        obtain ⟨g1, g2⟩ := sortL_un (Q := Q) s hne h4 q
        exact .inr ⟨_, rfl, b, vs, rfl, .inl (SqL.of h3), g1, g2⟩
      | tuple xs =>
        obtain ⟨ls, h1, rfl⟩ := Option.map_eq_some_iff.mp e
        obtain ⟨rfl, hne⟩ := asIL_ok h1
        obtain ⟨b, vs, rfl, h3, h4⟩ := vwTup h
        obtain ⟨g1, g2⟩ := sortL_un (Q := Q) s hne h4 q
        exact .inr ⟨_, rfl, b, vs, rfl, .inr (seqT s h3), g1, g2⟩
      | none => cases e
      | bool _ => cases e
      | int _ => cases e
      | str _ => cases e
      | dict _ => cases e) hg hm (by decide +kernel) ha (by decide) (by decide) he
end
end Fl

set_option Elab.async false
set_option linter.all false
set_option maxRecDepth 100000
set_option maxHeartbeats 4000000
set_option autoImplicit false
/-! FnLset: len(set(a list of tuples of ints)). -/
namespace Fl
open PySem PySem.Spec PyProof.Rows L2
def dedG {α : Type} [DecidableEq α] : List α → List α
  | [] => []
  | x :: xs => if x ∈ xs then dedG xs else x :: dedG xs
theorem dedG_mem {α : Type} [DecidableEq α] : ∀ {xs : List α} {k : α}, k ∈ dedG xs ↔ k ∈ xs
  | [], k => Iff.rfl
  | x :: xs, k => by
    unfold dedG
    split
    · rename_i h
      rw [dedG_mem, List.mem_cons]
      exact ⟨.inr, fun z => z.elim (fun e => e ▸ h) id⟩
    · rw [List.mem_cons, List.mem_cons, dedG_mem]
theorem dedG_nodup {α : Type} [DecidableEq α] : ∀ xs : List α, (dedG xs).Nodup
  | [] => List.nodup_nil
  | x :: xs => by
    unfold dedG
    split
    · exact dedG_nodup xs
    · rename_i h; exact List.nodup_cons.mpr ⟨fun z => h (dedG_mem.mp z), dedG_nodup xs⟩
theorem dedG_of {α : Type} [DecidableEq α] : ∀ {xs : List α}, xs.Nodup → dedG xs = xs
  | [], _ => rfl
  | x :: xs, h => by
    obtain ⟨h1, h2⟩ := List.nodup_cons.mp h
    unfold dedG
    rw [if_neg h1, dedG_of h2]
theorem dedG_le {α : Type} [DecidableEq α] : ∀ xs : List α, (dedG xs).length ≤ xs.length
  | [] => Nat.le_refl _
  | x :: xs => by
    unfold dedG
    have := dedG_le xs
    split
    · simp only [List.length_cons]; omega
    · simp only [List.length_cons]; omega
theorem dedG_len {α : Type} [DecidableEq α] : ∀ {xs : List α}, (dedG xs).length = xs.length ↔ xs.Nodup
  | [] => by simp [dedG]
  | x :: xs => by
    rw [List.nodup_cons]
    unfold dedG
    have := dedG_le xs
    split
    · rename_i h
      refine ⟨fun e => ?_, fun e => absurd h e.1⟩
      simp only [List.length_cons] at e; omega
    · rename_i h
      rw [List.length_cons, List.length_cons]
      refine ⟨fun e => ⟨h, dedG_len.mp (by omega)⟩, fun e => by rw [dedG_len.mpr e.2]⟩
def rLenSetT (K : PySem.W.Frag) : V → Hp → VK → Prop := fun x H1 Q => ∃ (l : Addr) (ks : List (Addr × List Int)), x = .ref l ∧ SqL K H1 l (ks.map fun p => V.ref p.1) ∧ (∀ p ∈ ks, SqT K H1 p.1 (p.2.map V.int)) ∧ ks.length < 64 ∧
  Q (.int (dedG (ks.map (·.2))).length) H1
theorem pe_lenSetT {X : Cx} {a : Expr} {ta : TE} {p p2 q pos : Pos} (hg : Gl X "len") (hm : X.mg "len" = none) (hg2 : Gl X "set") (hm2 : X.mg "set" = none) (ha : PE X a ta) (hc : X.calm = true) (hu : X.A.units + 64 < cLine)
    (na : starEach [a] X.env = (false, eval a X.env) :: starEach [] X.env) : PE X (.Call (.Name "len" p) [.Call (.Name "set" p2) [a] [] q] [] pos) (tUn (rLenSetT X.K) ta) := by
  refine ⟨fun pins s σ H Q I h => ?_⟩
  refine Call_ (ld_blt I hg hm PySem.boot_len ?_)
  refine PyProof.Rows.callWith_builtin1 (PyProof.Rows.args_cons ?_ rfl) rfl rfl
  refine Call_ (ld_blt I hg2 hm2 boot_set ?_)
  refine PyProof.Rows.callWith_type1 (PyProof.Rows.args_cons (thn (ha.run pins s σ H _ I h) fun v s1 ⟨x, H1, I1, r1, q1⟩ => PyProof.Rows.args_nil ?_) na) na rfl
  obtain ⟨l, ks, rfl, hq, hk, hl, q1⟩ := q1
  cases r1
  obtain ⟨its, r, pl, hz⟩ := I1.list hq
  refine call_set_tups (P := X.prog) (w := X.w) ks (I1.ok.hd hc) pl.isList (by simpa using refs_of_vals r) (fun p hp => I1.isT (hk p hp)) hl (by omega) fun h' tk L es ep t R g k => ?_
  refine PyProof.Rows.args_nil ?_
  obtain ⟨o, ho, hex, hd⟩ := R.ob
  have I2 : Inv X pins σ H1 { s1 with heap := h', toks := tk } := I1.kept fun b o e => k b o e
  have hsz : es.size = L.length := SetTR.size (s := { s1 with heap := h', toks := tk }) R
  have hfit : t.fits es.size = true := SetTR.fits (s := { s1 with heap := h', toks := tk }) R
  have hfew := R.few
  have hlen : L.length = (dedG (ks.map (·.2))).length := by
    rw [← List.length_map (as := L) (f := (·.2))]
    refine List.Perm.length_eq ((List.perm_ext_iff_of_nodup R.nd (dedG_nodup _)).mpr fun z => ?_)
    rw [dedG_mem]
    constructor
    · intro hz
      obtain ⟨p, hp, rfl⟩ := List.mem_map.mp hz
      exact List.mem_map.mpr ⟨p, List.mem_of_mem_take (g.sub p hp), rfl⟩
    · intro hz
      obtain ⟨p, hp, rfl⟩ := List.mem_map.mp hz
      exact g.all p (by rw [List.take_length]; exact hp)
  refine call_len_set ho hex hd hfit (by rw [hsz]; omega) ⟨.int (dedG (ks.map (·.2))).length, H1, I2.tok _, ⟨_, by rw [hsz, hlen]⟩, q1⟩
def dLenSetT : D → Option D
  | .list xs => (asIL xs).bind fun ls => if ls.length < 64 then some (.int (dedG ls).length) else none
  | _ => none
theorem dv_tls {K : Frg} {G : Hp} : ∀ {ls : List (List Int)} {vs : List V}, DvAll K G vs (ls.map tlI) → ∃ ks : List (Addr × List Int), vs = ks.map (fun p => V.ref p.1) ∧ (∀ p ∈ ks, SqT K G p.1 (p.2.map V.int)) ∧ ks.map (·.2) = ls
  | [], vs, h => by
    cases h
    exact ⟨[], rfl, fun p hp => (nomatch hp), rfl⟩
  | l :: ls, vs, h => by
    cases h with
    | cons h1 h2 =>
      obtain ⟨t, e, hs⟩ := dv_tl h1
      obtain ⟨ks, e1, e2, e3⟩ := dv_tls h2
      refine ⟨(t, l) :: ks, by rw [e, e1]; rfl, fun p hp => ?_, by rw [List.map_cons, e3]⟩
      rcases List.mem_cons.mp hp with z | z
      · rw [z]; exact hs
      · exact e2 p z
section
variable {X : Cx} {pos : Pos}
theorem fe_lenSetT {k : Nat} {a : Expr} {p p2 q : Pos} {f : EF} (c : Cc X k) (ha : FB X a f) (hm : X.mg "len" = none) (hm2 : X.mg "set" = none) (hg : Gl X "len" := by rfl) (hg2 : Gl X "set" := by rfl) (na : starEach [a] X.env = (false, eval a X.env) :: starEach [] X.env := by rfl) :
    FE X (.Call (.Name "len" p) [.Call (.Name "set" p2) [a] [] q] [] pos) (eUn dLenSetT f) :=
  ⟨PE.imp (pe_lenSetT hg hm hg2 hm2 ha.pb c.calm (by have := c.room.un; omega) na) fun σ H Q h => un_run (r := rLenSetT X.K) (fun x d G H vx Q e s h q _ => by
    unfold dLenSetT at e
    split at e
    · obtain ⟨ls, h1, h2⟩ := Option.bind_eq_some_iff.mp e
      split at h2
      · rename_i h64
        cases h2
        obtain ⟨b, vs, rfl, h3, h4⟩ := vwLst s h
        obtain ⟨e1, e2⟩ := asIL_ok h1
        subst e1
        obtain ⟨ks, rfl, k2, k3⟩ := dv_tls h4
        subst k3
        refine ⟨b, ks, rfl, SqL.of h3, fun p hp => seqT s (k2 p hp), by rw [List.length_map] at h64; exact h64, q _ (.int _)⟩
      · cases h2
    · cases e) h⟩
end
end Fl

set_option linter.all false
set_option maxRecDepth 100000
set_option maxHeartbeats 1000000
set_option autoImplicit false
/-! FnEv: evaluation of the layer's words where slots are written out: no rule looks under a binder. -/
namespace Fl
open PySem PySem.Spec PyProof.Rows L2
section
variable {α : Type} (e e1 e2 : Ev) (i : Nat) (is : List Nat) (d x y : D) (f g h fa fb fc : EF) (ds xs ys : List D)
def prE (e : Ev) (a : α) : α × Ev := (a, e)
theorem prE_ev (a : α) : prE e a = (a, e) := rfl
/-! values -/
def varC (e : Ev) : Option Sl → Option (D × Ev)
  | some (.va d) => some (d, e)
  | some (.tn ds) => some (.tuple ds, e)
  | _ => none
theorem eVar_ev : eVar i e = varC e e[i]? := rfl
theorem varC_ev : varC e (some (.va d)) = some (d, e) := rfl
theorem varC_tn : varC e (some (.tn ds)) = some (.tuple ds, e) := rfl
def nmC (i : Nat) (e : Ev) : Option Sl → Option (D × Ev)
  | some (.va d) => some (d, e)
  | some (.tn ds) => some (.tuple ds, e)
  | some (.li xs) => some (.list xs, e.set i (.va (.list xs)))
  | _ => none
theorem eNm_ev : eNm i e = nmC i e e[i]? := rfl
theorem nmC_va : nmC i e (some (.va d)) = some (d, e) := rfl
theorem nmC_tn : nmC i e (some (.tn ds)) = some (.tuple ds, e) := rfl
theorem nmC_li : nmC i e (some (.li xs)) = some (.list xs, e.set i (.va (.list xs))) := rfl
theorem eC_ev : eC d e = some (d, e) := rfl
theorem vw_va : vw (.va d) = some d := rfl
theorem vw_tn : vw (.tn ds) = some (.tuple ds) := rfl
theorem vw_li : vw (.li xs) = some (.list xs) := rfl
theorem eOwn_ev : eOwn i e = (e[i]?.bind vw).map (prE e) := rfl
def ixoC3 (k : D) (e : Ev) : D → Option (D × Ev) := fun x => (dIx x k).map (prE e)
def ixoC2 (i : Nat) : D × Ev → Option (D × Ev) := fun q => (q.2[i]?.bind vw).bind (ixoC3 q.1 q.2)
def ixoC (i : Nat) (fb : EF) (e : Ev) : D → Option (D × Ev) := fun _ => (fb e).bind (ixoC2 i)
theorem eIxO_ev : eIxO i fb e = (e[i]?.bind vw).bind (ixoC i fb e) := rfl
theorem ixoC_ev : ixoC i fb e x = (fb e).bind (ixoC2 i) := rfl
theorem ixoC2_ev : ixoC2 i (d, e1) = (e1[i]?.bind vw).bind (ixoC3 d e1) := rfl
theorem ixoC3_ev : ixoC3 d e x = (dIx x d).map (prE e) := rfl
def opC2 (g : D → D → Option D) (x : D) : D × Ev → Option (D × Ev) := fun q => (g x q.1).map (prE q.2)
def opC (g : D → D → Option D) (fb : EF) : D × Ev → Option (D × Ev) := fun p => (fb p.2).bind (opC2 g p.1)
theorem eOp_ev (g : D → D → Option D) : eOp g fa fb e = (fa e).bind (opC g fb) := rfl
theorem opC_ev (g : D → D → Option D) : opC g fb (x, e1) = (fb e1).bind (opC2 g x) := rfl
theorem opC2_ev (g : D → D → Option D) : opC2 g x (y, e1) = (g x y).map (prE e1) := rfl
def unC (g : D → Option D) : D × Ev → Option (D × Ev) := fun p => (g p.1).map (prE p.2)
theorem eUn_ev (g : D → Option D) : eUn g fa e = (fa e).bind (unC g) := rfl
theorem unC_ev (g : D → Option D) : unC g (x, e1) = (g x).map (prE e1) := rfl
def bEC : D × Ev → Option (Bool × Ev) := fun p => (dTru p.1).map (prE p.2)
theorem bE_ev : bE f e = (f e).bind bEC := rfl
theorem bEC_ev : bEC (x, e1) = (dTru x).map (prE e1) := rfl
def bBC : D × Ev → Option (Bool × Ev) := fun p => match p.1 with
  | .bool b => some (b, p.2)
  | _ => none
theorem bB_ev : bB f e = (f e).bind bBC := rfl
theorem bBC_ev (b : Bool) : bBC (.bool b, e1) = some (b, e1) := rfl
def notC : Bool × Ev → Bool × Ev := fun p => (!p.1, p.2)
theorem bNot_ev (f : BF) : bNot f e = (f e).map notC := rfl
theorem notC_ev (b : Bool) : notC (b, e1) = (!b, e1) := rfl
def andC (g : BF) : Bool × Ev → Option (Bool × Ev) := fun p => if p.1 = true then g p.2 else some (false, p.2)
theorem bAnd_ev (f g : BF) : bAnd f g e = (f e).bind (andC g) := rfl
theorem andC_t (g : BF) : andC g (true, e1) = g e1 := rfl
theorem andC_f (g : BF) : andC g (false, e1) = some (false, e1) := rfl
def orC (g : BF) : Bool × Ev → Option (Bool × Ev) := fun p => if p.1 = true then some (true, p.2) else g p.2
theorem bOr_ev (f g : BF) : bOr f g e = (f e).bind (orC g) := rfl
theorem orC_t (g : BF) : orC g (true, e1) = some (true, e1) := rfl
theorem orC_f (g : BF) : orC g (false, e1) = g e1 := rfl
theorem bYes_ev : bYes e = some (true, e) := rfl
def eandC (g : EF) : D × Ev → Option (D × Ev) := fun p => match p.1 with
  | .bool true => g p.2
  | .bool false => some (.bool false, p.2)
  | _ => none
theorem eAnd_ev : eAnd f g e = (f e).bind (eandC g) := rfl
theorem eandC_t : eandC g (.bool true, e1) = g e1 := rfl
theorem eandC_f : eandC g (.bool false, e1) = some (.bool false, e1) := rfl
def eorC (g : EF) : D × Ev → Option (D × Ev) := fun p => match p.1 with
  | .bool true => some (.bool true, p.2)
  | .bool false => g p.2
  | _ => none
theorem eOr_ev : eOr f g e = (f e).bind (eorC g) := rfl
theorem eorC_t : eorC g (.bool true, e1) = some (.bool true, e1) := rfl
theorem eorC_f : eorC g (.bool false, e1) = g e1 := rfl
def enotC : D × Ev → Option (D × Ev) := fun p => match p.1 with
  | .bool b => some (.bool (!b), p.2)
  | _ => none
theorem eNot_ev : eNot f e = (f e).bind enotC := rfl
theorem enotC_ev (b : Bool) : enotC (.bool b, e1) = some (.bool (!b), e1) := rfl
def ifC (f g : EF) : Bool × Ev → Option (D × Ev) := fun p => if p.1 = true then f p.2 else g p.2
theorem eIf_ev (c : BF) : eIf c f g e = (c e).bind (ifC f g) := rfl
theorem ifC_t : ifC f g (true, e1) = f e1 := rfl
theorem ifC_f : ifC f g (false, e1) = g e1 := rfl
def tupC : List D × Ev → Option (D × Ev) := fun p => if p.1.length ≤ sizeLine then some (.tuple p.1, p.2) else none
theorem eTup_ev (g : LF) : eTup g e = (g e).bind tupC := rfl
theorem tupC_ev : tupC (xs, e1) = if xs.length ≤ sizeLine then some (.tuple xs, e1) else none := rfl
theorem aNil_ev : aNil e = some ([], e) := rfl
def aconsC2 (x : D) : List D × Ev → List D × Ev := fun q => (x :: q.1, q.2)
def aconsC (g : LF) : D × Ev → Option (List D × Ev) := fun p => (g p.2).map (aconsC2 p.1)
theorem aCons_ev (g : LF) : aCons f g e = (f e).bind (aconsC g) := rfl
theorem aconsC_ev (g : LF) : aconsC g (x, e1) = (g e1).map (aconsC2 x) := rfl
theorem aconsC2_ev : aconsC2 x (xs, e1) = (x :: xs, e1) := rfl
def lstC : List D × Ev → Option (Sl × Ev) := fun p => if p.1.length ≤ sizeLine then some (.li p.1, p.2) else none
theorem oLst_ev (g : LF) : oLst g e = (g e).bind lstC := rfl
theorem lstC_ev : lstC (xs, e1) = if xs.length ≤ sizeLine then some (.li xs, e1) else none := rfl
def oEC : D × Ev → Sl × Ev := fun p => (.va p.1, p.2)
theorem oE_ev : oE f e = (f e).map oEC := rfl
theorem oEC_ev : oEC (x, e1) = (.va x, e1) := rfl
def fzC : Sl × Ev → Option (D × Ev) := fun p => (fz p.1).map (prE p.2)
theorem eFz_ev (f : OF) : eFz f e = (f e).bind fzC := rfl
theorem fzC_va : fzC (.va d, e1) = some (d, e1) := rfl
theorem fzC_tn : fzC (.tn ds, e) = some (.tuple ds, e) := rfl
theorem fzC_li : fzC (.li xs, e1) = some (.list xs, e1) := rfl
def prL (e : Ev) : List D → Sl × Ev := fun xs => (.li xs, e)
def ounC (g : D → Option (List D)) : D × Ev → Option (Sl × Ev) := fun p => (g p.1).map (prL p.2)
theorem oUn_ev (g : D → Option (List D)) : oUn g f e = (f e).bind (ounC g) := rfl
theorem ounC_ev (g : D → Option (List D)) : ounC g (x, e1) = (g x).map (prL e1) := rfl
theorem prL_ev : prL e xs = (.li xs, e) := rfl
def slC3 (x : D) (lo : Option Int) : Option Int × Ev → Option (D × Ev) := fun r => (dSl lo r.1 x).map (prE r.2)
def slC2 (h : PF) (x : D) : Option Int × Ev → Option (D × Ev) := fun q => (h q.2).bind (slC3 x q.1)
def slC (g h : PF) : D × Ev → Option (D × Ev) := fun p => (g p.2).bind (slC2 h p.1)
theorem eSl_ev (g h : PF) : eSl f g h e = (f e).bind (slC g h) := rfl
theorem slC_ev (g h : PF) : slC g h (x, e1) = (g e1).bind (slC2 h x) := rfl
theorem slC2_ev (h : PF) (lo : Option Int) : slC2 h x (lo, e1) = (h e1).bind (slC3 x lo) := rfl
theorem slC3_ev (lo hi : Option Int) : slC3 x lo (hi, e1) = (dSl lo hi x).map (prE e1) := rfl
def sloC4 (lo hi : Option Int) (e : Ev) : D → Option (D × Ev) := fun x => (dSl lo hi x).map (prE e)
def sloC3 (i : Nat) (lo : Option Int) : Option Int × Ev → Option (D × Ev) := fun r => (r.2[i]?.bind vw).bind (sloC4 lo r.1 r.2)
def sloC2 (i : Nat) (h : PF) : Option Int × Ev → Option (D × Ev) := fun q => (h q.2).bind (sloC3 i q.1)
def sloC (i : Nat) (g h : PF) (e : Ev) : D → Option (D × Ev) := fun _ => (g e).bind (sloC2 i h)
theorem eSlO_ev (g h : PF) : eSlO i g h e = (e[i]?.bind vw).bind (sloC i g h e) := rfl
theorem sloC_ev (g h : PF) : sloC i g h e x = (g e).bind (sloC2 i h) := rfl
theorem sloC2_ev (h : PF) (lo : Option Int) : sloC2 i h (lo, e1) = (h e1).bind (sloC3 i lo) := rfl
theorem sloC3_ev (lo hi : Option Int) : sloC3 i lo (hi, e1) = (e1[i]?.bind vw).bind (sloC4 lo hi e1) := rfl
theorem sloC4_ev (lo hi : Option Int) : sloC4 lo hi e1 x = (dSl lo hi x).map (prE e1) := rfl
def enC : D × Ev → Option (List D × Ev) := fun p => match p.1 with
  | .tuple xs => some (enD xs, p.2)
  | .list xs => some (enD xs, p.2)
  | _ => none
theorem lEnum_ev : lEnum f e = (f e).bind enC := rfl
theorem enC_tup : enC (.tuple xs, e1) = some (enD xs, e1) := rfl
theorem enC_lst : enC (.list xs, e1) = some (enD xs, e1) := rfl
theorem pNo_ev : pNo e = some (none, e) := rfl
def psoC : D × Ev → Option (Option Int × Ev) := fun p => match p.1 with
  | .int i => some (some i, p.2)
  | _ => none
theorem pSo_ev : pSo f e = (f e).bind psoC := rfl
theorem psoC_ev (k : Int) : psoC (.int k, e1) = some (some k, e1) := rfl
def lofC : D × Ev → Option (List D × Ev) := fun p => match p.1 with
  | .tuple xs => some (xs, p.2)
  | .list xs => some (xs, p.2)
  | _ => none
theorem lOf_ev : lOf f e = (f e).bind lofC := rfl
theorem lofC_tup : lofC (.tuple xs, e1) = some (xs, e1) := rfl
theorem lofC_lst : lofC (.list xs, e1) = some (xs, e1) := rfl
theorem ifCg {α : Type} {p q : Prop} {_ : Decidable p} {_ : Decidable q} {x y u v : α} (h : p ↔ q) (h1 : x = u) (h2 : y = v) : (if p then x else y) = if q then u else v := by
  subst h1; subst h2
  by_cases k : p
  · rw [if_pos k, if_pos (h.mp k)]
  · rw [if_neg k, if_neg fun z => k (h.mpr z)]
def rng1C : D × Ev → Option (List D × Ev) := fun p => match p.1 with
  | .int j => if -(2 ^ 62) ≤ j ∧ j < 2 ^ 62 then some (rngD 0 j.toNat, p.2) else none
  | _ => none
theorem lRng1_ev : lRng1 f e = (f e).bind rng1C := rfl
def Rg (j : Int) : Prop := -(2 ^ 62) ≤ j ∧ j < 2 ^ 62
instance (j : Int) : Decidable (Rg j) := inferInstanceAs (Decidable (-(2 ^ 62) ≤ j ∧ j < 2 ^ 62))
theorem rg_of {j : Int} (h1 : -1000000000000 ≤ j) (h2 : j ≤ 1000000000000) : Rg j := ⟨by omega, by omega⟩
theorem rng1C_ev (j : Int) : rng1C (.int j, e1) = if Rg j then some (rngD 0 j.toNat, e1) else none := ifCg Iff.rfl rfl rfl
def rng2C2 (x : D) : D × Ev → Option (List D × Ev) := fun q => match x, q.1 with
  | .int i, .int j => if (-(2 ^ 62) ≤ i ∧ i < 2 ^ 62) ∧ -(2 ^ 62) ≤ j ∧ j < 2 ^ 62 then some (rngD i (j - i).toNat, q.2) else none
  | _, _ => none
def rng2C (g : EF) : D × Ev → Option (List D × Ev) := fun p => (g p.2).bind (rng2C2 p.1)
theorem lRng2_ev : lRng2 f g e = (f e).bind (rng2C g) := rfl
theorem rng2C_ev : rng2C g (x, e1) = (g e1).bind (rng2C2 x) := rfl
theorem rng2C2_ev (k j : Int) : rng2C2 (.int k) (.int j, e1) = if Rg k ∧ Rg j then some (rngD k (j - k).toNat, e1) else none := ifCg Iff.rfl rfl rfl
def Rpt (n : Nat) (k : Int) : Prop := (-(2 ^ 63) ≤ k ∧ k < 2 ^ 63) ∧ n * k.toNat ≤ sizeLine
instance (n : Nat) (k : Int) : Decidable (Rpt n k) := inferInstanceAs (Decidable ((-(2 ^ 63) ≤ k ∧ k < 2 ^ 63) ∧ n * k.toNat ≤ sizeLine))
theorem rpt_of {n : Nat} {k : Int} (h1 : -1000000000000 ≤ k) (h2 : k ≤ 1000000000000) (h3 : n * k.toNat ≤ 1000000) : Rpt n k := ⟨⟨by omega, by omega⟩, Nat.le_trans h3 (by decide)⟩
def repC2 (x : D) : D × Ev → Option (Sl × Ev) := fun q => match x, q.1 with
  | .list xs, .int k => if (-(2 ^ 63) ≤ k ∧ k < 2 ^ 63) ∧ xs.length * k.toNat ≤ sizeLine then some (.li (List.replicate k.toNat xs).flatten, q.2) else none
  | _, _ => none
def repC (g : EF) : D × Ev → Option (Sl × Ev) := fun p => (g p.2).bind (repC2 p.1)
theorem oRep_ev : oRep f g e = (f e).bind (repC g) := rfl
theorem repC_ev : repC g (x, e1) = (g e1).bind (repC2 x) := rfl
theorem repC2_ev (k : Int) : repC2 (.list xs) (.int k, e1) = if Rpt xs.length k then some (.li (List.replicate k.toNat xs).flatten, e1) else none := ifCg Iff.rfl rfl rfl
/-! calls -/
def callC2 (as : List Ar) (e : Ev) : Sl × List Sl → Sl × Ev := fun q => (q.1, arBack as q.2 e)
def callC (g : Fnc) : List Ar × Ev → Option (Sl × Ev) := fun p => if (refs p.1).Nodup ∧ ((refs p.1).all fun i => isOw p.2[i]?) = true then (g (p.1.map (arSl p.2))).map (callC2 p.1 p.2) else none
theorem oCall_ev (g : Fnc) (f : AF) : oCall g f e = (f e).bind (callC g) := rfl
/-- all arguments are values -/
def vals : List Ar → Option (List D)
  | [] => some []
  | .vl d :: as => (vals as).map (d :: ·)
  | .rf _ :: _ => none
theorem callC_0 (g : Fnc) : callC g ([], e1) = (g []).map (callC2 [] e1) := by unfold callC; rw [if_pos ⟨List.nodup_nil, rfl⟩]; rfl
theorem callC_1 (g : Fnc) : callC g ([.vl x], e1) = (g [.va x]).map (callC2 [.vl x] e1) := by unfold callC; rw [if_pos ⟨List.nodup_nil, rfl⟩]; rfl
theorem callC_2 (g : Fnc) : callC g ([.vl x, .vl y], e1) = (g [.va x, .va y]).map (callC2 [.vl x, .vl y] e1) := by unfold callC; rw [if_pos ⟨List.nodup_nil, rfl⟩]; rfl
theorem callC_3 (g : Fnc) (z : D) : callC g ([.vl x, .vl y, .vl z], e1) = (g [.va x, .va y, .va z]).map (callC2 [.vl x, .vl y, .vl z] e1) := by unfold callC; rw [if_pos ⟨List.nodup_nil, rfl⟩]; rfl
theorem callC_4 (g : Fnc) (z u : D) : callC g ([.vl x, .vl y, .vl z, .vl u], e1) = (g [.va x, .va y, .va z, .va u]).map (callC2 [.vl x, .vl y, .vl z, .vl u] e1) := by unfold callC; rw [if_pos ⟨List.nodup_nil, rfl⟩]; rfl
theorem callC_5 (g : Fnc) (z u v : D) : callC g ([.vl x, .vl y, .vl z, .vl u, .vl v], e1) = (g [.va x, .va y, .va z, .va u, .va v]).map (callC2 [.vl x, .vl y, .vl z, .vl u, .vl v] e1) := by unfold callC; rw [if_pos ⟨List.nodup_nil, rfl⟩]; rfl
/-- a tape first -/
theorem callC_r (g : Fnc) (as : List Ar) (hv : refs as = []) (hi : isOw e1[i]? = true) : callC g (.rf i :: as, e1) = (g (arSl e1 (.rf i) :: as.map (arSl e1))).map (callC2 (.rf i :: as) e1) := by
  unfold callC
  rw [if_pos ⟨by show (i :: refs as).Nodup; rw [hv]; simp, by show ((i :: refs as).all _) = true; rw [hv]; simp [hi]⟩]; rfl
theorem callC_rv (g : Fnc) : callC g ([.rf i, .vl x], e1) = if isOw e1[i]? = true then (g [(e1[i]?).getD .no, .va x]).map (callC2 [.rf i, .vl x] e1) else none := by
  by_cases h : isOw e1[i]? = true
  · rw [if_pos h, callC_r e1 i g [.vl x] rfl h]; rfl
  · rw [if_neg h]
    unfold callC
    rw [if_neg fun k => h (List.all_eq_true.mp k.2 i (List.mem_singleton.mpr rfl))]
theorem callC_rv4 (g : Fnc) (x1 x2 x3 x4 : D) : callC g ([.rf i, .vl x1, .vl x2, .vl x3, .vl x4], e1) = if isOw e1[i]? = true then (g [(e1[i]?).getD .no, .va x1, .va x2, .va x3, .va x4]).map (callC2 [.rf i, .vl x1, .vl x2, .vl x3, .vl x4] e1) else none := by
  by_cases h : isOw e1[i]? = true
  · rw [if_pos h, callC_r e1 i g [.vl x1, .vl x2, .vl x3, .vl x4] rfl h]; rfl
  · rw [if_neg h]
    unfold callC
    rw [if_neg fun k => h (List.all_eq_true.mp k.2 i (List.mem_singleton.mpr rfl))]
theorem arSl_vl : arSl e (.vl x) = .va x := rfl
theorem arSl_rf : arSl e (.rf i) = (e[i]?).getD .no := rfl
theorem callC2_ev (as : List Ar) (r : Sl) (ss : List Sl) : callC2 as e (r, ss) = (r, arBack as ss e) := rfl
theorem arBack_nil (ss : List Sl) : arBack [] ss e = e := by cases ss <;> rfl
theorem arBack_vl (as : List Ar) (s : Sl) (ss : List Sl) : arBack (.vl x :: as) (s :: ss) e = arBack as ss e := rfl
theorem arBack_rf (as : List Ar) (s : Sl) (ss : List Sl) : arBack (.rf i :: as) (s :: ss) e = arBack as ss (e.set i s) := rfl
theorem rNil_ev : rNil e = some ([], e) := rfl
def rvC2 (d : D) : List Ar × Ev → List Ar × Ev := fun q => (.vl d :: q.1, q.2)
def rvC (g : AF) : D × Ev → Option (List Ar × Ev) := fun p => (g p.2).map (rvC2 p.1)
theorem rVal_ev (g : AF) : rVal f g e = (f e).bind (rvC g) := rfl
theorem rvC_ev (g : AF) : rvC g (d, e1) = (g e1).map (rvC2 d) := rfl
theorem rvC2_ev (as : List Ar) : rvC2 d (as, e1) = (.vl d :: as, e1) := rfl
def rrC (i : Nat) : List Ar × Ev → List Ar × Ev := fun q => (.rf i :: q.1, q.2)
theorem rRef_ev (g : AF) : rRef i g e = if isOw e[i]? = true then (g e).map (rrC i) else none := rfl
theorem rrC_ev (as : List Ar) : rrC i (as, e1) = (.rf i :: as, e1) := rfl
/-! comprehensions -/
def compC2 (b : Ev) (vs : List Nat) : List D × Ev → Sl × Ev := fun r => (.li r.1, backE b r.2 vs)
def compC (t : GF) (c : BF) (f : EF) (vs : List Nat) : List D × Ev → Option (Sl × Ev) := fun p => if p.1.length ≤ sizeLine ∧ (vs.all fun i => !isOw p.2[i]?) = true then (compL t c f vs p.1 (wipeE p.2 vs)).map (compC2 p.2 vs) else none
theorem oComp_ev (g : LF) (t : GF) (c : BF) (vs : List Nat) : oComp g t c f vs e = (g e).bind (compC t c f vs) := rfl
theorem compC_ev (t : GF) (c : BF) (vs : List Nat) (h1 : ds.length ≤ sizeLine) (h2 : (vs.all fun i => !isOw e1[i]?) = true) : compC t c f vs (ds, e1) = (compL t c f vs ds (wipeE e1 vs)).map (compC2 e1 vs) := if_pos ⟨h1, h2⟩
theorem compC2_ev (vs : List Nat) : compC2 e vs (xs, e1) = (.li xs, backE e e1 vs) := rfl
theorem wipeE_nil : wipeE e [] = e := rfl
theorem wipeE_cons (v : Nat) (vs : List Nat) : wipeE e (v :: vs) = (wipeE e vs).set v .no := rfl
theorem backE_nil : backE e e1 [] = e1 := rfl
theorem backE_cons (v : Nat) (vs : List Nat) : backE e e1 (v :: vs) = (backE e e1 vs).set v ((e[v]?).getD .no) := rfl
/-! targets -/
theorem gNm_ev : gNm i d e = if isOw e[i]? = true then none else some (e.set i (.va d)) := rfl
theorem gTupF_ev (t : List D → Ev → Option Ev) (n : Nat) : gTupF t n (.tuple ds) e = if ds.length = n then t ds e else none := rfl
theorem gsNil_ev : gsNil [] e = some e := rfl
theorem gsCons_ev (t : GF) (u : List D → Ev → Option Ev) : gsCons t u (d :: ds) e = (t d e).bind (u ds) := rfl
/-! statements -/
theorem sNext_ev : sNext e = some (.nx e) := rfl
theorem sBreak_ev : sBreak e = some (.bk e) := rfl
theorem sCont_ev : sCont e = some (.ct e) := rfl
def seqC (g : SF) : O → Option O
  | .nx e1 => g e1
  | .bk e1 => some (.bk e1)
  | .ct e1 => some (.ct e1)
  | .rt r e1 => some (.rt r e1)
theorem sSeq_ev (f g : SF) : sSeq f g e = (f e).bind (seqC g) := by
  unfold sSeq
  cases f e with
  | none => rfl
  | some o => cases o <;> rfl
theorem seqC_nx (g : SF) : seqC g (.nx e1) = g e1 := rfl
theorem seqC_bk (g : SF) : seqC g (.bk e1) = some (.bk e1) := rfl
theorem seqC_ct (g : SF) : seqC g (.ct e1) = some (.ct e1) := rfl
theorem seqC_rt (g : SF) (r : Sl) : seqC g (.rt r e1) = some (.rt r e1) := rfl
def setC (i : Nat) : Sl × Ev → Option O := fun p => if isOw p.2[i]? = true then none else some (.nx (p.2.set i p.1))
theorem sSet_ev (f : OF) : sSet i f e = (f e).bind (setC i) := rfl
theorem setC_ev (s : Sl) : setC i (s, e1) = if isOw e1[i]? = true then none else some (.nx (e1.set i s)) := rfl
def parC (is : List Nat) : List Sl × Ev → Option O := fun p => (setAll is p.1 p.2).map O.nx
theorem sPar_ev (f : OLF) : sPar is f e = (f e).bind (parC is) := rfl
theorem parC_ev (ss : List Sl) : parC is (ss, e1) = (setAll is ss e1).map O.nx := rfl
theorem setAll_nil : setAll [] [] e = some e := rfl
theorem setAll_cons (s : Sl) (ss : List Sl) : setAll (i :: is) (s :: ss) e = if isOw e[i]? = true then none else setAll is ss (e.set i s) := rfl
theorem olNil_ev : olNil e = some ([], e) := rfl
def olC2 (s : Sl) : List Sl × Ev → List Sl × Ev := fun q => (s :: q.1, q.2)
def olC (g : OLF) : Sl × Ev → Option (List Sl × Ev) := fun p => (g p.2).map (olC2 p.1)
theorem olCons_ev (f : OF) (g : OLF) : olCons f g e = (f e).bind (olC g) := rfl
theorem olC_ev (g : OLF) (s : Sl) : olC g (s, e1) = (g e1).map (olC2 s) := rfl
theorem olC2_ev (s : Sl) (ss : List Sl) : olC2 s (ss, e1) = (s :: ss, e1) := rfl
def asgC (t : GF) : D × Ev → Option O := fun p => (t p.1 p.2).map O.nx
theorem sAsg_ev (t : GF) : sAsg f t e = (f e).bind (asgC t) := rfl
theorem asgC_ev (t : GF) : asgC t (d, e1) = (t d e1).map O.nx := rfl
def sifC (f g : SF) : Bool × Ev → Option O := fun p => if p.1 = true then f p.2 else g p.2
theorem sIf_ev (c : BF) (f g : SF) : sIf c f g e = (c e).bind (sifC f g) := rfl
theorem sifC_t (f g : SF) : sifC f g (true, e1) = f e1 := rfl
theorem sifC_f (f g : SF) : sifC f g (false, e1) = g e1 := rfl
def forC (t : GF) (b : SF) : List D × Ev → Option O := fun p => forL t b p.1 p.2
theorem sFor_ev (g : LF) (t : GF) (b : SF) : sFor g t b e = (g e).bind (forC t b) := rfl
theorem forC_ev (t : GF) (b : SF) : forC t b (ds, e1) = forL t b ds e1 := rfl
def dropC : D × Ev → O := fun p => .nx p.2
theorem sDrop_ev : sDrop f e = (f e).map dropC := rfl
theorem dropC_ev : dropC (d, e1) = .nx e1 := rfl
def retC : D × Ev → O := fun p => .rt (.va p.1) p.2
theorem sRet_ev : sRet f e = (f e).map retC := rfl
theorem retC_ev : retC (d, e1) = .rt (.va d) e1 := rfl
def retnC (i : Nat) (e : Ev) : Sl → Option O := fun s => match s with
  | .va d => some (.rt (.va d) e)
  | .li xs => some (.rt (.li xs) (e.set i .no))
  | .di xs => some (.rt (.di xs) (e.set i .no))
  | .dt xs => some (.rt (.dt xs) (e.set i .no))
  | _ => none
theorem sRetN_ev : sRetN i e = e[i]?.bind (retnC i e) := rfl
theorem retnC_va : retnC i e (.va d) = some (.rt (.va d) e) := rfl
theorem retnC_li : retnC i e (.li xs) = some (.rt (.li xs) (e.set i .no)) := rfl
theorem liOf_li : liOf (some (.li xs)) = some xs := rfl
def mt1C4 (i : Nat) (e : Ev) : D × List D → D × Ev := fun r => (r.1, e.set i (.li r.2))
def mt1C3 (g : List D → D → Option (D × List D)) (i : Nat) (d : D) (e : Ev) : List D → Option (D × Ev) := fun xs => (g xs d).map (mt1C4 i e)
def mt1C2 (g : List D → D → Option (D × List D)) (i : Nat) : D × Ev → Option (D × Ev) := fun p => (liOf p.2[i]?).bind (mt1C3 g i p.1 p.2)
def mt1C (g : List D → D → Option (D × List D)) (i : Nat) (f : EF) (e : Ev) : List D → Option (D × Ev) := fun _ => (f e).bind (mt1C2 g i)
theorem eMt1_ev (g : List D → D → Option (D × List D)) : eMt1 g i f e = (liOf e[i]?).bind (mt1C g i f e) := rfl
theorem mt1C_ev (g : List D → D → Option (D × List D)) : mt1C g i f e xs = (f e).bind (mt1C2 g i) := rfl
theorem mt1C2_ev (g : List D → D → Option (D × List D)) : mt1C2 g i (d, e1) = (liOf e1[i]?).bind (mt1C3 g i d e1) := rfl
theorem mt1C3_ev (g : List D → D → Option (D × List D)) : mt1C3 g i d e xs = (g xs d).map (mt1C4 i e) := rfl
theorem mt1C4_ev : mt1C4 i e (d, xs) = (d, e.set i (.li xs)) := rfl
def mt0C (g : List D → Option (D × List D)) (i : Nat) (e : Ev) : List D → Option (D × Ev) := fun xs => (g xs).map (mt1C4 i e)
theorem eMt0_ev (g : List D → Option (D × List D)) : eMt0 g i e = (liOf e[i]?).bind (mt0C g i e) := rfl
theorem mt0C_ev (g : List D → Option (D × List D)) : mt0C g i e xs = (g xs).map (mt1C4 i e) := rfl
def subC4 (i : Nat) (e : Ev) (xs : List D) (v : D) : Nat → O := fun j => .nx (e.set i (.li (xs.set j v)))
def subC3 (i : Nat) (v k : D) (e : Ev) : List D → Option O := fun xs => match k with
  | .int k => (ixN xs.length k).map (subC4 i e xs v)
  | _ => none
def subC2 (i : Nat) (v : D) : D × Ev → Option O := fun q => (liOf q.2[i]?).bind (subC3 i v q.1 q.2)
def subC1 (i : Nat) (fi : EF) (v : D) (e : Ev) : List D → Option O := fun _ => (fi e).bind (subC2 i v)
def subC (i : Nat) (fi : EF) : D × Ev → Option O := fun p => (liOf p.2[i]?).bind (subC1 i fi p.1 p.2)
theorem sSub_ev (fi fv : EF) : sSub i fi fv e = (fv e).bind (subC i fi) := rfl
theorem subC_ev (fi : EF) : subC i fi (x, e1) = (liOf e1[i]?).bind (subC1 i fi x e1) := rfl
theorem subC1_ev (fi : EF) : subC1 i fi x e xs = (fi e).bind (subC2 i x) := rfl
theorem subC2_ev : subC2 i x (y, e1) = (liOf e1[i]?).bind (subC3 i x y e1) := rfl
theorem subC3_ev (k : Int) : subC3 i x (.int k) e xs = (ixN xs.length k).map (subC4 i e xs x) := rfl
theorem subC4_ev (j : Nat) : subC4 i e xs x j = .nx (e.set i (.li (xs.set j x))) := rfl
def augC3 (i : Nat) (e : Ev) : D → Option O := fun d => if isOw e[i]? = true then none else some (.nx (e.set i (.va d)))
def augC2 (g : D → D → Option D) (i : Nat) (x : D) : D × Ev → Option O := fun p => (g x p.1).bind (augC3 i p.2)
def augC (g : D → D → Option D) (i : Nat) (f : EF) (e : Ev) : Option Sl → Option O
  | some (.va x) => (f e).bind (augC2 g i x)
  | _ => none
theorem sAug_ev (g : D → D → Option D) : sAug g i f e = augC g i f e e[i]? := rfl
theorem augC_ev (g : D → D → Option D) : augC g i f e (some (.va x)) = (f e).bind (augC2 g i x) := rfl
theorem augC2_ev (g : D → D → Option D) : augC2 g i x (y, e1) = (g x y).bind (augC3 i e1) := rfl
theorem augC3_ev : augC3 i e d = if isOw e[i]? = true then none else some (.nx (e.set i (.va d))) := rfl
def mkC (ss : List Sl) : O → Option (Sl × List Sl)
  | .rt r e => some (r, keepE ss e)
  | .nx e => some (.va .none, keepE ss e)
  | _ => none
theorem mkF_ev (n : Nat) (b : SF) (ss : List Sl) : mkF n b ss = (b (ss ++ List.replicate (n - ss.length) .no)).bind (mkC ss) := by
  unfold mkF
  cases b (ss ++ List.replicate (n - ss.length) .no) with
  | none => rfl
  | some o => cases o <;> rfl
theorem mkC_rt (ss : List Sl) (r : Sl) : mkC ss (.rt r e) = some (r, keepE ss e) := rfl
theorem mkC_nx (ss : List Sl) : mkC ss (.nx e) = some (.va .none, keepE ss e) := rfl
theorem keepE_nil : keepE [] e = [] := rfl
theorem keepE_va (ss : List Sl) : keepE (.va d :: ss) e = .no :: keepE ss e.tail := rfl
theorem keepE_ow' (t : OT) (ss : List Sl) : keepE (.ow t :: ss) e = e.headD .no :: keepE ss e.tail := rfl
/-! the values' own operations -/
theorem dTru_bool (b : Bool) : dTru (.bool b) = some b := rfl
theorem dTru_int (k : Int) : dTru (.int k) = some (k != 0) := rfl
theorem dTru_none : dTru .none = some false := rfl
theorem dTru_list : dTru (.list xs) = some (!xs.isEmpty) := rfl
theorem dTru_tuple : dTru (.tuple xs) = some (!xs.isEmpty) := rfl
theorem dAdd_int (k j : Int) : dAdd (.int k) (.int j) = some (.int (k + j)) := rfl
theorem dAdd_tup : dAdd (.tuple xs) (.tuple ys) = if xs.length + ys.length ≤ sizeLine then some (.tuple (xs ++ ys)) else none := rfl
theorem dAdd_lst : dAdd (.list xs) (.list ys) = if xs.length + ys.length ≤ sizeLine then some (.list (xs ++ ys)) else none := rfl
theorem dIadd_int (k j : Int) : dIadd (.int k) (.int j) = some (.int (k + j)) := rfl
theorem dSub_int (k j : Int) : dSub (.int k) (.int j) = some (.int (k - j)) := rfl
theorem dMul_int (k j : Int) : dMul (.int k) (.int j) = if CMul k j then some (.int (k * j)) else none := rfl
theorem dDiv_int (k j : Int) : dDiv (.int k) (.int j) = if CDiv k j then some (.int (k / j)) else none := rfl
theorem dMod_int (k j : Int) : dMod (.int k) (.int j) = if 0 < j then some (.int (k % j)) else none := rfl
theorem dNeg_int (k : Int) : dNeg (.int k) = some (.int (-k)) := rfl
theorem dMin2_int (k j : Int) : dMin2 (.int k) (.int j) = some (.int (if j < k then j else k)) := rfl
theorem dMax2_int (k j : Int) : dMax2 (.int k) (.int j) = some (.int (if j > k then j else k)) := rfl
theorem dLtA_int (k j : Int) : dLtA (.int k) (.int j) = some (.bool (decide (k < j))) := rfl
theorem dLe_int (k j : Int) : dLe (.int k) (.int j) = some (.bool (decide (k ≤ j))) := rfl
theorem dLt_int (k j : Int) : dLt (.int k) (.int j) = some (.bool (decide (k < j))) := rfl
theorem dGt_int (k j : Int) : dGt (.int k) (.int j) = some (.bool (decide (j < k))) := rfl
theorem dGe_int (k j : Int) : dGe (.int k) (.int j) = some (.bool (decide (j ≤ k))) := rfl
theorem shaped_int (k : Int) : SeqAt.shaped (.int k) = true := rfl
theorem shaped_bool (k : Bool) : SeqAt.shaped (.bool k) = true := rfl
theorem shaped_none : SeqAt.shaped .none = true := rfl
theorem eqv_int (k j : Int) : PyData.eqv (.int k) (.int j) = (k == j) := by rw [PyData.eqv]
theorem eqv_bool (k j : Bool) : PyData.eqv (.bool k) (.bool j) = (k == j) := by rw [PyData.eqv]
theorem dEq_int (k j : Int) : dEq (.int k) (.int j) = some (.bool (k == j)) := by unfold dEq; rw [if_pos ⟨shaped_int k, shaped_int j⟩, eqv_int]
theorem dNe_int (k j : Int) : dNe (.int k) (.int j) = some (.bool (!(k == j))) := by unfold dNe; rw [if_pos ⟨shaped_int k, shaped_int j⟩, eqv_int]
theorem dEq_bool (k j : Bool) : dEq (.bool k) (.bool j) = some (.bool (k == j)) := by unfold dEq; rw [if_pos ⟨shaped_bool k, shaped_bool j⟩, eqv_bool]
theorem dIs_none : dIs x .none = some (.bool (isNon x)) := rfl
theorem dIsN_none : dIsN x .none = some (.bool (!isNon x)) := rfl
theorem isNon_none : isNon .none = true := rfl
theorem isNon_int (k : Int) : isNon (.int k) = false := rfl
theorem isNon_tup : isNon (.tuple xs) = false := rfl
theorem isNon_bool (b : Bool) : isNon (.bool b) = false := rfl
theorem dLen_tup : dLen (.tuple xs) = some (.int xs.length) := rfl
theorem dLen_lst : dLen (.list xs) = some (.int xs.length) := rfl
theorem dIx_tup (k : Int) : dIx (.tuple xs) (.int k) = atI xs k := rfl
theorem dIx_lst (k : Int) : dIx (.list xs) (.int k) = atI xs k := rfl
theorem at0 : atI (x :: xs) 0 = some x := atI_nat (j := 0) rfl
theorem at1 : atI (x :: y :: xs) 1 = some y := atI_nat (j := 1) rfl
theorem at2 (z : D) : atI (x :: y :: z :: xs) 2 = some z := atI_nat (j := 2) rfl
theorem at3 (z u : D) : atI (x :: y :: z :: u :: xs) 3 = some u := atI_nat (j := 3) rfl
theorem gExtend_lst : gExtend ds (.list xs) = if ds.length + xs.length ≤ sizeLine then some (.none, ds ++ xs) else none := rfl
theorem dTuple_lst : dTuple (.list xs) = some (.tuple xs) := rfl
theorem dTuple_tup : dTuple (.tuple xs) = some (.tuple xs) := rfl
theorem dList_lst : dList (.list xs) = some xs := rfl
theorem dList_tup : dList (.tuple xs) = some xs := rfl
theorem dInt_int (k : Int) : dInt (.int k) = some (.int k) := rfl
theorem dSl_tup (lo hi : Option Int) : dSl lo hi (.tuple xs) = some (.tuple (cutD xs lo hi)) := rfl
theorem dSl_lst (lo hi : Option Int) : dSl lo hi (.list xs) = some (.list (cutD xs lo hi)) := rfl
theorem isi_tup (p : D → Bool) : dIsi p (.tuple xs) = some (.bool (p (.tuple xs))) := rfl
theorem isi_lst (p : D → Bool) : dIsi p (.list xs) = some (.bool (p (.list xs))) := rfl
theorem isi_int (p : D → Bool) (k : Int) : dIsi p (.int k) = some (.bool (p (.int k))) := rfl
theorem isi_bool (p : D → Bool) (k : Bool) : dIsi p (.bool k) = some (.bool (p (.bool k))) := rfl
theorem isi_str (p : D → Bool) (k : Str) : dIsi p (.str k) = some (.bool (p (.str k))) := rfl
theorem isi_none (p : D → Bool) : dIsi p .none = some (.bool (p .none)) := rfl
theorem sz0 : 0 ≤ sizeLine := by decide
theorem sz1 : 1 ≤ sizeLine := by decide
theorem sz2 : 2 ≤ sizeLine := by decide
theorem sz3 : 3 ≤ sizeLine := by decide
theorem sz4 : 4 ≤ sizeLine := by decide
theorem sz5 : 5 ≤ sizeLine := by decide
theorem sz6 : 6 ≤ sizeLine := by decide
theorem sz7 : 7 ≤ sizeLine := by decide
theorem sz8 : 8 ≤ sizeLine := by decide
theorem sz9 : 9 ≤ sizeLine := by decide
theorem sz10 : 10 ≤ sizeLine := by decide
theorem sz11 : 11 ≤ sizeLine := by decide
theorem sz12 : 12 ≤ sizeLine := by decide
/-! ownership at written slots -/
theorem isOw_no : isOw (some .no) = false := rfl
theorem isOw_va : isOw (some (.va d)) = false := rfl
theorem isOw_li : isOw (some (.li xs)) = false := rfl
theorem isOw_di (r : List (Key × D)) : isOw (some (.di r)) = false := rfl
theorem isOw_dt (r : List (List Key × D)) : isOw (some (.dt r)) = false := rfl
theorem isOw_ow (t : OT) : isOw (some (.ow t)) = true := rfl
theorem isOw_none : isOw none = false := rfl
end
def sl : Option D → Sl
  | none => .no
  | some d => .va d
theorem isOw_sl (m : Option D) : isOw (some (sl m)) = false := by cases m <;> rfl
end Fl

set_option linter.all false
set_option maxRecDepth 100000
set_option maxHeartbeats 1000000
set_option autoImplicit false
/-! FnPure: plain lemmas about the layer's functions. -/
namespace Fl
open PySem PySem.Spec PyProof.Rows L2
abbrev iL (xs : List Int) : List D := xs.map PyData.int
theorem iL_app (xs : List Int) (v : Int) : iL xs ++ [PyData.int v] = iL (xs ++ [v]) := by simp [iL]
theorem iL_len (xs : List Int) : (iL xs).length = xs.length := List.length_map _
theorem small1M {n : Nat} (h : n < 1000000) : n < sizeLine := Nat.lt_trans h (by decide)
theorem small1Me {n : Nat} (h : n ≤ 1000000) : n ≤ sizeLine := Nat.le_trans h (by decide)
theorem atI_end (xs : List D) (v : D) : atI (xs ++ [v]) (-1) = some v := atI_last xs v
theorem atI_ofNat {α : Type} {xs : List α} {j : Nat} {v : α} (h : xs[j]? = some v) : atI xs (j : Int) = some v := atI_nat h
/-! own lists -/
theorem gAppend_ok {xs : List D} {d : D} (h : xs.length < 1000000) : gAppend xs d = some (.none, xs ++ [d]) := if_pos (small1M h)
theorem gPop_ok {xs : List D} {d : D} : gPop (xs ++ [d]) = some (d, xs) := by
  unfold gPop
  rw [List.length_append, List.length_singleton, Nat.add_sub_cancel, List.getElem?_append_right (Nat.le_refl _), Nat.sub_self, List.dropLast_concat]
  rfl
theorem iL_cat (xs : List Int) (v : Int) : iL (xs ++ [v]) = iL xs ++ [PyData.int v] := by simp [iL]
theorem intsOf_tup (ns : List Int) : intsOf (.tuple (iL ns)) = some ns := asInts_map ns
theorem intsOf_lst (ns : List Int) : intsOf (.list (iL ns)) = some ns := asInts_map ns
theorem dSum_tup (ns : List Int) : dSum (.tuple (iL ns)) = some (.int ns.sum) := by unfold dSum; rw [intsOf_tup]; rfl
theorem dSum_lst (ns : List Int) : dSum (.list (iL ns)) = some (.int ns.sum) := by unfold dSum; rw [intsOf_lst]; rfl
theorem emp_iL (xs : List Int) : (iL xs).isEmpty = xs.isEmpty := by cases xs <;> rfl
theorem emp_cat {α : Type} (xs : List α) (v : α) : (xs ++ [v]).isEmpty = false := by cases xs <;> rfl
theorem atI_iL {xs : List Int} {j : Nat} {v : Int} (h : xs[j]? = some v) : atI (iL xs) (j : Int) = some (.int v) := atI_ofNat (by rw [List.getElem?_map, h]; rfl)
theorem atI_iL' {xs : List Int} {j : Nat} (h : j < xs.length) : atI (iL xs) (j : Int) = some (.int (xs.getD j 0)) := atI_iL (by rw [List.getD_eq_getElem?_getD, List.getElem?_eq_getElem h]; rfl)
theorem nilCat {α : Type} (xs : List α) : xs = [] ∨ ∃ ys y, xs = ys ++ [y] := by
  rcases List.eq_nil_or_concat xs with h | ⟨ys, y, h⟩
  · exact .inl h
  · exact .inr ⟨ys, y, h.trans (List.concat_eq_append)⟩
theorem min_if (a b : Int) : (if b < a then b else a) = min a b := by split <;> omega
theorem max_if (a b : Int) : (if b > a then b else a) = max a b := by split <;> omega
/-! ### in, of ints -/
theorem flat_iL (os : List Int) : (iL os).all flatD = true := by
  rw [List.all_map]
  exact List.all_eq_true.mpr fun _ _ => rfl
theorem any_iL (s : Int) : ∀ os : List Int, ((iL os).any fun z => PyData.eqv z (.int s)) = decide (s ∈ os)
  | [] => rfl
  | o :: os => by
    show (PyData.eqv (.int o) (.int s) || (iL os).any _) = _
    rw [eqv_int, any_iL s os]
    by_cases h : o = s
    · subst h; simp
    · have h2 : (o == s) = false := by simpa using h
      rw [h2, Bool.false_or]
      by_cases k : s ∈ os
      · rw [decide_eq_true k, decide_eq_true (List.mem_cons_of_mem _ k)]
      · rw [decide_eq_false k, decide_eq_false fun z => (List.mem_cons.mp z).elim (fun e => h e.symm) k]
theorem inB_tup (s : Int) (os : List Int) : dInB false (.int s) (.tuple (iL os)) = some (.bool (decide (s ∈ os))) := by
  show (if flatD (.int s) = true ∧ (iL os).all flatD = true then some (PyData.bool (if false = true then _ else (iL os).any fun z => PyData.eqv z (.int s))) else none) = _
  rw [if_pos ⟨rfl, flat_iL os⟩, any_iL]; rfl
theorem inB_lst (s : Int) (os : List Int) : dInB false (.int s) (.list (iL os)) = some (.bool (decide (s ∈ os))) := inB_tup s os
theorem ninB_tup (s : Int) (os : List Int) : dInB true (.int s) (.tuple (iL os)) = some (.bool (!decide (s ∈ os))) := by
  show (if flatD (.int s) = true ∧ (iL os).all flatD = true then some (PyData.bool (if true = true then !((iL os).any fun z => PyData.eqv z (.int s)) else _)) else none) = _
  rw [if_pos ⟨rfl, flat_iL os⟩, any_iL]; rfl
theorem ninB_lst (s : Int) (os : List Int) : dInB true (.int s) (.list (iL os)) = some (.bool (!decide (s ∈ os))) := ninB_tup s os
/-! ### cuts -/
theorem cutD_m1 {α : Type} (xs : List α) (v : α) : cutD (xs ++ [v]) none (some (-1)) = xs := by
  unfold cutD
  have h1 : HT.sIx (xs ++ [v]).length 0 none = 0 := rfl
  have h2 : HT.sIx (xs ++ [v]).length (xs ++ [v]).length (some (-1)) = xs.length := by
    show (if (-1 : Int) < 0 then ((-1) + ((xs ++ [v]).length : Int)).toNat else min (-1 : Int).toNat (xs ++ [v]).length) = _
    rw [if_pos (by decide), List.length_append, List.length_singleton]
    omega
  rw [h1, h2, List.drop_zero, Nat.sub_zero, List.take_left' rfl]
theorem cutD_to {α : Type} (xs : List α) (k : Nat) : cutD xs none (some (k : Int)) = xs.take k := by
  unfold cutD
  rw [HT.sIx_nat, show HT.sIx xs.length 0 none = 0 from rfl, List.drop_zero, Nat.sub_zero]
  rcases Nat.le_total k xs.length with h | h
  · rw [Nat.min_eq_left h]
  · rw [Nat.min_eq_right h, List.take_length, List.take_of_length_le h]
theorem cutD_from {α : Type} (xs : List α) (k : Nat) : cutD xs (some (k : Int)) none = xs.drop k := by
  unfold cutD
  rw [HT.sIx_nat, show HT.sIx xs.length xs.length none = xs.length from rfl]
  rcases Nat.le_total k xs.length with h | h
  · rw [Nat.min_eq_left h, List.take_of_length_le (by rw [List.length_drop]; omega)]
  · rw [Nat.min_eq_right h, List.drop_eq_nil_of_le (Nat.le_refl _), List.drop_eq_nil_of_le h]; simp
/-! ### loops -/
theorem forL_nil {t : GF} {b : SF} {e : Ev} : forL t b [] e = some (.nx e) := rfl
theorem forL_step {t : GF} {b : SF} {d : D} {ds : List D} {e e1 e2 : Ev} (h1 : t d e = some e1) (h2 : b e1 = some (.nx e2)) : forL t b (d :: ds) e = forL t b ds e2 := by
  unfold forL
  rw [h1]
  show ((b e1).bind _) = _
  rw [h2]
  cases ds <;> rfl
theorem forL_stepC {t : GF} {b : SF} {d : D} {ds : List D} {e e1 e2 : Ev} (h1 : t d e = some e1) (h2 : b e1 = some (.ct e2)) : forL t b (d :: ds) e = forL t b ds e2 := by
  unfold forL
  rw [h1]
  show ((b e1).bind _) = _
  rw [h2]
  cases ds <;> rfl
theorem forL_stepB {t : GF} {b : SF} {d : D} {ds : List D} {e e2 : Ev} (h : (t d e).bind b = some (.nx e2)) : forL t b (d :: ds) e = forL t b ds e2 := by
  obtain ⟨e1, h1, h2⟩ := Option.bind_eq_some_iff.mp h
  exact forL_step h1 h2
theorem forL_ret {t : GF} {b : SF} {d : D} {ds : List D} {e e2 : Ev} {r : Sl} (h : (t d e).bind b = some (.rt r e2)) : forL t b (d :: ds) e = some (.rt r e2) := by
  obtain ⟨e1, h1, h2⟩ := Option.bind_eq_some_iff.mp h
  unfold forL
  rw [h1]
  show ((b e1).bind _) = _
  rw [h2]
  cases ds <;> rfl
/-- a loop by the index of its item -/
theorem forL_at {A : Type} {t : GF} {b : SF} {ds : List D} (enc : Nat → A → Ev) (I : Nat → A → Prop)
    (h : ∀ n a d, ds[n]? = some d → I n a → ∃ a', (t d (enc n a)).bind b = some (.nx (enc (n + 1) a')) ∧ I (n + 1) a') (a0 : A) (h0 : I 0 a0) : ∃ a', forL t b ds (enc 0 a0) = some (.nx (enc ds.length a')) ∧ I ds.length a' := by
  have key : ∀ (k n : Nat) (a : A), n + k = ds.length → I n a → ∃ a', forL t b (ds.drop n) (enc n a) = some (.nx (enc ds.length a')) ∧ I ds.length a' := fun k => by
    induction k with
    | zero =>
      intro n a hn hi
      have : n = ds.length := by omega
      subst this
      rw [List.drop_eq_nil_of_le (Nat.le_refl _)]
      exact ⟨a, rfl, hi⟩
    | succ k ih =>
      intro n a hn hi
      have hl : n < ds.length := by omega
      obtain ⟨a', h1, h2⟩ := h n a ds[n] (List.getElem?_eq_getElem hl) hi
      rw [List.drop_eq_getElem_cons hl, forL_stepB h1]
      exact ih (n + 1) a' (by omega) h2
  exact key ds.length 0 a0 (by omega) h0
/-- the same, where a turn may go on early -/
theorem forL_stepD {t : GF} {b : SF} {d : D} {ds : List D} {e e2 : Ev} (h : (t d e).bind b = some (.ct e2)) : forL t b (d :: ds) e = forL t b ds e2 := by
  obtain ⟨e1, h1, h2⟩ := Option.bind_eq_some_iff.mp h
  exact forL_stepC h1 h2
theorem forL_atC {t : GF} {b : SF} (I : Ev → Prop) (h : ∀ d e, I e → ∃ e', ((t d e).bind b = some (.nx e') ∨ (t d e).bind b = some (.ct e')) ∧ I e') : ∀ (ds : List D) (e : Ev), I e → ∃ e', forL t b ds e = some (.nx e') ∧ I e'
  | [], e, hi => ⟨e, rfl, hi⟩
  | d :: ds, e, hi => by
    obtain ⟨e1, h1, h2⟩ := h d e hi
    obtain ⟨e2, h3, h4⟩ := forL_atC I h ds e1 h2
    rcases h1 with h1 | h1
    · exact ⟨e2, by rw [forL_stepB h1]; exact h3, h4⟩
    · exact ⟨e2, by rw [forL_stepD h1]; exact h3, h4⟩
/-- a loop as a fold over states -/
theorem forL_fold {α S : Type} {t : GF} {b : SF} (encx : α → D) (enc : S → Ev) (step : S → α → S) (I : S → List α → Prop)
    (h : ∀ s x xs, I s (x :: xs) → ∃ e1, t (encx x) (enc s) = some e1 ∧ b e1 = some (.nx (enc (step s x))) ∧ I (step s x) xs) : ∀ (xs : List α) (s : S), I s xs → forL t b (xs.map encx) (enc s) = some (.nx (enc (xs.foldl step s)))
  | [], s, _ => rfl
  | x :: xs, s, hi => by
    obtain ⟨e1, h1, h2, h3⟩ := h s x xs hi
    rw [List.map_cons, forL_step h1 h2, List.foldl_cons]
    exact forL_fold encx enc step I h xs _ h3
/-- a loop that keeps a word: by the items left -/
theorem forL_inv {t : GF} {b : SF} (I : List D → Ev → Prop) (h : ∀ d ds e, I (d :: ds) e → ∃ e1 e2, t d e = some e1 ∧ b e1 = some (.nx e2) ∧ I ds e2) : ∀ (ds : List D) (e : Ev), I ds e → ∃ e', forL t b ds e = some (.nx e') ∧ I [] e'
  | [], e, hi => ⟨e, rfl, hi⟩
  | d :: ds, e, hi => by
    obtain ⟨e1, e2, h1, h2, h3⟩ := h d ds e hi
    rw [forL_step h1 h2]
    exact forL_inv I h ds e2 h3
/-- a while that keeps a word -/
theorem while_inv {c : BF} {b : SF} (I : Ev → Prop) (μ : Ev → Nat) (h : ∀ e, I e → (∃ e', c e = some (false, e') ∧ I e') ∨ ∃ e1 e2, c e = some (true, e1) ∧ b e1 = some (.nx e2) ∧ I e2 ∧ μ e2 < μ e) : ∀ (n : Nat) (e : Ev), μ e ≤ n → I e → ∃ e0 e', sWhile c b e = some (.nx e') ∧ I e0 ∧ c e0 = some (false, e') ∧ I e'
  | n, e, hn, hi => by
    rcases h e hi with ⟨e', h1, h2⟩ | ⟨e1, e2, h1, h2, h3, h4⟩
    · refine ⟨e, e', ?_, hi, h1, h2⟩
      rw [sWhile_eq, h1]; rfl
    · cases n with
      | zero => omega
      | succ n =>
        obtain ⟨e0, e', k1, k2, k3, k4⟩ := while_inv I μ h n e2 (by omega) h3
        refine ⟨e0, e', ?_, k2, k3, k4⟩
        rw [sWhile_eq, h1]
        show ((b e1).bind _) = _
        rw [h2]
        exact k1
/-- a while over states: as long as the test holds -/
theorem while_st {S : Type} {c : BF} {b : SF} (enc : S → Ev) (test : S → Bool) (step : S → S) (I : S → Prop) (μ : S → Nat)
    (h : ∀ s, I s → c (enc s) = some (test s, enc s) ∧ (test s = true → b (enc s) = some (.nx (enc (step s))) ∧ I (step s) ∧ μ (step s) < μ s)) : ∀ (n : Nat) (s : S), μ s ≤ n → I s → ∃ s', sWhile c b (enc s) = some (.nx (enc s')) ∧ I s' ∧ test s' = false ∧ ∀ P : S → Prop, P s → (∀ u, I u → test u = true → P u → P (step u)) → P s'
  | n, s, hn, hi => by
    obtain ⟨h1, h2⟩ := h s hi
    cases ht : test s with
    | false =>
      refine ⟨s, ?_, hi, ht, fun P h _ => h⟩
      rw [sWhile_eq, h1, ht]; rfl
    | true =>
      obtain ⟨h3, h4, h5⟩ := h2 ht
      cases n with
      | zero => omega
      | succ n =>
        obtain ⟨s', k1, k2, k3, k4⟩ := while_st enc test step I μ h n (step s) (by omega) h4
        refine ⟨s', ?_, k2, k3, fun P hp hs => k4 P (hs s hi ht hp) hs⟩
        rw [sWhile_eq, h1, ht]
        show ((b (enc s)).bind _) = _
        rw [h3]
        exact k1
theorem ixN_nat' {n k : Nat} (h : k < n) : ixN n (k : Int) = some k := by
  unfold ixN
  rw [if_pos (by omega), if_pos (by omega), Int.toNat_natCast]
theorem iL_set (xs : List Int) (k : Nat) (v : Int) : (iL xs).set k (.int v) = iL (xs.set k v) := by simp [iL]
/-! ### a list that turns into another, place by place -/
def mix {α : Type} (k : Nat) (xs ys : List α) : List α := ys.take k ++ xs.drop k
theorem mix_zero {α : Type} (xs ys : List α) : mix 0 xs ys = xs := rfl
theorem mix_all {α : Type} {xs ys : List α} {n : Nat} (h1 : ys.length = n) (h2 : xs.length = n) : mix n xs ys = ys := by
  unfold mix
  rw [List.take_of_length_le (by omega), List.drop_eq_nil_of_le (by omega), List.append_nil]
theorem mix_len {α : Type} {xs ys : List α} {k n : Nat} (h1 : ys.length = n) (h2 : xs.length = n) (hk : k ≤ n) : (mix k xs ys).length = n := by
  unfold mix
  rw [List.length_append, List.length_take, List.length_drop]; omega
theorem mix_get {α : Type} {xs ys : List α} {k : Nat} (h1 : ys.length = xs.length) (hk : k < xs.length) : (mix k xs ys)[k]? = xs[k]? := by
  unfold mix
  rw [List.getElem?_append_right (by rw [List.length_take]; omega), List.getElem?_drop, List.length_take]
  congr 1; omega
theorem mix_set {α : Type} {xs ys : List α} {k : Nat} {v : α} (h1 : ys.length = xs.length) (hv : ys[k]? = some v) : (mix k xs ys).set k v = mix (k + 1) xs ys := by
  have hk : k < ys.length := (List.getElem?_eq_some_iff.mp hv).1
  unfold mix
  have hl : (ys.take k).length = k := by rw [List.length_take]; omega
  rw [List.set_append, if_neg (by omega), hl, Nat.sub_self, List.drop_eq_getElem_cons (by omega : k < xs.length), List.set_cons_zero, List.take_add_one, hv, List.append_assoc]
  rfl
theorem nilCons {α : Type} : ∀ xs : List α, xs = [] ∨ ∃ x r, xs = x :: r
  | [] => .inl rfl
  | x :: r => .inr ⟨x, r, rfl⟩
theorem erase_perm {α : Type} : ∀ (l : List α) (j : Nat) (v : α), l[j]? = some v → (v :: l.eraseIdx j).Perm l
  | [], _, _, h => by cases h
  | x :: l, 0, v, h => by cases h; exact List.Perm.refl _
  | x :: l, j + 1, v, h => by
    have ih := erase_perm l j v h
    exact (List.Perm.swap x v (l.eraseIdx j)).trans (ih.cons x)
theorem iL_erase : ∀ (xs : List Int) (j : Nat), (iL xs).eraseIdx j = iL (xs.eraseIdx j)
  | [], _ => rfl
  | _ :: _, 0 => rfl
  | x :: xs, j + 1 => by show PyData.int x :: (iL xs).eraseIdx j = PyData.int x :: iL (xs.eraseIdx j); rw [iL_erase xs j]
theorem gPopAt_int (xs : List D) (k : Int) : gPopAt xs (.int k) = if -(2 ^ 63) ≤ k ∧ k < 2 ^ 63 then (ixN xs.length k).bind fun j => (xs[j]?).map fun y => (y, xs.eraseIdx j) else none := rfl
theorem gPopAt_ok {xs : List Int} {j : Nat} {v : Int} (hl : xs.length ≤ 1000000) (h : xs[j]? = some v) : gPopAt (iL xs) (.int j) = some (.int v, iL (xs.eraseIdx j)) := by
  have hj : j < xs.length := (List.getElem?_eq_some_iff.mp h).1
  rw [gPopAt_int, if_pos ⟨by omega, by omega⟩, ixN_nat' (by rw [iL_len]; omega), Option.bind_some, List.getElem?_map, h]
  show some (_, (iL xs).eraseIdx _) = _
  rw [iL_erase]
/-- a while over states, the next state of any kind -/
theorem while_ex {S : Type} {c : BF} {b : SF} (enc : S → Ev) (I Q : S → Prop) (μ : S → Nat)
    (h : ∀ s, I s → (c (enc s) = some (false, enc s) ∧ Q s) ∨ (c (enc s) = some (true, enc s) ∧ ∃ s', b (enc s) = some (.nx (enc s')) ∧ I s' ∧ μ s' < μ s)) : ∀ (s : S), I s → ∃ s', sWhile c b (enc s) = some (.nx (enc s')) ∧ I s' ∧ Q s' := by
  have key : ∀ (n : Nat) (s : S), μ s ≤ n → I s → ∃ s', sWhile c b (enc s) = some (.nx (enc s')) ∧ I s' ∧ Q s' := fun n => by
    induction n with
    | zero =>
      intro s hn hi
      rcases h s hi with ⟨h1, h2⟩ | ⟨h1, s', h2, h3, h4⟩
      · exact ⟨s, by rw [sWhile_eq, h1]; rfl, hi, h2⟩
      · omega
    | succ n ih =>
      intro s hn hi
      rcases h s hi with ⟨h1, h2⟩ | ⟨h1, s', h2, h3, h4⟩
      · exact ⟨s, by rw [sWhile_eq, h1]; rfl, hi, h2⟩
      · obtain ⟨s2, k1, k2, k3⟩ := ih s' (by omega) h3
        refine ⟨s2, ?_, k2, k3⟩
        rw [sWhile_eq, h1]
        show ((b (enc s)).bind _) = _
        rw [h2]
        exact k1
  exact fun s hi => key _ s (Nat.le_refl _) hi
/-! ### comprehensions -/
theorem compL_nil {t : GF} {c : BF} {f : EF} {vs : List Nat} {e : Ev} : compL t c f vs [] e = some ([], e) := rfl
theorem compL_cons {t : GF} {c : BF} {f : EF} {vs : List Nat} {d : D} {ds : List D} {e : Ev} : compL t c f vs (d :: ds) e = (t d e).bind fun e1 => (c e1).bind fun p => if p.1 = true then (f p.2).bind fun q => (compL t c f vs ds (wipeE q.2 vs)).map fun r => (q.1 :: r.1, r.2) else compL t c f vs ds (wipeE p.2 vs) := rfl
theorem compL_take {t : GF} {c : BF} {f : EF} {vs : List Nat} {d : D} {ds : List D} {e e1 e2 e3 : Ev} {v : D} (h1 : t d e = some e1) (h2 : c e1 = some (true, e2)) (h3 : f e2 = some (v, e3)) : compL t c f vs (d :: ds) e = (compL t c f vs ds (wipeE e3 vs)).map fun r => (v :: r.1, r.2) := by
  rw [compL_cons, h1, Option.bind_some, h2, Option.bind_some, if_pos rfl, h3, Option.bind_some]
theorem compL_skip {t : GF} {c : BF} {f : EF} {vs : List Nat} {d : D} {ds : List D} {e e1 e2 : Ev} (h1 : t d e = some e1) (h2 : c e1 = some (false, e2)) : compL t c f vs (d :: ds) e = compL t c f vs ds (wipeE e2 vs) := by
  rw [compL_cons, h1, Option.bind_some, h2, Option.bind_some, if_neg Bool.false_ne_true]
/-- a comprehension that changes nothing else: a filter and a map -/
theorem compL_map {α : Type} {t : GF} {c : BF} {f : EF} {vs : List Nat} (encx : α → D) (p : α → Bool) (g : α → D) (e : Ev) : ∀ (xs : List α),
    (∀ x ∈ xs, ∃ e1 e2 e3, t (encx x) e = some e1 ∧ c e1 = some (p x, e2) ∧ (p x = true → f e2 = some (g x, e3) ∧ wipeE e3 vs = e) ∧ (p x = false → wipeE e2 vs = e)) → compL t c f vs (xs.map encx) e = some ((xs.filter p).map g, e)
  | [], _ => rfl
  | x :: xs, h => by
    obtain ⟨e1, e2, e3, h1, h2, h3, h4⟩ := h x List.mem_cons_self
    have ih := compL_map encx p g e xs fun y hy => h y (List.mem_cons_of_mem _ hy)
    rw [List.map_cons]
    cases hp : p x with
    | true =>
      rw [hp] at h2
      obtain ⟨k1, k2⟩ := h3 hp
      rw [compL_take h1 h2 k1, k2, ih, List.filter_cons_of_pos hp]; rfl
    | false =>
      rw [hp] at h2
      rw [compL_skip h1 h2, h4 hp, ih, List.filter_cons_of_neg (by simp [hp])]
/-- a comprehension whose element changes the tape alone: what its items are worth -/
theorem compL_st {S : Type} {t : GF} {c : BF} {f : EF} {vs : List Nat} (enc : S → Ev) (P : D → Prop)
    (h : ∀ d s, ∃ e1 e2 e3 v s', t d (enc s) = some e1 ∧ c e1 = some (true, e2) ∧ f e2 = some (v, e3) ∧ wipeE e3 vs = enc s' ∧ P v) : ∀ (ds : List D) (s : S), ∃ rs s', compL t c f vs ds (enc s) = some (rs, enc s') ∧ rs.length = ds.length ∧ ∀ v ∈ rs, P v
  | [], s => ⟨[], s, rfl, rfl, fun _ h => nomatch h⟩
  | d :: ds, s => by
    obtain ⟨e1, e2, e3, v, s1, h1, h2, h3, h4, h5⟩ := h d s
    obtain ⟨rs, s', k1, k2, k3⟩ := compL_st enc P h ds s1
    refine ⟨v :: rs, s', ?_, by rw [List.length_cons, List.length_cons, k2], fun u hu => ?_⟩
    · rw [compL_take h1 h2 h3, h4, k1]; rfl
    · rcases List.mem_cons.mp hu with rfl | hu
      · exact h5
      · exact k3 u hu
theorem listInts : ∀ {ds : List D} {P : Int → Prop}, (∀ d ∈ ds, ∃ i, d = .int i ∧ P i) → ∃ ns : List Int, ds = iL ns ∧ ∀ i ∈ ns, P i
  | [], P, _ => ⟨[], rfl, fun _ h => nomatch h⟩
  | d :: ds, P, h => by
    obtain ⟨i, h1, h2⟩ := h d List.mem_cons_self
    obtain ⟨ns, h3, h4⟩ := listInts (ds := ds) fun x hx => h x (List.mem_cons_of_mem _ hx)
    refine ⟨i :: ns, by rw [h1, h3]; rfl, fun x hx => ?_⟩
    rcases List.mem_cons.mp hx with rfl | hx
    · exact h2
    · exact h4 x hx
/-! ### draws -/
noncomputable def fDraw : Fnc := gDraw drawB fun m => decide (0 < m ∧ m < 1073741824)
theorem draw_lt (b : Box) {m : Int} (h : 0 < m) : 0 ≤ (drawB b m).1 ∧ (drawB b m).1 < m := by
  unfold drawB
  split
  · exact ⟨Int.emod_nonneg _ (by omega), Int.emod_lt_of_pos _ h⟩
  · exact ⟨Int.emod_nonneg _ (by omega), Int.emod_lt_of_pos _ h⟩
theorem fDraw_eq (b : Box) {m : Int} (h : 0 < m) (h2 : m < 1073741824) : fDraw [.ow b.ot, .va (.int m)] = some (.va (.int (drawB b m).1), [.ow (drawB b m).2.ot, .no]) :=
  gDraw_box drawB _ b m (decide_eq_true ⟨h, h2⟩)
/-- a draw: some number below, and some tape behind -/
theorem fDraw_ex (b : Box) {m : Int} (h : 0 < m) (h2 : m < 1073741824) : ∃ (d : Int) (b' : Box), fDraw [.ow b.ot, .va (.int m)] = some (.va (.int d), [.ow b'.ot, .no]) ∧ 0 ≤ d ∧ d < m :=
  ⟨_, _, fDraw_eq b h h2, (draw_lt b h).1, (draw_lt b h).2⟩
/-! ### the evaluation of the layer's words on slots that are written out -/
local macro_rules | `(tactic| walk_at "ev") => `(tactic| simp -implicitDefEqProofs only [prE_ev, eVar_ev, varC_ev, varC_tn, eNm_ev, nmC_va, nmC_tn, nmC_li, eC_ev, vw_va, vw_tn, vw_li, eOwn_ev, eIxO_ev, ixoC_ev, ixoC2_ev, ixoC3_ev, eOp_ev, opC_ev, opC2_ev, eUn_ev, unC_ev, bE_ev, bEC_ev, bB_ev, bBC_ev, bNot_ev, notC_ev, bAnd_ev, andC_t, andC_f, bOr_ev, orC_t, orC_f, bYes_ev, eAnd_ev, eandC_t, eandC_f, eOr_ev, eorC_t, eorC_f, eNot_ev, enotC_ev, eIf_ev, ifC_t, ifC_f, eTup_ev, tupC_ev, aNil_ev, aCons_ev, aconsC_ev, aconsC2_ev, oLst_ev, lstC_ev, oE_ev, oEC_ev, eFz_ev, fzC_tn, fzC_va, fzC_li, oUn_ev, ounC_ev, prL_ev, eSl_ev, slC_ev, slC2_ev, slC3_ev, eSlO_ev, sloC_ev, sloC2_ev, sloC3_ev, sloC4_ev, lEnum_ev, enC_tup, enC_lst, pNo_ev, pSo_ev, psoC_ev, lOf_ev, lofC_tup, lofC_lst, lRng1_ev, rng1C_ev, lRng2_ev, rng2C_ev, rng2C2_ev, oRep_ev, repC_ev, repC2_ev, oCall_ev, callC_0, callC_1, callC_2, callC_3, callC_4, callC_5, callC_rv, callC_rv4, arSl_vl, arSl_rf, callC2_ev, arBack_nil, arBack_vl, arBack_rf, rNil_ev, rVal_ev, rvC_ev, rvC2_ev, rRef_ev, rrC_ev, oComp_ev, compC2_ev, wipeE_nil, wipeE_cons, backE_nil, backE_cons, gNm_ev, gTupF_ev, gsNil_ev, gsCons_ev, sNext_ev, sBreak_ev, sCont_ev, sSeq_ev, seqC_nx, seqC_bk, seqC_ct, seqC_rt, sSet_ev, setC_ev, sPar_ev, parC_ev, setAll_nil, setAll_cons, olNil_ev, olCons_ev, olC_ev, olC2_ev, sAsg_ev, asgC_ev, sIf_ev, sifC_t, sifC_f, sFor_ev, forC_ev, sDrop_ev, dropC_ev, sRet_ev, retC_ev, sRetN_ev, retnC_va, retnC_li, liOf_li, eMt1_ev, mt1C_ev, mt1C2_ev, mt1C3_ev, mt1C4_ev, eMt0_ev, mt0C_ev, sSub_ev, subC_ev, subC1_ev, subC2_ev, subC3_ev, subC4_ev, sAug_ev, augC_ev, augC2_ev, augC3_ev, mkF_ev, mkC_rt, mkC_nx, keepE_nil, keepE_va, keepE_ow', dTru_bool, dTru_int, dTru_none, dTru_list, dTru_tuple, dAdd_int, dAdd_tup, dAdd_lst, dIadd_int, dSub_int, dMul_int, dDiv_int, dMod_int, dNeg_int, dMin2_int, dMax2_int, dLtA_int, dLe_int, dLt_int, dGt_int, dGe_int, shaped_int, shaped_bool, shaped_none, eqv_int, eqv_bool, dEq_int, dNe_int, dEq_bool, dIs_none, dIsN_none, isNon_none, isNon_int, isNon_tup, isNon_bool, dLen_tup, dLen_lst, dIx_tup, dIx_lst, at0, at1, at2, at3, gExtend_lst, dTuple_lst, dTuple_tup, dList_lst, dList_tup, dInt_int, dSl_tup, dSl_lst, isTup, isLst, isBool, isIntB, isStr, beq_self_eq_true, decide_true, decide_false, isi_tup, isi_lst, isi_int, isi_bool, isi_str, isi_none, sz0, sz1, sz2, sz3, sz4, sz5, sz6, sz7, sz8, sz9, sz10, sz11, sz12, isOw_no, isOw_va, isOw_li, isOw_di, isOw_dt, isOw_ow, isOw_none, isOw_sl,
  Option.bind_some, Option.map_some, Option.bind_none, Option.map_none, Option.getD_some, Option.getD_none, List.getElem?_cons_zero, List.getElem?_cons_succ, List.set_cons_zero, List.set_cons_succ, List.map_cons, List.map_nil, List.headD_cons, List.headD_nil, List.tail_cons, List.tail_nil, List.isEmpty_nil, List.isEmpty_cons, List.length_nil, List.length_cons, List.nil_append, List.cons_append, List.replicate_succ, List.replicate_zero, Nat.reduceSub, Nat.reduceAdd, Bool.false_eq_true, if_false, if_true, reduceIte, Bool.not_true, Bool.not_false, and_true, true_and, and_self, Int.toNat_natCast, Int.zero_add])
local macro_rules | `(tactic| walk_at "evh") => `(tactic| simp -implicitDefEqProofs only [prE_ev, eVar_ev, varC_ev, varC_tn, eNm_ev, nmC_va, nmC_tn, nmC_li, eC_ev, vw_va, vw_tn, vw_li, eOwn_ev, eIxO_ev, ixoC_ev, ixoC2_ev, ixoC3_ev, eOp_ev, opC_ev, opC2_ev, eUn_ev, unC_ev, bE_ev, bEC_ev, bB_ev, bBC_ev, bNot_ev, notC_ev, bAnd_ev, andC_t, andC_f, bOr_ev, orC_t, orC_f, bYes_ev, eAnd_ev, eandC_t, eandC_f, eOr_ev, eorC_t, eorC_f, eNot_ev, enotC_ev, eIf_ev, ifC_t, ifC_f, eTup_ev, tupC_ev, aNil_ev, aCons_ev, aconsC_ev, aconsC2_ev, oLst_ev, lstC_ev, oE_ev, oEC_ev, eFz_ev, fzC_tn, fzC_va, fzC_li, oUn_ev, ounC_ev, prL_ev, eSl_ev, slC_ev, slC2_ev, slC3_ev, eSlO_ev, sloC_ev, sloC2_ev, sloC3_ev, sloC4_ev, lEnum_ev, enC_tup, enC_lst, pNo_ev, pSo_ev, psoC_ev, lOf_ev, lofC_tup, lofC_lst, lRng1_ev, rng1C_ev, lRng2_ev, rng2C_ev, rng2C2_ev, oRep_ev, repC_ev, repC2_ev, oCall_ev, callC_0, callC_1, callC_2, callC_3, callC_4, callC_5, callC_rv, callC_rv4, arSl_vl, arSl_rf, callC2_ev, arBack_nil, arBack_vl, arBack_rf, rNil_ev, rVal_ev, rvC_ev, rvC2_ev, rRef_ev, rrC_ev, oComp_ev, compC2_ev, wipeE_nil, wipeE_cons, backE_nil, backE_cons, gNm_ev, gTupF_ev, gsNil_ev, gsCons_ev, sNext_ev, sBreak_ev, sCont_ev, sSeq_ev, seqC_nx, seqC_bk, seqC_ct, seqC_rt, sSet_ev, setC_ev, sPar_ev, parC_ev, setAll_nil, setAll_cons, olNil_ev, olCons_ev, olC_ev, olC2_ev, sAsg_ev, asgC_ev, sIf_ev, sifC_t, sifC_f, sFor_ev, forC_ev, sDrop_ev, dropC_ev, sRet_ev, retC_ev, sRetN_ev, retnC_va, retnC_li, liOf_li, eMt1_ev, mt1C_ev, mt1C2_ev, mt1C3_ev, mt1C4_ev, eMt0_ev, mt0C_ev, sSub_ev, subC_ev, subC1_ev, subC2_ev, subC3_ev, subC4_ev, sAug_ev, augC_ev, augC2_ev, augC3_ev, mkF_ev, mkC_rt, mkC_nx, keepE_nil, keepE_va, keepE_ow', dTru_bool, dTru_int, dTru_none, dTru_list, dTru_tuple, dAdd_int, dAdd_tup, dAdd_lst, dIadd_int, dSub_int, dMul_int, dDiv_int, dMod_int, dNeg_int, dMin2_int, dMax2_int, dLtA_int, dLe_int, dLt_int, dGt_int, dGe_int, shaped_int, shaped_bool, shaped_none, eqv_int, eqv_bool, dEq_int, dNe_int, dEq_bool, dIs_none, dIsN_none, isNon_none, isNon_int, isNon_tup, isNon_bool, dLen_tup, dLen_lst, dIx_tup, dIx_lst, at0, at1, at2, at3, gExtend_lst, dTuple_lst, dTuple_tup, dList_lst, dList_tup, dInt_int, dSl_tup, dSl_lst, isTup, isLst, isBool, isIntB, isStr, beq_self_eq_true, decide_true, decide_false, isi_tup, isi_lst, isi_int, isi_bool, isi_str, isi_none, sz0, sz1, sz2, sz3, sz4, sz5, sz6, sz7, sz8, sz9, sz10, sz11, sz12, isOw_no, isOw_va, isOw_li, isOw_di, isOw_dt, isOw_ow, isOw_none, isOw_sl,
  Option.bind_some, Option.map_some, Option.bind_none, Option.map_none, Option.getD_some, Option.getD_none, List.getElem?_cons_zero, List.getElem?_cons_succ, List.set_cons_zero, List.set_cons_succ, List.map_cons, List.map_nil, List.headD_cons, List.headD_nil, List.tail_cons, List.tail_nil, List.isEmpty_nil, List.isEmpty_cons, List.length_nil, List.length_cons, List.nil_append, List.cons_append, List.replicate_succ, List.replicate_zero, Nat.reduceSub, Nat.reduceAdd, Bool.false_eq_true, if_false, if_true, reduceIte, Bool.not_true, Bool.not_false, and_true, true_and, and_self, Int.toNat_natCast, Int.zero_add, *])
/-! ### _law_same of a value and itself -/
noncomputable def K1_same (F : Fnc) : EF := (eFz (oCall F (rVal (eOp dIx (eVar 0) (eVar 2)) (rVal (eOp dIx (eVar 1) (eVar 2)) rNil))))
noncomputable def B_same (F : Fnc) : SF := (sSeq (sIf (bOr (bAnd (bE (eUn (dIsi isTup) (eVar 0))) (bE (eUn (dIsi isTup) (eVar 1)))) (bAnd (bE (eUn (dIsi isLst) (eVar 0))) (bE (eUn (dIsi isLst) (eVar 1))))) (sRet (eAnd (eOp dEq (eUn dLen (eVar 0)) (eUn dLen (eVar 1))) (eUn dAll (eFz (oComp (lRng1 (eUn dLen (eVar 0))) (gNm 2) bYes (K1_same F) [2]))))) sNext) (sSeq (sIf (bOr (bE (eUn (dIsi isBool) (eVar 0))) (bE (eUn (dIsi isBool) (eVar 1)))) (sRet (eAnd (eUn (dIsi isBool) (eVar 0)) (eAnd (eUn (dIsi isBool) (eVar 1)) (eOp dEq (eVar 0) (eVar 1))))) sNext) (sSeq (sIf (bOr (bAnd (bE (eUn (dIsi isIntB) (eVar 0))) (bE (eUn (dIsi isIntB) (eVar 1)))) (bAnd (bE (eUn (dIsi isStr) (eVar 0))) (bE (eUn (dIsi isStr) (eVar 1))))) (sRet (eOp dEq (eVar 0) (eVar 1))) sNext) (sRet (eAnd (eOp dIs (eVar 0) (eC .none)) (eOp dIs (eVar 1) (eC .none)))))))
noncomputable def R_same : Nat → Fnc
  | 0 => fun _ => none
  | k + 1 => mkF 3 (B_same (R_same k))
/-- plain values to a depth -/
def Plain : Nat → D → Prop
  | _, .none => True
  | _, .bool _ => True
  | _, .int _ => True
  | _, .str s => SeqAt.shaped (.str s) = true
  | n + 1, .tuple ds => ds.length ≤ 1000000 ∧ ∀ d ∈ ds, Plain n d
  | n + 1, .list ds => ds.length ≤ 1000000 ∧ ∀ d ∈ ds, Plain n d
  | _, _ => False
theorem same_items {n : Nat} {ds : List D} {A B : D} (hl : ds.length ≤ 1000000) (hA : ∀ i : Int, dIx A (.int i) = atI ds i) (hB : ∀ i : Int, dIx B (.int i) = atI ds i) (ih : ∀ d ∈ ds, R_same n [.va d, .va d] = some (.va (.bool true), [.no, .no])) :
    compL (gNm 2) bYes (K1_same (R_same n)) [2] (rngD 0 ds.length) [.va A, .va B, .no] = some ((List.replicate ds.length (PyData.bool true)), [.va A, .va B, .no]) := by
  unfold rngD
  rw [compL_map (fun i : Nat => PyData.int (0 + (i : Nat))) (fun _ => true) (fun _ => PyData.bool true) [.va A, .va B, .no] (List.range ds.length) ?_]
  · congr 1
    rw [List.filter_eq_self.mpr fun _ _ => rfl]
    refine Prod.ext ?_ rfl
    apply List.ext_getElem?
    intro i
    simp only [List.getElem?_map, List.getElem?_replicate, List.getElem?_range']
    by_cases h : i < ds.length
    · simp [h]
    · simp [h]
  · intro i hi
    have hi' : i < ds.length := List.mem_range.mp hi
    refine ⟨[.va A, .va B, .va (.int (0 + (i : Nat)))], [.va A, .va B, .va (.int (0 + (i : Nat)))], [.va A, .va B, .va (.int (0 + (i : Nat)))], rfl, rfl, fun _ => ⟨?_, rfl⟩, fun h => by cases h⟩
    have hg : atI ds (0 + (i : Int)) = some ds[i] := by rw [Int.zero_add]; exact atI_nat (List.getElem?_eq_getElem hi')
    have := ih ds[i] (List.getElem_mem hi')
    unfold K1_same
    rw [Int.zero_add] at hg
    walk_at "evh"
theorem wrap_true (ds : List D) : boolsOf (.list (List.replicate ds.length (PyData.bool true))) = some (List.replicate ds.length true) := by
  show asBools _ = _
  rw [show List.replicate ds.length (PyData.bool true) = (List.replicate ds.length true).map PyData.bool by rw [List.map_replicate]]
  exact asBools_map _
theorem all_rep (n : Nat) : (List.replicate n true).all (fun b => b) = true := by
  induction n with
  | zero => rfl
  | succ n ih => rw [List.replicate_succ, List.all_cons, ih]; rfl
theorem same_seq {n : Nat} {ds : List D} {A : D} (hl : ds.length ≤ 1000000) (hd : dLen A = some (.int ds.length)) (hA : ∀ i : Int, dIx A (.int i) = atI ds i) (ih : ∀ d ∈ ds, R_same n [.va d, .va d] = some (.va (.bool true), [.no, .no])) :
    eAnd (eOp dEq (eUn dLen (eVar 0)) (eUn dLen (eVar 1))) (eUn dAll (eFz (oComp (lRng1 (eUn dLen (eVar 0))) (gNm 2) bYes (K1_same (R_same n)) [2]))) [.va A, .va A, .no] = some (.bool true, [.va A, .va A, .no]) := by
  have hb : Rg (ds.length : Int) := rg_of (by omega) (by omega)
  have h0 : (wipeE [.va A, .va A, .no] [2]) = [Sl.va A, .va A, .no] := rfl
  walk_at "evh"
  rw [compC_ev _ _ _ _ _ _ (by rw [rngD_len]; exact small1Me hl) rfl]
  rw [show wipeE [.va A, .va A, .no] [2] = [.va A, .va A, .no] from rfl, same_items hl hA hA ih]
  show ((dAll (.list (List.replicate ds.length (.bool true)))).map _) = _
  unfold dAll
  rw [wrap_true, Option.map_some, all_rep]
  rfl
theorem same_refl : ∀ (n : Nat) (x : D), Plain n x → R_same (n + 1) [.va x, .va x] = some (.va (.bool true), [.no, .no])
  | n, .none, _ => by
    show mkF 3 (B_same (R_same n)) _ = _
    unfold B_same
    walk_at "ev"
  | n, .bool b, _ => by
    show mkF 3 (B_same (R_same n)) _ = _
    unfold B_same
    have h : dEq (.bool b) (.bool b) = some (.bool true) := by rw [dEq_bool, beq_self_eq_true]
    walk_at "evh"
  | n, .int b, _ => by
    show mkF 3 (B_same (R_same n)) _ = _
    unfold B_same
    have h : dEq (.int b) (.int b) = some (.bool true) := by rw [dEq_int, beq_self_eq_true]
    walk_at "evh"
  | n, .str s, hp => by
    show mkF 3 (B_same (R_same n)) _ = _
    unfold B_same
    have hp' : SeqAt.shaped (.str s) = true := by cases n <;> exact hp
    have h : dEq (.str s) (.str s) = some (.bool true) := by unfold dEq; rw [if_pos ⟨hp', hp'⟩, PyData.eqv, beq_self_eq_true]
    walk_at "evh"
  | 0, .tuple _, h => h.elim
  | 0, .list _, h => h.elim
  | n + 1, .tuple ds, h => by
    have ih := same_seq (n := n + 1) (A := .tuple ds) h.1 rfl (fun _ => rfl) fun d hd => same_refl n d (h.2 d hd)
    show mkF 3 (B_same (R_same (n + 1))) _ = _
    unfold B_same
    rw [mkF_ev, sSeq_ev, sIf_ev]
    show (((bOr (bAnd (bE (eUn (dIsi isTup) (eVar 0))) (bE (eUn (dIsi isTup) (eVar 1)))) _ [.va (.tuple ds), .va (.tuple ds), .no]).bind _).bind _).bind _ = _
    rw [show bOr (bAnd (bE (eUn (dIsi isTup) (eVar 0))) (bE (eUn (dIsi isTup) (eVar 1)))) (bAnd (bE (eUn (dIsi isLst) (eVar 0))) (bE (eUn (dIsi isLst) (eVar 1)))) [.va (.tuple ds), .va (.tuple ds), .no] = some (true, [.va (.tuple ds), .va (.tuple ds), .no]) from rfl]
    rw [Option.bind_some, sifC_t, sRet_ev, ih]
    rfl
  | n + 1, .list ds, h => by
    have ih := same_seq (n := n + 1) (A := .list ds) h.1 rfl (fun _ => rfl) fun d hd => same_refl n d (h.2 d hd)
    show mkF 3 (B_same (R_same (n + 1))) _ = _
    unfold B_same
    rw [mkF_ev, sSeq_ev, sIf_ev]
    show (((bOr (bAnd (bE (eUn (dIsi isTup) (eVar 0))) (bE (eUn (dIsi isTup) (eVar 1)))) _ [.va (.list ds), .va (.list ds), .no]).bind _).bind _).bind _ = _
    rw [show bOr (bAnd (bE (eUn (dIsi isTup) (eVar 0))) (bE (eUn (dIsi isTup) (eVar 1)))) (bAnd (bE (eUn (dIsi isLst) (eVar 0))) (bE (eUn (dIsi isLst) (eVar 1)))) [.va (.list ds), .va (.list ds), .no] = some (true, [.va (.list ds), .va (.list ds), .no]) from rfl]
    rw [Option.bind_some, sifC_t, sRet_ev, ih]
    rfl
  | 0, .dict _, h => h.elim
  | n + 1, .dict _, h => h.elim
/-! ### the first of a range -/
theorem rng_head {m j : Nat} {p : Nat → Bool} (hj : j < m) (hp : p j = true) (hn : ∀ i, i < j → p i = false) : ((List.range m).filter p).head? = some j := by
  obtain ⟨k, rfl⟩ := Nat.exists_eq_add_of_lt hj
  have h1 : List.range (j + k + 1) = List.range j ++ (j :: (List.range k).map (j + 1 + ·)) := by
    rw [show j + k + 1 = j + (k + 1) by omega, List.range_add, List.range_succ_eq_map, List.map_cons, List.map_map]
    congr 2
    apply List.map_congr_left
    intro x _
    show j + (x + 1) = j + 1 + x
    omega
  have h2 : (List.range j).filter p = [] := List.filter_eq_nil_iff.mpr fun x hx => by rw [hn x (List.mem_range.mp hx)]; decide
  rw [h1, List.filter_append, h2, List.nil_append, List.filter_cons_of_pos hp]; rfl
theorem rng_none {m : Nat} {p : Nat → Bool} (hn : ∀ i, i < m → p i = false) : (List.range m).filter p = [] := List.filter_eq_nil_iff.mpr fun x hx => by rw [hn x (List.mem_range.mp hx)]; decide
theorem enD_drop {xs : List D} {j : Nat} {d : D} (h : xs[j]? = some d) : (enD xs).drop j = .tuple [.int j, d] :: (enD xs).drop (j + 1) := by
  have h1 := enD_get h
  have hj := (List.getElem?_eq_some_iff.mp h1).1
  rw [List.drop_eq_getElem_cons hj]
  rw [List.getElem?_eq_getElem hj] at h1
  rw [Option.some.inj h1]
/-- a list of truths -/
theorem dAll_map {α : Type} (f : α → Bool) (xs : List α) : dAll (.list (xs.map fun x => PyData.bool (f x))) = some (.bool (xs.all f)) := by
  unfold dAll
  rw [show boolsOf (.list (xs.map fun x => PyData.bool (f x))) = some (xs.map f) from (by show asBools _ = _; rw [show (xs.map fun x => PyData.bool (f x)) = (xs.map f).map PyData.bool by rw [List.map_map]; rfl]; exact asBools_map _), Option.map_some, List.all_map]
  rfl
theorem dAny_map {α : Type} (f : α → Bool) (xs : List α) : dAny (.list (xs.map fun x => PyData.bool (f x))) = some (.bool (xs.any f)) := by
  unfold dAny
  rw [show boolsOf (.list (xs.map fun x => PyData.bool (f x))) = some (xs.map f) from (by show asBools _ = _; rw [show (xs.map fun x => PyData.bool (f x)) = (xs.map f).map PyData.bool by rw [List.map_map]; rfl]; exact asBools_map _), Option.map_some, List.any_map]
  rfl
/-! ### plain values may be compared -/
theorem plain_lay : ∀ (n : Nat) (x : D), Plain n x → x.canLay0 = true ∧ x.depth ≤ n
  | _, .none, _ => ⟨by simp [PyData.canLay0], by simp [PyData.depth]⟩
  | _, .bool _, _ => ⟨by simp [PyData.canLay0], by simp [PyData.depth]⟩
  | _, .int _, _ => ⟨by simp [PyData.canLay0], by simp [PyData.depth]⟩
  | n, .str s, h => by
    have h' : SeqAt.shaped (.str s) = true := by cases n <;> exact h
    exact ⟨(Bool.and_eq_true_iff.mp h').1, by simp [PyData.depth]⟩
  | 0, .tuple _, h => h.elim
  | 0, .list _, h => h.elim
  | n + 1, .tuple ds, h => by
    have k := plain_all n ds fun d hd => plain_lay n d (h.2 d hd)
    exact ⟨by rw [PyData.canLay0]; exact k.1, by rw [PyData.depth]; omega⟩
  | n + 1, .list ds, h => by
    have k := plain_all n ds fun d hd => plain_lay n d (h.2 d hd)
    exact ⟨by rw [PyData.canLay0]; exact k.1, by rw [PyData.depth]; omega⟩
  | 0, .dict _, h => h.elim
  | n + 1, .dict _, h => h.elim
where plain_all (n : Nat) : ∀ ds : List D, (∀ d ∈ ds, d.canLay0 = true ∧ d.depth ≤ n) → PyData.canLayAll0 ds = true ∧ PyData.depthAll ds ≤ n
  | [], _ => ⟨by rw [PyData.canLayAll0], by rw [PyData.depthAll]; exact Nat.zero_le _⟩
  | d :: ds, h => by
    have h1 := h d List.mem_cons_self
    have h2 := plain_all n ds fun x hx => h x (List.mem_cons_of_mem _ hx)
    exact ⟨by rw [PyData.canLayAll0, h1.1, h2.1]; rfl, by rw [PyData.depthAll]; omega⟩
theorem plain_shaped {n : Nat} {x : D} (h : Plain n x) (hn : n ≤ 64) : SeqAt.shaped x = true := by
  obtain ⟨h1, h2⟩ := plain_lay n x h
  unfold SeqAt.shaped
  rw [h1, decide_eq_true (by omega)]; rfl
theorem plain_ints {n : Nat} {xs : List Int} (h : xs.length ≤ 1000000) : Plain (n + 1) (.tuple (iL xs)) := by
  refine ⟨by rw [iL_len]; exact h, fun d hd => ?_⟩
  obtain ⟨i, _, rfl⟩ := List.mem_map.mp hd
  cases n <;> trivial
theorem plain_intsL {n : Nat} {xs : List Int} (h : xs.length ≤ 1000000) : Plain (n + 1) (.list (iL xs)) := plain_ints h
theorem dEq_nil {n : Nat} {xs : List D} (h : Plain n (.list xs)) (hn : n ≤ 64) : dEq (.list xs) (.list []) = some (.bool xs.isEmpty) := by
  have h0 : SeqAt.shaped (.list []) = true := plain_shaped (n := 1) ⟨Nat.zero_le _, fun _ h => nomatch h⟩ (by decide)
  unfold dEq
  rw [if_pos ⟨plain_shaped h hn, h0⟩]
  cases xs with
  | nil => rw [PyData.eqv]; rfl
  | cons x xs => rw [PyData.eqv]; rfl
theorem dNe_nil {n : Nat} {xs : List D} (h : Plain n (.list xs)) (hn : n ≤ 64) : dNe (.list xs) (.list []) = some (.bool (!xs.isEmpty)) := by
  have h0 : SeqAt.shaped (.list []) = true := plain_shaped (n := 1) ⟨Nat.zero_le _, fun _ h => nomatch h⟩ (by decide)
  unfold dNe
  rw [if_pos ⟨plain_shaped h hn, h0⟩]
  cases xs with
  | nil => rw [PyData.eqv]; rfl
  | cons x xs => rw [PyData.eqv]; rfl
theorem rngD_drop {n j : Nat} (h : j < n) : (rngD 0 n).drop j = .int (j : Nat) :: (rngD 0 n).drop (j + 1) := by
  have hj : j < (rngD 0 n).length := by rw [rngD_len]; exact h
  rw [List.drop_eq_getElem_cons hj]
  have h1 := rngD_get (lo := 0) h
  rw [List.getElem?_eq_getElem hj, Int.zero_add] at h1
  rw [Option.some.inj h1]
theorem rngD_end (n : Nat) : (rngD 0 n).drop n = [] := List.drop_eq_nil_of_le (by rw [rngD_len]; exact Nat.le_refl _)
theorem range_map_succ {α : Type} (f : Nat → α) (n : Nat) : (List.range (n + 1)).map f = (List.range n).map f ++ [f n] := by rw [List.range_succ, List.map_append]; rfl
theorem range_filter_succ (p : Nat → Bool) (n : Nat) : (List.range (n + 1)).filter p = (List.range n).filter p ++ (if p n = true then [n] else []) := by
  rw [List.range_succ, List.filter_append]
  congr 1
  by_cases h : p n = true
  · rw [if_pos h, List.filter_cons_of_pos h]; rfl
  · rw [if_neg h, List.filter_cons_of_neg h]; rfl
end Fl

set_option linter.all false
set_option maxRecDepth 100000
set_option maxHeartbeats 1000000
set_option autoImplicit false
/-! FnCo: evaluation of further words; comprehensions by their items. -/
namespace Fl
open PySem PySem.Spec PyProof.Rows L2
section
variable {α : Type} (e e1 e2 : Ev) (i : Nat) (is : List Nat) (d x y : D) (f fa fb fc : EF) (ds xs ys : List D) (g h : D → D → Option D)
def chC4 (h : D → D → Option D) (y : D) : D × Ev → Option (D × Ev) := fun r => (h y r.1).map (prE r.2)
def chC3 (h : D → D → Option D) (fc : EF) (y : D) (e : Ev) : D → Option (D × Ev) := fun d => match d with
  | .bool true => (fc e).bind (chC4 h y)
  | .bool false => some (.bool false, e)
  | _ => none
def chC2 (g h : D → D → Option D) (fc : EF) (x : D) : D × Ev → Option (D × Ev) := fun q => (g x q.1).bind (chC3 h fc q.1 q.2)
def chC (g h : D → D → Option D) (fb fc : EF) : D × Ev → Option (D × Ev) := fun p => (fb p.2).bind (chC2 g h fc p.1)
theorem eCh_ev : eCh g h fa fb fc e = (fa e).bind (chC g h fb fc) := rfl
theorem chC_ev : chC g h fb fc (x, e1) = (fb e1).bind (chC2 g h fc x) := rfl
theorem chC2_ev : chC2 g h fc x (y, e1) = (g x y).bind (chC3 h fc y e1) := rfl
theorem chC3_t : chC3 h fc y e (.bool true) = (fc e).bind (chC4 h y) := rfl
theorem chC3_f : chC3 h fc y e (.bool false) = some (.bool false, e) := rfl
theorem chC4_ev : chC4 h y (d, e1) = (h y d).map (prE e1) := rfl
def zipC2 (x : D) : D × Ev → Option (List D × Ev) := fun q => match x, q.1 with
  | .tuple xs, .tuple ys => some (zipD xs ys, q.2)
  | .list xs, .list ys => some (zipD xs ys, q.2)
  | _, _ => none
def zipC (fb : EF) : D × Ev → Option (List D × Ev) := fun p => (fb p.2).bind (zipC2 p.1)
theorem lZip_ev : lZip fa fb e = (fa e).bind (zipC fb) := rfl
theorem zipC_ev : zipC fb (x, e1) = (fb e1).bind (zipC2 x) := rfl
theorem zipC2_tup : zipC2 (.tuple xs) (.tuple ys, e1) = some (zipD xs ys, e1) := rfl
theorem zipC2_lst : zipC2 (.list xs) (.list ys, e1) = some (zipD xs ys, e1) := rfl
theorem dRev_tup : dRev (.tuple xs) = some (.tuple xs.reverse) := rfl
theorem dRev_lst : dRev (.list xs) = some (.list xs.reverse) := rfl
theorem dRngL_int (k : Int) : dRngL (.int k) = if Rl k then some (rngD 0 k.toNat) else none := rfl
theorem dRngT_int (k : Int) : dRngT (.int k) = if Rl k then some (.tuple (rngD 0 k.toNat)) else none := rfl
theorem dMulT_tup (k : Int) : dMulT (.tuple xs) (.int k) = if Mu xs.length k then some (.tuple (List.replicate k.toNat xs).flatten) else none := rfl
theorem oIte_ev (f g : OF) : oIte i f g e = oiteC f g e e[i]? := rfl
theorem oiteC_li (f g : OF) : oiteC f g e (some (.li xs)) = f e := rfl
theorem oiteC_va (f g : OF) : oiteC f g e (some (.va d)) = g e := rfl
def coC (io : Nat) (t : GF) (c : BF) (f : EF) (vs : List Nat) (e : Ev) : List D → Option (Sl × Ev) := fun xs => if xs.length ≤ sizeLine ∧ (vs.all fun i => !isOw e[i]?) = true ∧ io ∉ vs then (compL t c f vs xs (wipeE e (io :: vs))).map fun r => (.li r.1, backE e r.2 (io :: vs)) else none
theorem oCompO_ev (io : Nat) (t : GF) (c : BF) (vs : List Nat) : oCompO io t c f vs e = (liOf e[io]?).bind (coC io t c f vs e) := rfl
theorem callC_rv2 (g : Fnc) (x1 x2 : D) : callC g ([.rf i, .vl x1, .vl x2], e1) = if isOw e1[i]? = true then (g [(e1[i]?).getD .no, .va x1, .va x2]).map (callC2 [.rf i, .vl x1, .vl x2] e1) else none := by
  by_cases h : isOw e1[i]? = true
  · rw [if_pos h, callC_r e1 i g [.vl x1, .vl x2] rfl h]; rfl
  · rw [if_neg h]
    unfold callC
    rw [if_neg fun k => h (List.all_eq_true.mp k.2 i (List.mem_singleton.mpr rfl))]
theorem callC_rv3 (g : Fnc) (x1 x2 x3 : D) : callC g ([.rf i, .vl x1, .vl x2, .vl x3], e1) = if isOw e1[i]? = true then (g [(e1[i]?).getD .no, .va x1, .va x2, .va x3]).map (callC2 [.rf i, .vl x1, .vl x2, .vl x3] e1) else none := by
  by_cases h : isOw e1[i]? = true
  · rw [if_pos h, callC_r e1 i g [.vl x1, .vl x2, .vl x3] rfl h]; rfl
  · rw [if_neg h]
    unfold callC
    rw [if_neg fun k => h (List.all_eq_true.mp k.2 i (List.mem_singleton.mpr rfl))]
end
/-! ### comprehensions by their items -/
theorem set_self {e : Ev} {v : Nat} (h : v < e.length) : e.set v ((e[v]?).getD .no) = e := by
  rw [List.getElem?_eq_getElem h]
  exact List.set_getElem_self h
theorem gNm_set {e : Ev} {v : Nat} {d : D} : gNm v d (e.set v .no) = some (e.set v (.va d)) := by
  unfold gNm
  rw [if_neg, List.set_set]
  by_cases h : v < e.length
  · rw [List.getElem?_set_self h]; exact Bool.false_ne_true
  · rw [List.getElem?_eq_none (by rw [List.length_set]; omega)]; exact Bool.false_ne_true
theorem back2 (e : Ev) {v w : Nat} (hne : v ≠ w) (a b c d : Sl) : (((e.set w a).set v b).set w c).set v d = (e.set w c).set v d := by
  have h : ((e.set w a).set v b).set w c = ((e.set w a).set w c).set v b := List.set_comm _ _ hne
  rw [h, List.set_set, List.set_set]
theorem wipe1 (e : Ev) (v : Nat) (a : Sl) : wipeE (e.set v a) [v] = e.set v .no := List.set_set _
theorem comp1 {α : Type} {c : BF} {f : EF} {v : Nat} {e : Ev} (encx : α → D) (p : α → Bool) (g : α → D) (xs : List α) (hl : xs.length ≤ 1000000) (hv : isOw e[v]? = false) (hn : v < e.length)
    (h : ∀ x ∈ xs, c (e.set v (.va (encx x))) = some (p x, e.set v (.va (encx x))) ∧ (p x = true → f (e.set v (.va (encx x))) = some (g x, e.set v (.va (encx x))))) : compC (gNm v) c f [v] (xs.map encx, e) = some (.li ((xs.filter p).map g), e) := by
  rw [compC_ev _ _ _ _ _ _ (by rw [List.length_map]; exact small1Me hl) (by show (!isOw e[v]? && true) = true; rw [hv]; rfl)]
  show ((compL (gNm v) c f [v] (xs.map encx) (e.set v .no)).map _) = _
  rw [compL_map (vs := [v]) encx p g (e.set v .no) xs fun x hx => ⟨e.set v (.va (encx x)), e.set v (.va (encx x)), e.set v (.va (encx x)), gNm_set, (h x hx).1, fun hp => ⟨(h x hx).2 hp, wipe1 _ _ _⟩, fun _ => wipe1 _ _ _⟩]
  show some (Sl.li _, ((e.set v .no).set v ((e[v]?).getD .no))) = _
  rw [List.set_set, set_self hn]
theorem comp1y {α : Type} {f : EF} {v : Nat} {e : Ev} (encx : α → D) (g : α → D) (xs : List α) (hl : xs.length ≤ 1000000) (hv : isOw e[v]? = false) (hn : v < e.length)
    (h : ∀ x ∈ xs, f (e.set v (.va (encx x))) = some (g x, e.set v (.va (encx x)))) : compC (gNm v) bYes f [v] (xs.map encx, e) = some (.li (xs.map g), e) := by
  rw [comp1 encx (fun _ => true) g xs hl hv hn fun x hx => ⟨rfl, fun _ => h x hx⟩, List.filter_eq_self.mpr fun _ _ => rfl]
theorem comp1v {f : EF} {v : Nat} {e : Ev} (g : D → D) (ds : List D) (hl : ds.length ≤ 1000000) (hv : isOw e[v]? = false) (hn : v < e.length)
    (h : ∀ x ∈ ds, f (e.set v (.va x)) = some (g x, e.set v (.va x))) : compC (gNm v) bYes f [v] (ds, e) = some (.li (ds.map g), e) := by
  have := comp1y (f := f) (v := v) (e := e) id g ds hl hv hn h
  rw [List.map_id] at this
  exact this
theorem rngD_nat (n : Nat) : rngD 0 n = (List.range n).map fun i => PyData.int (i : Nat) := by
  unfold rngD
  apply List.map_congr_left
  intro i _
  rw [Int.zero_add]
theorem compR {c : BF} {f : EF} {v n : Nat} {e : Ev} (p : Nat → Bool) (g : Nat → D) (hl : n ≤ 1000000) (hv : isOw e[v]? = false) (hn : v < e.length)
    (h : ∀ i, i < n → c (e.set v (.va (.int (i : Nat)))) = some (p i, e.set v (.va (.int (i : Nat)))) ∧ (p i = true → f (e.set v (.va (.int (i : Nat)))) = some (g i, e.set v (.va (.int (i : Nat)))))) : compC (gNm v) c f [v] (rngD 0 n, e) = some (.li (((List.range n).filter p).map g), e) := by
  rw [rngD_nat]
  exact comp1 _ p g _ (by rw [List.length_range]; exact hl) hv hn fun i hi => h i (List.mem_range.mp hi)
theorem compRy {f : EF} {v n : Nat} {e : Ev} (g : Nat → D) (hl : n ≤ 1000000) (hv : isOw e[v]? = false) (hn : v < e.length)
    (h : ∀ i, i < n → f (e.set v (.va (.int (i : Nat)))) = some (g i, e.set v (.va (.int (i : Nat))))) : compC (gNm v) bYes f [v] (rngD 0 n, e) = some (.li ((List.range n).map g), e) := by
  rw [rngD_nat]
  exact comp1y _ g _ (by rw [List.length_range]; exact hl) hv hn fun i hi => h i (List.mem_range.mp hi)
/-- two names -/
theorem comp2y {α : Type} {f : EF} {v w : Nat} {e : Ev} (eu ew : α → D) (g : α → D) (xs : List α) (hl : xs.length ≤ 1000000) (hne : v ≠ w) (hv : isOw e[v]? = false) (hw : isOw e[w]? = false) (hn : v < e.length) (hm : w < e.length)
    (h : ∀ x ∈ xs, f ((e.set v (.va (eu x))).set w (.va (ew x))) = some (g x, (e.set v (.va (eu x))).set w (.va (ew x)))) :
    compC (gTupF (gsCons (gNm v) (gsCons (gNm w) gsNil)) 2) bYes f [v, w] (xs.map fun x => .tuple [eu x, ew x], e) = some (.li (xs.map g), e) := by
  rw [compC_ev _ _ _ _ _ _ (by rw [List.length_map]; exact small1Me hl) (by show (!isOw e[v]? && (!isOw e[w]? && true)) = true; rw [hv, hw]; rfl)]
  have e0 : wipeE e [v, w] = (e.set w .no).set v .no := rfl
  have hset : ∀ a b : Sl, (((e.set v a).set w b).set w .no).set v .no = (e.set w .no).set v .no := fun a b => by
    rw [List.set_set, List.set_comm _ _ hne, List.set_set]
  rw [e0, compL_map (vs := [v, w]) (fun x => PyData.tuple [eu x, ew x]) (fun _ => true) g ((e.set w .no).set v .no) xs fun x hx => ?_, List.filter_eq_self.mpr fun _ _ => rfl]
  · show some (Sl.li _, ((((e.set w .no).set v .no).set w ((e[w]?).getD .no)).set v ((e[v]?).getD .no))) = _
    rw [back2 e hne, set_self hm, set_self hn]
  · refine ⟨(e.set v (.va (eu x))).set w (.va (ew x)), (e.set v (.va (eu x))).set w (.va (ew x)), (e.set v (.va (eu x))).set w (.va (ew x)), ?_, rfl, fun _ => ⟨h x hx, hset _ _⟩, fun h => by cases h⟩
    show (if 2 = 2 then ((gNm v (eu x) ((e.set w .no).set v .no)).bind fun e1 => (gNm w (ew x) e1).bind fun e2 => some e2) else none) = _
    rw [if_pos rfl, gNm_set, Option.bind_some, ← List.set_comm _ _ hne, gNm_set]
    rfl
/-- over an own list that stays -/
theorem compO {c : BF} {f : EF} {v io : Nat} {e : Ev} {α : Type} (encx : α → D) (p : α → Bool) (g : α → D) (xs : List α) (hl : xs.length ≤ 1000000) (hne : v ≠ io) (hv : isOw e[v]? = false) (hn : v < e.length) (hm : io < e.length)
    (h : ∀ x ∈ xs, c ((e.set io .no).set v (.va (encx x))) = some (p x, (e.set io .no).set v (.va (encx x))) ∧ (p x = true → f ((e.set io .no).set v (.va (encx x))) = some (g x, (e.set io .no).set v (.va (encx x))))) : coC io (gNm v) c f [v] e (xs.map encx) = some (.li ((xs.filter p).map g), e) := by
  unfold coC
  rw [if_pos ⟨by rw [List.length_map]; exact small1Me hl, by show (!isOw e[v]? && true) = true; rw [hv]; rfl, by simpa using hne.symm⟩]
  show ((compL (gNm v) c f [v] (xs.map encx) ((e.set v .no).set io .no)).map _) = _
  have e0 : (e.set v .no).set io .no = (e.set io .no).set v .no := List.set_comm _ _ hne
  rw [e0, compL_map (vs := [v]) encx p g ((e.set io .no).set v .no) xs fun x hx => ⟨(e.set io .no).set v (.va (encx x)), (e.set io .no).set v (.va (encx x)), (e.set io .no).set v (.va (encx x)), gNm_set, (h x hx).1, fun hp => ⟨(h x hx).2 hp, wipe1 _ _ _⟩, fun _ => wipe1 _ _ _⟩]
  show some (Sl.li _, ((((e.set io .no).set v .no).set v ((e[v]?).getD .no)).set io ((e[io]?).getD .no))) = _
  have e1 : ((e.set io .no).set v ((e[v]?).getD .no)).set io ((e[io]?).getD .no) = ((e.set io .no).set io ((e[io]?).getD .no)).set v ((e[v]?).getD .no) := List.set_comm _ _ hne
  rw [List.set_set, e1, List.set_set, set_self hm, set_self hn]
end Fl

set_option linter.all false
set_option maxRecDepth 100000
set_option maxHeartbeats 1000000
set_option autoImplicit false
/-! FnDe: evaluation of the words of dicts. -/
namespace Fl
open PySem PySem.Spec PyProof.Rows L2
section
variable (e e1 : Ev) (i : Nat) (d x y : D) (fk fd fv : EF) (k : Key) (kvs : List (Key × D))
theorem rdOf_di : rdOf (some (.di kvs)) = some kvs := rfl
theorem rdOf_dl : rdOf (some (.dl kvs)) = some kvs := rfl
theorem diOf_di : diOf (some (.di kvs)) = some kvs := rfl
theorem keyD_int (n : Int) : keyD (.int n) = some (.inl n) := rfl
def dgC3 (e : Ev) (kvs : List (Key × D)) : Key → Option (D × Ev) := fun k => (lookD kvs k).map (prE e)
def dgC2 (x : D) (e : Ev) : List (Key × D) → Option (D × Ev) := fun kvs => (keyD x).bind (dgC3 e kvs)
def dgC1 (i : Nat) : D × Ev → Option (D × Ev) := fun q => (rdOf q.2[i]?).bind (dgC2 q.1 q.2)
def dgC (i : Nat) (fk : EF) (e : Ev) : List (Key × D) → Option (D × Ev) := fun _ => (fk e).bind (dgC1 i)
theorem eDget_ev : eDget i fk e = (rdOf e[i]?).bind (dgC i fk e) := rfl
theorem dgC_ev : dgC i fk e kvs = (fk e).bind (dgC1 i) := rfl
theorem dgC1_ev : dgC1 i (x, e1) = (rdOf e1[i]?).bind (dgC2 x e1) := rfl
theorem dgC2_ev : dgC2 x e1 kvs = (keyD x).bind (dgC3 e1 kvs) := rfl
theorem dgC3_ev : dgC3 e1 kvs k = (lookD kvs k).map (prE e1) := rfl
def diC2 (neg : Bool) (e : Ev) (kvs : List (Key × D)) : Key → D × Ev := fun k => (.bool (if neg then !(lookD kvs k).isSome else (lookD kvs k).isSome), e)
def diC1 (neg : Bool) (x : D) (e : Ev) : List (Key × D) → Option (D × Ev) := fun kvs => (keyD x).map (diC2 neg e kvs)
def diC (neg : Bool) (i : Nat) : D × Ev → Option (D × Ev) := fun q => (rdOf q.2[i]?).bind (diC1 neg q.1 q.2)
theorem eDin_ev (neg : Bool) : eDin neg i fk e = (fk e).bind (diC neg i) := rfl
theorem diC_ev (neg : Bool) : diC neg i (x, e1) = (rdOf e1[i]?).bind (diC1 neg x e1) := rfl
theorem diC1_ev (neg : Bool) : diC1 neg x e1 kvs = (keyD x).map (diC2 neg e1 kvs) := rfl
theorem diC2_t : diC2 true e1 kvs k = (.bool (!(lookD kvs k).isSome), e1) := rfl
theorem diC2_f : diC2 false e1 kvs k = (.bool (lookD kvs k).isSome, e1) := rfl
def dlC (e : Ev) : List (Key × D) → D × Ev := fun kvs => (.int ((kvs.length : Nat) : Int), e)
theorem eDlen_ev : eDlen i e = (rdOf e[i]?).map (dlC e) := rfl
theorem dlC_ev : dlC e kvs = (.int ((kvs.length : Nat) : Int), e) := rfl
def d2C4 (z : D) (e : Ev) (kvs : List (Key × D)) : Key → D × Ev := fun k => ((lookD kvs k).getD z, e)
def d2C3 (x z : D) (e : Ev) : List (Key × D) → Option (D × Ev) := fun kvs => (keyD x).map (d2C4 z e kvs)
def d2C2 (i : Nat) (x : D) : D × Ev → Option (D × Ev) := fun w => (rdOf w.2[i]?).bind (d2C3 x w.1 w.2)
def d2C1 (i : Nat) (fd : EF) : D × Ev → Option (D × Ev) := fun q => (fd q.2).bind (d2C2 i q.1)
def d2C (i : Nat) (fk fd : EF) (e : Ev) : List (Key × D) → Option (D × Ev) := fun _ => (fk e).bind (d2C1 i fd)
theorem eDgt2_ev : eDgt2 i fk fd e = (rdOf e[i]?).bind (d2C i fk fd e) := rfl
theorem d2C_ev : d2C i fk fd e kvs = (fk e).bind (d2C1 i fd) := rfl
theorem d2C1_ev : d2C1 i fd (x, e1) = (fd e1).bind (d2C2 i x) := rfl
theorem d2C2_ev : d2C2 i x (y, e1) = (rdOf e1[i]?).bind (d2C3 x y e1) := rfl
theorem d2C3_ev : d2C3 x y e1 kvs = (keyD x).map (d2C4 y e1 kvs) := rfl
theorem d2C4_ev : d2C4 y e1 kvs k = ((lookD kvs k).getD y, e1) := rfl
def dpC4 (i : Nat) (e : Ev) (kvs : List (Key × D)) (k : Key) : D → D × Ev := fun d => (d, e.set i (.di (dropD kvs k)))
def dpC3 (i : Nat) (e : Ev) (kvs : List (Key × D)) : Key → Option (D × Ev) := fun k => (lookD kvs k).map (dpC4 i e kvs k)
def dpC2 (i : Nat) (x : D) (e : Ev) : List (Key × D) → Option (D × Ev) := fun kvs => (keyD x).bind (dpC3 i e kvs)
def dpC1 (i : Nat) : D × Ev → Option (D × Ev) := fun q => (diOf q.2[i]?).bind (dpC2 i q.1 q.2)
def dpC (i : Nat) (fk : EF) (e : Ev) : List (Key × D) → Option (D × Ev) := fun _ => (fk e).bind (dpC1 i)
theorem eDpop_ev : eDpop i fk e = (diOf e[i]?).bind (dpC i fk e) := rfl
theorem dpC_ev : dpC i fk e kvs = (fk e).bind (dpC1 i) := rfl
theorem dpC1_ev : dpC1 i (x, e1) = (diOf e1[i]?).bind (dpC2 i x e1) := rfl
theorem dpC2_ev : dpC2 i x e1 kvs = (keyD x).bind (dpC3 i e1 kvs) := rfl
theorem dpC3_ev : dpC3 i e1 kvs k = (lookD kvs k).map (dpC4 i e1 kvs k) := rfl
theorem dpC4_ev : dpC4 i e1 kvs k d = (d, e1.set i (.di (dropD kvs k))) := rfl
def ddC4 (i : Nat) (v : D) (e : Ev) (kvs : List (Key × D)) : Key → Option O := fun k => if kvs.length < sizeLine then some (.nx (e.set i (.di (putD kvs k v)))) else none
def ddC3 (i : Nat) (v x : D) (e : Ev) : List (Key × D) → Option O := fun kvs => (keyD x).bind (ddC4 i v e kvs)
def ddC2 (i : Nat) (v : D) : D × Ev → Option O := fun q => (diOf q.2[i]?).bind (ddC3 i v q.1 q.2)
def ddC1 (i : Nat) (fk : EF) (v : D) (e : Ev) : List (Key × D) → Option O := fun _ => (fk e).bind (ddC2 i v)
def ddC (i : Nat) (fk : EF) : D × Ev → Option O := fun p => (diOf p.2[i]?).bind (ddC1 i fk p.1 p.2)
theorem sDput_ev : sDput i fk fv e = (fv e).bind (ddC i fk) := rfl
theorem ddC_ev : ddC i fk (x, e1) = (diOf e1[i]?).bind (ddC1 i fk x e1) := rfl
theorem ddC1_ev : ddC1 i fk x e1 kvs = (fk e1).bind (ddC2 i x) := rfl
theorem ddC2_ev : ddC2 i x (y, e1) = (diOf e1[i]?).bind (ddC3 i x y e1) := rfl
theorem ddC3_ev : ddC3 i x y e1 kvs = (keyD y).bind (ddC4 i x e1 kvs) := rfl
theorem ddC4_ev : ddC4 i x e1 kvs k = if kvs.length < sizeLine then some (.nx (e1.set i (.di (putD kvs k x)))) else none := rfl
theorem oDnew_ev : oDnew e = some (.di [], e) := rfl
def lkC1 (io : Nat) (kvs : List (Key × D)) : Sl × Ev → Option (Sl × Ev) := fun r => if dlFree r.2 io = true ∧ isDl (some r.1) = false then some (r.1, r.2.set io (.di kvs)) else none
def lkC (io : Nat) (f : OF) (e : Ev) : List (Key × D) → Option (Sl × Ev) := fun kvs => (f (e.set io (.dl kvs))).bind (lkC1 io kvs)
theorem oLock_ev (f : OF) : oLock i f e = (diOf e[i]?).bind (lkC i f e) := rfl
theorem lkC_ev (f : OF) : lkC i f e kvs = (f (e.set i (.dl kvs))).bind (lkC1 i kvs) := rfl
theorem lkC1_ev (s : Sl) : lkC1 i kvs (s, e1) = if dlFree e1 i = true ∧ isDl (some s) = false then some (s, e1.set i (.di kvs)) else none := rfl
def lkyC (e : Ev) : Option Sl → Option (List D × Ev)
  | some (.dl kvs) => some (kvs.map fun kv => dK kv.1, e)
  | _ => none
theorem lKeys_ev : lKeys i e = lkyC e e[i]? := rfl
theorem lkyC_ev : lkyC e (some (.dl kvs)) = some (kvs.map fun kv => dK kv.1, e) := rfl
theorem isDl_li (xs : List D) : isDl (some (.li xs)) = false := rfl
theorem isOw_dl : isOw (some (.dl kvs)) = false := rfl
end
end Fl

set_option Elab.async false
set_option linter.all false
set_option maxRecDepth 100000
set_option maxHeartbeats 4000000
set_option autoImplicit false
/-! FnTurn: what the turns of a law share: slots by number, draws in comprehensions, loops that keep a fact. -/
namespace Fl
open PySem PySem.Spec PyProof.Rows L2
theorem gset_ne {e : Ev} {i j : Nat} {s : Sl} (h : (i == j) = false) : (e.set i s)[j]? = e[j]? := List.getElem?_set_ne (by simpa using h)
theorem gset_self {e : Ev} {i : Nat} {s : Sl} (h : i < e.length) : (e.set i s)[i]? = some s := List.getElem?_set_self h
/-- a turn's slots: n of them, the tape in slot 1 -/
structure Tz (n : Nat) (e : Ev) (b : Box) : Prop where
  len : e.length = n
  ow : e[1]? = some (.ow b.ot)
  no : ∀ i, i ≠ 1 → isOw e[i]? = false
theorem Tz.set {n : Nat} {e : Ev} {b : Box} (t : Tz n e b) {i : Nat} {s : Sl} (hi : i ≠ 1) (hs : isOw (some s) = false) : Tz n (e.set i s) b := by
  refine ⟨(List.length_set ..).trans t.len, by rw [List.getElem?_set_ne hi]; exact t.ow, fun j hj => ?_⟩
  by_cases e1 : i = j
  · subst e1
    by_cases hl : i < e.length
    · rw [List.getElem?_set_self hl]; exact hs
    · rw [List.getElem?_eq_none (by rw [List.length_set]; omega)]; rfl
  · rw [List.getElem?_set_ne e1]; exact t.no j hj
theorem Tz.box {n : Nat} {e : Ev} {b b' : Box} (t : Tz n e b) (hn : 1 < n) : Tz n (e.set 1 (.ow b'.ot)) b' :=
  ⟨(List.length_set ..).trans t.len, List.getElem?_set_self (by rw [t.len]; exact hn), fun j hj => by rw [List.getElem?_set_ne (Ne.symm hj)]; exact t.no j hj⟩
theorem Tz.gN {n : Nat} {e : Ev} {b : Box} (t : Tz n e b) {v : Nat} (d : D) (hv : v ≠ 1) : gNm v d e = some (e.set v (.va d)) := by
  unfold gNm
  rw [t.no v hv]; rfl
theorem Tz.self {n : Nat} {e : Ev} {b : Box} (t : Tz n e b) (hn : 1 < n) : e.set 1 (.ow b.ot) = e := by
  have h : 1 < e.length := by rw [t.len]; exact hn
  have := set_self h
  rw [t.ow] at this
  exact this
theorem tz_start (n : Nat) (b : Box) : Tz (n + 2) (.no :: .ow b.ot :: List.replicate n .no) b := by
  refine ⟨by simp, rfl, fun i hi => ?_⟩
  match i, hi with
  | 0, _ => rfl
  | i + 2, _ =>
    show isOw (List.replicate n Sl.no)[i]? = false
    rw [List.getElem?_replicate]
    split <;> rfl
/-! comprehensions whose items draw -/
theorem compL_dr {f : EF} {v : Nat} (enc : Box → Ev) (P : D → D → Prop) : ∀ (ds : List D) (b : Box), (∀ d ∈ ds, ∀ b : Box, ∃ (x : D) (b' : Box), f ((enc b).set v (.va d)) = some (x, (enc b').set v (.va d)) ∧ P d x) →
    ∃ (rs : List D) (b' : Box), compL (gNm v) bYes f [v] ds ((enc b).set v .no) = some (rs, (enc b').set v .no) ∧ rs.length = ds.length ∧ ∀ (i : Nat) d x, ds[i]? = some d → rs[i]? = some x → P d x
  | [], b, _ => ⟨[], b, rfl, rfl, fun i d x h => by simp at h⟩
  | d :: ds, b, h => by
    obtain ⟨x, b1, h1, h2⟩ := h d List.mem_cons_self b
    obtain ⟨rs, b2, k1, k2, k3⟩ := compL_dr enc P ds b1 fun d hd => h d (List.mem_cons_of_mem _ hd)
    refine ⟨x :: rs, b2, ?_, by rw [List.length_cons, List.length_cons, k2], fun i d' x' e1 e2 => ?_⟩
    · rw [compL_take gNm_set rfl h1, wipe1, k1]; rfl
    · cases i with
      | zero => cases e1; cases e2; exact h2
      | succ i => exact k3 i d' x' (by simpa using e1) (by simpa using e2)
theorem compD {f : EF} {v : Nat} (enc : Box → Ev) (P : D → D → Prop) (ds : List D) (b : Box) (hl : ds.length ≤ 1000000) (hv : ∀ b, isOw (enc b)[v]? = false) (hn : ∀ b, v < (enc b).length) (hs : ∀ b b' : Box, (enc b)[v]? = (enc b')[v]?)
    (h : ∀ d ∈ ds, ∀ b : Box, ∃ (x : D) (b' : Box), f ((enc b).set v (.va d)) = some (x, (enc b').set v (.va d)) ∧ P d x) :
    ∃ (rs : List D) (b' : Box), compC (gNm v) bYes f [v] (ds, enc b) = some (.li rs, enc b') ∧ rs.length = ds.length ∧ ∀ (i : Nat) d x, ds[i]? = some d → rs[i]? = some x → P d x := by
  obtain ⟨rs, b', k1, k2, k3⟩ := compL_dr enc P ds b h
  refine ⟨rs, b', ?_, k2, k3⟩
  rw [compC_ev _ _ _ _ _ _ (small1Me hl) (by show (!isOw (enc b)[v]? && true) = true; rw [hv]; rfl)]
  show ((compL _ _ _ _ _ ((enc b).set v .no)).map _) = _
  rw [k1]
  show some (Sl.li rs, (((enc b').set v .no).set v (((enc b)[v]?).getD .no))) = _
  rw [List.set_set, hs b b', set_self (hn b')]
/-- the results are of one kind -/
theorem rs_map {α : Type} (en : α → D) (P : α → Prop) : ∀ {rs : List D}, (∀ x ∈ rs, ∃ a, x = en a ∧ P a) → ∃ as : List α, rs = as.map en ∧ as.length = rs.length ∧ ∀ a ∈ as, P a
  | [], _ => ⟨[], rfl, rfl, fun _ h => nomatch h⟩
  | x :: rs, h => by
    obtain ⟨a, h1, h2⟩ := h x List.mem_cons_self
    obtain ⟨as, h3, h4, h5⟩ := rs_map en P fun y hy => h y (List.mem_cons_of_mem _ hy)
    exact ⟨a :: as, by rw [h1, h3]; rfl, by rw [List.length_cons, List.length_cons, h4], fun c hc => by
      rcases List.mem_cons.mp hc with rfl | hc
      · exact h2
      · exact h5 c hc⟩
/-- over a turn's slots: each item draws -/
theorem compT {α : Type} {f : EF} {v n : Nat} {e : Ev} {b : Box} (t : Tz n e b) (en : α → D) (P : α → Prop) (ds : List D) (hl : ds.length ≤ 1000000) (hv : v ≠ 1) (hn : v < n) (h1 : 1 < n)
    (h : ∀ d ∈ ds, ∀ b : Box, ∃ (a : α) (b' : Box), f ((e.set 1 (.ow b.ot)).set v (.va d)) = some (en a, (e.set 1 (.ow b'.ot)).set v (.va d)) ∧ P a) :
    ∃ (as : List α) (b' : Box), compC (gNm v) bYes f [v] (ds, e) = some (.li (as.map en), e.set 1 (.ow b'.ot)) ∧ as.length = ds.length ∧ ∀ a ∈ as, P a := by
  have hne : (1 == v) = false := by rw [beq_eq_false_iff_ne]; exact fun h => hv h.symm
  obtain ⟨rs, b', k1, k2, k3⟩ := compD (f := f) (v := v) (fun b => e.set 1 (.ow b.ot)) (fun _ x => ∃ a, x = en a ∧ P a) ds b hl (fun b => by rw [gset_ne hne]; exact t.no v hv) (fun b => by rw [List.length_set, t.len]; exact hn) (fun b b' => by rw [gset_ne hne, gset_ne hne]) fun d hd b => by
    obtain ⟨a, b', g1, g2⟩ := h d hd b
    exact ⟨en a, b', g1, a, rfl, g2⟩
  rw [t.self h1] at k1
  obtain ⟨as, rfl, h2, h3⟩ := rs_map en P (rs := rs) fun x hx => by
    obtain ⟨i, hi⟩ := List.getElem?_of_mem hx
    have hi2 : i < ds.length := by have := (List.getElem?_eq_some_iff.mp hi).1; omega
    exact k3 i ds[i] x (List.getElem?_eq_getElem hi2) hi
  exact ⟨as, b', k1, h2.trans k2, h3⟩
/-! loops -/
theorem loop_inv {L : SF} {v : Nat} (I : Ev → Prop) (P : D → Prop) (h : ∀ d e, P d → I e → ∃ e', (gNm v d e).bind L = some (.nx e') ∧ I e') : ∀ (ds : List D) (e : Ev), (∀ d ∈ ds, P d) → I e → ∃ e', forL (gNm v) L ds e = some (.nx e') ∧ I e'
  | [], e, _, hi => ⟨e, rfl, hi⟩
  | d :: ds, e, hd, hi => by
    obtain ⟨e1, h1, h2⟩ := h d e (hd d List.mem_cons_self) hi
    obtain ⟨e2, h3, h4⟩ := loop_inv I P h ds e1 (fun x hx => hd x (List.mem_cons_of_mem _ hx)) h2
    exact ⟨e2, by rw [forL_stepB h1]; exact h3, h4⟩
/-! plain values -/
theorem plain_up : ∀ {n : Nat} {d : D}, Plain n d → Plain (n + 1) d
  | _, .none, _ => trivial
  | _, .bool _, _ => trivial
  | _, .int _, _ => trivial
  | n, .str s, h => by have h' : SeqAt.shaped (.str s) = true := by cases n <;> exact h
                       exact h'
  | 0, .tuple _, h => h.elim
  | 0, .list _, h => h.elim
  | n + 1, .tuple ds, h => ⟨h.1, fun d hd => plain_up (h.2 d hd)⟩
  | n + 1, .list ds, h => ⟨h.1, fun d hd => plain_up (h.2 d hd)⟩
  | 0, .dict _, h => h.elim
  | n + 1, .dict _, h => h.elim
theorem plain_le {n m : Nat} {d : D} (h : Plain n d) (hm : n ≤ m) : Plain m d := by
  induction hm with
  | refl => exact h
  | step _ ih => exact plain_up ih
theorem plain_map {α : Type} {n : Nat} {xs : List α} {en : α → D} (h : xs.length ≤ 1000000) (hp : ∀ x ∈ xs, Plain n (en x)) : Plain (n + 1) (.tuple (xs.map en)) := ⟨by rw [List.length_map]; exact h, fun d hd => by
  obtain ⟨x, hx, rfl⟩ := List.mem_map.mp hd
  exact hp x hx⟩
end Fl

set_option Elab.async false
set_option linter.all false
set_option maxRecDepth 100000
set_option maxHeartbeats 4000000
set_option autoImplicit false
/-! FnTwo: comprehensions with several names, with a test; enumerate. -/
namespace Fl
open PySem PySem.Spec PyProof.Rows L2
def putN : List Nat → List D → Ev → Ev
  | v :: vs, d :: ds, e => putN vs ds (e.set v (.va d))
  | _, _, e => e
def gsN : List Nat → (List D → Ev → Option Ev)
  | [] => gsNil
  | v :: vs => gsCons (gNm v) (gsN vs)
theorem putN_len : ∀ (vs : List Nat) (ds : List D) (e : Ev), (putN vs ds e).length = e.length
  | [], _, _ => by unfold putN; rfl
  | v :: vs, [], e => by unfold putN; rfl
  | v :: vs, d :: ds, e => by unfold putN; rw [putN_len vs ds, List.length_set]
theorem putN_ne : ∀ (vs : List Nat) (ds : List D) (e : Ev) (i : Nat), i ∉ vs → (putN vs ds e)[i]? = e[i]?
  | [], _, _, _, _ => by unfold putN; rfl
  | v :: vs, [], e, _, _ => by unfold putN; rfl
  | v :: vs, d :: ds, e, i, h => by
    unfold putN
    have hne : v ≠ i := fun z => h (by rw [z]; exact List.mem_cons_self)
    rw [putN_ne vs ds _ i fun z => h (List.mem_cons_of_mem _ z), List.getElem?_set_ne hne]
theorem wipe_set (e : Ev) (v : Nat) (s : Sl) : ∀ vs : List Nat, v ∉ vs → (wipeE e vs).set v s = wipeE (e.set v s) vs
  | [], _ => rfl
  | u :: vs, h => by
    unfold wipeE
    have hne : u ≠ v := fun z => h (by rw [z]; exact List.mem_cons_self)
    rw [List.set_comm _ _ hne, wipe_set e v s vs fun z => h (List.mem_cons_of_mem _ z)]
theorem putN_wipe : ∀ (vs : List Nat) (ds : List D) (e : Ev), vs.Nodup → ds.length = vs.length → putN vs ds (wipeE e vs) = putN vs ds e
  | [], _, _, _, _ => rfl
  | v :: vs, [], e, _, h => by cases h
  | v :: vs, d :: ds, e, hn, h => by
    obtain ⟨h1, h2⟩ := List.nodup_cons.mp hn
    show putN vs ds (((wipeE e vs).set v .no).set v (.va d)) = putN vs ds (e.set v (.va d))
    rw [List.set_set, wipe_set e v _ vs h1]
    exact putN_wipe vs ds _ h2 (by simpa using h)
theorem wipe_putN (vs : List Nat) (ds : List D) (e : Ev) : wipeE (putN vs ds e) vs = wipeE e vs := by
  apply List.ext_getElem?
  intro i
  rw [wipeE_get, wipeE_get, putN_len]
  by_cases h : i ∈ vs
  · by_cases hl : i < e.length
    · rw [if_pos ⟨h, hl⟩, if_pos ⟨h, hl⟩]
    · rw [if_neg (fun z => hl z.2), if_neg (fun z => hl z.2), List.getElem?_eq_none (by rw [putN_len]; omega), List.getElem?_eq_none (by omega)]
  · rw [if_neg (fun z => h z.1), if_neg (fun z => h z.1), putN_ne vs ds e i h]
theorem back_wipe (vs : List Nat) (e : Ev) : backE e (wipeE e vs) vs = e := by
  apply List.ext_getElem?
  intro i
  rw [backE_get, wipeE_len]
  by_cases h : i ∈ vs ∧ i < e.length
  · rw [if_pos h, List.getElem?_eq_getElem h.2]; rfl
  · rw [if_neg h, wipeE_get, if_neg h]
theorem gsN_ok : ∀ (vs : List Nat) (ds : List D) (e : Ev), ds.length = vs.length → (∀ v ∈ vs, isOw e[v]? = false) → gsN vs ds e = some (putN vs ds e)
  | [], [], e, _, _ => rfl
  | [], _ :: _, _, h, _ => by cases h
  | v :: vs, [], _, h, _ => by cases h
  | v :: vs, d :: ds, e, h, ho => by
    show (gNm v d e).bind (gsN vs ds) = _
    have h1 : gNm v d e = some (e.set v (.va d)) := by unfold gNm; rw [ho v List.mem_cons_self]; rfl
    rw [h1, Option.bind_some]
    exact gsN_ok vs ds _ (by simpa using h) fun u hu => by
      by_cases e1 : v = u
      · subst e1
        by_cases hl : v < e.length
        · rw [List.getElem?_set_self hl]; rfl
        · rw [List.getElem?_eq_none (by rw [List.length_set]; omega)]; rfl
      · rw [List.getElem?_set_ne e1]; exact ho u (List.mem_cons_of_mem _ hu)
theorem compN {α : Type} {c : BF} {f : EF} {e : Ev} (vs : List Nat) (enc : α → List D) (p : α → Bool) (g : α → D) (xs : List α) (hl : xs.length ≤ 1000000) (hnd : vs.Nodup) (hlen : ∀ x ∈ xs, (enc x).length = vs.length) (hv : ∀ v ∈ vs, isOw e[v]? = false)
    (h : ∀ x ∈ xs, c (putN vs (enc x) e) = some (p x, putN vs (enc x) e) ∧ (p x = true → f (putN vs (enc x) e) = some (g x, putN vs (enc x) e))) :
    compC (gTupF (gsN vs) vs.length) c f vs (xs.map fun x => .tuple (enc x), e) = some (.li ((xs.filter p).map g), e) := by
  rw [compC_ev _ _ _ _ _ _ (by rw [List.length_map]; exact small1Me hl) (List.all_eq_true.mpr fun v h => by rw [hv v h]; rfl)]
  rw [compL_map (vs := vs) (fun x => PyData.tuple (enc x)) p g (wipeE e vs) xs fun x hx => ?_]
  · show some (Sl.li _, backE e (wipeE e vs) vs) = _
    rw [back_wipe]
  · have hw := wipe_putN vs (enc x) e
    refine ⟨putN vs (enc x) e, putN vs (enc x) e, putN vs (enc x) e, ?_, (h x hx).1, fun hp => ⟨(h x hx).2 hp, hw⟩, fun _ => hw⟩
    show (if (enc x).length = vs.length then gsN vs (enc x) (wipeE e vs) else none) = _
    rw [if_pos (hlen x hx), gsN_ok vs (enc x) _ (hlen x hx) fun v hv' => by
      rw [wipeE_get]
      split
      · rfl
      · exact hv v hv', putN_wipe vs _ e hnd (hlen x hx)]
theorem compNy {α : Type} {f : EF} {e : Ev} (vs : List Nat) (enc : α → List D) (g : α → D) (xs : List α) (hl : xs.length ≤ 1000000) (hnd : vs.Nodup) (hlen : ∀ x ∈ xs, (enc x).length = vs.length) (hv : ∀ v ∈ vs, isOw e[v]? = false)
    (h : ∀ x ∈ xs, f (putN vs (enc x) e) = some (g x, putN vs (enc x) e)) :
    compC (gTupF (gsN vs) vs.length) bYes f vs (xs.map fun x => .tuple (enc x), e) = some (.li (xs.map g), e) := by
  rw [compN vs enc (fun _ => true) g xs hl hnd hlen hv fun x hx => ⟨rfl, fun _ => h x hx⟩, List.filter_eq_self.mpr fun _ _ => rfl]
theorem forL_ex {t : GF} {b : SF} {ds : List D} (I : Ev → Prop) (h : ∀ (i : Nat) (d : D) (e : Ev), ds[i]? = some d → I e → ∃ e', (t d e).bind b = some (.nx e') ∧ I e') (e : Ev) (h0 : I e) : ∃ e', forL t b ds e = some (.nx e') ∧ I e' :=
  forL_at (t := t) (b := b) (ds := ds) (A := Ev) (fun _ e => e) (fun _ e => I e) (fun n a d hd hi => h n d a hd hi) e h0
theorem enD_inv {xs : List D} {i : Nat} {it : D} (h : (enD xs)[i]? = some it) : ∃ d, xs[i]? = some d ∧ it = .tuple [.int i, d] := by
  cases hx : xs[i]? with
  | none =>
    rw [List.getElem?_eq_none (by rw [enD_len]; exact List.getElem?_eq_none_iff.mp hx)] at h
    cases h
  | some d =>
    rw [enD_get hx] at h
    exact ⟨d, rfl, by cases h; rfl⟩
theorem enD_rng (n : Nat) (g : Nat → D) : enD ((List.range n).map g) = (List.range n).map fun a => .tuple [.int (a : Nat), g a] := by
  apply List.ext_getElem?
  intro i
  by_cases h : i < n
  · rw [enD_get (d := g i) (by rw [List.getElem?_map, List.getElem?_range h]; rfl), List.getElem?_map, List.getElem?_range h]; rfl
  · rw [List.getElem?_eq_none (by rw [enD_len, List.length_map, List.length_range]; omega), List.getElem?_eq_none (by rw [List.length_map, List.length_range]; omega)]
theorem map_rng {n i : Nat} {g : Nat → D} {d : D} (h : ((List.range n).map g)[i]? = some d) : i < n ∧ d = g i := by
  by_cases hi : i < n
  · rw [List.getElem?_map, List.getElem?_range hi] at h
    exact ⟨hi, by cases h; rfl⟩
  · rw [List.getElem?_eq_none (by rw [List.length_map, List.length_range]; omega)] at h
    cases h
/-- a list by its places -/
theorem map_by {α : Type} (xs : List α) (z : α) (g : α → D) : xs.map g = (List.range xs.length).map fun k => g (xs.getD k z) := by
  apply List.ext_getElem?
  intro i
  by_cases h : i < xs.length
  · rw [List.getElem?_map, List.getElem?_map, List.getElem?_range h, List.getElem?_eq_getElem h]
    show some (g _) = some (g _)
    rw [List.getD_eq_getElem?_getD, List.getElem?_eq_getElem h]; rfl
  · rw [List.getElem?_eq_none (by rw [List.length_map]; omega), List.getElem?_eq_none (by rw [List.length_map, List.length_range]; omega)]
end Fl

set_option Elab.async false
set_option linter.all false
set_option maxRecDepth 100000
set_option maxHeartbeats 4000000
set_option autoImplicit false
/-! FnSh: what many laws share: drawn houses, plain values with bounded ints, lists compared. -/
namespace Fl
open PySem PySem.Spec PyProof.Rows L2
structure Dr where
  a : Nat
  b : Nat
  w : Int
  l : Int
abbrev doorD (d : Dr) : D := .tuple [.int (d.a : Nat), .int (d.b : Nat), .int d.w, .int d.l]
abbrev hD (n : Nat) (ds : List Dr) (os : List Int) : D := .tuple [.int (n : Nat), .tuple (ds.map doorD), .tuple (iL os)]
def dr (ds : List Dr) (k : Nat) : Dr := ds.getD k ⟨0, 0, 1, 0⟩
structure WH (n : Nat) (ds : List Dr) (os : List Int) : Prop where
  n2 : 2 ≤ n
  n9 : n ≤ 12
  dl : ds.length ≤ 40
  ok : ∀ d ∈ ds, d.a < n ∧ d.b < n ∧ 1 ≤ d.w ∧ d.w ≤ 100 ∧ 0 ≤ d.l ∧ d.l ≤ 100
  ne : ∀ d ∈ ds, d.a ≠ d.b
  ol : os.length ≤ 2
  oo : ∀ o ∈ os, 1 ≤ o ∧ o < n
  o1 : ((n - 1 : Nat) : Int) ∈ os
  oa : os.Pairwise (· < ·)
abbrev fL (n : Nat) (g : Nat → Int) : List D := (List.range n).map fun r => PyData.int (g r)
theorem dr_get {ds : List Dr} {k : Nat} (h : k < ds.length) : ds[k]? = some (dr ds k) := by
  unfold dr
  rw [List.getD_eq_getElem?_getD, List.getElem?_eq_getElem h]; rfl
theorem dr_mem {ds : List Dr} {k : Nat} (h : k < ds.length) : dr ds k ∈ ds := by
  have := dr_get h
  exact List.mem_of_getElem? this
theorem door_at {ds : List Dr} {k : Nat} (h : k < ds.length) : atI (ds.map doorD) (k : Nat) = some (doorD (dr ds k)) := atI_nat (by rw [List.getElem?_map, dr_get h]; rfl)
/-! lists of ints, of tuples of ints, compared -/
theorem eqvI : ∀ a b : List Int, PyData.eqvAll (iL a) (iL b) = decide (a = b)
  | [], [] => by show PyData.eqvAll [] [] = _; simp [PyData.eqvAll]
  | [], _ :: _ => by show PyData.eqvAll [] (_ :: _) = _; simp [PyData.eqvAll]
  | _ :: _, [] => by show PyData.eqvAll (_ :: _) [] = _; simp [PyData.eqvAll]
  | x :: a, y :: b => by
    show PyData.eqvAll (.int x :: iL a) (.int y :: iL b) = _
    rw [PyData.eqvAll, eqvI a b, eqv_int]
    by_cases h : x = y
    · subst h
      by_cases k : a = b
      · subst k; simp
      · simp [k]
    · have : (x == y) = false := by simpa using h
      rw [this]
      simp [h]
theorem eqvIT (a b : List Int) : PyData.eqv (.tuple (iL a)) (.tuple (iL b)) = decide (a = b) := by rw [PyData.eqv, eqvI]
theorem eqvIL (a b : List Int) : PyData.eqv (.list (iL a)) (.list (iL b)) = decide (a = b) := by rw [PyData.eqv, eqvI]
theorem eqvTl : ∀ a b : List (List Int), PyData.eqvAll (a.map tlI) (b.map tlI) = decide (a = b)
  | [], [] => by show PyData.eqvAll [] [] = _; simp [PyData.eqvAll]
  | [], _ :: _ => by show PyData.eqvAll [] (_ :: _) = _; simp [PyData.eqvAll]
  | _ :: _, [] => by show PyData.eqvAll (_ :: _) [] = _; simp [PyData.eqvAll]
  | x :: a, y :: b => by
    show PyData.eqvAll (tlI x :: a.map tlI) (tlI y :: b.map tlI) = _
    have e : PyData.eqv (tlI x) (tlI y) = decide (x = y) := eqvIT x y
    rw [PyData.eqvAll, eqvTl a b, e]
    by_cases h : x = y
    · subst h
      by_cases k : a = b
      · subst k; simp
      · simp [k]
    · simp [h]
theorem plain_tl {n : Nat} {ls : List (List Int)} (h : ls.length ≤ 1000000) (hl : ∀ l ∈ ls, l.length ≤ 1000000) : Plain (n + 2) (.list (ls.map tlI)) := ⟨by rw [List.length_map]; exact h, fun d hd => by
  obtain ⟨l, h1, rfl⟩ := List.mem_map.mp hd
  exact plain_ints (hl l h1)⟩
theorem dNe_tl {a b : List (List Int)} (ha : a.length ≤ 1000000) (hb : b.length ≤ 1000000) (la : ∀ l ∈ a, l.length ≤ 1000000) (lb : ∀ l ∈ b, l.length ≤ 1000000) : dNe (.list (a.map tlI)) (.list (b.map tlI)) = some (.bool (!decide (a = b))) := by
  unfold dNe
  rw [if_pos ⟨plain_shaped (n := 2) (plain_tl ha la) (by decide), plain_shaped (n := 2) (plain_tl hb lb) (by decide)⟩, PyData.eqv, eqvTl]
theorem dNe_iLL {a b : List Int} (ha : a.length ≤ 1000000) (hb : b.length ≤ 1000000) : dNe (.list (iL a)) (.list (iL b)) = some (.bool (!decide (a = b))) := by
  unfold dNe
  rw [if_pos ⟨plain_shaped (n := 1) (plain_intsL ha) (by decide), plain_shaped (n := 1) (plain_intsL hb) (by decide)⟩, eqvIL]
theorem dEq_iLT {a b : List Int} (ha : a.length ≤ 1000000) (hb : b.length ≤ 1000000) : dEq (.tuple (iL a)) (.tuple (iL b)) = some (.bool (decide (a = b))) := by
  unfold dEq
  rw [if_pos ⟨plain_shaped (n := 1) (plain_ints ha) (by decide), plain_shaped (n := 1) (plain_ints hb) (by decide)⟩, eqvIT]
theorem dNe_iLT {a b : List Int} (ha : a.length ≤ 1000000) (hb : b.length ≤ 1000000) : dNe (.tuple (iL a)) (.tuple (iL b)) = some (.bool (!decide (a = b))) := by
  unfold dNe
  rw [if_pos ⟨plain_shaped (n := 1) (plain_ints ha) (by decide), plain_shaped (n := 1) (plain_ints hb) (by decide)⟩, eqvIT]
theorem asIL_map : ∀ {ls : List (List Int)}, (∀ l ∈ ls, l ≠ []) → asIL (ls.map tlI) = some ls
  | [], _ => rfl
  | l :: ls, h => by
    show ((asInts (l.map PyData.int)).bind fun ns => if ns = [] then none else (asIL (ls.map tlI)).map fun ls => ns :: ls) = _
    rw [asInts_map, Option.bind_some, if_neg (h l List.mem_cons_self), asIL_map fun m hm => h m (List.mem_cons_of_mem _ hm)]; rfl
theorem asInts_tl {l : List Int} {ls : List (List Int)} : asInts ((l :: ls).map tlI) = none := rfl
theorem dSortB_i (ns : List Int) : dSortB (.list (iL ns)) = some (iL (sortI ns)) := by
  unfold dSortB
  have : dSortA (.list (iL ns)) = some (iL (sortI ns)) := by
    show (asInts (iL ns)).map _ = _
    rw [asInts_map]; rfl
  rw [this]; rfl
theorem dSortB_iT (ns : List Int) : dSortB (.tuple (iL ns)) = some (iL (sortI ns)) := dSortB_i ns
theorem dSortB_tl {ls : List (List Int)} (h : ∀ l ∈ ls, l ≠ []) : dSortB (.list (ls.map tlI)) = some ((sortL ls).map tlI) := by
  cases ls with
  | nil =>
    have h1 : sortI [] = [] := (sortI_perm []).eq_nil
    have h2 : sortL [] = [] := (sortL_perm []).eq_nil
    have := dSortB_i []
    rw [h1] at this
    rw [h2]
    exact this
  | cons l ls =>
    unfold dSortB
    have h1 : dSortA (.list ((l :: ls).map tlI)) = none := rfl
    have h2 : dSortL (.list ((l :: ls).map tlI)) = some ((sortL (l :: ls)).map tlI) := by
      show (asIL ((l :: ls).map tlI)).map _ = _
      rw [asIL_map h]; rfl
    rw [h1, h2]; rfl
theorem dSortB_tlT {ls : List (List Int)} (h : ∀ l ∈ ls, l ≠ []) : dSortB (.tuple (ls.map tlI)) = some ((sortL ls).map tlI) := dSortB_tl h
theorem dLenSetT_tl {ls : List (List Int)} (h : ∀ l ∈ ls, l ≠ []) (h2 : ls.length < 64) : dLenSetT (.list (ls.map tlI)) = some (.int (dedG ls).length) := by
  show ((asIL (ls.map tlI)).bind _) = _
  rw [asIL_map h, Option.bind_some, if_pos h2]
theorem dLtA_tl (a b : List Int) : dLtA (tlI a) (tlI b) = some (.bool (HT.lexLt a b)) := by
  show ((asInts (a.map PyData.int)).bind fun ns => (asInts (b.map PyData.int)).map fun ms => PyData.bool (HT.lexLt ns ms)) = _
  rw [asInts_map, asInts_map]; rfl
/-! greatest, least of ints -/
def foldMax (n : Int) (ns : List Int) : Int := ns.foldl (fun m j => if j > m then j else m) n
def foldMin (n : Int) (ns : List Int) : Int := ns.foldl (fun m j => if j < m then j else m) n
/-! plain values with bounded ints and lengths -/
def PlB (B : Int) (M : Nat) : Nat → D → Prop
  | _, .none => True
  | _, .bool _ => True
  | _, .int i => -B ≤ i ∧ i ≤ B
  | _, .str s => SeqAt.shaped (.str s) = true
  | n + 1, .tuple ds => ds.length ≤ M ∧ ∀ d ∈ ds, PlB B M n d
  | n + 1, .list ds => ds.length ≤ M ∧ ∀ d ∈ ds, PlB B M n d
  | _, _ => False
theorem plB_up {B : Int} {M : Nat} : ∀ {n : Nat} {d : D}, PlB B M n d → PlB B M (n + 1) d
  | 0, .none, _ => trivial
  | 0, .bool _, _ => trivial
  | 0, .int _, h => h
  | 0, .str s, h => h
  | n + 1, .none, _ => trivial
  | n + 1, .bool _, _ => trivial
  | n + 1, .int _, h => h
  | n + 1, .str s, h => h
  | 0, .tuple _, h => h.elim
  | 0, .list _, h => h.elim
  | n + 1, .tuple ds, h => ⟨h.1, fun d hd => plB_up (h.2 d hd)⟩
  | n + 1, .list ds, h => ⟨h.1, fun d hd => plB_up (h.2 d hd)⟩
  | 0, .dict _, h => h.elim
  | n + 1, .dict _, h => h.elim
theorem plB_le {B : Int} {M n m : Nat} {d : D} (h : PlB B M n d) (hm : n ≤ m) : PlB B M m d := by
  induction hm with
  | refl => exact h
  | step _ ih => exact plB_up ih
theorem plB_mono {B C : Int} {M N : Nat} (hB : B ≤ C) (hM : M ≤ N) : ∀ {n : Nat} {d : D}, PlB B M n d → PlB C N n d
  | 0, .none, _ => trivial
  | 0, .bool _, _ => trivial
  | 0, .int _, h => ⟨by have := h.1; omega, by have := h.2; omega⟩
  | 0, .str s, h => h
  | n + 1, .none, _ => trivial
  | n + 1, .bool _, _ => trivial
  | n + 1, .int _, h => ⟨by have := h.1; omega, by have := h.2; omega⟩
  | n + 1, .str s, h => h
  | 0, .tuple _, h => h.elim
  | 0, .list _, h => h.elim
  | n + 1, .tuple ds, h => ⟨Nat.le_trans h.1 hM, fun d hd => plB_mono hB hM (h.2 d hd)⟩
  | n + 1, .list ds, h => ⟨Nat.le_trans h.1 hM, fun d hd => plB_mono hB hM (h.2 d hd)⟩
  | 0, .dict _, h => h.elim
  | n + 1, .dict _, h => h.elim
theorem plB_plain {B : Int} {M : Nat} (hM : M ≤ 1000000) : ∀ {n : Nat} {d : D}, PlB B M n d → Plain n d
  | 0, .none, _ => trivial
  | 0, .bool _, _ => trivial
  | 0, .int _, h => trivial
  | 0, .str s, h => h
  | n + 1, .none, _ => trivial
  | n + 1, .bool _, _ => trivial
  | n + 1, .int _, h => trivial
  | n + 1, .str s, h => h
  | 0, .tuple _, h => h.elim
  | 0, .list _, h => h.elim
  | n + 1, .tuple ds, h => ⟨Nat.le_trans h.1 hM, fun d hd => plB_plain hM (h.2 d hd)⟩
  | n + 1, .list ds, h => ⟨Nat.le_trans h.1 hM, fun d hd => plB_plain hM (h.2 d hd)⟩
  | 0, .dict _, h => h.elim
  | n + 1, .dict _, h => h.elim
section
variable {B : Int} {M n : Nat} {a b c : D} {xs ys : List D}
theorem plB_i {i : Int} (h : -B ≤ i ∧ i ≤ B) : PlB B M n (.int i) := by cases n <;> exact h
theorem plB_n : PlB B M n .none := by cases n <;> trivial
theorem plB_b {b : Bool} : PlB B M n (.bool b) := by cases n <;> trivial
theorem plB_s {s : Str} (h : SeqAt.shaped (.str s) = true) : PlB B M n (.str s) := by cases n <;> exact h
theorem plB_t (h : xs.length ≤ M) (k : ∀ d ∈ xs, PlB B M n d) : PlB B M (n + 1) (.tuple xs) := ⟨h, k⟩
theorem plB_nil : PlB B M (n + 1) (.tuple []) := ⟨Nat.zero_le _, fun _ h => nomatch h⟩
theorem plB_one (h : 1 ≤ M) (ha : PlB B M n a) : PlB B M (n + 1) (.tuple [a]) := ⟨h, fun d hd => by rw [List.mem_singleton.mp hd]; exact ha⟩
theorem plB_two (h : 2 ≤ M) (ha : PlB B M n a) (hb : PlB B M n b) : PlB B M (n + 1) (.tuple [a, b]) := ⟨h, fun d hd => by
  simp only [List.mem_cons, List.not_mem_nil, or_false] at hd
  rcases hd with rfl | rfl
  · exact ha
  · exact hb⟩
theorem plB_three (h : 3 ≤ M) (ha : PlB B M n a) (hb : PlB B M n b) (hc : PlB B M n c) : PlB B M (n + 1) (.tuple [a, b, c]) := ⟨h, fun d hd => by
  simp only [List.mem_cons, List.not_mem_nil, or_false] at hd
  rcases hd with rfl | rfl | rfl
  · exact ha
  · exact hb
  · exact hc⟩
theorem plB_app (h : ∀ d ∈ xs, PlB B M n d) (k : ∀ d ∈ ys, PlB B M n d) (hl : xs.length + ys.length ≤ M) : PlB B M (n + 1) (.tuple (xs ++ ys)) := ⟨by rw [List.length_append]; exact hl, fun d hd => (List.mem_append.mp hd).elim (h d) (k d)⟩
theorem plB_rev (h : PlB B M (n + 1) (.tuple xs)) : PlB B M (n + 1) (.tuple xs.reverse) := ⟨by rw [List.length_reverse]; exact h.1, fun d hd => h.2 d (List.mem_reverse.mp hd)⟩
theorem cut_sub {α : Type} (xs : List α) (lo hi : Option Int) : (cutD xs lo hi).length ≤ xs.length ∧ ∀ x ∈ cutD xs lo hi, x ∈ xs := by
  unfold cutD
  exact ⟨by rw [List.length_take, List.length_drop]; omega, fun x hx => List.mem_of_mem_drop (List.mem_of_mem_take hx)⟩
theorem plB_cut (h : PlB B M (n + 1) (.tuple xs)) (lo hi : Option Int) : PlB B M (n + 1) (.tuple (cutD xs lo hi)) := ⟨Nat.le_trans (cut_sub xs lo hi).1 h.1, fun d hd => h.2 d ((cut_sub xs lo hi).2 d hd)⟩
theorem plB_map {α : Type} {xs : List α} {en : α → D} (h : xs.length ≤ M) (hp : ∀ x ∈ xs, PlB B M n (en x)) : PlB B M (n + 1) (.tuple (xs.map en)) := ⟨by rw [List.length_map]; exact h, fun d hd => by
  obtain ⟨x, hx, rfl⟩ := List.mem_map.mp hd
  exact hp x hx⟩
theorem plB_ints {xs : List Int} (h : xs.length ≤ M) (hb : ∀ x ∈ xs, -B ≤ x ∧ x ≤ B) : PlB B M (n + 1) (.tuple (iL xs)) := plB_map h fun x hx => plB_i (hb x hx)
end
/-- values that are spoilt or bent: ints, None, tuples of such -/
def ItB (B : Int) (M : Nat) : Nat → D → Prop
  | _, .int i => -B ≤ i ∧ i ≤ B
  | _, .none => True
  | k + 1, .tuple ds => ds.length ≤ M ∧ ∀ d ∈ ds, ItB B M k d
  | _, _ => False
theorem itB_i {B : Int} {M n : Nat} {i : Int} (h : -B ≤ i ∧ i ≤ B) : ItB B M n (.int i) := by cases n <;> exact h
theorem itB_n {B : Int} {M n : Nat} : ItB B M n .none := by cases n <;> trivial
theorem itB_plB {B : Int} {M : Nat} : ∀ {k : Nat} {d : D}, ItB B M k d → PlB B M k d
  | 0, .int _, h => h
  | k + 1, .int _, h => h
  | 0, .none, h => trivial
  | k + 1, .none, h => trivial
  | k + 1, .tuple ds, h => ⟨h.1, fun d hd => itB_plB (h.2 d hd)⟩
  | 0, .tuple _, h => h.elim
  | 0, .bool _, h => h.elim
  | 0, .str _, h => h.elim
  | 0, .list _, h => h.elim
  | 0, .dict _, h => h.elim
  | k + 1, .bool _, h => h.elim
  | k + 1, .str _, h => h.elim
  | k + 1, .list _, h => h.elim
  | k + 1, .dict _, h => h.elim
theorem itB_map {B : Int} {M : Nat} {α : Type} {n : Nat} {xs : List α} {en : α → D} (h : xs.length ≤ M) (hp : ∀ x ∈ xs, ItB B M n (en x)) : ItB B M (n + 1) (.tuple (xs.map en)) := ⟨by rw [List.length_map]; exact h, fun d hd => by
  obtain ⟨x, hx, rfl⟩ := List.mem_map.mp hd
  exact hp x hx⟩
theorem itB_up {B : Int} {M : Nat} : ∀ {n : Nat} {d : D}, ItB B M n d → ItB B M (n + 1) d
  | 0, .none, _ => trivial
  | 0, .int _, h => h
  | n + 1, .none, _ => trivial
  | n + 1, .int _, h => h
  | n + 1, .tuple ds, h => ⟨h.1, fun d hd => itB_up (h.2 d hd)⟩
  | 0, .tuple _, h => h.elim
  | 0, .bool _, h => h.elim
  | 0, .str _, h => h.elim
  | 0, .list _, h => h.elim
  | 0, .dict _, h => h.elim
  | n + 1, .bool _, h => h.elim
  | n + 1, .str _, h => h.elim
  | n + 1, .list _, h => h.elim
  | n + 1, .dict _, h => h.elim
theorem itB_le {B : Int} {M n m : Nat} {d : D} (h : ItB B M n d) (hm : n ≤ m) : ItB B M m d := by
  induction hm with
  | refl => exact h
  | step _ ih => exact itB_up ih
theorem itB_t {B : Int} {M n : Nat} {xs : List D} (h : xs.length ≤ M) (k : ∀ d ∈ xs, ItB B M n d) : ItB B M (n + 1) (.tuple xs) := ⟨h, k⟩
theorem pick_at {xs : List D} {d : Int} (h0 : 0 ≤ d) (h1 : d < xs.length) : ∃ v, atI xs d = some v ∧ v ∈ xs := by
  obtain ⟨j, rfl⟩ : ∃ j : Nat, d = (j : Int) := ⟨d.toNat, by omega⟩
  have hj : j < xs.length := by omega
  exact ⟨xs[j], atI_nat (List.getElem?_eq_getElem hj), List.getElem_mem hj⟩
theorem plain_items {k : Nat} {ds : List D} (hp : Plain k (.tuple ds)) : ds.length ≤ 1000000 ∧ ∃ j, k = j + 1 ∧ ∀ d ∈ ds, Plain j d := by
  cases k with
  | zero => exact hp.elim
  | succ j => exact ⟨hp.1, j, rfl, hp.2⟩
theorem sh_a : SeqAt.shaped (.str "a") = true := by decide +kernel

theorem dSortSet_iL {ns : List Int} (h : ns.length < 64) : dSortSet (.list (iL ns)) = some (iL (setI ns)) := by
  show (asInts (iL ns)).bind _ = _
  have := intsOf_lst ns
  rw [show asInts (iL ns) = some ns from this]
  show (if ns.length < 64 then _ else _) = _
  rw [if_pos h]
theorem inA_i (s : Int) (X : List Int) : dInA false (.int s) (.tuple (iL X)) = some (.bool (decide (s ∈ X))) := by unfold dInA; rw [inB_tup]; rfl
theorem inA_l (s : Int) (X : List Int) : dInA false (.int s) (.list (iL X)) = some (.bool (decide (s ∈ X))) := by unfold dInA; rw [inB_lst]; rfl
theorem ninA_i (s : Int) (X : List Int) : dInA true (.int s) (.tuple (iL X)) = some (.bool (!decide (s ∈ X))) := by unfold dInA; rw [ninB_tup]; rfl
theorem ninA_l (s : Int) (X : List Int) : dInA true (.int s) (.list (iL X)) = some (.bool (!decide (s ∈ X))) := by unfold dInA; rw [ninB_lst]; rfl
theorem dMax_l {ns : List Int} (h : ns ≠ []) : ∃ m, dMax (.list (iL ns)) = some (.int m) ∧ m ∈ ns ∧ ∀ x ∈ ns, x ≤ m := by
  cases ns with
  | nil => exact absurd rfl h
  | cons n r =>
    obtain ⟨h1, h2, h3⟩ := maxI_spec r n
    refine ⟨maxI n r, by unfold dMax; rw [intsOf_lst]; rfl, ?_, fun x hx => ?_⟩
    · rcases h1 with e | e
      · rw [e]; exact List.mem_cons_self
      · exact List.mem_cons_of_mem _ e
    · rcases List.mem_cons.mp hx with rfl | hx
      · exact h2
      · exact h3 x hx
theorem dMax_t {ns : List Int} (h : ns ≠ []) : ∃ m, dMax (.tuple (iL ns)) = some (.int m) ∧ m ∈ ns ∧ ∀ x ∈ ns, x ≤ m := dMax_l h
theorem dMin_l {ns : List Int} (h : ns ≠ []) : ∃ m, dMin (.list (iL ns)) = some (.int m) ∧ m ∈ ns ∧ ∀ x ∈ ns, m ≤ x := by
  cases ns with
  | nil => exact absurd rfl h
  | cons n r =>
    obtain ⟨h1, h2, h3⟩ := minI_spec r n
    refine ⟨minI n r, by unfold dMin; rw [intsOf_lst]; rfl, ?_, fun x hx => ?_⟩
    · rcases h1 with e | e
      · rw [e]; exact List.mem_cons_self
      · exact List.mem_cons_of_mem _ e
    · rcases List.mem_cons.mp hx with rfl | hx
      · exact h2
      · exact h3 x hx
/-- a loop that goes on or returns -/
theorem forL_test {t : GF} {b : SF} (p : D → Bool) (I : Ev → Prop) (r : Sl) (P : D → Prop) (h : ∀ d e, P d → I e → ∃ e', (t d e).bind b = some (if p d = true then .nx e' else .rt r e') ∧ I e') : ∀ (ds : List D) (e : Ev), (∀ d ∈ ds, P d) → I e → ∃ e', forL t b ds e = some (if ds.all p = true then .nx e' else .rt r e') ∧ I e'
  | [], e, _, hi => ⟨e, rfl, hi⟩
  | d :: ds, e, hd, hi => by
    obtain ⟨e1, h1, h2⟩ := h d e (hd d List.mem_cons_self) hi
    cases hp : p d with
    | true =>
      rw [hp, if_pos rfl] at h1
      obtain ⟨e2, h3, h4⟩ := forL_test p I r P h ds e1 (fun x hx => hd x (List.mem_cons_of_mem _ hx)) h2
      exact ⟨e2, by rw [forL_stepB h1, h3, List.all_cons, hp, Bool.true_and], h4⟩
    | false =>
      rw [hp, if_neg Bool.false_ne_true] at h1
      exact ⟨e1, by rw [forL_ret h1, List.all_cons, hp, Bool.false_and, if_neg Bool.false_ne_true], h2⟩

theorem forL_idx {t : GF} {b : SF} {ds : List D} (I : Nat → Ev → Prop) (h : ∀ i d e, ds[i]? = some d → I i e → ∃ e', (t d e).bind b = some (.nx e') ∧ I (i + 1) e') (e : Ev) (h0 : I 0 e) : ∃ e', forL t b ds e = some (.nx e') ∧ I ds.length e' :=
  forL_at (t := t) (b := b) (ds := ds) (A := Ev) (fun _ e => e) I (fun i e d => h i d e) e h0
/-! slots by number: n of them, the tape in slot 1 -/
structure Tq (n : Nat) (e : Ev) (o : OT) : Prop where
  len : e.length = n
  ow : e[1]? = some (.ow o)
  no : ∀ i, i ≠ 1 → isOw e[i]? = false
section
variable {n : Nat} {e : Ev} {o o' : OT}
theorem Tq.set (t : Tq n e o) {i : Nat} {s : Sl} (hi : i ≠ 1) (hs : isOw (some s) = false) : Tq n (e.set i s) o := by
  refine ⟨(List.length_set ..).trans t.len, by rw [List.getElem?_set_ne hi]; exact t.ow, fun j hj => ?_⟩
  by_cases e1 : i = j
  · subst e1
    by_cases hl : i < e.length
    · rw [List.getElem?_set_self hl]; exact hs
    · rw [List.getElem?_eq_none (by rw [List.length_set]; omega)]; rfl
  · rw [List.getElem?_set_ne e1]; exact t.no j hj
theorem Tq.box (t : Tq n e o) (hn : 1 < n) : Tq n (e.set 1 (.ow o')) o' :=
  ⟨(List.length_set ..).trans t.len, List.getElem?_set_self (by rw [t.len]; exact hn), fun j hj => by rw [List.getElem?_set_ne (Ne.symm hj)]; exact t.no j hj⟩
theorem Tq.gN (t : Tq n e o) {v : Nat} (d : D) (hv : v ≠ 1) : gNm v d e = some (e.set v (.va d)) := by
  unfold gNm
  rw [t.no v hv]; rfl
theorem Tq.self (t : Tq n e o) (hn : 1 < n) : e.set 1 (.ow o) = e := by
  have h : 1 < e.length := by rw [t.len]; exact hn
  have := set_self h
  rw [t.ow] at this
  exact this
theorem tq_start (n : Nat) (o : OT) : Tq (n + 2) (.no :: .ow o :: List.replicate n .no) o := by
  refine ⟨by simp, rfl, fun i hi => ?_⟩
  match i, hi with
  | 0, _ => rfl
  | i + 2, _ =>
    show isOw (List.replicate n Sl.no)[i]? = false
    rw [List.getElem?_replicate]
    split <;> rfl
end
/-! comprehensions whose tests and items draw -/
theorem compL_drQ {β : Type} {c : BF} {f : EF} {v : Nat} (enc : β → Ev) (P : D → D → Prop) : ∀ (ds : List D) (b : β), (∀ d ∈ ds, ∀ b : β, ∃ (t : Bool) (b1 : β), c ((enc b).set v (.va d)) = some (t, (enc b1).set v (.va d)) ∧ (t = true → ∃ (x : D) (b' : β), f ((enc b1).set v (.va d)) = some (x, (enc b').set v (.va d)) ∧ P d x)) →
    ∃ (rs qs : List D) (b' : β), compL (gNm v) c f [v] ds ((enc b).set v .no) = some (rs, (enc b').set v .no) ∧ rs.length = qs.length ∧ qs.Sublist ds ∧ ∀ (i : Nat) d x, qs[i]? = some d → rs[i]? = some x → P d x
  | [], b, _ => ⟨[], [], b, rfl, rfl, List.Sublist.refl _, fun i d x h => by simp at h⟩
  | d :: ds, b, h => by
    obtain ⟨t, b1, h1, h2⟩ := h d List.mem_cons_self b
    cases t with
    | true =>
      obtain ⟨x, b2, h3, h4⟩ := h2 rfl
      obtain ⟨rs, qs, b3, k1, k2, k3, k4⟩ := compL_drQ enc P ds b2 fun d hd => h d (List.mem_cons_of_mem _ hd)
      refine ⟨x :: rs, d :: qs, b3, ?_, by rw [List.length_cons, List.length_cons, k2], k3.cons_cons d, fun i d' x' e1 e2 => ?_⟩
      · rw [compL_take gNm_set h1 h3, wipe1, k1]; rfl
      · cases i with
        | zero => cases e1; cases e2; exact h4
        | succ i => exact k4 i d' x' (by simpa using e1) (by simpa using e2)
    | false =>
      obtain ⟨rs, qs, b3, k1, k2, k3, k4⟩ := compL_drQ enc P ds b1 fun d hd => h d (List.mem_cons_of_mem _ hd)
      exact ⟨rs, qs, b3, by rw [compL_skip gNm_set h1, wipe1, k1], k2, k3.cons d, k4⟩
/-- by any encoding of the slots: tests and items draw -/
theorem compEf {α β : Type} {c : BF} {f : EF} {v : Nat} (enc : β → Ev) (en : α → D) (P : α → Prop) (ds : List D) (b : β) (hl : ds.length ≤ 1000000) (hv : ∀ b, isOw (enc b)[v]? = false) (hn : ∀ b, v < (enc b).length) (hs : ∀ b b' : β, (enc b)[v]? = (enc b')[v]?)
    (h : ∀ d ∈ ds, ∀ b : β, ∃ (t : Bool) (b1 : β), c ((enc b).set v (.va d)) = some (t, (enc b1).set v (.va d)) ∧ (t = true → ∃ (a : α) (b' : β), f ((enc b1).set v (.va d)) = some (en a, (enc b').set v (.va d)) ∧ P a)) :
    ∃ (as : List α) (b' : β), compC (gNm v) c f [v] (ds, enc b) = some (.li (as.map en), enc b') ∧ as.length ≤ ds.length ∧ ∀ a ∈ as, P a := by
  obtain ⟨rs, qs, b', k1, k2, k3, k4⟩ := compL_drQ enc (fun _ x => ∃ a, x = en a ∧ P a) ds b fun d hd b => by
    obtain ⟨t, b1, h1, h2⟩ := h d hd b
    exact ⟨t, b1, h1, fun ht => by
      obtain ⟨a, b', h3, h4⟩ := h2 ht
      exact ⟨en a, b', h3, a, rfl, h4⟩⟩
  obtain ⟨as, rfl, g2, g3⟩ := rs_map en P (rs := rs) fun x hx => by
    obtain ⟨i, hi⟩ := List.getElem?_of_mem hx
    have hi2 : i < qs.length := by have := (List.getElem?_eq_some_iff.mp hi).1; omega
    exact k4 i qs[i] x (List.getElem?_eq_getElem hi2) hi
  refine ⟨as, b', ?_, by rw [g2, k2]; exact k3.length_le, g3⟩
  rw [compC_ev _ _ _ _ _ _ (small1Me hl) (by show (!isOw (enc b)[v]? && true) = true; rw [hv]; rfl)]
  show ((compL _ _ _ _ _ ((enc b).set v .no)).map _) = _
  rw [k1]
  show some (Sl.li _, (((enc b').set v .no).set v (((enc b)[v]?).getD .no))) = _
  rw [List.set_set, hs b b', set_self (hn b')]
/-- the same, without a test: as many items -/
theorem compE {α β : Type} {f : EF} {v : Nat} (enc : β → Ev) (en : α → D) (P : α → Prop) (ds : List D) (b : β) (hl : ds.length ≤ 1000000) (hv : ∀ b, isOw (enc b)[v]? = false) (hn : ∀ b, v < (enc b).length) (hs : ∀ b b' : β, (enc b)[v]? = (enc b')[v]?)
    (h : ∀ d ∈ ds, ∀ b : β, ∃ (a : α) (b' : β), f ((enc b).set v (.va d)) = some (en a, (enc b').set v (.va d)) ∧ P a) :
    ∃ (as : List α) (b' : β), compC (gNm v) bYes f [v] (ds, enc b) = some (.li (as.map en), enc b') ∧ as.length = ds.length ∧ ∀ a ∈ as, P a := by
  have key : ∀ (ds : List D) (b : β), (∀ d ∈ ds, ∀ b : β, ∃ (a : α) (b' : β), f ((enc b).set v (.va d)) = some (en a, (enc b').set v (.va d)) ∧ P a) → ∃ (as : List α) (b' : β), compL (gNm v) bYes f [v] ds ((enc b).set v .no) = some (as.map en, (enc b').set v .no) ∧ as.length = ds.length ∧ ∀ a ∈ as, P a := fun ds => by
    induction ds with
    | nil => intro b _; exact ⟨[], b, rfl, rfl, fun _ h => nomatch h⟩
    | cons d ds ih =>
      intro b h
      obtain ⟨a, b1, h1, h2⟩ := h d List.mem_cons_self b
      obtain ⟨as, b2, k1, k2, k3⟩ := ih b1 fun d hd => h d (List.mem_cons_of_mem _ hd)
      refine ⟨a :: as, b2, ?_, by rw [List.length_cons, List.length_cons, k2], fun x hx => ?_⟩
      · rw [compL_take gNm_set rfl h1, wipe1, k1]; rfl
      · rcases List.mem_cons.mp hx with rfl | hx
        · exact h2
        · exact k3 x hx
  obtain ⟨as, b', k1, k2, k3⟩ := key ds b h
  refine ⟨as, b', ?_, k2, k3⟩
  rw [compC_ev _ _ _ _ _ _ (small1Me hl) (by show (!isOw (enc b)[v]? && true) = true; rw [hv]; rfl)]
  show ((compL _ _ _ _ _ ((enc b).set v .no)).map _) = _
  rw [k1]
  show some (Sl.li _, (((enc b').set v .no).set v (((enc b)[v]?).getD .no))) = _
  rw [List.set_set, hs b b', set_self (hn b')]
/-- over a turn's slots -/
theorem compQ {α β : Type} {f : EF} {v n : Nat} {e : Ev} {mk : β → OT} {b : β} (t : Tq n e (mk b)) (en : α → D) (P : α → Prop) (ds : List D) (hl : ds.length ≤ 1000000) (hv : v ≠ 1) (hn : v < n) (h1 : 1 < n)
    (h : ∀ d ∈ ds, ∀ b : β, ∃ (a : α) (b' : β), f ((e.set 1 (.ow (mk b))).set v (.va d)) = some (en a, (e.set 1 (.ow (mk b'))).set v (.va d)) ∧ P a) :
    ∃ (as : List α) (b' : β), compC (gNm v) bYes f [v] (ds, e) = some (.li (as.map en), e.set 1 (.ow (mk b'))) ∧ as.length = ds.length ∧ ∀ a ∈ as, P a := by
  have hne : (1 == v) = false := by rw [beq_eq_false_iff_ne]; exact fun h => hv h.symm
  have := compE (f := f) (v := v) (fun b => e.set 1 (.ow (mk b))) en P ds b hl (fun b => by rw [gset_ne hne]; exact t.no v hv) (fun b => by rw [List.length_set, t.len]; exact hn) (fun b b' => by rw [gset_ne hne, gset_ne hne]) h
  rw [t.self h1] at this
  exact this
theorem compQf {α β : Type} {c : BF} {f : EF} {v n : Nat} {e : Ev} {mk : β → OT} {b : β} (t : Tq n e (mk b)) (en : α → D) (P : α → Prop) (ds : List D) (hl : ds.length ≤ 1000000) (hv : v ≠ 1) (hn : v < n) (h1 : 1 < n)
    (h : ∀ d ∈ ds, ∀ b : β, ∃ (q : Bool) (b1 : β), c ((e.set 1 (.ow (mk b))).set v (.va d)) = some (q, (e.set 1 (.ow (mk b1))).set v (.va d)) ∧ (q = true → ∃ (a : α) (b' : β), f ((e.set 1 (.ow (mk b1))).set v (.va d)) = some (en a, (e.set 1 (.ow (mk b'))).set v (.va d)) ∧ P a)) :
    ∃ (as : List α) (b' : β), compC (gNm v) c f [v] (ds, e) = some (.li (as.map en), e.set 1 (.ow (mk b'))) ∧ as.length ≤ ds.length ∧ ∀ a ∈ as, P a := by
  have hne : (1 == v) = false := by rw [beq_eq_false_iff_ne]; exact fun h => hv h.symm
  have := compEf (c := c) (f := f) (v := v) (fun b => e.set 1 (.ow (mk b))) en P ds b hl (fun b => by rw [gset_ne hne]; exact t.no v hv) (fun b => by rw [List.length_set, t.len]; exact hn) (fun b b' => by rw [gset_ne hne, gset_ne hne]) h
  rw [t.self h1] at this
  exact this
theorem set_1v1 (e : Ev) {v : Nat} (hv : v ≠ 1) (a b c : Sl) : ((e.set 1 a).set v b).set 1 c = (e.set 1 c).set v b := by
  rw [List.set_comm _ _ (Ne.symm hv), List.set_set, List.set_comm _ _ hv]
end Fl

set_option Elab.async false
set_option linter.all false
set_option maxRecDepth 100000
set_option maxHeartbeats 1000000
set_option autoImplicit false
/-! FnBor: own lists lent to a call that gives back no list; xs += ys of own lists. -/
namespace Fl
open PySem PySem.Spec PyProof.Rows L2
mutual
def noL : D → Bool
  | .none => true
  | .bool _ => true
  | .int _ => true
  | .str _ => true
  | .tuple ds => noLs ds
  | .list _ => false
  | .dict _ => false
def noLs : List D → Bool
  | [] => true
  | d :: ds => noL d && noLs ds
end
mutual
def otFl : OT → Bool
  | .leaf d => noL d
  | .node ts => otFls ts
  | .ntup ts => otFls ts
def otFls : List OT → Bool
  | [] => true
  | t :: ts => otFl t && otFls ts
end
def slFl : Sl → Bool
  | .no => true
  | .va _ => true
  | .dl _ => true
  | .tn _ => true
  | .li xs => noLs xs
  | .di kvs => kvs.all fun p => noL p.2
  | .dt kvs => kvs.all fun p => noL p.2
  | .ow t => otFl t
def rFl : Sl → Bool
  | .va d => noL d
  | .li xs => noLs xs
  | _ => false
theorem noLs_all : ∀ {ds : List D}, noLs ds = ds.all noL
  | [] => rfl
  | d :: ds => by
    rw [noLs, List.all_cons, noLs_all]
section
variable {K : Frg} {G G' : Hp} {l : Addr} {lv : List V}
theorem seqEr (e : ∀ a o, G a = some o → a ≠ l → G' a = some o) (hl : G l = some (.lst lv)) {a : Addr} {xs : List V} (h : SqT K G a xs) : SqT K G' a xs := by
  rcases h with h | h
  · rcases h with h | ⟨o, h⟩
    · exact .inl (.inl (e _ _ h fun q => by rw [q, hl] at h; cases h))
    · exact .inl (.inr ⟨o, e _ _ h fun q => by rw [q, hl] at h; cases h⟩)
  · exact .inr h
mutual
theorem dvEr (e : ∀ a o, G a = some o → a ≠ l → G' a = some o) (hl : G l = some (.lst lv)) : ∀ (d : D) (v : V), noL d = true → Dv K G v d → Dv K G' v d
  | .none, _, _, h => by cases h; exact .non
  | .bool _, _, _, h => by cases h; exact .bl _
  | .int _, _, _, h => by cases h; exact .int _
  | .str _, _, _, h => by cases h; exact .str _
  | .tuple ds, _, n, h => by
    cases h with
    | tup hs ha => exact .tup (seqEr e hl hs) (dvErs e hl ds _ (by rw [noL] at n; exact n) ha)
  | .list _, _, n, _ => by rw [noL] at n; cases n
  | .dict _, _, n, _ => by rw [noL] at n; cases n
theorem dvErs (e : ∀ a o, G a = some o → a ≠ l → G' a = some o) (hl : G l = some (.lst lv)) : ∀ (ds : List D) (vs : List V), noLs ds = true → DvAll K G vs ds → DvAll K G' vs ds
  | [], _, _, h => by cases h; exact .nil
  | d :: ds, _, n, h => by
    rw [noLs, Bool.and_eq_true] at n
    cases h with
    | cons h1 h2 => exact .cons (dvEr e hl d _ n.1 h1) (dvErs e hl ds _ n.2 h2)
end
theorem kvEr {κ : Type} (e : ∀ a o, G a = some o → a ≠ l → G' a = some o) (hl : G l = some (.lst lv)) : ∀ {r : List (κ × V)} {s : List (κ × D)}, (s.all fun p => noL p.2) = true → KvOk K G r s → KvOk K G' r s
  | _, _, _, .nil => .nil
  | _, _, n, .cons h t => by
    rw [List.all_cons, Bool.and_eq_true] at n
    exact .cons (dvEr e hl _ _ n.1 h) (kvEr e hl n.2 t)
mutual
theorem otEr {H : Hp} (e : ∀ a o, G a = some o → a ≠ l → G' a = some o) (hl : G l = some (.lst lv)) (en : ∀ a, G a = none → G' a = none) : ∀ (t : OT) (v : V) (F : List Addr), otFl t = true → OtOk K G H v t F → OtOk K G' H v t F
  | .leaf d, _, _, n, h => by
    rw [otFl] at n
    cases h with
    | leaf h => exact .leaf (dvEr e hl _ _ n h)
  | .node ts, _, _, n, h => by
    rw [otFl] at n
    cases h with
    | node h1 h2 h3 h4 => exact .node (en _ h1) h2 (otsEr e hl en ts _ _ n h3) h4
  | .ntup ts, _, _, n, h => by
    rw [otFl] at n
    cases h with
    | ntup h1 h2 h3 h4 => exact .ntup (en _ h1) h2 (otsEr e hl en ts _ _ n h3) h4
theorem otsEr {H : Hp} (e : ∀ a o, G a = some o → a ≠ l → G' a = some o) (hl : G l = some (.lst lv)) (en : ∀ a, G a = none → G' a = none) : ∀ (ts : List OT) (vs : List V) (F : List Addr), otFls ts = true → OtsOk K G H vs ts F → OtsOk K G' H vs ts F
  | [], _, _, _, h => by cases h; exact .nil
  | t :: ts, _, _, n, h => by
    rw [otFls, Bool.and_eq_true] at n
    cases h with
    | cons h1 h2 h3 => exact .cons (otEr e hl en t _ _ n.1 h1) (otsEr e hl en ts _ _ n.2 h2) h3
end
end
/-- what is made by f while the own list in slot i stands still; it is one's own again behind it -/
noncomputable def oBor (i : Nat) (f : OF) : OF := fun e => match e[i]? with
  | some (.li xs) => (f (e.set i (.va (.list xs)))).bind fun p => open Classical in if p.2 = e.set i (.va (.list xs)) ∧ rFl p.1 = true ∧ e.all slFl = true then some (p.1, e) else none
  | _ => f e
theorem oBor_run {i : Nat} {f : OF} {e : Ev} {xs : List D} {r : Sl} (h : e[i]? = some (.li xs)) (hf : f (e.set i (.va (.list xs))) = some (r, e.set i (.va (.list xs)))) (hr : rFl r = true) (he : e.all slFl = true) : oBor i f e = some (r, e) := by
  unfold oBor
  rw [h]
  show ((f (e.set i (.va (.list xs)))).bind _) = _
  rw [hf, Option.bind_some]
  exact if_pos ⟨rfl, hr, he⟩
section
variable {X : Cx} {pos : Pos}
theorem fo_bor (i : Nat) {x : Expr} {f : OF} (h : FO X x f) : FO X x (oBor i f) := ⟨PE.imp h.po fun σ H Q ⟨z, r, e', rp, hs, hH, hf, q⟩ => by
  subst hs hH
  unfold oBor at hf
  split at hf
  · rename_i xs hi
    obtain ⟨⟨r0, e0⟩, h1, h2⟩ := Option.bind_eq_some_iff.mp hf
    split at h2
    · rename_i hc
      obtain ⟨c1, c2, c3⟩ := hc
      cases h2
      have c1 : e0 = z.e.set i (.va (.list xs)) := c1
      subst c1
      obtain ⟨a, vs, k1, k2, k3, k4, k5⟩ := rp.own hi
      obtain ⟨rf, mf⟩ := rp.fzName hi k1 k2 k3 k4 k5
      have hil := (List.getElem?_eq_some_iff.mp hi).1
      refine ⟨z.fz i a vs xs, r0, _, rf, rfl, rfl, h1, fun v y Fr m ry sy ey so fr => ?_⟩
      have sy : y.s = z.s := sy
      have ey : y.e = z.e.set i (.va (.list xs)) := ey
      have hza : (z.fz i a vs xs).G a = some (.lst vs) := upd_same
      have hya : y.G a = some (.lst vs) := m.g _ _ hza
      obtain ⟨G2, hG2⟩ : ∃ G2 : Hp, G2 = fun b => if b = a then none else y.G b := ⟨_, rfl⟩
      have ga : G2 a = none := by rw [hG2]; exact if_pos rfl
      have gne : ∀ b, b ≠ a → G2 b = y.G b := fun b hb => by rw [hG2]; exact if_neg hb
      have er : ∀ b o, y.G b = some o → b ≠ a → G2 b = some o := fun b o h hb => (gne b hb).trans h
      have en : ∀ b, y.G b = none → G2 b = none := fun b h => by
        by_cases hb : b = a
        · rw [hb]; exact ga
        · exact (gne b hb).trans h
      have gz : Same z.G G2 := fun b o h => by
        have hb : b ≠ a := fun q => by rw [q, k3] at h; cases h
        rw [gne b hb]
        refine m.g b o ?_
        show upd z.G a _ b = _
        rw [upd_ne hb]; exact h
      have fy : ∀ j, a ∉ y.F j := fun j hj => by
        have := (ry.live hj).1
        rw [hya] at this; cases this
      have hyl : y.e.length = z.e.length := by rw [ey, List.length_set]
      have hH : y.H a = some (.lst vs) := ry.same _ _ hya
      -- the state behind
      obtain ⟨y2, hy2⟩ : ∃ y2 : Z, y2 = ⟨G2, y.H, y.s, z.e, fun j => if j = i then [a] else y.F j⟩ := ⟨_, rfl⟩
      have r2 : Rp X.K y2 := by
        subst hy2
        refine ⟨fun b o h => ?_, ?_, fun j s hj => ?_, fun j hj => ?_, fun j1 j2 b hj h1 h2 => ?_⟩
        · have h : G2 b = some o := h
          by_cases hb : b = a
          · rw [hb, ga] at h; cases h
          · rw [gne b hb] at h
            exact ry.same _ _ h
        · show y.s.length = z.e.length
          rw [ry.len, hyl]
        · have hj : z.e[j]? = some s := hj
          show SlOk X.K G2 y.H ((y.s[j]?).join) (if j = i then [a] else y.F j) s
          by_cases e1 : j = i
          · subst e1
            rw [hi] at hj
            cases hj
            rw [if_pos rfl]
            refine ⟨a, vs, ?_, rfl, ga, hH, dvMonoAll gz _ _ k5⟩
            rw [sy, k1]; rfl
          · rw [if_neg e1]
            have hyj : y.e[j]? = some s := by rw [ey, List.getElem?_set_ne (Ne.symm e1)]; exact hj
            have hfl : slFl s = true := List.all_eq_true.mp c3 s (List.mem_of_getElem? hj)
            have oy := ry.ok j s hyj
            have oz := rp.ok j s hj
            rw [sy] at oy ⊢
            cases s with
            | no => exact oy
            | va d =>
              obtain ⟨h1, _⟩ := oy
              obtain ⟨_, x, h2, h3⟩ := oz
              exact ⟨h1, x, h2, dvMono gz _ _ h3⟩
            | dl kvs =>
              obtain ⟨h1, _⟩ := oy
              obtain ⟨_, b, r, o, h2, h3, h4⟩ := oz
              exact ⟨h1, b, r, o, h2, gz _ _ h3, kvMono gz h4⟩
            | tn ds =>
              obtain ⟨h1, _⟩ := oy
              obtain ⟨_, b, r, o, h2, h3, h4, h5⟩ := oz
              exact ⟨h1, b, r, o, h2, gz _ _ h3, h4, dvMonoAll gz _ _ h5⟩
            | li ys =>
              obtain ⟨b, ws, h1, h2, h3, h4, h5⟩ := oy
              exact ⟨b, ws, h1, h2, en _ h3, h4, dvErs er hya _ _ hfl h5⟩
            | di kvs =>
              obtain ⟨b, ws, h1, h2, h3, h4, h5⟩ := oy
              exact ⟨b, ws, h1, h2, en _ h3, h4, kvEr er hya hfl h5⟩
            | dt kvs =>
              obtain ⟨b, ws, h1, h2, h3, h4, h5⟩ := oy
              exact ⟨b, ws, h1, h2, en _ h3, h4, kvEr er hya hfl h5⟩
            | ow t =>
              obtain ⟨x, h1, h2⟩ := oy
              exact ⟨x, h1, otEr er hya en _ _ _ hfl h2⟩
        · have hj : z.e.length ≤ j := hj
          show (if j = i then [a] else y.F j) = []
          rw [if_neg (by omega)]
          exact ry.out j (by omega)
        · have h1 : b ∈ (if j1 = i then [a] else y.F j1) := h1
          have h2 : b ∈ (if j2 = i then [a] else y.F j2) := h2
          split at h1
          · rename_i q1
            rw [List.mem_singleton.mp h1] at h2
            split at h2
            · rename_i q2; exact hj (q1.trans q2.symm)
            · exact fy _ h2
          · split at h2
            · rw [List.mem_singleton.mp h2] at h1
              exact fy _ h1
            · exact ry.sep _ _ _ hj h1 h2
      have m2 : Mv z y2 := by
        subst hy2
        have zf : ∀ b, (∀ j, b ∉ z.F j) → ∀ j, b ∉ (z.fz i a vs xs).F j := fun b h j hj => by
          have hj : b ∈ (if j = i then [] else z.F j) := hj
          split at hj
          · cases hj
          · exact h j hj
        refine ⟨fun b o h k => m.out b o h (zf b k), fun b h => m.dom b h, gz, fun b h k => ?_, fun j b h => ?_, fun j h => ⟨h, by rw [sy]⟩, rfl⟩
        · have hb : b ≠ a := fun q => k i (by rw [q, k2]; exact List.mem_singleton.mpr rfl)
          show G2 b = z.G b
          rw [gne b hb, m.gn b h (zf b k)]
          show upd z.G a _ b = _
          rw [upd_ne hb]
        · have h : b ∈ (if j = i then [a] else y.F j) := h
          split at h
          · rename_i q
            left
            rw [List.mem_singleton.mp h, q, k2]
            exact List.mem_singleton.mpr rfl
          · rename_i q
            rcases m.fn j b h with h3 | h3
            · left
              have h3 : b ∈ (if j = i then [] else z.F j) := h3
              rw [if_neg q] at h3
              exact h3
            · exact .inr h3
      have so2 : SlOk X.K y2.G y2.H (some v) Fr r0 := by
        subst hy2
        cases r0 with
        | va d =>
          obtain ⟨h1, x, h2, h3⟩ := so
          exact ⟨h1, x, h2, dvEr er hya _ _ c2 h3⟩
        | li ys =>
          obtain ⟨b, ws, h1, h2, h3, h4, h5⟩ := so
          exact ⟨b, ws, h1, h2, en _ h3, h4, dvErs er hya _ _ c2 h5⟩
        | no => cases c2
        | di _ => cases c2
        | dt _ => cases c2
        | dl _ => cases c2
        | tn _ => cases c2
        | ow _ => cases c2
      have := q v y2 Fr m2 r2 (by rw [hy2]; exact sy) (by rw [hy2]) so2 fun b hb => ⟨(fr b hb).1, fun j hj => by
        rw [hy2] at hj
        have hj : b ∈ (if j = i then [a] else y.F j) := hj
        split at hj
        · have h0 : z.H b = none := (fr b hb).1
          rw [List.mem_singleton.mp hj, k4] at h0
          cases h0
        · exact (fr b hb).2 j hj⟩
      rw [hy2] at this
      exact this
    · cases h2
  · exact ⟨z, r, e', rp, rfl, rfl, hf, q⟩⟩
end
/-! ### xs += ys -/
def sAugL (i : Nat) (f : EF) : SF := fun e => (liOf e[i]?).bind fun _ => (f e).bind fun p => (liOf p.2[i]?).bind fun xs => match p.1 with
  | .list zs => if xs.length + zs.length ≤ sizeLine then some (.nx (p.2.set i (.li (xs ++ zs)))) else none
  | _ => none
section
variable {X : Cx} {pos : Pos}
theorem fs_augL (i : Nat) {x : Str} {a : Expr} {f : EF} {pos' : Pos} (hN : X.N.Nodup) (ha : FE X a f) (hi : X.N[i]? = some x := by rfl) (hx : Loc X.env.scope x := by first | exact Or.inl rfl | exact Or.inr rfl) (hf : X.fn x = true ∨ X.env.scope.names.lookup x = some .local := by first | exact .inl rfl | exact .inr rfl) : FS X (.AugAssign (.Name x pos') .Add a pos) (sAugL i f) :=
  fs_of (ps_aug hN hi hx ha.pe iop_ext hf) fun D z o r h q => by
    unfold sAugL at h
    obtain ⟨xs0, h0, h⟩ := Option.bind_eq_some_iff.mp h
    obtain ⟨⟨yd, e1⟩, h1, h⟩ := Option.bind_eq_some_iff.mp h
    obtain ⟨xs, h2, h⟩ := Option.bind_eq_some_iff.mp h
    obtain ⟨b, ws0, k1, _⟩ := r.own (liOf_some h0)
    cases yd with
    | list zs =>
      have h : (if xs.length + zs.length ≤ sizeLine then some (O.nx (e1.set i (.li (xs ++ zs)))) else none) = some o := h
      split at h
      · rename_i hz
        cases h
        refine ⟨.ref b, k1, z, .list zs, e1, r, rfl, rfl, h1, fun w y m ry sy ey pw => ?_⟩
        have hli : y.e[i]? = some (.li xs) := by rw [ey]; exact liOf_some h2
        obtain ⟨b2, vs, l1, l2, l3, l4, l5⟩ := ry.own hli
        rw [sy, k1] at l1
        cases l1
        cases pw with
        | lst hs hd =>
          rename_i c us
          refine ⟨b, c, vs, us, rfl, rfl, l4, ry.same _ _ hs, by rw [dvAll_len l5, dvAll_len hd]; exact hz, ?_⟩
          obtain ⟨r5, m5⟩ := ry.upLi (ws := vs ++ us) (ys := xs ++ zs) hli (by rw [sy]; exact k1) (dvAll_app l5 hd)
          have := q _ (m.trans m5) r5 (by show y.e.set i (.li (xs ++ zs)) = _; rw [ey])
          have e2 : z.s.set i (some (.ref b)) = y.s := by
            rw [sy]
            have hl := (List.getElem?_eq_some_iff.mp k1).1
            have := List.set_getElem_self hl
            rw [(List.getElem?_eq_some_iff.mp k1).2] at this
            exact this
          show D.nx (z.s.set i (some (.ref b))) (upd y.H b (.lst (vs ++ us)))
          rw [e2]
          exact this
      · cases h
    | none => cases h
    | bool _ => cases h
    | str _ => cases h
    | int _ => cases h
    | tuple _ => cases h
    | dict _ => cases h
end
end Fl

set_option Elab.async false
set_option linter.all false
set_option maxRecDepth 100000
set_option maxHeartbeats 4000000
set_option autoImplicit false
/-! FnSett: sorted(set(a list or a tuple of ints)). -/
namespace Fl
open PySem PySem.Spec PyProof.Rows L2
def rSortSet2 (K : PySem.W.Frag) : V → Hp → VK → Prop := fun x H1 Q => ∃ (l : Addr) (ns : List Int), x = .ref l ∧ (SqL K H1 l (ns.map V.int) ∨ SqT K H1 l (ns.map V.int)) ∧ ns.length < 64 ∧
  ∀ (ms : List Int) (p : Addr), ms.Pairwise (· < ·) → (∀ k : Int, k ∈ ms ↔ k ∈ ns) → H1 p = none → Q (.ref p) (upd H1 p (.lst (ms.map V.int)))
theorem pe_sortSet2 {X : Cx} {a : Expr} {ta : TE} {p p2 q pos : Pos} (hg : Gl X "sorted") (hm : X.mg "sorted" = none) (hg2 : Gl X "set") (hm2 : X.mg "set" = none) (ha : PE X a ta) (hc : X.calm = true)
    (na : starEach [a] X.env = (false, eval a X.env) :: starEach [] X.env) : PE X (.Call (.Name "sorted" p) [.Call (.Name "set" p2) [a] [] q] [] pos) (tUn (rSortSet2 X.K) ta) := by
  refine ⟨fun pins s σ H Q I h => ?_⟩
  refine Call_ (ld_blt I hg hm (by decide +kernel : bootBuiltins "sorted" = some (.builtin "sorted")) ?_)
  refine PyProof.Rows.callWith_builtin1 (PyProof.Rows.args_cons ?_ rfl) rfl rfl
  refine Call_ (ld_blt I hg2 hm2 boot_set ?_)
  refine PyProof.Rows.callWith_type1 (PyProof.Rows.args_cons (thn (ha.run pins s σ H _ I h) fun v s1 ⟨x, H1, I1, r1, q1⟩ => PyProof.Rows.args_nil ?_) na) na rfl
  obtain ⟨l, ns, rfl, hq, hl, q1⟩ := q1
  cases r1
  rcases hq with hq | hq
  · obtain ⟨its, r, pl, hz⟩ := I1.list hq
    refine set_lst ns (I1.ok.hd hc) pl.isList (by simpa using r.ints) (by unfold scanBound; omega) fun h' tk c hS hcl hk => ?_
    refine PyProof.Rows.args_nil ?_
    have I2 : Inv X pins σ H1 { s1 with heap := h', toks := tk } := I1.kept fun b o e => hk b o e
    refine sorted_set (s := { s1 with heap := h', toks := tk }) hS (I2.ok.hd hc) (by omega) fun s' p out c' ms k g o hp hgt hi hs hmem hlen => ?_
    have hlm : (ms.map V.int).length ≤ sizeLine := by rw [List.length_map, hlen, sizeLine_eq]; omega
    have hn : H1 p = none := I2.hok.fresh hp
    have J : Inv X pins σ (upd H1 p (.lst (ms.map V.int))) { ({ s1 with heap := h', toks := tk } : Shared) with heap := s'.heap, gens := s'.gens, drawn := s'.drawn, toks := s'.toks } :=
      I2.call (ch := []) (Un.laid k hp hn) (I2.hok.laid k hp ⟨hlm, out.toList, c', vals_of_ints hi, hgt⟩) (by rw [g]; exact I2.bare) (fun _ z => nomatch z)
    have e : s' = { ({ s1 with heap := h', toks := tk } : Shared) with heap := s'.heap, gens := s'.gens, drawn := s'.drawn, toks := s'.toks } := by
      cases s'
      cases s1
      cases o
      rfl
    rw [e]
    exact ⟨.ref p, _, J, rfl, q1 ms p hs (fun k => by rw [hmem k]; exact decide_eq_true_iff) hn⟩
  · obtain ⟨its, r, pl, hz⟩ := I1.tuple hq
    refine call_set_tupI (items := its.toArray) ns (I1.ok.hd hc) pl (by simpa using r.ints) (by unfold scanBound; omega) fun h' tk c hS hcl hk => ?_
    refine PyProof.Rows.args_nil ?_
    have I2 : Inv X pins σ H1 { s1 with heap := h', toks := tk } := I1.kept fun b o e => hk b o e
    refine sorted_set (s := { s1 with heap := h', toks := tk }) hS (I2.ok.hd hc) (by omega) fun s' p out c' ms k g o hp hgt hi hs hmem hlen => ?_
    have hlm : (ms.map V.int).length ≤ sizeLine := by rw [List.length_map, hlen, sizeLine_eq]; omega
    have hn : H1 p = none := I2.hok.fresh hp
    have J : Inv X pins σ (upd H1 p (.lst (ms.map V.int))) { ({ s1 with heap := h', toks := tk } : Shared) with heap := s'.heap, gens := s'.gens, drawn := s'.drawn, toks := s'.toks } :=
      I2.call (ch := []) (Un.laid k hp hn) (I2.hok.laid k hp ⟨hlm, out.toList, c', vals_of_ints hi, hgt⟩) (by rw [g]; exact I2.bare) (fun _ z => nomatch z)
    have e : s' = { ({ s1 with heap := h', toks := tk } : Shared) with heap := s'.heap, gens := s'.gens, drawn := s'.drawn, toks := s'.toks } := by
      cases s'
      cases s1
      cases o
      rfl
    rw [e]
    exact ⟨.ref p, _, J, rfl, q1 ms p hs (fun k => by rw [hmem k]; exact decide_eq_true_iff) hn⟩
def dSortSet2 : D → Option (List D)
  | .list xs => (asInts xs).bind fun ns => if ns.length < 64 then some ((setI ns).map PyData.int) else none
  | .tuple xs => (asInts xs).bind fun ns => if ns.length < 64 then some ((setI ns).map PyData.int) else none
  | _ => none
section
variable {X : Cx} {pos : Pos}
theorem fo_sortSet2 {k : Nat} {a : Expr} {p p2 q : Pos} {f : EF} (c : Cc X k) (ha : FB X a f) (hm : X.mg "sorted" = none) (hm2 : X.mg "set" = none) (hg : Gl X "sorted" := by rfl) (hg2 : Gl X "set" := by rfl) (na : starEach [a] X.env = (false, eval a X.env) :: starEach [] X.env := by rfl) :
    FO X (.Call (.Name "sorted" p) [.Call (.Name "set" p2) [a] [] q] [] pos) (oUn dSortSet2 f) :=
  ⟨PE.imp (pe_sortSet2 hg hm hg2 hm2 ha.pb c.calm na) fun σ H Q h => unL_run (r := rSortSet2 X.K) (fun x ds G H vx Q e s h q => by
    unfold dSortSet2 at e
    split at e
    · obtain ⟨ns, h1, h2⟩ := Option.bind_eq_some_iff.mp e
      split at h2
      · rename_i h64
        cases h2
        obtain ⟨b, vs, rfl, h3, h4⟩ := vwLst s h
        obtain ⟨e1, e2⟩ := asInts_ok h1 h4
        subst e1
        refine ⟨b, ns, rfl, .inl (SqL.of h3), h64, fun ms p hp hr hn => ?_⟩
        rw [setI_of hp hr]
        exact q p _ hn (dvAll_ints _)
      · cases h2
    · obtain ⟨ns, h1, h2⟩ := Option.bind_eq_some_iff.mp e
      split at h2
      · rename_i h64
        cases h2
        obtain ⟨b, vs, rfl, h3, h4⟩ := vwTup h
        obtain ⟨e1, e2⟩ := asInts_ok h1 h4
        subst e1
        refine ⟨b, ns, rfl, .inr (seqT s h3), h64, fun ms p hp hr hn => ?_⟩
        rw [setI_of hp hr]
        exact q p _ hn (dvAll_ints _)
      · cases h2
    · cases e) h⟩
end
end Fl

set_option Elab.async false
set_option linter.all false
set_option maxRecDepth 100000
set_option maxHeartbeats 4000000
set_option autoImplicit false
/-! FnDfs: lists of naturals as ints, dicts of rooms, what is reached from some rooms. -/
namespace Fl
open PySem PySem.Spec PyProof.Rows L2
/-! ascending lists -/
theorem ascN_uniq : ∀ {xs ys : List Nat}, xs.Pairwise (· < ·) → ys.Pairwise (· < ·) → (∀ k, k ∈ xs ↔ k ∈ ys) → xs = ys
  | [], [], _, _, _ => rfl
  | [], y :: ys, _, _, h => absurd ((h y).mpr List.mem_cons_self) (by simp)
  | x :: xs, [], _, _, h => absurd ((h x).mp List.mem_cons_self) (by simp)
  | x :: xs, y :: ys, hx, hy, h => by
    obtain ⟨x1, x2⟩ := List.pairwise_cons.mp hx
    obtain ⟨y1, y2⟩ := List.pairwise_cons.mp hy
    have e : x = y := by
      rcases List.mem_cons.mp ((h x).mp List.mem_cons_self) with e | e
      · exact e
      · rcases List.mem_cons.mp ((h y).mpr List.mem_cons_self) with e' | e'
        · exact e'.symm
        · have := y1 x e; have := x1 y e'; omega
    subst e
    rw [ascN_uniq x2 y2 fun k => ⟨fun hk => (List.mem_cons.mp ((h k).mp (List.mem_cons_of_mem _ hk))).elim (fun e => by have := x1 k hk; omega) id,
      fun hk => (List.mem_cons.mp ((h k).mpr (List.mem_cons_of_mem _ hk))).elim (fun e => by have := y1 k hk; omega) id⟩]
abbrev qN (q : List Nat) : List Int := q.map fun j : Nat => (j : Int)
theorem mem_qN {q : List Nat} {j : Nat} : ((j : Int) ∈ qN q) ↔ j ∈ q := by
  unfold qN
  rw [List.mem_map]
  exact ⟨fun ⟨i, h, e⟩ => by have : i = j := by omega
                             exact this ▸ h, fun h => ⟨j, h, rfl⟩⟩
theorem qN_back : ∀ (xs : List Int), (∀ x ∈ xs, 0 ≤ x) → ∃ q : List Nat, xs = qN q
  | [], _ => ⟨[], rfl⟩
  | x :: xs, h => by
    obtain ⟨q, hq⟩ := qN_back xs fun y hy => h y (List.mem_cons_of_mem _ hy)
    have := h x List.mem_cons_self
    exact ⟨x.toNat :: q, by rw [hq]; show _ = ((x.toNat : Nat) : Int) :: _; rw [Int.toNat_of_nonneg this]⟩
theorem qN_lt {q : List Nat} : (qN q).Pairwise (· < ·) ↔ q.Pairwise (· < ·) := by
  unfold qN
  rw [List.pairwise_map]
  exact ⟨fun h => h.imp fun h => by omega, fun h => h.imp fun h => by omega⟩
theorem iL_qN (q : List Nat) : (q.map fun k : Nat => PyData.int (k : Nat)) = iL (qN q) := by unfold iL qN; rw [List.map_map]; rfl
theorem iLq_len (q : List Nat) : (iL (qN q)).length = q.length := by rw [iL_len, List.length_map]
theorem iLq_cat (q : List Nat) (a : Nat) : iL (qN q) ++ [PyData.int (a : Nat)] = iL (qN (q ++ [a])) := by unfold iL qN; rw [List.map_append, List.map_append]; rfl
theorem iLq_at {q : List Nat} {k : Nat} (h : k < q.length) : atI (iL (qN q)) (k : Nat) = some (.int (q[k] : Nat)) := atI_nat (by rw [List.getElem?_map, List.getElem?_map, List.getElem?_eq_getElem h]; rfl)
theorem dec_qN (a : Nat) (q : List Nat) : decide ((a : Int) ∈ qN q) = decide (a ∈ q) := decide_eq_decide.mpr mem_qN
theorem beq_nat (a b : Nat) : ((a : Int) == (b : Int)) = decide (a = b) := by
  by_cases h : a = b
  · rw [h, decide_eq_true rfl]; exact beq_self_eq_true _
  · rw [decide_eq_false h]; exact beq_eq_false_iff_ne.mpr (by omega)
theorem setI_qN (q : List Nat) : ∃ r : List Nat, setI (qN q) = qN r ∧ r.Pairwise (· < ·) ∧ ∀ k, k ∈ r ↔ k ∈ q := by
  obtain ⟨r, hr⟩ := qN_back (setI (qN q)) fun x hx => by
    obtain ⟨i, _, rfl⟩ := List.mem_map.mp (setI_mem.mp hx)
    omega
  refine ⟨r, hr, qN_lt.mp (hr ▸ setI_lt _), fun k => ?_⟩
  rw [← mem_qN, ← hr, setI_mem, mem_qN]
theorem sortI_qN {q : List Nat} (h : q.Nodup) : ∃ r : List Nat, sortI (qN q) = qN r ∧ r.Pairwise (· < ·) ∧ ∀ k, k ∈ r ↔ k ∈ q := by
  have hp := sortI_perm (qN q)
  obtain ⟨r, hr⟩ := qN_back (sortI (qN q)) fun x hx => by
    obtain ⟨i, _, rfl⟩ := List.mem_map.mp (hp.mem_iff.mp hx)
    omega
  have hn : (sortI (qN q)).Nodup := hp.nodup_iff.mpr (List.pairwise_map.mpr (h.imp fun h => by omega))
  have h2 := (sortI_pair (qN q)).and hn
  refine ⟨r, hr, qN_lt.mp (hr ▸ h2.imp fun ⟨a, b⟩ => by omega), fun k => ?_⟩
  rw [← mem_qN, ← hr, hp.mem_iff, mem_qN]
theorem asc_nodup {q : List Nat} (h : q.Pairwise (· < ·)) : q.Nodup := h.imp fun h => by omega
theorem nodup_le1 : ∀ (q l : List Nat), q.Nodup → (∀ j ∈ q, j ∈ l) → q.length ≤ l.length
  | [], l, _, _ => Nat.zero_le _
  | x :: q, l, hn, hs => by
    have hx := hs x List.mem_cons_self
    have hn' := List.nodup_cons.mp hn
    have := nodup_le1 q (l.erase x) hn'.2 fun j hj => (List.mem_erase_of_ne fun e : j = x => hn'.1 (e ▸ hj)).mpr (hs j (List.mem_cons_of_mem _ hj))
    rw [List.length_erase_of_mem hx] at this
    have hp : 0 < l.length := List.length_pos_of_mem hx
    rw [List.length_cons]; omega
theorem nodup_ltn {q : List Nat} {n : Nat} (hn : q.Nodup) (hR : ∀ a ∈ q, a < n) : q.length ≤ n := by
  have := nodup_le1 q (List.range n) hn fun j hj => List.mem_range.mpr (hR j hj)
  rwa [List.length_range] at this
theorem full_mem {R : Nat} {q : List Nat} (hn : q.Nodup) (hR : ∀ a ∈ q, a < R) (hl : R ≤ q.length) {a : Nat} (ha : a < R) : a ∈ q := by
  by_cases h : a ∈ q
  · exact h
  · have := nodup_le1 (a :: q) (List.range R) (List.nodup_cons.mpr ⟨h, hn⟩) fun j hj => by
      rcases List.mem_cons.mp hj with rfl | hj
      · exact List.mem_range.mpr ha
      · exact List.mem_range.mpr (hR j hj)
    rw [List.length_cons, List.length_range] at this
    omega
theorem nodup_lt {q r : List Nat} {x : Nat} (hn : q.Nodup) (hs : ∀ j ∈ q, j ∈ r) (hx : x ∈ r) (hq : x ∉ q) : q.length < r.length := by
  have := nodup_le1 (x :: q) r (List.nodup_cons.mpr ⟨hq, hn⟩) fun j hj => by
    rcases List.mem_cons.mp hj with rfl | hj
    · exact hx
    · exact hs j hj
  rwa [List.length_cons] at this
/-! dicts of rooms -/
def kvB (q : List Nat) : List (Key × D) := q.map fun n : Nat => ((.inl (n : Int) : Key), PyData.bool true)
theorem keyI {a b : Nat} : ((Sum.inl (a : Int) : Key) = Sum.inl (b : Int)) ↔ a = b := ⟨fun h => by have := Sum.inl.inj h; omega, fun h => by rw [h]⟩
theorem kvB_any (n : Nat) (q : List Nat) : ((kvB q).any fun p => decide (p.1 = .inl (n : Int))) = decide (n ∈ q) := by
  induction q with
  | nil => rfl
  | cons a q ih =>
    show (decide ((Sum.inl (a : Int) : Key) = .inl (n : Int)) || (kvB q).any _) = _
    rw [ih]
    by_cases h : a = n
    · subst h
      rw [decide_eq_true (keyI.mpr rfl), Bool.true_or, decide_eq_true List.mem_cons_self]
    · rw [decide_eq_false fun e => h (keyI.mp e), Bool.false_or]
      exact decide_eq_decide.mpr ⟨fun e => List.mem_cons_of_mem _ e, fun e => (List.mem_cons.mp e).elim (fun e => absurd e.symm h) id⟩
theorem kvB_look (n : Nat) : ∀ q : List Nat, (lookD (kvB q) (.inl (n : Int))).isSome = decide (n ∈ q)
  | [] => rfl
  | a :: q => by
    have ih := kvB_look n q
    unfold lookD at ih ⊢
    by_cases h : a = n
    · show ((List.find? _ (((.inl (a : Int) : Key), PyData.bool true) :: kvB q)).map _).isSome = _
      rw [List.find?_cons_of_pos (by simpa using keyI.mpr h), decide_eq_true (by rw [h]; exact List.mem_cons_self)]; rfl
    · show ((List.find? _ (((.inl (a : Int) : Key), PyData.bool true) :: kvB q)).map _).isSome = _
      rw [List.find?_cons_of_neg (by simpa using fun e => h (keyI.mp e)), ih]
      exact decide_eq_decide.mpr ⟨fun e => List.mem_cons_of_mem _ e, fun e => (List.mem_cons.mp e).elim (fun e => absurd e.symm h) id⟩
theorem kvB_put {q : List Nat} {n : Nat} (h : n ∉ q) : putD (kvB q) (.inl (n : Int)) (.bool true) = kvB (q ++ [n]) := by
  unfold putD
  rw [kvB_any, decide_eq_false h, if_neg Bool.false_ne_true]
  unfold kvB
  rw [List.map_append]; rfl
theorem kvB_len (q : List Nat) : (kvB q).length = q.length := List.length_map _
theorem kvB_keys (q : List Nat) : ((kvB q).map fun kv => dK kv.1) = iL (qN q) := by unfold kvB iL qN; rw [List.map_map, List.map_map]; rfl
theorem kvB_ints : ∀ q : List Nat, kInts (kvB q) = some (qN q)
  | [] => rfl
  | a :: q => by
    show (kInts (kvB q)).map _ = _
    rw [kvB_ints q]; rfl
/-! what is reached -/
inductive Rch (E : Nat → List Nat) (s : List Nat) : Nat → Prop
  | here {a : Nat} : a ∈ s → Rch E s a
  | step {a b : Nat} : Rch E s a → b ∈ E a → Rch E s b
theorem rch_sub {E : Nat → List Nat} {s f : List Nat} (hs : ∀ a ∈ s, a ∈ f) (hc : ∀ a ∈ f, ∀ b ∈ E a, b ∈ f) {a : Nat} (h : Rch E s a) : a ∈ f := by
  induction h with
  | here h => exact hs _ h
  | step _ hb ih => exact hc _ ih _ hb
theorem rch_trans {E : Nat → List Nat} {s : List Nat} {a b : Nat} (h : Rch E s a) (k : Rch E [a] b) : Rch E s b := by
  induction k with
  | here h2 => rw [List.mem_singleton.mp h2]; exact h
  | step _ hb ih => exact .step ih hb
def addA (p : List Nat × List Nat) (bs : List Nat) : List Nat × List Nat := bs.foldl (fun p b => if b ∈ p.1 then p else (p.1 ++ [b], p.2 ++ [b])) p
theorem addA_spec : ∀ (bs f w : List Nat), ∃ g, addA (f, w) bs = (f ++ g, w ++ g) ∧ g.Nodup ∧ (∀ x ∈ g, x ∈ bs ∧ x ∉ f) ∧ ∀ b ∈ bs, b ∈ f ++ g
  | [], f, w => ⟨[], by simp [addA], List.nodup_nil, fun _ h => (nomatch h), fun _ h => (nomatch h)⟩
  | b :: bs, f, w => by
    by_cases hb : b ∈ f
    · obtain ⟨g, h1, h2, h3, h4⟩ := addA_spec bs f w
      refine ⟨g, ?_, h2, fun x hx => ⟨List.mem_cons_of_mem _ (h3 x hx).1, (h3 x hx).2⟩, fun c hc => ?_⟩
      · show addA (if b ∈ f then (f, w) else _) bs = _
        rw [if_pos hb]; exact h1
      · rcases List.mem_cons.mp hc with rfl | hc
        · exact List.mem_append_left _ hb
        · exact h4 c hc
    · obtain ⟨g, h1, h2, h3, h4⟩ := addA_spec bs (f ++ [b]) (w ++ [b])
      refine ⟨b :: g, ?_, List.nodup_cons.mpr ⟨fun h => (h3 b h).2 (List.mem_append_right _ (List.mem_singleton.mpr rfl)), h2⟩, fun x hx => ?_, fun c hc => ?_⟩
      · show addA (if b ∈ f then (f, w) else (f ++ [b], w ++ [b])) bs = _
        rw [if_neg hb, h1, List.append_assoc, List.append_assoc]; rfl
      · rcases List.mem_cons.mp hx with rfl | hx
        · exact ⟨List.mem_cons_self, hb⟩
        · exact ⟨List.mem_cons_of_mem _ (h3 x hx).1, fun h => (h3 x hx).2 (List.mem_append_left _ h)⟩
      · rcases List.mem_cons.mp hc with rfl | hc
        · exact List.mem_append_right _ List.mem_cons_self
        · have := h4 c hc
          rw [List.append_assoc] at this
          exact this
structure Df (E : Nat → List Nat) (s : List Nat) (n : Nat) (f w : List Nat) : Prop where
  nd : f.Nodup
  wf : ∀ a ∈ w, a ∈ f
  rc : ∀ a ∈ f, Rch E s a
  lt : ∀ a ∈ f, a < n
  st : ∀ a ∈ s, a ∈ f
  cl : ∀ a ∈ f, a ∈ w ∨ ∀ b ∈ E a, b ∈ f
theorem Df.start {E : Nat → List Nat} {s : List Nat} {n : Nat} (h : s.Nodup) (hl : ∀ a ∈ s, a < n) : Df E s n s s := ⟨h, fun _ h => h, fun _ h => .here h, hl, fun _ h => h, fun _ h => .inl h⟩
theorem Df.step {E : Nat → List Nat} {s : List Nat} {n : Nat} {f w : List Nat} {x : Nat} (hE : ∀ a b, b ∈ E a → b < n) (h : Df E s n f (w ++ [x])) : ∃ f' w', addA (f, w) (E x) = (f', w') ∧ Df E s n f' w' ∧ 2 * (n - f'.length) + w'.length < 2 * (n - f.length) + (w ++ [x]).length ∧ f'.length ≤ n := by
  obtain ⟨g, h1, h2, h3, h4⟩ := addA_spec (E x) f w
  have hx : x ∈ f := h.wf x (List.mem_append_right _ (List.mem_singleton.mpr rfl))
  have d : Df E s n (f ++ g) (w ++ g) := by
    refine ⟨List.nodup_append.mpr ⟨h.nd, h2, fun a ha b hb e => (h3 b hb).2 (e ▸ ha)⟩, fun a ha => ?_, fun a ha => ?_, fun a ha => ?_, fun a ha => List.mem_append_left _ (h.st a ha), fun a ha => ?_⟩
    · rcases List.mem_append.mp ha with ha | ha
      · exact List.mem_append_left _ (h.wf a (List.mem_append_left _ ha))
      · exact List.mem_append_right _ ha
    · rcases List.mem_append.mp ha with ha | ha
      · exact h.rc a ha
      · exact .step (h.rc x hx) (h3 a ha).1
    · rcases List.mem_append.mp ha with ha | ha
      · exact h.lt a ha
      · exact hE _ _ (h3 a ha).1
    · rcases List.mem_append.mp ha with ha | ha
      · rcases h.cl a ha with k | k
        · rcases List.mem_append.mp k with k | k
          · exact .inl (List.mem_append_left _ k)
          · rw [List.mem_singleton.mp k]
            exact .inr h4
        · exact .inr fun b hb => List.mem_append_left _ (k b hb)
      · exact .inl (List.mem_append_right _ ha)
  have hl := nodup_ltn d.nd d.lt
  refine ⟨f ++ g, w ++ g, h1, d, ?_, hl⟩
  rw [List.length_append] at hl
  rw [List.length_append, List.length_append, List.length_append, List.length_singleton]
  omega
theorem Df.fin {E : Nat → List Nat} {s : List Nat} {n : Nat} {f : List Nat} (h : Df E s n f []) (a : Nat) : a ∈ f ↔ Rch E s a :=
  ⟨h.rc a, fun k => rch_sub h.st (fun a ha b hb => by
    rcases h.cl a ha with k | k
    · exact absurd k (by simp)
    · exact k b hb) k⟩
/-! loops that end early -/
theorem forL_or {t : GF} {b : SF} (Q : Sl → Ev → Prop) : ∀ (ds : List D) (I : Nat → Ev → Prop), (∀ i d e, ds[i]? = some d → I i e → (∃ e', (t d e).bind b = some (.nx e') ∧ I (i + 1) e') ∨ ∃ r e', (t d e).bind b = some (.rt r e') ∧ Q r e') → ∀ (e : Ev), I 0 e → (∃ e', forL t b ds e = some (.nx e') ∧ I ds.length e') ∨ ∃ r e', forL t b ds e = some (.rt r e') ∧ Q r e'
  | [], I, _, e, h0 => .inl ⟨e, rfl, h0⟩
  | d :: ds, I, h, e, h0 => by
    rcases h 0 d e rfl h0 with ⟨e1, h1, h2⟩ | ⟨r, e1, h1, h2⟩
    · rcases forL_or Q ds (fun i => I (i + 1)) (fun i d e hd hi => h (i + 1) d e (by simpa using hd) hi) e1 h2 with ⟨e2, h3, h4⟩ | ⟨r, e2, h3, h4⟩
      · exact .inl ⟨e2, by rw [forL_stepB h1]; exact h3, h4⟩
      · exact .inr ⟨r, e2, by rw [forL_stepB h1]; exact h3, h4⟩
    · exact .inr ⟨r, e1, forL_ret h1, h2⟩
/-- a while by slots: it goes on, ends, or returns -/
theorem while_or {c : BF} {b : SF} (I : Ev → Prop) (Q : Ev → Prop) (R : Sl → Ev → Prop) (μ : Ev → Nat) (h : ∀ e, I e → (∃ e', c e = some (false, e') ∧ Q e') ∨ ∃ e1, c e = some (true, e1) ∧ ((∃ e2, b e1 = some (.nx e2) ∧ I e2 ∧ μ e2 < μ e) ∨ ∃ r e2, b e1 = some (.rt r e2) ∧ R r e2)) : ∀ (n : Nat) (e : Ev), μ e ≤ n → I e → (∃ e', sWhile c b e = some (.nx e') ∧ Q e') ∨ ∃ r e', sWhile c b e = some (.rt r e') ∧ R r e'
  | n, e, hn, hi => by
    rcases h e hi with ⟨e', h1, h2⟩ | ⟨e1, h1, ⟨e2, h2, h3, h4⟩ | ⟨r, e2, h2, h3⟩⟩
    · refine .inl ⟨e', ?_, h2⟩
      rw [sWhile_eq, h1]; rfl
    · cases n with
      | zero => omega
      | succ n =>
        rcases while_or I Q R μ h n e2 (by omega) h3 with ⟨e', k1, k2⟩ | ⟨r, e', k1, k2⟩
        · refine .inl ⟨e', ?_, k2⟩
          rw [sWhile_eq, h1]
          show ((b e1).bind _) = _
          rw [h2]; exact k1
        · refine .inr ⟨r, e', ?_, k2⟩
          rw [sWhile_eq, h1]
          show ((b e1).bind _) = _
          rw [h2]; exact k1
    · refine .inr ⟨r, e2, ?_, h3⟩
      rw [sWhile_eq, h1]
      show ((b e1).bind _) = _
      rw [h2]; rfl
/-! doors by their rooms -/
theorem ds_rng (ds : List Dr) : ds.map doorD = (List.range ds.length).map fun k => doorD (dr ds k) := map_by ds ⟨0, 0, 1, 0⟩ doorD
theorem enD_doors (ds : List Dr) : enD (ds.map doorD) = (List.range ds.length).map fun k => .tuple [.int (k : Nat), doorD (dr ds k)] := by rw [ds_rng, enD_rng]
def fromK (ds : List Dr) (r : Nat) : List Nat := (List.range ds.length).filter fun k => decide ((dr ds k).a = r)
def succK (ds : List Dr) (ks : List Nat) (r : Nat) : List Nat := (ks.filter fun k => decide ((dr ds k).a = r)).map fun k => (dr ds k).b
theorem succK_mem {ds : List Dr} {ks : List Nat} {r b : Nat} : b ∈ succK ds ks r ↔ ∃ k ∈ ks, (dr ds k).a = r ∧ (dr ds k).b = b := by
  unfold succK
  rw [List.mem_map]
  constructor
  · rintro ⟨k, h1, rfl⟩
    obtain ⟨h2, h3⟩ := List.mem_filter.mp h1
    exact ⟨k, h2, of_decide_eq_true h3, rfl⟩
  · rintro ⟨k, h1, h2, rfl⟩
    exact ⟨k, List.mem_filter.mpr ⟨h1, decide_eq_true h2⟩, rfl⟩

noncomputable instance (E : Nat → List Nat) (s : List Nat) (a : Nat) : Decidable (Rch E s a) := Classical.propDecidable _
/-- the rooms below n that are reached, in order -/
noncomputable def reS (E : Nat → List Nat) (n : Nat) (s : List Nat) : List Nat := (List.range n).filter fun a => decide (Rch E s a)
theorem reS_mem {E : Nat → List Nat} {n : Nat} {s : List Nat} {a : Nat} : a ∈ reS E n s ↔ a < n ∧ Rch E s a := by
  unfold reS
  rw [List.mem_filter, List.mem_range]
  exact ⟨fun h => ⟨h.1, of_decide_eq_true h.2⟩, fun h => ⟨h.1, decide_eq_true h.2⟩⟩
theorem asc_range (n : Nat) : (List.range n).Pairwise (· < ·) := List.pairwise_lt_range
theorem reS_asc (E : Nat → List Nat) (n : Nat) (s : List Nat) : (reS E n s).Pairwise (· < ·) := (asc_range n).filter _
theorem reS_uniq {E : Nat → List Nat} {n : Nat} {s r : List Nat} (hr : r.Pairwise (· < ·)) (hn : ∀ a ∈ r, a < n) (h : ∀ a, a ∈ r ↔ Rch E s a) : r = reS E n s := ascN_uniq hr (reS_asc E n s) fun k => by
  rw [reS_mem, ← h k]
  exact ⟨fun z => ⟨hn k z, z⟩, fun z => z.2⟩
theorem reS_len (E : Nat → List Nat) (n : Nat) (s : List Nat) : (reS E n s).length ≤ n := by
  have := List.length_filter_le (fun a => decide (Rch E s a)) (List.range n)
  rwa [List.length_range] at this
theorem rch_lt {E : Nat → List Nat} {n : Nat} {s : List Nat} (hE : ∀ a b, b ∈ E a → b < n) (hs : ∀ a ∈ s, a < n) {a : Nat} (h : Rch E s a) : a < n := by
  cases h with
  | here h => exact hs _ h
  | step _ h => exact hE _ _ h

theorem ded_le : ∀ xs : List Int, (ded xs).length ≤ xs.length
  | [] => Nat.le_refl _
  | x :: xs => by
    have ih := ded_le xs
    unfold ded
    split
    · rw [List.length_cons]; omega
    · rw [List.length_cons, List.length_cons]; omega
def toI : D → Int
  | .int i => i
  | _ => 0
/-- an int within bounds -/
def numI (lo hi : Int) : D → Bool
  | .int i => decide (lo ≤ i) && decide (i ≤ hi)
  | _ => false
theorem nums_qN {n : Nat} : ∀ {xs : List D}, xs.all (numI 0 ((n : Int) - 1)) = true → ∃ S : List Nat, xs = iL (qN S) ∧ ∀ r ∈ S, r < n
  | [], _ => ⟨[], rfl, fun _ h => nomatch h⟩
  | x :: xs, h => by
    rw [List.all_cons, Bool.and_eq_true] at h
    obtain ⟨S, h1, h2⟩ := nums_qN h.2
    cases x with
    | int i =>
      have h3 : (decide (0 ≤ i) && decide (i ≤ (n : Int) - 1)) = true := h.1
      rw [Bool.and_eq_true, decide_eq_true_iff, decide_eq_true_iff] at h3
      refine ⟨i.toNat :: S, ?_, fun r hr => ?_⟩
      · rw [h1]
        show _ = PyData.int ((i.toNat : Nat) : Int) :: iL (qN S)
        rw [Int.toNat_of_nonneg h3.1]
      · rcases List.mem_cons.mp hr with rfl | hr
        · omega
        · exact h2 r hr
    | none => cases h.1
    | bool _ => cases h.1
    | str _ => cases h.1
    | tuple _ => cases h.1
    | list _ => cases h.1
    | dict _ => cases h.1
theorem qN_nums {n : Nat} {S : List Nat} (h : ∀ r ∈ S, r < n) : (iL (qN S)).all (numI 0 ((n : Int) - 1)) = true := by
  rw [List.all_eq_true]
  intro d hd
  obtain ⟨i, hi, rfl⟩ := List.mem_map.mp hd
  obtain ⟨r, hr, rfl⟩ := List.mem_map.mp hi
  have := h r hr
  show (decide (0 ≤ (r : Int)) && decide ((r : Int) ≤ (n : Int) - 1)) = true
  rw [decide_eq_true (by omega), decide_eq_true (by omega)]; rfl
theorem qN_inj {S T : List Nat} (h : iL (qN S) = iL (qN T)) : S = T := by
  unfold iL qN at h
  rw [List.map_map, List.map_map] at h
  exact (List.map_inj_right fun a b e => by
    have e2 : (a : Int) = (b : Int) := PyData.int.inj e
    omega).mp h
theorem chain_lt : ∀ (xs : List Int), (∀ i, i + 1 < xs.length → xs.getD i 0 < xs.getD (i + 1) 0) → xs.Pairwise (· < ·)
  | [], _ => List.Pairwise.nil
  | [x], _ => List.pairwise_singleton _ _
  | x :: y :: xs, h => by
    have ih := chain_lt (y :: xs) fun i hi => h (i + 1) (by simpa using hi)
    have h0 : x < y := h 0 (by simp)
    refine List.pairwise_cons.mpr ⟨fun z hz => ?_, ih⟩
    rcases List.mem_cons.mp hz with rfl | hz
    · exact h0
    · have := (List.pairwise_cons.mp ih).1 z hz
      omega
theorem setI_self {xs : List Int} : xs = setI xs ↔ xs.Pairwise (· < ·) := ⟨fun h => by rw [h]; exact setI_lt _, fun h => setI_of h fun _ => Iff.rfl⟩
end Fl

set_option Elab.async false
set_option linter.all false
set_option maxRecDepth 100000
set_option maxHeartbeats 1000000
set_option autoImplicit false
/-! FnLc2: list comprehensions of two clauses. -/
namespace Fl
open PySem PySem.Spec PyProof.Rows L2
/-- two clauses: the second one is walked anew for each item of the first -/
def compL2 (t : GF) (c : BF) (g1 : LF) (t1 : GF) (c1 : BF) (f : EF) (vs vs1 : List Nat) : List D → Ev → Option (List D × Ev)
  | [], e => some ([], e)
  | d :: ds, e => (t d e).bind fun e1 => (c e1).bind fun p => if p.1 = true then (g1 p.2).bind fun q => (compL t1 c1 f vs1 q.1 (wipeE q.2 vs1)).bind fun r1 => (compL2 t c g1 t1 c1 f vs vs1 ds (wipeE r1.2 vs)).map fun r => (r1.1 ++ r.1, r.2) else compL2 t c g1 t1 c1 f vs vs1 ds (wipeE p.2 vs)
def oComp2 (g : LF) (t : GF) (c : BF) (g1 : LF) (t1 : GF) (c1 : BF) (f : EF) (vs vs1 : List Nat) : OF := fun e => (g e).bind fun p => if (vs.all fun i => !isOw p.2[i]?) = true then (compL2 t c g1 t1 c1 f vs vs1 p.1 (wipeE p.2 vs)).bind fun r => if r.1.length ≤ sizeLine then some (.li r.1, backE p.2 r.2 vs) else none else none
/-- the list that is being made -/
structure Ac (K : Frg) (D0 : Addr) (y : Z) (acc : List V) (don : List D) : Prop where
  h : y.H D0 = some (.lst acc)
  g : y.G D0 = none
  f : ∀ j, D0 ∉ y.F j
  v : DvAll K y.G acc don
theorem Ac.mv {K : Frg} {D0 : Addr} {p q : Z} {acc : List V} {don : List D} (a : Ac K D0 p acc don) (m : Mv p q) : Ac K D0 q acc don :=
  ⟨m.out _ _ a.h a.f, (m.gn _ (by rw [a.h]; exact nofun) a.f).trans a.g, fun j hj => (m.fn j _ hj).elim (a.f j) (fun z => by rw [a.h] at z; cases z), dvMonoAll m.g _ _ a.v⟩
theorem Ac.wipe {K : Frg} {D0 : Addr} {p : Z} {acc : List V} {don : List D} (a : Ac K D0 p acc don) (vs : List Nat) : Ac K D0 (p.wipe vs) acc don :=
  ⟨a.h, a.g, fun j hj => by
    have hj' : D0 ∈ (if j ∈ vs then [] else p.F j) := hj
    split at hj'
    · cases hj'
    · exact a.f j hj', a.v⟩
theorem it_item {K : Frg} {y : Z} {G : Hp} {ds : List D} {i : Nat} {x : V} {H' : Hp} {D0 : Addr} {acc : List V} {don : List D} (r : Rp K y) (a : Ac K D0 y acc don) (sg : Same G y.G)
    (q : (H' = y.H ∧ ∃ d, ds[i]? = some d ∧ Dv K G x d) ∨ (∃ T vs es, x = .ref T ∧ y.H T = none ∧ H' = upd y.H T (.tup vs) ∧ ds[i]? = some (.tuple es) ∧ DvAll K G vs es)) :
    ∃ (y1 : Z) (d : D), Rp K y1 ∧ Mv y y1 ∧ y1.s = y.s ∧ y1.e = y.e ∧ y1.H = H' ∧ ds[i]? = some d ∧ Dv K y1.G x d ∧ Ac K D0 y1 acc don := by
  rcases q with ⟨e, d, h3, h4⟩ | ⟨T, tv, es, h3, h4, h5, h6, h7⟩
  · exact ⟨y, d, r, Mv.refl y, rfl, rfl, e.symm, h3, dvMono sg _ _ h4, a⟩
  · obtain ⟨ra, ma⟩ := r.add (o := .tup tv) h4
    refine ⟨y.add T (.tup tv), .tuple es, ra, ma, rfl, rfl, h5.symm, h6, ?_, a.mv ma⟩
    rw [h3]
    exact .tup (SqT.of upd_same) (dvMonoAll (sg.trans ma.g) _ _ h7)
theorem it_turn {K : Frg} {σ : L2.St} {t : GF} {ws vs : List Nat} {c : BF} {y : Z} {G : Hp} {ds : List D} {i : Nat} {x : V} {H' : Hp} {D0 : Addr} {acc : List V} {don : List D} (r : Rp K y) (a : Ac K D0 y acc don) (sg : Same G y.G)
    (q : (H' = y.H ∧ ∃ d, ds[i]? = some d ∧ Dv K G x d) ∨ (∃ T vs es, x = .ref T ∧ y.H T = none ∧ H' = upd y.H T (.tup vs) ∧ ds[i]? = some (.tuple es) ∧ DvAll K G vs es))
    (hs : y.s = L2.wipe σ vs) (hws : ∀ j ∈ ws, j ∈ vs) {d : D} (hdi : ds[i]? = some d) {ea eb : Ev} {b : Bool} (ht : t d y.e = some ea) (hc : c ea = some (b, eb)) {C : Bool → L2.St → Hp → Prop}
    (k : ∀ y3, Mv y y3 → Rp K y3 → L2.wipe y3.s vs = L2.wipe σ vs → y3.e = eb → Ac K D0 y3 acc don → C b y3.s y3.H) :
    tG K t ws x (L2.wipe σ vs) H' fun σ2 H2 => L2.wipe σ2 vs = L2.wipe σ vs ∧ tT K c σ2 H2 fun b H3 => C b σ2 H3 := by
  obtain ⟨y1, d', r1, m1, s1, e1, hH1, hdi', hdv, a1⟩ := it_item r a sg q
  rw [hdi] at hdi'
  cases hdi'
  refine ⟨y1, d, ea, r1, by rw [s1, hs], hH1, hdv, by rw [e1]; exact ht, fun y2 m2 r2 e2 eH2 eG2 es2 => ?_⟩
  have hw : L2.wipe y2.s vs = L2.wipe σ vs := by
    rw [wipe_eq (σ := y1.s) (ws := ws) (by rw [r2.len, r1.len, m2.ln]) es2 hws, s1, hs, wipe_wipe]
  refine ⟨hw, y2, b, eb, r2, rfl, rfl, by rw [e2]; exact hc, fun y3 m3 r3 s3 e3 => ?_⟩
  have := k y3 ((m1.trans m2).trans m3) r3 (by rw [s3]; exact hw) e3 ((a1.mv m2).mv m3)
  rw [s3] at this
  exact this
/-- a walk, turn by turn -/
theorem lc_itG {J : It} {n : Nat} {G : Hp → Prop} {Y : Nat → Hp → V → Hp → Prop} (w : Walk J n G Y) (B : (Hp → Prop) → V → Hp → Prop) {H0 : Hp} {Qd : Hp → Prop} (Pv : Nat → Hp → Prop) (h0 : Pv 0 H0) (hG : ∀ i H, i ≤ n → Pv i H → G H)
    (hs : ∀ i x H H', i < n → Pv i H → Y i H x H' → B (Pv (i + 1)) x H') (hd : ∀ H, Pv n H → Qd H) :
    ∃ W : Nat → Nat → Hp → Prop, (∃ m, W 0 m H0) ∧ ∀ i m H, W i m H →
      (J.stop i H ∧ Qd H) ∨ (J.go i H ∧ ∃ Nx : Hp → Prop, (∀ H', Nx H' → ∃ m', m' < m ∧ W (i + 1) m' H') ∧ ∀ x H', J.yld i H x H' → B Nx x H') := by
  refine ⟨fun i m H => m = n - i ∧ i ≤ n ∧ Pv i H, ⟨n, by simp, Nat.zero_le _, h0⟩, ?_⟩
  rintro i m H ⟨rfl, hi, p⟩
  have q := hG i H hi p
  by_cases hlt : i < n
  · exact .inr ⟨w.goes i H hlt q, Pv (i + 1), fun H' p' => ⟨n - (i + 1), by omega, rfl, hlt, p'⟩, fun x H' y => hs i x H H' hlt p (w.yields i H x H' hlt q y)⟩
  · have e : i = n := by omega
    subst e
    exact .inl ⟨w.stops H q, hd H p⟩
theorem drop_at {α : Type} {ds : List α} {i : Nat} (h : i < ds.length) : ds[i]? = some ds[i] ∧ ds.drop i = ds[i] :: ds.drop (i + 1) := ⟨List.getElem?_eq_getElem h, List.drop_eq_getElem_cons h⟩
/-- what the walk of the second clause asks -/
def InB (K : Frg) (t1 : GF) (ws1 vs1 : List Nat) (c1 : BF) (f : EF) (D0 : Addr) (σ2 : L2.St) (Nx1 : Hp → Prop) (x : V) (H' : Hp) : Prop :=
  tG K t1 ws1 x (L2.wipe σ2 vs1) H' fun σ3 H5 => L2.wipe σ3 vs1 = L2.wipe σ2 vs1 ∧ tT K c1 σ3 H5 fun b H6 =>
    if b = true then tE K f σ3 H6 fun y H7 => ∃ acc, H7 D0 = some (.lst acc) ∧ acc.length < sizeLine ∧ Nx1 (upd H7 D0 (.lst (acc ++ [y]))) else Nx1 H6
theorem lc2_in {K : Frg} {J1 : It} {y0 y4 : Z} {ds1 : List D} {t1 : GF} {ws1 vs1 : List Nat} {c1 : BF} {f : EF} {xs1 : List D} {e1N : Ev} {D0 : Addr} {acc4 : List V} {don4 : List D} {Nx : Hp → Prop}
    (r4 : Rp K y4) (m4 : Mv y0 y4) (hn : y0.H D0 = none) (a4 : Ac K D0 y4 acc4 don4) (hno : ∀ i ∈ vs1, isOw y0.e[i]? = false) (hJ : Itr K J1 y4.G ds1) (hws : ∀ j ∈ ws1, j ∈ vs1)
    (hc : compL t1 c1 f vs1 ds1 (wipeE y4.e vs1) = some (xs1, e1N)) (hlen : (don4 ++ xs1).length ≤ sizeLine)
    (hd : ∀ y acc, Rp K y → Mv y0 y → y.s = L2.wipe y4.s vs1 → y.e = e1N → Ac K D0 y acc (don4 ++ xs1) → Nx y.H) :
    ∃ W1 : Nat → Nat → Hp → Prop, (∃ m, W1 0 m y4.H) ∧ ∀ j k H, W1 j k H → (J1.stop j H ∧ Nx H) ∨ (J1.go j H ∧ ∃ Nx1 : Hp → Prop, (∀ H', Nx1 H' → ∃ k', k' < k ∧ W1 (j + 1) k' H') ∧ ∀ x H', J1.yld j H x H' → InB K t1 ws1 vs1 c1 f D0 y4.s Nx1 x H') := by
  obtain ⟨Gd, Y, w, hG1, hG2⟩ := hJ
  refine lc_itG w (InB K t1 ws1 vs1 c1 f D0 y4.s) (fun j H => ∃ y acc don, y.H = H ∧ Rp K y ∧ y.s = L2.wipe y4.s vs1 ∧ Mv y0 y ∧ Same y4.G y.G ∧ Ac K D0 y acc don ∧ ∃ xs', compL t1 c1 f vs1 (ds1.drop j) y.e = some (xs', e1N) ∧ don ++ xs' = don4 ++ xs1) ?_ ?_ ?_ ?_
  · exact ⟨y4.wipe vs1, acc4, don4, rfl, r4.wipe vs1, rfl, m4.wipe hno, Same.refl _, a4.wipe vs1, xs1, hc, rfl⟩
  · rintro i H hi ⟨y, acc, don, rfl, r, _, _, sg, _⟩
    exact hG1 _ (sg.trans r.same)
  · rintro i x H H' hi ⟨y, acc, don, rfl, r, hs, m, sg, a, xs', hcl, hxs⟩ hy
    obtain ⟨hdi, hdrop⟩ := drop_at hi
    rw [hdrop] at hcl
    unfold compL at hcl
    obtain ⟨ea, ht, hcl⟩ := Option.bind_eq_some_iff.mp hcl
    obtain ⟨⟨b, eb⟩, hcc, hcl⟩ := Option.bind_eq_some_iff.mp hcl
    refine it_turn r a sg (hG2 i y.H x H' hi (sg.trans r.same) hy) hs hws hdi ht hcc fun y3 m3 r3 s3 e3 a3 => ?_
    cases b with
    | false =>
      have hcl' : compL t1 c1 f vs1 (ds1.drop (i + 1)) (wipeE eb vs1) = some (xs', e1N) := hcl
      refine iteF ⟨y3.wipe vs1, acc, don, rfl, r3.wipe vs1, s3, (m.trans m3).wipe hno, sg.trans m3.g, a3.wipe vs1, xs', ?_, hxs⟩
      show compL t1 c1 f vs1 (ds1.drop (i + 1)) (wipeE y3.e vs1) = some (xs', e1N)
      rw [e3]; exact hcl'
    | true =>
      obtain ⟨⟨dv, ef⟩, hff, hcl⟩ := Option.bind_eq_some_iff.mp (show ((f eb).bind fun q => (compL t1 c1 f vs1 (ds1.drop (i + 1)) (wipeE q.2 vs1)).map fun r => (q.1 :: r.1, r.2)) = some (xs', e1N) from hcl)
      obtain ⟨⟨xr, er⟩, hcr, hcl⟩ := Option.map_eq_some_iff.mp hcl
      cases hcl
      refine iteT ⟨y3, dv, ef, r3, rfl, rfl, by rw [e3]; exact hff, fun v y5 m5 r5 s5 e5 p5 => ?_⟩
      have a5 := a3.mv m5
      have hl : acc.length < sizeLine := by
        have h1 := dvAll_len a.v
        have h2 := congrArg List.length hxs
        simp only [List.length_append, List.length_cons] at h2 hlen
        omega
      refine ⟨acc, a5.h, hl, ?_⟩
      obtain ⟨r6, m6⟩ := r5.write (o := .lst (acc ++ [v])) a5.h a5.g a5.f ((m.trans m3).trans m5) hn
      refine ⟨Z.wipe { y5 with H := upd y5.H D0 (.lst (acc ++ [v])) } vs1, acc ++ [v], don ++ [dv], rfl, r6.wipe vs1, ?_, m6.wipe hno, (sg.trans m3.g).trans m5.g, Ac.wipe (p := { y5 with H := upd y5.H D0 (.lst (acc ++ [v])) }) ⟨upd_same, a5.g, a5.f, dvAll_app a5.v (dvAll_one p5)⟩ vs1, xr, ?_, by rw [List.append_assoc]; exact hxs⟩
      · show L2.wipe y5.s vs1 = L2.wipe y4.s vs1
        rw [s5]; exact s3
      · show compL t1 c1 f vs1 (ds1.drop (i + 1)) (wipeE y5.e vs1) = some (xr, _)
        rw [e5]; exact hcr
  · rintro H ⟨y, acc, don, rfl, r, hs, m, sg, a, xs', hcl, hxs⟩
    rw [List.drop_length] at hcl
    unfold compL at hcl
    cases hcl
    rw [List.append_nil] at hxs
    subst hxs
    exact hd y acc r m hs rfl a
/-- what the walk of the first clause asks -/
def OutB (K : Frg) (t : GF) (ws vs : List Nat) (c : BF) (wi1 : TI) (t1 : GF) (ws1 vs1 : List Nat) (c1 : BF) (f : EF) (D0 : Addr) (σ : L2.St) (Nx : Hp → Prop) (x : V) (H' : Hp) : Prop :=
  tG K t ws x (L2.wipe σ vs) H' fun σ2 H2 => L2.wipe σ2 vs = L2.wipe σ vs ∧ tT K c σ2 H2 fun b H3 =>
    if b = true then wi1 σ2 H3 fun J1 H4 => ∃ W1 : Nat → Nat → Hp → Prop, (∃ m, W1 0 m H4) ∧ ∀ j k H, W1 j k H →
      (J1.stop j H ∧ Nx H) ∨ (J1.go j H ∧ ∃ Nx1 : Hp → Prop, (∀ H', Nx1 H' → ∃ k', k' < k ∧ W1 (j + 1) k' H') ∧ ∀ x H', J1.yld j H x H' → InB K t1 ws1 vs1 c1 f D0 σ2 Nx1 x H')
    else Nx H3
theorem wipe_sub {σ σ' : L2.St} {vs vs1 : List Nat} (hv : ∀ i ∈ vs1, i ∈ vs) : L2.wipe (L2.wipe σ vs1) vs = L2.wipe σ vs := wipe_eq (ws := vs1) (wipe_length _ _) (fun j hj => by rw [wipe_get, if_neg (fun q => hj q.1)]) hv
theorem lc2_run {K : Frg} {J : It} {y0 : Z} {ds : List D} {t : GF} {ws vs : List Nat} {c : BF} {g1 : LF} {t1 : GF} {ws1 vs1 : List Nat} {c1 : BF} {f : EF} {xs : List D} {eN : Ev} {D0 : Addr} {Qd : Hp → Prop} {σ : L2.St}
    (r0 : Rp K y0) (hσ : L2.wipe σ vs = y0.s) (hno : ∀ i ∈ vs, isOw y0.e[i]? = false) (hJ : Itr K J y0.G ds) (hws : ∀ j ∈ ws, j ∈ vs) (hws1 : ∀ j ∈ ws1, j ∈ vs1) (hv : ∀ i ∈ vs1, i ∈ vs) (hlen : xs.length ≤ sizeLine) (hD : y0.H D0 = none)
    (hc : compL2 t c g1 t1 c1 f vs vs1 ds y0.e = some (xs, eN))
    (hd : ∀ y acc, Mv y0 y → Rp K y → y.s = y0.s → y.e = eN → Ac K D0 y acc xs → Qd y.H) :
    ∃ W : Nat → Nat → Hp → Prop, (∃ m, W 0 m (upd y0.H D0 (.lst []))) ∧ ∀ i m H, W i m H →
      (J.stop i H ∧ Qd H) ∨ (J.go i H ∧ ∃ Nx : Hp → Prop, (∀ H', Nx H' → ∃ m', m' < m ∧ W (i + 1) m' H') ∧ ∀ x H', J.yld i H x H' → OutB K t ws vs c (tI K g1) t1 ws1 vs1 c1 f D0 σ Nx x H') := by
  obtain ⟨Gd, Y, w, hG1, hG2⟩ := hJ
  obtain ⟨rn, mn⟩ := r0.new (o := .lst []) hD
  refine lc_itG w (OutB K t ws vs c (tI K g1) t1 ws1 vs1 c1 f D0 σ) (fun i H => ∃ y acc don, y.H = H ∧ Rp K y ∧ y.s = y0.s ∧ Mv y0 y ∧ Ac K D0 y acc don ∧ ∃ xs', compL2 t c g1 t1 c1 f vs vs1 (ds.drop i) y.e = some (xs', eN) ∧ don ++ xs' = xs) ?_ ?_ ?_ ?_
  · exact ⟨y0.new D0 (.lst []), [], [], rfl, rn, rfl, mn, ⟨upd_same, (r0.fresh hD).1, (r0.fresh hD).2, .nil⟩, xs, hc, rfl⟩
  · rintro i H hi ⟨y, acc, don, rfl, r, _, m, _⟩
    exact hG1 _ (m.g.trans r.same)
  · rintro i x H H' hi ⟨y, acc, don, rfl, r, hs, m, a, xs', hcl, hxs⟩ hy
    obtain ⟨hdi, hdrop⟩ := drop_at hi
    rw [hdrop] at hcl
    unfold compL2 at hcl
    obtain ⟨ea, ht, hcl⟩ := Option.bind_eq_some_iff.mp hcl
    obtain ⟨⟨b, eb⟩, hcc, hcl⟩ := Option.bind_eq_some_iff.mp hcl
    refine it_turn r a m.g (hG2 i y.H x H' hi (m.g.trans r.same) hy) (hs.trans hσ.symm) hws hdi ht hcc fun y3 m3 r3 s3 e3 a3 => ?_
    cases b with
    | false =>
      have hcl' : compL2 t c g1 t1 c1 f vs vs1 (ds.drop (i + 1)) (wipeE eb vs) = some (xs', eN) := hcl
      refine iteF ⟨y3.wipe vs, acc, don, rfl, r3.wipe vs, s3.trans hσ, (m.trans m3).wipe hno, a3.wipe vs, xs', ?_, hxs⟩
      show compL2 t c g1 t1 c1 f vs vs1 (ds.drop (i + 1)) (wipeE y3.e vs) = some (xs', eN)
      rw [e3]; exact hcl'
    | true =>
      obtain ⟨⟨ds1, e1⟩, hg1, hcl⟩ := Option.bind_eq_some_iff.mp (show ((g1 eb).bind fun q => (compL t1 c1 f vs1 q.1 (wipeE q.2 vs1)).bind fun r1 => (compL2 t c g1 t1 c1 f vs vs1 (ds.drop (i + 1)) (wipeE r1.2 vs)).map fun r => (r1.1 ++ r.1, r.2)) = some (xs', eN) from hcl)
      obtain ⟨⟨xs1, e1N⟩, hc1, hcl⟩ := Option.bind_eq_some_iff.mp hcl
      obtain ⟨⟨xr, er⟩, hcr, hcl⟩ := Option.map_eq_some_iff.mp hcl
      cases hcl
      refine iteT ⟨y3, ds1, e1, r3, rfl, rfl, by rw [e3]; exact hg1, fun J1 y4 m4 r4 s4 e4 it1 => ?_⟩
      rw [← s4]
      refine lc2_in (y0 := y0) r4 ((m.trans m3).trans m4) hD (a3.mv m4) (fun i hi => hno i (hv i hi)) it1 hws1 (by rw [e4]; exact hc1) ?_ fun y6 acc6 r6 m6 s6 e6 a6 => ?_
      · rw [← List.append_assoc] at hxs
        rw [← hxs, List.length_append] at hlen
        exact Nat.le_trans (Nat.le_add_right _ _) hlen
      · refine ⟨y6.wipe vs, acc6, don ++ xs1, rfl, r6.wipe vs, ?_, m6.wipe hno, a6.wipe vs, xr, ?_, by rw [List.append_assoc]; exact hxs⟩
        · show L2.wipe y6.s vs = y0.s
          rw [s6, wipe_sub (σ' := y6.s) hv, s4]; exact s3.trans hσ
        · show compL2 t c g1 t1 c1 f vs vs1 (ds.drop (i + 1)) (wipeE y6.e vs) = some (xr, _)
          rw [e6]; exact hcr
  · rintro H ⟨y, acc, don, rfl, r, hs, m, a, xs', hcl, hxs⟩
    rw [List.drop_length] at hcl
    unfold compL2 at hcl
    cases hcl
    rw [List.append_nil] at hxs
    subst hxs
    exact hd y acc m r hs rfl a
theorem lc_back {K : Frg} {z y u : Z} {vs : List Nat} {D0 : Addr} {wl : List V} {xs : List D} {e1' eN : Ev} {Q : VK} (r : Rp K y) (m : Mv z y) (s2 : y.s = z.s) (ee : y.e = e1') (hno : ∀ i ∈ vs, isOw y.e[i]? = false) (hn : y.H D0 = none) (mu : Mv (y.wipe vs) u) (ru : Rp K u) (su : u.s = (y.wipe vs).s) (eu : u.e = eN)
    (hu1 : u.H D0 = some (.lst wl)) (hu2 : u.G D0 = none) (hu3 : ∀ j, D0 ∉ u.F j) (hu4 : DvAll K u.G wl xs)
    (q : ∀ v y Fr, Mv z y → Rp K y → y.s = z.s → y.e = backE e1' eN vs → SlOk K y.G y.H (some v) Fr (.li xs) → (∀ a ∈ Fr, z.H a = none ∧ ∀ i, a ∉ y.F i) → Q v y.H) : Q (.ref D0) u.H := by
  have e1 : ∀ i : Nat, i ∉ vs → u.s[i]? = z.s[i]? := fun i hi => by
    rw [su]
    show (L2.wipe y.s vs)[i]? = z.s[i]?
    rw [wipe_get, if_neg (fun q => hi q.1), s2]
  have hlen : u.e.length = y.e.length := by
    rw [mu.ln]
    show (wipeE y.e vs).length = y.e.length
    rw [wipeE_len]
  have uF : ∀ (i : Nat) (a : Addr), a ∈ u.F i → (i ∉ vs ∧ a ∈ y.F i) ∨ y.H a = none := fun i a ha => by
    rcases mu.fn i a ha with h | h
    · have h' : a ∈ (if i ∈ vs then [] else y.F i) := h
      split at h'
      · cases h'
      · rename_i hi; exact .inl ⟨hi, h'⟩
    · exact .inr h
  have yH : ∀ (i : Nat) (a : Addr), i ∈ vs → a ∈ y.F i → u.H a = y.H a ∧ u.G a = none := fun i a hi ha => by
    obtain ⟨l1, l2⟩ := r.live ha
    have nin : ∀ j, a ∉ (y.wipe vs).F j := fun j hj => by
      have hj' : a ∈ (if j ∈ vs then [] else y.F j) := hj
      split at hj'
      · cases hj'
      · rename_i hjv
        exact r.sep i j a (fun e => hjv (e ▸ hi)) ha hj'
    refine ⟨?_, (mu.gn a l2 nin).trans l1⟩
    cases hq : y.H a with
    | none => exact absurd hq l2
    | some o => exact mu.out a o hq nin
  have ru' : Rp K { u with s := z.s, e := backE y.e u.e vs, F := fun i => if i ∈ vs then y.F i else u.F i } := by
    refine ⟨ru.same, ?_, fun i s h => ?_, fun i h => ?_, fun i j a hij hi hj => ?_⟩
    · show z.s.length = (backE y.e u.e vs).length
      rw [backE_len, ← s2, r.len, hlen]
    · have h' : (backE y.e u.e vs)[i]? = some s := h
      show SlOk K u.G u.H ((z.s[i]?).join) (if i ∈ vs then y.F i else u.F i) s
      rw [backE_get] at h'
      by_cases hi : i ∈ vs
      · rw [if_pos hi]
        by_cases hl : i < u.e.length
        · rw [if_pos ⟨hi, hl⟩] at h'
          cases hq : y.e[i]? with
          | none => rw [List.getElem?_eq_none_iff] at hq; omega
          | some sl =>
            rw [hq] at h'
            cases h'
            rw [← s2]
            exact slFrame (r.ok i _ hq) mu.g (fun a ha => (yH i a hi ha).1) fun a ha => (yH i a hi ha).2
        · rw [if_neg (fun q => hl q.2), List.getElem?_eq_none (by omega)] at h'
          cases h'
      · rw [if_neg hi]
        rw [if_neg (fun q => hi q.1)] at h'
        rw [← e1 i hi]
        exact ru.ok i s h'
    · have h' : (backE y.e u.e vs).length ≤ i := h
      rw [backE_len] at h'
      show (if i ∈ vs then y.F i else u.F i) = []
      split
      · exact r.out i (by omega)
      · exact ru.out i h'
    · have hi' : a ∈ (if i ∈ vs then y.F i else u.F i) := hi
      have hj' : a ∈ (if j ∈ vs then y.F j else u.F j) := hj
      split at hi'
      · split at hj'
        · exact r.sep i j a hij hi' hj'
        · rcases uF j a hj' with ⟨_, h⟩ | h
          · exact r.sep i j a hij hi' h
          · exact (r.live hi').2 h
      · split at hj'
        · rcases uF i a hi' with ⟨_, h⟩ | h
          · exact r.sep i j a hij h hj'
          · exact (r.live hj').2 h
        · exact ru.sep i j a hij hi' hj'
  have mz : Mv z { u with s := z.s, e := backE y.e u.e vs, F := fun i => if i ∈ vs then y.F i else u.F i } := by
    refine ⟨fun a o ha hf => ?_, fun a ha => mu.dom a (m.dom a ha), m.g.trans mu.g, fun a ha hk => (mu.gn a (m.dom a ha) fun i hi => by
      have hi' : a ∈ (if i ∈ vs then [] else y.F i) := hi
      split at hi'
      · cases hi'
      · rcases m.fn i a hi' with h | h
        · exact hk i h
        · exact ha h).trans (m.gn a ha hk), fun i a ha => ?_, fun i hi => ?_, ?_⟩
    · refine mu.out a o (m.out a o ha hf) fun i hi => ?_
      have hi' : a ∈ (if i ∈ vs then [] else y.F i) := hi
      split at hi'
      · cases hi'
      · rcases m.fn i a hi' with h | h
        · exact hf i h
        · rw [ha] at h; cases h
    · have ha' : a ∈ (if i ∈ vs then y.F i else u.F i) := ha
      split at ha'
      · exact m.fn i a ha'
      · rcases uF i a ha' with ⟨_, h⟩ | h
        · exact m.fn i a h
        · by_cases hz : z.H a = none
          · exact .inr hz
          · exact absurd h (m.dom a hz)
    · obtain ⟨k1, k2⟩ := m.kp i hi
      have hiv : i ∉ vs := fun q => by rw [hno i q] at k1; cases k1
      have k3 : isOw (y.wipe vs).e[i]? = true := by
        show isOw (wipeE y.e vs)[i]? = true
        rw [wipeE_get, if_neg (fun q => hiv q.1)]; exact k1
      refine ⟨?_, rfl⟩
      show isOw (backE y.e u.e vs)[i]? = true
      rw [backE_get, if_neg (fun q => hiv q.1)]
      exact (mu.kp i k3).1
    · show (backE y.e u.e vs).length = z.e.length
      rw [backE_len, hlen, m.ln]
  refine q (.ref D0) { u with s := z.s, e := backE y.e u.e vs, F := fun i => if i ∈ vs then y.F i else u.F i } [D0] mz ru' rfl (by show backE y.e u.e vs = backE e1' eN vs; rw [eu, ee]) ⟨D0, wl, rfl, rfl, hu2, hu1, hu4⟩ fun a ha => ?_
  rw [List.mem_singleton.mp ha]
  refine ⟨?_, fun i hi => ?_⟩
  · by_cases hz : z.H D0 = none
    · exact hz
    · exact absurd hn (m.dom D0 hz)
  · have hi' : D0 ∈ (if i ∈ vs then y.F i else u.F i) := hi
    split at hi'
    · exact (r.live hi').2 hn
    · exact hu3 i hi'
/-- what tLc2 asks, by a plain function -/
theorem lc2_tO {K : Frg} {wi : TI} {gl g1 : LF} {t t1 : GF} {ws vs ws1 vs1 : List Nat} {cf c1 : BF} {f : EF} {σ : L2.St} {H : Hp} {Q : VK} (hwi : ∀ σ H R, tI K gl σ H R → wi σ H R) (hws : ∀ j ∈ ws, j ∈ vs) (hws1 : ∀ j ∈ ws1, j ∈ vs1) (hv : ∀ i ∈ vs1, i ∈ vs) (q : tO K (oComp2 gl t cf g1 t1 c1 f vs vs1) σ H Q) : tLc2 wi (tG K t ws) (tT K cf) (tI K g1) (tG K t1 ws1) (tT K c1) (tE K f) vs vs1 σ H Q := by
  obtain ⟨z, r0, e', rp, hs, hH, hf, q⟩ := q
  subst hs hH
  obtain ⟨⟨ds, e1'⟩, h1, hf⟩ := Option.bind_eq_some_iff.mp hf
  split at hf
  · rename_i hc
    obtain ⟨⟨xs, eN⟩, h2, hf⟩ := Option.bind_eq_some_iff.mp hf
    split at hf
    · rename_i hl
      cases hf
      refine hwi _ _ _ ⟨z, ds, e1', rp, rfl, rfl, h1, fun J y m r s2 ee it D0 hn => ?_⟩
      have hno : ∀ i ∈ vs, isOw y.e[i]? = false := fun i hi => by
        have := List.all_eq_true.mp hc i hi
        rw [ee]
        simpa using this
      have h2' : compL2 t cf g1 t1 c1 f vs vs1 ds (y.wipe vs).e = some (xs, eN) := by
        show compL2 t cf g1 t1 c1 f vs vs1 ds (wipeE y.e vs) = some (xs, eN)
        rw [ee]; exact h2
      exact lc2_run (y0 := y.wipe vs) (σ := z.s) (Qd := fun H => Q (.ref D0) H) (J := J) (D0 := D0) (r.wipe vs) (by show L2.wipe z.s vs = L2.wipe y.s vs; rw [s2]) (fun i hi => by
          show isOw (wipeE y.e vs)[i]? = false
          rw [wipeE_get]
          split
          · rfl
          · exact hno i hi) (show Itr K J y.G ds from it) hws hws1 hv hl (show y.H D0 = none from hn) h2' (fun u wl mu ru su eu ac => lc_back (K := K) (vs := vs) r m s2 ee hno hn mu ru su eu ac.h ac.g ac.f ac.v q)
    · cases hf
  · cases hf
section
variable {X : Cx} {pos : Pos}
theorem fo_lc2 {k : Nat} {elt tg iter tg1 iter1 : Expr} {ifs ifs1 : List Expr} {scope : Scope} {own : List (Str × Nat)} {gl g1 : LF} {t t1 : GF} {ws vs ws1 vs1 : List Nat} {cf c1 : BF} {f : EF} (c : Cc X k) (hi : FI X tg iter gl) (ok : BlkOk X.N X.env.scope scope own)
    (hg : ∀ (s : Shared) (H : Hp) (C : Addr) (cl : List (Str × Addr)) (fp : List Addr), FG (X.blk s H scope (compEnvC scope cl C X.env) fp) tg t ws)
    (ht : ∀ (s : Shared) (H : Hp) (C : Addr) (cl : List (Str × Addr)) (fp : List Addr), FTs (X.blk s H scope (compEnvC scope cl C X.env) fp) ifs cf)
    (hi1 : ∀ (s : Shared) (H : Hp) (C : Addr) (cl : List (Str × Addr)) (fp : List Addr), FI (X.blk s H scope (compEnvC scope cl C X.env) fp) tg1 iter1 g1)
    (hg1 : ∀ (s : Shared) (H : Hp) (C : Addr) (cl : List (Str × Addr)) (fp : List Addr), FG (X.blk s H scope (compEnvC scope cl C X.env) fp) tg1 t1 ws1)
    (ht1 : ∀ (s : Shared) (H : Hp) (C : Addr) (cl : List (Str × Addr)) (fp : List Addr), FTs (X.blk s H scope (compEnvC scope cl C X.env) fp) ifs1 c1)
    (he : ∀ (s : Shared) (H : Hp) (C : Addr) (cl : List (Str × Addr)) (fp : List Addr), FE (X.blk s H scope (compEnvC scope cl C X.env) fp) elt f)
    (hvs : own.map (·.2) = vs := by rfl) (hws : ∀ j ∈ ws, j ∈ vs := by decide) (hws1 : ∀ j ∈ ws1, j ∈ vs1 := by decide) (hv : ∀ j ∈ vs1, j ∈ vs := by decide) (hs : ∀ x, foldedSetIterable iter X.env x = pure x := by intro _; rfl) (hs1 : ∀ env x, foldedSetIterable iter1 env x = pure x := by intro _ _; rfl) :
    FO X (.ListComp elt [⟨tg, iter, ifs, 0⟩, ⟨tg1, iter1, ifs1, 0⟩] scope pos) (oComp2 gl t cf g1 t1 c1 f vs vs1) := by
  subst hvs
  exact ⟨PE.imp (pe_lc2 c.calm c.nd hi.pi ok hv (fun s H C cl fp => (hg s H C cl fp).pg) (fun s H C cl fp => (ht s H C cl fp).pts) (fun s H C cl fp => (hi1 s H C cl fp).pi) (fun s H C cl fp => (hg1 s H C cl fp).pg) (fun s H C cl fp => (ht1 s H C cl fp).pts) (fun s H C cl fp => (he s H C cl fp).pe) hs hs1) fun σ H Q q => lc2_tO (fun _ _ _ h => h) hws hws1 hv q⟩
theorem fs_setLc2 {k i : Nat} {y : Str} {py : Pos} {elt tg iter tg1 iter1 : Expr} {ifs ifs1 : List Expr} {scope : Scope} {own : List (Str × Nat)} {spos : Pos} {gl g1 : LF} {t t1 : GF} {ws vs ws1 vs1 : List Nat} {cf c1 : BF} {f : EF} (c : Cc X k) (hy : X.N[i]? = some y) (hyl : X.env.scope.names.lookup y = some .local)
    (hsw : swapsWith (.ListComp elt [⟨tg, iter, ifs, 0⟩, ⟨tg1, iter1, ifs1, 0⟩] scope pos) (some (.Name y py)) spos.line X.env = pure true) (hi : FI X tg iter gl) (ok : BlkOk X.N X.env.scope scope own)
    (hg : ∀ (s : Shared) (H : Hp) (C : Addr) (cl : List (Str × Addr)) (fp : List Addr), FG (X.blk s H scope (compEnvC scope cl C X.env) fp) tg t ws)
    (ht : ∀ (s : Shared) (H : Hp) (C : Addr) (cl : List (Str × Addr)) (fp : List Addr), FTs (X.blk s H scope (compEnvC scope cl C X.env) fp) ifs cf)
    (hi1 : ∀ (s : Shared) (H : Hp) (C : Addr) (cl : List (Str × Addr)) (fp : List Addr), FI (X.blk s H scope (compEnvC scope cl C X.env) fp) tg1 iter1 g1)
    (hg1 : ∀ (s : Shared) (H : Hp) (C : Addr) (cl : List (Str × Addr)) (fp : List Addr), FG (X.blk s H scope (compEnvC scope cl C X.env) fp) tg1 t1 ws1)
    (ht1 : ∀ (s : Shared) (H : Hp) (C : Addr) (cl : List (Str × Addr)) (fp : List Addr), FTs (X.blk s H scope (compEnvC scope cl C X.env) fp) ifs1 c1)
    (he : ∀ (s : Shared) (H : Hp) (C : Addr) (cl : List (Str × Addr)) (fp : List Addr), FE (X.blk s H scope (compEnvC scope cl C X.env) fp) elt f)
    (hvs : own.map (·.2) = vs := by rfl) (hws : ∀ j ∈ ws, j ∈ vs := by decide) (hws1 : ∀ j ∈ ws1, j ∈ vs1 := by decide) (hv : ∀ j ∈ vs1, j ∈ vs := by decide) (hs : ∀ x, foldedSetIterable iter X.env x = pure x := by intro _; rfl) (hs1 : ∀ env x, foldedSetIterable iter1 env x = pure x := by intro _ _; rfl) :
    FS X (.Assign [.Name y py] (.ListComp elt [⟨tg, iter, ifs, 0⟩, ⟨tg1, iter1, ifs1, 0⟩] scope pos) spos) (sSet i (oComp2 gl t cf g1 t1 c1 f vs vs1)) := by
  subst hvs
  exact fs_of (ps_setLc2 c.calm c.nd hy hyl hsw hi.pi ok hv (fun s H C cl fp => (hg s H C cl fp).pg) (fun s H C cl fp => (ht s H C cl fp).pts) (fun s H C cl fp => (hi1 s H C cl fp).pi) (fun s H C cl fp => (hg1 s H C cl fp).pg) (fun s H C cl fp => (ht1 s H C cl fp).pts) (fun s H C cl fp => (he s H C cl fp).pe) hs hs1) fun D z o r h q => lc2_tO (fun _ _ _ h => h) hws hws1 hv (set_go (D := D) r h q)
theorem fs_setLc2Z {k i : Nat} {y : Str} {py : Pos} {elt tg iter tg1 iter1 : Expr} {ifs ifs1 : List Expr} {scope : Scope} {own : List (Str × Nat)} {spos : Pos} {gl g1 : LF} {t t1 : GF} {ws vs ws1 vs1 : List Nat} {cf c1 : BF} {f : EF} (c : Cc X k) (hy : X.N[i]? = some y) (hyl : X.env.scope.names.lookup y = some .local)
    (hsw : swapsWith (.ListComp elt [⟨tg, iter, ifs, 0⟩, ⟨tg1, iter1, ifs1, 0⟩] scope pos) (some (.Name y py)) spos.line X.env = pure true) (hi : FI X tg iter gl) (ok : BlkOk X.N X.env.scope scope own)
    (hg : ∀ (s : Shared) (H : Hp) (C : Addr) (cl : List (Str × Addr)) (fp : List Addr), FG (X.blk s H scope (compEnvC scope cl C X.env) fp) tg t ws)
    (ht : ∀ (s : Shared) (H : Hp) (C : Addr) (cl : List (Str × Addr)) (fp : List Addr), FTs (X.blk s H scope (compEnvC scope cl C X.env) fp) ifs cf)
    (hi1 : ∀ (s : Shared) (H : Hp) (C : Addr) (cl : List (Str × Addr)) (fp : List Addr), FI (X.blk s H scope (compEnvC scope cl C X.env) fp) tg1 iter1 g1)
    (hg1 : ∀ (s : Shared) (H : Hp) (C : Addr) (cl : List (Str × Addr)) (fp : List Addr), FG (X.blk s H scope (compEnvC scope cl C X.env) fp) tg1 t1 ws1)
    (ht1 : ∀ (s : Shared) (H : Hp) (C : Addr) (cl : List (Str × Addr)) (fp : List Addr), FTs (X.blk s H scope (compEnvC scope cl C X.env) fp) ifs1 c1)
    (he : ∀ (s : Shared) (H : Hp) (C : Addr) (cl : List (Str × Addr)) (fp : List Addr), FE (X.blk s H scope (compEnvC scope cl C X.env) fp) elt f)
    (hvs : own.map (·.2) = vs := by rfl) (hws : ∀ j ∈ ws, j ∈ vs := by decide) (hws1 : ∀ j ∈ ws1, j ∈ vs1 := by decide) (hv : ∀ j ∈ vs1, j ∈ vs := by decide) (hs : ∀ x, foldedSetIterable iter X.env x = pure x := by intro _; rfl) (hs1 : ∀ env x, foldedSetIterable iter1 env x = pure x := by intro _ _; rfl) :
    FS X (.Assign [.Name y py] (.ListComp elt [⟨tg, iter, ifs, 0⟩, ⟨tg1, iter1, ifs1, 0⟩] scope pos) spos) (sSet i (oE (eFz (oComp2 gl t cf g1 t1 c1 f vs vs1)))) := by
  subst hvs
  exact fs_of (ps_setLc2 c.calm c.nd hy hyl hsw hi.pi ok hv (fun s H C cl fp => (hg s H C cl fp).pg) (fun s H C cl fp => (ht s H C cl fp).pts) (fun s H C cl fp => (hi1 s H C cl fp).pi) (fun s H C cl fp => (hg1 s H C cl fp).pg) (fun s H C cl fp => (ht1 s H C cl fp).pts) (fun s H C cl fp => (he s H C cl fp).pe) hs hs1) fun D z o r h q => lc2_tO (fun _ _ _ h => h) hws hws1 hv (fz_imp (set_go (D := D) r h q))
end
end Fl

set_option Elab.async false
set_option linter.all false
set_option maxRecDepth 100000
set_option maxHeartbeats 1000000
set_option autoImplicit false
/-! FnPar3: a, b, c = x, y, z with plain local names. -/
namespace Fl
open PySem PySem.Spec PyProof.Rows L2
section
variable {X : Cx} {pos : Pos}
theorem fs_par3 {i j k : Nat} {x y w : Str} {a b c : Expr} {f : OLF} {px py pw pt : Pos} {kt k2 pt2} (calm : X.calm = true) (nod : X.N.Nodup) (gi : X.N[i]? = some x) (gj : X.N[j]? = some y) (gk : X.N[k]? = some w) (dij : i ≠ j) (dik : i ≠ k) (djk : j ≠ k)
    (lx : X.env.scope.names.lookup x = some .local) (ly : X.env.scope.names.lookup y = some .local) (lw : X.env.scope.names.lookup w = some .local) (ha : FOl X [a, b, c] f)
    (sw : swappedStores [.Tuple [.Name x px, .Name y py, .Name w pw] kt pt] (.Tuple [a, b, c] k2 pt2) X.env = pure (some [x, y, w]))
    (so : swapsWithSole [.Tuple [.Name x px, .Name y py, .Name w pw] kt pt] (.Tuple [a, b, c] k2 pt2) pos.line X.env = pure false := by rfl) :
    FS X (.Assign [.Tuple [.Name x px, .Name y py, .Name w pw] kt pt] (.Tuple [a, b, c] k2 pt2) pos) (sPar [i, j, k] f) :=
  fs_of (ps_par3 calm nod gi gj gk dij dik djk lx ly lw ha.pa sw so) fun D z o r h q => by
    obtain ⟨⟨ss, e1⟩, h1, h⟩ := Option.bind_eq_some_iff.mp h
    obtain ⟨e2, h2, h3⟩ := Option.map_eq_some_iff.mp h
    subst h3
    have hlen := setAll_len h2
    refine ⟨z, ss, e1, r, rfl, rfl, h1, fun vs y Frs m ry sy ey ts => ?_⟩
    obtain ⟨u, u1, u2, u3, u4, u5⟩ := setAll_go m ry ts (show setAll [i, j, k] ss y.e = some e2 by rw [ey]; exact h2)
    have hv : vs.length = 3 := (tsLen ts).trans hlen
    match vs, hv, u5 with
    | [v1, v2, v3], _, u5 =>
      refine ⟨v1, v2, v3, rfl, ?_⟩
      have := q u u1 u2 u3
      rw [u4, u5, sy] at this
      exact this
theorem fpar3 (i j k : Nat) {x y w : Str} {a b c : Expr} {f : OLF} {px py pw pt : Pos} {kt k2 pt2} (hN : X.N.Nodup) (ha : FOl X [a, b, c] f) (calm : X.calm = true := by rfl) (gi : X.N[i]? = some x := by rfl) (gj : X.N[j]? = some y := by rfl) (gk : X.N[k]? = some w := by rfl) (dij : i ≠ j := by decide) (dik : i ≠ k := by decide) (djk : j ≠ k := by decide)
    (lx : X.env.scope.names.lookup x = some .local := by rfl) (ly : X.env.scope.names.lookup y = some .local := by rfl) (lw : X.env.scope.names.lookup w = some .local := by rfl)
    (sw : swappedStores [.Tuple [.Name x px, .Name y py, .Name w pw] kt pt] (.Tuple [a, b, c] k2 pt2) X.env = pure (some [x, y, w]) := by rfl)
    (so : swapsWithSole [.Tuple [.Name x px, .Name y py, .Name w pw] kt pt] (.Tuple [a, b, c] k2 pt2) pos.line X.env = pure false := by rfl) :
    FS X (.Assign [.Tuple [.Name x px, .Name y py, .Name w pw] kt pt] (.Tuple [a, b, c] k2 pt2) pos) (sPar [i, j, k] f) := fs_par3 calm hN gi gj gk dij dik djk lx ly lw ha sw so
end
end Fl

set_option Elab.async false
set_option linter.all false
set_option maxRecDepth 100000
set_option maxHeartbeats 4000000
set_option autoImplicit false
/-! FnGr: lists of numbers by rooms, sums over doors, heads of rows; comprehensions of two clauses. -/
namespace Fl
open PySem PySem.Spec PyProof.Rows L2
theorem fL_at {n r : Nat} (g : Nat → Int) (h : r < n) : atI (fL n g) (r : Nat) = some (.int (g r)) := atI_nat (by rw [List.getElem?_map, List.getElem?_range h]; rfl)
theorem fL_len (n : Nat) (g : Nat → Int) : (fL n g).length = n := by rw [List.length_map, List.length_range]
theorem fL_ix {n r : Nat} (g : Nat → Int) (h : r < n) : ixN (fL n g).length (r : Nat) = some r := ixN_nat' (by rw [fL_len]; exact h)
theorem fL_iL (n : Nat) (g : Nat → Int) : fL n g = iL ((List.range n).map g) := by unfold fL iL; rw [List.map_map]; rfl
theorem fL_congr {n : Nat} {g h : Nat → Int} (k : ∀ r, r < n → g r = h r) : fL n g = fL n h := List.map_congr_left fun r hr => by rw [k r (List.mem_range.mp hr)]
def up (g : Nat → Int) (a : Nat) (v : Int) : Nat → Int := fun r => if r = a then v else g r
theorem fL_set (n a : Nat) (g : Nat → Int) (v : Int) : (fL n g).set a (.int v) = fL n (up g a v) := by
  apply List.ext_getElem?
  intro i
  by_cases hi : i < n
  · by_cases e : a = i
    · subst e
      rw [List.getElem?_set_self (by rw [fL_len]; exact hi), List.getElem?_map, List.getElem?_range hi]
      show _ = some (PyData.int (if a = a then v else g a))
      rw [if_pos rfl]
    · rw [List.getElem?_set_ne e, List.getElem?_map, List.getElem?_map, List.getElem?_range hi]
      show _ = some (PyData.int (if i = a then v else g i))
      rw [if_neg (Ne.symm e)]; rfl
  · rw [List.getElem?_eq_none (by rw [List.length_set, fL_len]; omega), List.getElem?_eq_none (by rw [fL_len]; omega)]
theorem sAugI_run {g : D → D → Option D} {io : Nat} {fi fv : EF} {e e1 e2 : Ev} {xs ys zs : List D} {k : Int} {old v nw : D} {j : Nat} (h0 : liOf e[io]? = some xs) (h1 : fi e = some (.int k, e1)) (h2 : liOf e1[io]? = some ys) (h3 : atI ys k = some old) (h4 : fv e1 = some (v, e2)) (h5 : liOf e2[io]? = some zs) (h6 : g old v = some nw)
    (h7 : ixN zs.length k = some j) : sAugI g io fi fv e = some (.nx (e2.set io (.li (zs.set j nw)))) := by
  unfold sAugI
  rw [h0, Option.bind_some, h1, Option.bind_some, h2, Option.bind_some]
  show ((atI ys k).bind _) = _
  rw [h3, Option.bind_some, h4, Option.bind_some, h5, Option.bind_some, h6, Option.bind_some, h7]; rfl
/-- a list of numbers: one of them grows, or falls -/
theorem sAugI_fL {g : D → D → Option D} {io n : Nat} {fi fv : EF} {e e1 e2 : Ev} {q : Nat → Int} {a : Nat} {v w : Int} (ha : a < n) (h0 : liOf e[io]? = some (fL n q)) (h1 : fi e = some (.int (a : Nat), e1)) (h2 : liOf e1[io]? = some (fL n q)) (h4 : fv e1 = some (.int v, e2)) (h5 : liOf e2[io]? = some (fL n q)) (h6 : g (.int (q a)) (.int v) = some (.int w)) :
    sAugI g io fi fv e = some (.nx (e2.set io (.li (fL n (up q a w))))) := by
  rw [sAugI_run h0 h1 h2 (fL_at q ha) h4 h5 h6 (fL_ix q ha), fL_set]
/-! sums -/
def sumN (f : Nat → Int) (m : Nat) : Int := ((List.range m).map f).sum
theorem sumN_zero (f : Nat → Int) : sumN f 0 = 0 := rfl
theorem sumN_succ (f : Nat → Int) (m : Nat) : sumN f (m + 1) = sumN f m + f m := by
  unfold sumN
  rw [List.range_succ, List.map_append, List.sum_append]
  simp
theorem sumN_congr {f g : Nat → Int} : ∀ {m : Nat}, (∀ k, k < m → f k = g k) → sumN f m = sumN g m
  | 0, _ => rfl
  | m + 1, h => by rw [sumN_succ, sumN_succ, sumN_congr fun k hk => h k (by omega), h m (by omega)]
theorem sumN_add (f g : Nat → Int) : ∀ m : Nat, sumN (fun k => f k + g k) m = sumN f m + sumN g m
  | 0 => rfl
  | m + 1 => by rw [sumN_succ, sumN_succ, sumN_succ, sumN_add f g m]; omega
theorem sumN_sub (f g : Nat → Int) : ∀ m : Nat, sumN (fun k => f k - g k) m = sumN f m - sumN g m
  | 0 => rfl
  | m + 1 => by rw [sumN_succ, sumN_succ, sumN_succ, sumN_sub f g m]; omega
theorem sumN_filter (f : Nat → Int) (q : Nat → Bool) : ∀ m : Nat, (((List.range m).filter q).map f).sum = sumN (fun k => if q k = true then f k else 0) m
  | 0 => rfl
  | m + 1 => by
    rw [List.range_succ, List.filter_append, List.map_append, List.sum_append, sumN_filter f q m, sumN_succ]
    cases h : q m <;> simp [h]
theorem sumN_nonneg {f : Nat → Int} : ∀ {m : Nat}, (∀ k, k < m → 0 ≤ f k) → 0 ≤ sumN f m
  | 0, _ => Int.le_refl _
  | m + 1, h => by
    rw [sumN_succ]
    have := sumN_nonneg (f := f) (m := m) fun k hk => h k (by omega)
    have := h m (by omega)
    omega
/-! heads of a row -/
def xv (r : List Int) (i : Nat) : Int := r.getD i 0
def pre (r : List Int) (j : Nat) : Int := (r.take j).sum
theorem pre_zero (r : List Int) : pre r 0 = 0 := by unfold pre; simp
theorem xv_at {r : List Int} {i : Nat} (h : i < r.length) : r[i]? = some (xv r i) := by
  unfold xv
  rw [List.getD_eq_getElem?_getD, List.getElem?_eq_getElem h]; rfl
theorem xv_mem {r : List Int} {i : Nat} (h : i < r.length) : xv r i ∈ r := List.mem_of_getElem? (xv_at h)
theorem atI_xv {r : List Int} {i : Nat} (h : i < r.length) : atI (iL r) (i : Nat) = some (.int (xv r i)) := atI_iL (xv_at h)
theorem pre_succ {r : List Int} {j : Nat} (h : j < r.length) : pre r (j + 1) = pre r j + xv r j := by
  unfold pre
  rw [List.take_add_one, xv_at h, List.sum_append]
  simp
theorem pre_big {r : List Int} {j : Nat} (h : r.length ≤ j) : pre r j = r.sum := by
  unfold pre
  rw [List.take_of_length_le h]
theorem pre_min (r : List Int) (j : Nat) : pre r (min r.length j) = pre r j := by
  by_cases h : j ≤ r.length
  · rw [Nat.min_eq_right h]
  · rw [Nat.min_eq_left (by omega), pre_big (Nat.le_refl _), pre_big (by omega)]
theorem pre_sumN {r : List Int} : ∀ {j : Nat}, j ≤ r.length → sumN (xv r) j = pre r j
  | 0, _ => by rw [pre_zero]; rfl
  | j + 1, h => by rw [sumN_succ, pre_succ (by omega), pre_sumN (by omega)]
/-- those that have come by t: l moments on the way -/
theorem pre_come {r : List Int} (l t : Nat) : ∀ {m : Nat}, m ≤ r.length → sumN (fun i => if decide (i + l ≤ t) = true then xv r i else 0) m = pre r (min m (t + 1 - l))
  | 0, _ => by rw [Nat.zero_min, pre_zero]; rfl
  | m + 1, h => by
    rw [sumN_succ, pre_come l t (by omega)]
    by_cases c : m + l ≤ t
    · rw [if_pos (decide_eq_true c), Nat.min_eq_left (show m ≤ t + 1 - l by omega), Nat.min_eq_left (show m + 1 ≤ t + 1 - l by omega), pre_succ (by omega)]
    · rw [if_neg (by simp; omega), Nat.min_eq_right (show t + 1 - l ≤ m by omega), Nat.min_eq_right (show t + 1 - l ≤ m + 1 by omega), Int.add_zero]
theorem sum_map_range (f : Nat → Int) (m : Nat) : ((List.range m).map f).sum = sumN f m := rfl
theorem pre_dSum (r : List Int) (j : Nat) : dSum (.tuple (cutD (iL r) none (some (j : Int)))) = some (.int (pre r j)) := by
  have : cutD (iL r) none (some (j : Int)) = iL (r.take j) := by rw [cutD_to]; unfold iL; rw [List.map_take]
  rw [this, dSum_tup]; rfl
/-- taken from i to j: what is between two heads -/
theorem pre_between (r : List Int) {i j : Nat} (h : i ≤ j) : ((r.take j).drop i).sum = pre r j - pre r i := by
  have : r.take j = r.take i ++ (r.take j).drop i := by
    have h1 := (List.take_append_drop i (r.take j)).symm
    rw [List.take_take, Nat.min_eq_left h] at h1
    exact h1
  have h2 : (r.take j).sum = (r.take i).sum + ((r.take j).drop i).sum := by
    conv => lhs; rw [this]
    rw [List.sum_append]
  unfold pre
  omega
/-! two clauses -/
theorem compL2_map {α β : Type} {t : GF} {c : BF} {g1 : LF} {t1 : GF} {c1 : BF} {f : EF} {vs vs1 : List Nat} (encx : α → D) (p : α → Bool) (ys : α → List β) (g : α → β → D) (q : α → β → Bool) (e : Ev) : ∀ xs : List α,
    (∀ x ∈ xs, ∃ e1 e2, t (encx x) e = some e1 ∧ c e1 = some (p x, e2) ∧ (p x = true → ∃ ds e3 e4, g1 e2 = some (ds, e3) ∧ compL t1 c1 f vs1 ds (wipeE e3 vs1) = some (((ys x).filter (q x)).map (g x), e4) ∧ wipeE e4 vs = e) ∧ (p x = false → wipeE e2 vs = e)) →
    compL2 t c g1 t1 c1 f vs vs1 (xs.map encx) e = some ((xs.filter p).flatMap fun x => ((ys x).filter (q x)).map (g x), e)
  | [], _ => rfl
  | x :: xs, h => by
    obtain ⟨e1, e2, h1, h2, h3, h4⟩ := h x List.mem_cons_self
    have ih := compL2_map encx p ys g q e xs fun x hx => h x (List.mem_cons_of_mem _ hx)
    rw [List.map_cons]
    unfold compL2
    rw [h1, Option.bind_some, h2, Option.bind_some]
    cases hp : p x with
    | true =>
      obtain ⟨ds, e3, e4, k1, k2, k3⟩ := h3 hp
      rw [if_pos rfl, k1, Option.bind_some, k2, Option.bind_some, k3, ih, List.filter_cons_of_pos hp, List.flatMap_cons]; rfl
    | false =>
      rw [if_neg Bool.false_ne_true, h4 hp, ih, List.filter_cons_of_neg (by rw [hp]; exact Bool.false_ne_true)]
theorem comp2_ok {gl : LF} {t : GF} {c : BF} {g1 : LF} {t1 : GF} {c1 : BF} {f : EF} {vs vs1 : List Nat} {e : Ev} {ds rs : List D} (h1 : gl e = some (ds, e)) (hno : (vs.all fun i => !isOw e[i]?) = true) (h2 : compL2 t c g1 t1 c1 f vs vs1 ds (wipeE e vs) = some (rs, wipeE e vs)) (hl : rs.length ≤ 1000000) (hb : backE e (wipeE e vs) vs = e) :
    oComp2 gl t c g1 t1 c1 f vs vs1 e = some (.li rs, e) := by
  unfold oComp2
  rw [h1, Option.bind_some, if_pos hno]
  show ((compL2 t c g1 t1 c1 f vs vs1 ds (wipeE e vs)).bind _) = _
  rw [h2, Option.bind_some, if_pos (small1Me hl)]
  show some (Sl.li rs, backE e (wipeE e vs) vs) = _
  rw [hb]
/-! slots by number, the tape in slot 0 -/
structure T0 (n : Nat) (e : Ev) (o : OT) : Prop where
  len : e.length = n
  ow : e[0]? = some (.ow o)
  no : ∀ i, i ≠ 0 → isOw e[i]? = false
section
variable {n : Nat} {e : Ev} {o o' : OT}
theorem T0.set (t : T0 n e o) {i : Nat} {s : Sl} (hi : i ≠ 0) (hs : isOw (some s) = false) : T0 n (e.set i s) o := by
  refine ⟨(List.length_set ..).trans t.len, by rw [List.getElem?_set_ne hi]; exact t.ow, fun j hj => ?_⟩
  by_cases e1 : i = j
  · subst e1
    by_cases hl : i < e.length
    · rw [List.getElem?_set_self hl]; exact hs
    · rw [List.getElem?_eq_none (by rw [List.length_set]; omega)]; rfl
  · rw [List.getElem?_set_ne e1]; exact t.no j hj
theorem T0.box (t : T0 n e o) (hn : 0 < n) : T0 n (e.set 0 (.ow o')) o' :=
  ⟨(List.length_set ..).trans t.len, List.getElem?_set_self (by rw [t.len]; exact hn), fun j hj => by rw [List.getElem?_set_ne (Ne.symm hj)]; exact t.no j hj⟩
theorem T0.gN (t : T0 n e o) {v : Nat} (d : D) (hv : v ≠ 0) : gNm v d e = some (e.set v (.va d)) := by
  unfold gNm
  rw [t.no v hv]; rfl
theorem T0.self (t : T0 n e o) (hn : 0 < n) : e.set 0 (.ow o) = e := by
  have h : 0 < e.length := by rw [t.len]; exact hn
  have := set_self h
  rw [t.ow] at this
  exact this
end
end Fl

set_option Elab.async false
set_option linter.all false
set_option maxRecDepth 100000
set_option maxHeartbeats 1000000
set_option autoImplicit false
/-! FnTn: tuples whose object is known (Sl.tn): made by tuple(..), their index and count; index and count of own lists. -/
namespace Fl
open PySem PySem.Spec PyProof.Rows L2
/-! ### methods on flat items -/
def rIdxF (K : Frg) : V → List V → Hp → VK → Prop := fun x xs H Q => ∃ p vs y j, x = .ref p ∧ xs = [y] ∧ (SqL K H p vs) ∧ flatV y = true ∧ vs.all flatV = true ∧ (∃ w, vs[j]? = some w ∧ eqV w y = true) ∧ (∀ (m : Nat) w, m < j → vs[m]? = some w → eqV w y = false) ∧ Q (.int (j : Nat)) H
def rIdxT (K : Frg) : V → List V → Hp → VK → Prop := fun x xs H Q => ∃ p vs y j, x = .ref p ∧ xs = [y] ∧ (SqT K H p vs) ∧ flatV y = true ∧ vs.all flatV = true ∧ (∃ w, vs[j]? = some w ∧ eqV w y = true) ∧ (∀ (m : Nat) w, m < j → vs[m]? = some w → eqV w y = false) ∧ Q (.int (j : Nat)) H
def rCntF (K : Frg) : V → List V → Hp → VK → Prop := fun x xs H Q => ∃ p vs y, x = .ref p ∧ xs = [y] ∧ (SqL K H p vs) ∧ flatV y = true ∧ vs.all flatV = true ∧ Q (.int (vs.countP (eqV · y) : Nat)) H
def rCntT (K : Frg) : V → List V → Hp → VK → Prop := fun x xs H Q => ∃ p vs y, x = .ref p ∧ xs = [y] ∧ (SqT K H p vs) ∧ flatV y = true ∧ vs.all flatV = true ∧ Q (.int (vs.countP (eqV · y) : Nat)) H
theorem eqU_at {y : V} {vs : List V} {its : List Value} (r : Vals vs its) (f : vs.all flatV = true) (m : Nat) (hm : m < its.toArray.size) : ∃ w, vs[m]? = some w ∧ eqU y its.toArray[m] = eqV w y := by
  have hm' : m < its.length := by simpa using hm
  have hmv : m < vs.length := by rw [← r.length] at hm'; exact hm'
  obtain ⟨w, hw, rw'⟩ := r.get (i := m) (x := vs[m]) (by simp [hmv])
  refine ⟨vs[m], List.getElem?_eq_getElem hmv, ?_⟩
  have e : its.toArray[m] = w := by
    have := (List.getElem?_eq_some_iff.mp hw).2
    rw [← this]
    simp
  rw [e]
  exact eqU_of rw' (List.all_eq_true.mp f _ (List.getElem_mem hmv))
theorem countP_eqU {y : V} : ∀ {vs : List V} {its : List Value}, Vals vs its → vs.all flatV = true → its.countP (eqU y) = vs.countP (eqV · y)
  | _, _, .nil, _ => rfl
  | v :: vs, u :: us, .cons r t, f => by
    rw [List.all_cons, Bool.and_eq_true] at f
    rw [List.countP_cons, List.countP_cons, countP_eqU t f.2, eqU_of r f.1]
section
variable {X : Cx}
theorem mt_idxT : MtR X "tuple.index" (rIdxT X.K) := by
  intro pins s σ H x xs v us Q I rx rs h
  obtain ⟨p, vs, y, j, rfl, rfl, hq, fy, fs, ⟨w, hw, hwy⟩, hno, q⟩ := h
  cases rx
  obtain ⟨u, rfl, ru⟩ := rs.one
  obtain ⟨its, r, pl, hz⟩ := I.tuple hq
  obtain ⟨⟨cls, dd, dt, sl⟩, ho, hc, n, hd⟩ := pl
  simp only at hc hd
  subst hc
  subst hd
  have hl : its.toArray.size = vs.length := by rw [List.size_toArray, ← r.length]
  have hj : j < its.toArray.size := by rw [hl]; exact (List.getElem?_eq_some_iff.mp hw).1
  refine call_meets PySem.F.slot_tuple_index ⟨_, ho, rfl⟩ PySem.F.entry_tuple_index (PySem.F.args_tuple_index_2 _ _) (TI.tuple_indexAt p its.toArray n dd sl u (eqU y) j hj ?_ ?_)
    ⟨ho, fun w hw => mem_eqAt ru fy r fs w (by simpa using hw), ⟨.int (j : Nat), H, I.tok _, ⟨_, rfl⟩, q⟩⟩
  · obtain ⟨w', h1, h2⟩ := eqU_at (y := y) r fs j hj
    rw [hw] at h1
    cases h1
    rw [h2]; exact hwy
  · intro m hm hmj
    obtain ⟨w', h1, h2⟩ := eqU_at (y := y) r fs m hm
    rw [h2]
    exact hno m w' hmj h1
theorem mt_cntT : MtR X "tuple.count" (rCntT X.K) := by
  intro pins s σ H x xs v us Q I rx rs h
  obtain ⟨p, vs, y, rfl, rfl, hq, fy, fs, q⟩ := h
  cases rx
  obtain ⟨u, rfl, ru⟩ := rs.one
  obtain ⟨its, r, pl, hz⟩ := I.tuple hq
  obtain ⟨⟨cls, dd, dt, sl⟩, ho, hc, n, hd⟩ := pl
  simp only at hc hd
  subst hc
  subst hd
  refine call_meets PySem.F.slot_tuple_count ⟨_, ho, rfl⟩ PySem.F.entry_tuple_count (PySem.F.args_tuple_count_2 _ _) (SeqAt.tuple_countAt p its.toArray n dd sl u (eqU y))
    ⟨ho, fun w hw => mem_eqAt ru fy r fs w (by simpa using hw), ?_⟩
  have ec : its.toArray.toList.countP (eqU y) = vs.countP (eqV · y) := countP_eqU r fs
  refine ⟨.int (vs.countP (eqV · y) : Nat), H, I.tok _, ⟨s.toks, ?_⟩, q⟩
  show Value.int ((its.toArray.toList.countP (eqU y) : Nat) : Int) s.toks = _
  rw [ec]
theorem mt_cntF : MtR X "list.count" (rCntF X.K) := by
  intro pins s σ H x xs v us Q I rx rs h
  obtain ⟨p, vs, y, rfl, rfl, hq, fy, fs, q⟩ := h
  cases rx
  obtain ⟨u, rfl, ru⟩ := rs.one
  obtain ⟨its, r, ⟨⟨cls, dd, data, sl⟩, n, ho, hc, hdn, hd⟩, hlen⟩ := I.list hq
  simp only at hc hd
  subst hc hd
  refine call_meets PySem.F.slot_list_count ⟨_, ho, rfl⟩ PySem.F.entry_list_count (PySem.F.args_list_count_2 _ _) (SeqAt.list_countAt p its.toArray n dd sl u (eqU y))
    ⟨ho, fun w hw => mem_eqAt ru fy r fs w (by simpa using hw), ?_⟩
  have ec : its.toArray.toList.countP (eqU y) = vs.countP (eqV · y) := countP_eqU r fs
  refine ⟨.int (vs.countP (eqV · y) : Nat), H, I.tok _, ⟨s.toks, ?_⟩, q⟩
  show Value.int ((its.toArray.toList.countP (eqU y) : Nat) : Int) s.toks = _
  rw [ec]
theorem mt_idxF : MtR X "list.index" (rIdxF X.K) := by
  intro pins s σ H x xs v us Q I rx rs h
  obtain ⟨p, vs, y, j, rfl, rfl, hq, fy, fs, ⟨w, hw, hwy⟩, hno, q⟩ := h
  cases rx
  obtain ⟨u, rfl, ru⟩ := rs.one
  obtain ⟨its, r, ⟨⟨cls, dd, data, sl⟩, n, ho, hc, hdn, hd⟩, hlen⟩ := I.list hq
  simp only at hc hd
  subst hc hd
  have hl : its.toArray.size = vs.length := by rw [List.size_toArray, ← r.length]
  have hj : j < its.toArray.size := by rw [hl]; exact (List.getElem?_eq_some_iff.mp hw).1
  have hsl := sizeLine_eq
  refine call_meets PySem.F.slot_list_index ⟨_, ho, rfl⟩ PySem.F.entry_list_index (PySem.F.args_list_index_2 _ _) (SeqAt.list_indexAt p its.toArray n dd sl u (eqU y) j hj (by omega) ?_ ?_)
    ⟨ho, fun w hw => mem_eqAt ru fy r fs w (by simpa using hw), ⟨.int (j : Nat), H, I.tok _, ⟨_, rfl⟩, q⟩⟩
  · obtain ⟨w', h1, h2⟩ := eqU_at (y := y) r fs j hj
    rw [hw] at h1
    cases h1
    rw [h2]; exact hwy
  · intro m hm hmj
    obtain ⟨w', h1, h2⟩ := eqU_at (y := y) r fs m hm
    rw [h2]
    exact hno m w' hmj h1
end
/-! ### by plain values -/
def dIndex (ds : List D) (d : D) : Option D := if flatD d = true ∧ ds.all flatD = true then (ds.findIdx? fun z => PyData.eqv z d).map fun j => .int (j : Nat) else none
def dCount (ds : List D) (d : D) : Option D := if flatD d = true ∧ ds.all flatD = true then some (.int (ds.countP fun z => PyData.eqv z d : Nat)) else none
theorem countD {K : Frg} {G : Hp} {y : V} {d : D} (h : Dv K G y d) (f : flatD d = true) : ∀ {vs : List V} {ds : List D}, DvAll K G vs ds → ds.all flatD = true → vs.countP (eqV · y) = ds.countP fun z => PyData.eqv z d
  | _, [], k, _ => by cases k; rfl
  | _, d' :: ds, k, f2 => by
    cases k with
    | cons h1 h2 =>
      rw [List.all_cons, Bool.and_eq_true] at f2
      rw [List.countP_cons, List.countP_cons, countD h f h2 f2.2, eqV_iff h1 h f2.1 f]
theorem idxD {K : Frg} {G : Hp} {y : V} {d : D} (h : Dv K G y d) (f : flatD d = true) {vs : List V} {ds : List D} (k : DvAll K G vs ds) (f2 : ds.all flatD = true) {j : Nat} (e : (ds.findIdx? fun z => PyData.eqv z d) = some j) :
    (∃ w, vs[j]? = some w ∧ eqV w y = true) ∧ ∀ (m : Nat) w, m < j → vs[m]? = some w → eqV w y = false := by
  obtain ⟨hj, hk, hno⟩ := List.findIdx?_eq_some_iff_getElem.mp e
  have fl : ∀ (m : Nat) (hm : m < ds.length), flatD ds[m] = true := fun m hm => List.all_eq_true.mp f2 _ (List.getElem_mem hm)
  constructor
  · obtain ⟨w, h1, h2⟩ := dvAll_get k (List.getElem?_eq_getElem hj)
    exact ⟨w, h1, by rw [eqV_iff h2 h (fl j hj) f]; exact hk⟩
  · intro m w hm hw
    obtain ⟨z, h1, h2⟩ := dvAll_getV k hw
    have hml : m < ds.length := by omega
    rw [List.getElem?_eq_getElem hml] at h1
    cases h1
    rw [eqV_iff h2 h (fl m hml) f]
    have := hno m hm
    simpa using this
def gIndex (xs : List D) (d : D) : Option (D × List D) := (dIndex xs d).map fun r => (r, xs)
def gCount (xs : List D) (d : D) : Option (D × List D) := (dCount xs d).map fun r => (r, xs)
theorem updSelf {H : Hp} {a : Addr} {o : HO} (h : H a = some o) : upd H a o = H := by
  funext b
  by_cases e : b = a
  · subst e; rw [upd_same, h]
  · rw [upd_ne e]
theorem mt1_count {K : Frg} : Mt1 K (rCntF K) gCount := fun a vs xs d vd rd ys G H Q e s ha hx hd q => by
  obtain ⟨r, h1, h2⟩ := Option.map_eq_some_iff.mp e
  cases h2
  unfold dCount at h1
  split at h1
  · rename_i hc
    cases h1
    refine ⟨a, vs, vd, rfl, rfl, SqL.of ha, by rw [flat_iff hd]; exact hc.1, by rw [allFlat hx]; exact hc.2, ?_⟩
    rw [countD hd hc.1 hx hc.2]
    have := q (.int (xs.countP fun z => PyData.eqv z d : Nat)) vs (.int _) hx
    rw [updSelf ha] at this
    exact this
  · cases h1
theorem mt1_index {K : Frg} : Mt1 K (rIdxF K) gIndex := fun a vs xs d vd rd ys G H Q e s ha hx hd q => by
  obtain ⟨r, h1, h2⟩ := Option.map_eq_some_iff.mp e
  cases h2
  unfold dIndex at h1
  split at h1
  · rename_i hc
    obtain ⟨j, h3, h4⟩ := Option.map_eq_some_iff.mp h1
    cases h4
    obtain ⟨k1, k2⟩ := idxD hd hc.1 hx hc.2 h3
    refine ⟨a, vs, vd, j, rfl, rfl, SqL.of ha, by rw [flat_iff hd]; exact hc.1, by rw [allFlat hx]; exact hc.2, k1, k2, ?_⟩
    have := q (.int (j : Nat)) vs (.int _) hx
    rw [updSelf ha] at this
    exact this
  · cases h1
section
variable {X : Cx} {pos : Pos}
theorem fcnt (i : Nat) {x : Str} {p apos : Pos} {a : Expr} {f : EF} (ha : FE X a f) (hN : X.N[i]? = some x := by rfl) (hv : Vis X.env.scope x := by first | exact Or.inl rfl | exact Or.inr (Or.inl rfl) | exact Or.inr (Or.inr rfl)) (hbase : attributeBase (.Name x p) "count" X.env (eval (.Name x p) X.env) = eval (.Name x p) X.env := by rfl)
    (hfew : ((backTo pos (starEach [a] X.env)).all (fun x => !x.1) && (backToKw pos (keywordEach [] X.env)).all (fun x => x.1.isSome)
      && decide (([a]).length + ([] : List Keyword).length + (if ([] : List Keyword).isEmpty then 0 else 1) < 30)) = true := by rfl) (hline : (apos.endLine == pos.line) = true := by rfl)
    (he : starEach [a] X.env = (false, eval a X.env) :: starEach [] X.env := by rfl) (hpl : (backTo pos (starEach [] X.env)).any (·.1) = false := by rfl) (hd : (x == ("__debug__" : Str)) = false := by decide) (hcd : (x == ("__classdict__" : Str)) = false := by decide) : FE X (.Call (.Attribute (.Name x p) "count" apos) [a] [] pos) (eMt1 gCount i f) :=
  fe_mt1 PySem.F.slot_list_count PySem.F.type_list_count mt_cntF mt1_count hN hv ha hbase hfew hline he hpl hd hcd
theorem fidx (i : Nat) {x : Str} {p apos : Pos} {a : Expr} {f : EF} (ha : FE X a f) (hN : X.N[i]? = some x := by rfl) (hv : Vis X.env.scope x := by first | exact Or.inl rfl | exact Or.inr (Or.inl rfl) | exact Or.inr (Or.inr rfl)) (hbase : attributeBase (.Name x p) "index" X.env (eval (.Name x p) X.env) = eval (.Name x p) X.env := by rfl)
    (hfew : ((backTo pos (starEach [a] X.env)).all (fun x => !x.1) && (backToKw pos (keywordEach [] X.env)).all (fun x => x.1.isSome)
      && decide (([a]).length + ([] : List Keyword).length + (if ([] : List Keyword).isEmpty then 0 else 1) < 30)) = true := by rfl) (hline : (apos.endLine == pos.line) = true := by rfl)
    (he : starEach [a] X.env = (false, eval a X.env) :: starEach [] X.env := by rfl) (hpl : (backTo pos (starEach [] X.env)).any (·.1) = false := by rfl) (hd : (x == ("__debug__" : Str)) = false := by decide) (hcd : (x == ("__classdict__" : Str)) = false := by decide) : FE X (.Call (.Attribute (.Name x p) "index" apos) [a] [] pos) (eMt1 gIndex i f) :=
  fe_mt1 PySem.F.slot_list_index PySem.F.type_list_index mt_idxF mt1_index hN hv ha hbase hfew hline he hpl hd hcd
end
/-! ### the call of a method of a tuple whose object is known -/
def tyT (x : V) (H : Hp) : Prop := ∃ (p : Addr) (o : Obj) (vs : List V), x = .ref p ∧ H p = some (.frz o (.tup vs)) ∧ o.dict = none
theorem tyT_is {X : Cx} {pins : List (Addr × Obj)} {σ : L2.St} {H : Hp} {s : Shared} {x : V} {v : Value} (I : Inv X pins σ H s) (r : RelV x v) (ty : tyT x H) :
    s.TypeIs v "tuple" ∧ ∀ a, v = .ref a → ∃ ob, s.heap.get? a = some ob ∧ ob.dict = none := by
  obtain ⟨p, o, vs, rfl, hq, hd⟩ := ty
  cases r
  obtain ⟨e, _, its, _, o', e', c, _⟩ := I.hok p _ hq
  rw [e] at e'
  cases e'
  exact ⟨⟨o, e, c⟩, fun a z => by cases z; exact ⟨o, e, hd⟩⟩
def tBMT (r : V → List V → Hp → VK → Prop) (to : TE) (t : TA) : TE := fun σ H Q => to σ H fun x H1 => tyT x H1 ∧ t σ H1 fun xs H2 => r x xs H2 Q
theorem pe_bmT {X : Cx} {o e : Expr} {es : List Expr} {to : TE} {t : TA} {name : Str} {apos cpos : Pos} {id : String} {r : V → List V → Hp → VK → Prop} (slot : Slot "tuple" name id) (hty : typeOf (.builtin id) = pure (.type "method_descriptor")) (hm : MtR X id r) (ho : PE X o to) (ha : PA X (e :: es) t)
    (hbase : attributeBase o name X.env (eval o X.env) = eval o X.env := by rfl)
    (hfew : ((backTo cpos (starEach (e :: es) X.env)).all (fun x => !x.1) && (backToKw cpos (keywordEach [] X.env)).all (fun x => x.1.isSome)
      && decide ((e :: es).length + ([] : List Keyword).length + (if ([] : List Keyword).isEmpty then 0 else 1) < 30)) = true := by rfl)
    (hline : (apos.endLine == cpos.line) = true := by rfl) (hs : starEach (e :: es) X.env = (false, eval e X.env) :: starEach es X.env := by rfl) (hplain : (backTo cpos (starEach es X.env)).any (·.1) = false := by rfl) :
    PE X (.Call (.Attribute o name apos) (e :: es) [] cpos) (tBMT r to t) := by
  refine ⟨fun pins s σ H Q I h => ?_⟩
  refine wpAny_Call_method_late hbase hfew hline rfl (thn (ho.run pins s σ H _ I h) fun v s1 ⟨x, H1, I1, r1, ty, q1⟩ => ?_)
  obtain ⟨h1, h2⟩ := tyT_is I1 r1 ty
  refine ⟨"tuple", id, PySem.F.plainAttrs_tuple, slot, hty, h1, h2, ?_⟩
  have hA := ha.run cpos pins s1 σ H1 _ I1 q1
  rw [hs] at hA ⊢
  refine Calls.callWith_builtin (by show (false || (backTo cpos (starEach es X.env)).any (·.1)) = false; rw [hplain] <;> rfl) (Calls.evalArgs_plain ?_)
  exact thn hA fun us s2 ⟨vs, H2, I2, r2, q2⟩ => hm pins s2 σ H2 x vs v us Q I2 r1 r2 q2
def tnOf : Option Sl → Option (List D)
  | some (.tn ds) => some ds
  | _ => none
theorem tnOf_some {o : Option Sl} {ds : List D} (h : tnOf o = some ds) : o = some (.tn ds) := by
  unfold tnOf at h
  split at h
  · cases h; rfl
  · cases h
/-- name.m(e) of a tuple whose object is known -/
def eMtT (g : List D → D → Option D) (i : Nat) (f : EF) : EF := fun e => (tnOf e[i]?).bind fun _ => (f e).bind fun p => (tnOf p.2[i]?).bind fun xs => (g xs p.1).map fun r => (r, p.2)
def MtT (K : Frg) (r : V → List V → Hp → VK → Prop) (g : List D → D → Option D) : Prop := ∀ a vs xs d vd rd G H (Q : VK), g xs d = some rd → Same G H → SqT K H a vs → DvAll K G vs xs → Dv K G vd d →
  (∀ rv, Dv K G rv rd → Q rv H) → r (.ref a) [vd] H Q
section
variable {X : Cx} {pos : Pos}
theorem fe_mtT {i : Nat} {x : Str} {p apos : Pos} {name : Str} {id : String} {r : V → List V → Hp → VK → Prop} {g : List D → D → Option D} {a : Expr} {f : EF} (slot : Slot "tuple" name id) (hty : typeOf (.builtin id) = pure (.type "method_descriptor")) (hm : MtR X id r) (hg : MtT X.K r g)
    (hN : X.N[i]? = some x) (hv : Vis X.env.scope x) (ha : FE X a f) (hbase : attributeBase (.Name x p) name X.env (eval (.Name x p) X.env) = eval (.Name x p) X.env := by rfl) (hfew : ((backTo pos (starEach [a] X.env)).all (fun x => !x.1) && (backToKw pos (keywordEach [] X.env)).all (fun x => x.1.isSome)
      && decide (([a]).length + ([] : List Keyword).length + (if ([] : List Keyword).isEmpty then 0 else 1) < 30)) = true := by rfl) (hline : (apos.endLine == pos.line) = true := by rfl)
    (he : starEach [a] X.env = (false, eval a X.env) :: starEach [] X.env := by rfl) (hpl : (backTo pos (starEach [] X.env)).any (·.1) = false := by rfl) (hd : (x == ("__debug__" : Str)) = false := by decide) (hcd : (x == ("__classdict__" : Str)) = false := by decide) : FE X (.Call (.Attribute (.Name x p) name apos) [a] [] pos) (eMtT g i f) :=
  ⟨PE.imp (pe_bmT slot hty hm (pe_var hN hv hd hcd) (pa_cons ha.pe pa_nil he) hbase hfew hline he hpl) fun σ H Q ⟨z, d, e', rp, hs, hH, hf, q⟩ => by
    subst hs hH
    obtain ⟨xs0, h0, hf⟩ := Option.bind_eq_some_iff.mp hf
    obtain ⟨⟨xd, e1⟩, h1, hf⟩ := Option.bind_eq_some_iff.mp hf
    obtain ⟨xs, h2, hf⟩ := Option.bind_eq_some_iff.mp hf
    obtain ⟨rd, h3, hf⟩ := Option.map_eq_some_iff.mp hf
    cases hf
    obtain ⟨b, vs0, o, k1, k2, k3, k4⟩ := rp.tnv (tnOf_some h0)
    refine ⟨.ref b, k1, ⟨b, o, vs0, rfl, rp.same _ _ k2, k3⟩, z, xd, e1, rp, rfl, rfl, h1, fun v y m ry sy ey pv => ?_⟩
    have hli : y.e[i]? = some (.tn xs) := by rw [ey]; exact tnOf_some h2
    obtain ⟨b', vs, o', l1, l2, l3, l4⟩ := ry.tnv hli
    rw [sy, k1] at l1
    cases l1
    exact hg b vs xs xd v _ y.G y.H Q h3 ry.same (.inl (.inr ⟨o', ry.same _ _ l2⟩)) l4 pv fun rv p1 => q rv y m ry sy ey p1⟩
theorem mtT_count {K : Frg} : MtT K (rCntT K) dCount := fun a vs xs d vd rd G H Q h1 s ha hx hd q => by
  unfold dCount at h1
  split at h1
  · rename_i hc
    cases h1
    refine ⟨a, vs, vd, rfl, rfl, ha, by rw [flat_iff hd]; exact hc.1, by rw [allFlat hx]; exact hc.2, ?_⟩
    rw [countD hd hc.1 hx hc.2]
    exact q _ (.int _)
  · cases h1
theorem mtT_index {K : Frg} : MtT K (rIdxT K) dIndex := fun a vs xs d vd rd G H Q h1 s ha hx hd q => by
  unfold dIndex at h1
  split at h1
  · rename_i hc
    obtain ⟨j, h3, h4⟩ := Option.map_eq_some_iff.mp h1
    cases h4
    obtain ⟨k1, k2⟩ := idxD hd hc.1 hx hc.2 h3
    exact ⟨a, vs, vd, j, rfl, rfl, ha, by rw [flat_iff hd]; exact hc.1, by rw [allFlat hx]; exact hc.2, k1, k2, q _ (.int _)⟩
  · cases h1
theorem ftcnt (i : Nat) {x : Str} {p apos : Pos} {a : Expr} {f : EF} (ha : FE X a f) (hN : X.N[i]? = some x := by rfl) (hv : Vis X.env.scope x := by first | exact Or.inl rfl | exact Or.inr (Or.inl rfl) | exact Or.inr (Or.inr rfl)) (hbase : attributeBase (.Name x p) "count" X.env (eval (.Name x p) X.env) = eval (.Name x p) X.env := by rfl)
    (hfew : ((backTo pos (starEach [a] X.env)).all (fun x => !x.1) && (backToKw pos (keywordEach [] X.env)).all (fun x => x.1.isSome)
      && decide (([a]).length + ([] : List Keyword).length + (if ([] : List Keyword).isEmpty then 0 else 1) < 30)) = true := by rfl) (hline : (apos.endLine == pos.line) = true := by rfl)
    (he : starEach [a] X.env = (false, eval a X.env) :: starEach [] X.env := by rfl) (hpl : (backTo pos (starEach [] X.env)).any (·.1) = false := by rfl) (hd : (x == ("__debug__" : Str)) = false := by decide) (hcd : (x == ("__classdict__" : Str)) = false := by decide) : FE X (.Call (.Attribute (.Name x p) "count" apos) [a] [] pos) (eMtT dCount i f) :=
  fe_mtT PySem.F.slot_tuple_count PySem.F.type_tuple_count mt_cntT mtT_count hN hv ha hbase hfew hline he hpl hd hcd
theorem ftidx (i : Nat) {x : Str} {p apos : Pos} {a : Expr} {f : EF} (ha : FE X a f) (hN : X.N[i]? = some x := by rfl) (hv : Vis X.env.scope x := by first | exact Or.inl rfl | exact Or.inr (Or.inl rfl) | exact Or.inr (Or.inr rfl)) (hbase : attributeBase (.Name x p) "index" X.env (eval (.Name x p) X.env) = eval (.Name x p) X.env := by rfl)
    (hfew : ((backTo pos (starEach [a] X.env)).all (fun x => !x.1) && (backToKw pos (keywordEach [] X.env)).all (fun x => x.1.isSome)
      && decide (([a]).length + ([] : List Keyword).length + (if ([] : List Keyword).isEmpty then 0 else 1) < 30)) = true := by rfl) (hline : (apos.endLine == pos.line) = true := by rfl)
    (he : starEach [a] X.env = (false, eval a X.env) :: starEach [] X.env := by rfl) (hpl : (backTo pos (starEach [] X.env)).any (·.1) = false := by rfl) (hd : (x == ("__debug__" : Str)) = false := by decide) (hcd : (x == ("__classdict__" : Str)) = false := by decide) : FE X (.Call (.Attribute (.Name x p) "index" apos) [a] [] pos) (eMtT dIndex i f) :=
  fe_mtT PySem.F.slot_tuple_index PySem.F.type_tuple_index mt_idxT mtT_index hN hv ha hbase hfew hline he hpl hd hcd
/-! ### tuple(a list): its object is known -/
theorem call_tupleN : CallR X (.type "tuple") (fun xs H Q => ∃ p ys, xs = [.ref p] ∧ SqL X.K H p ys ∧ ∀ l o, H l = none → o.dict = none → Q (.ref l) (upd H l (.frz o (.tup ys)))) := by
  intro pins s σ H xs us Q I r h
  obtain ⟨p, ys, rfl, hq, q⟩ := h
  obtain ⟨u, rfl, rx⟩ := Vals.one r
  cases rx
  obtain ⟨its, r', pl, hz⟩ := I.list hq
  have hlen := r'.length
  refine call_tuple_list pl.isList (fun h' kp => ?_) (by simp only [List.size_toArray] <;> omega)
  have I1 : Inv X pins σ H { s with heap := h' } := I.kept (t' := s.toks) kp
  have I2 : Inv X pins σ (upd H h'.objs.size (.frz { cls := .type "tuple", data := .seq its.toArray } (.tup ys))) { s with heap := h'.push { cls := .type "tuple", data := .seq its.toArray } } :=
    I1.laid (t' := s.toks) (fun b o e => Heap.get?_push_of_some _ e) (Nat.le_refl _) (show ObjOk X.prog X.w _ _ _ (.frz _ (.tup ys)) from ⟨Heap.get?_push_size _ rfl, hz, its, r', IsTup.new _ _⟩)
  exact ⟨.ref h'.objs.size, _, I2, rfl, q _ _ (I1.hok.fresh (Nat.le_refl _)) rfl⟩
/-- what is made: a tuple whose object is known -/
def oTn (f : EF) : OF := fun e => (f e).bind fun p => match p.1 with
  | .list xs => some (.tn xs, p.2)
  | _ => none
theorem fo_tn {p : Pos} {a : Expr} {f : EF} (ha : FB X a f) (hm : X.mg "tuple" = none) (hg : Gl X "tuple" := by rfl) (he : starEach [a] X.env = (false, eval a X.env) :: starEach [] X.env := by rfl) : FO X (.Call (.Name "tuple" p) [a] [] pos) (oTn f) :=
  ⟨PE.imp (pe_callTy call_tupleN hg hm (by decide +kernel) (pa_cons ha.pb pa_nil he) (by decide) (by decide) he rfl) fun σ H Q ⟨z, r, e', rp, hs, hH, hf, q⟩ => by
    subst hs hH
    obtain ⟨⟨d, e1⟩, h1, hf⟩ := Option.bind_eq_some_iff.mp hf
    split at hf
    · rename_i xs hd
      cases hf
      refine ⟨z, d, e1, rp, rfl, rfl, h1, fun v y m ry sy ey pv => ?_⟩
      simp only at hd
      subst hd
      obtain ⟨b, vs, rfl, k1, k2⟩ := vwLst ry.same pv
      refine ⟨b, vs, rfl, SqL.of k1, fun l o hn ho => ?_⟩
      obtain ⟨r3, m3⟩ := ry.add (o := .frz o (.tup vs)) hn
      exact q (.ref l) _ [] (m.trans m3) r3 sy ey ⟨rfl, l, vs, o, rfl, upd_same, ho, dvMonoAll (sameUpd (ry.same.free hn)) _ _ k2⟩ fun _ h => nomatch h
    · cases hf⟩
end
/-! ### two lists added: a list of one's own -/
section
variable {X : Cx} {pos : Pos}
def oCat (fa fb : EF) : OF := fun e => (fa e).bind fun p => (fb p.2).bind fun q => match p.1, q.1 with
  | .list xs, .list ys => if xs.length + ys.length ≤ sizeLine then some (.li (xs ++ ys), q.2) else none
  | _, _ => none
theorem fo_cat {a b : Expr} {fa fb : EF} (ha : FE X a fa) (hb : FB X b fb) : FO X (.BinOp a .Add b pos) (oCat fa fb) := ⟨PE.imp (pe_op op_cat ha.pe hb.pb) fun σ H Q ⟨z, r, e', rp, hs, hH, hf, q⟩ => by
  subst hs hH
  obtain ⟨⟨x, e1⟩, h1, hf⟩ := Option.bind_eq_some_iff.mp hf
  obtain ⟨⟨y, e2⟩, h2, hf⟩ := Option.bind_eq_some_iff.mp hf
  split at hf
  · rename_i xs ys hx hy
    obtain rfl : x = _ := hx
    obtain rfl : y = _ := hy
    split at hf
    · rename_i hc
      cases hf
      refine ⟨z, _, e1, rp, rfl, rfl, h1, fun vx z1 m1 r1 s1 ee1 p1 => ⟨z1, _, _, r1, s1, rfl, by rw [ee1]; exact h2, fun vy z2 m2 r2 s2 ee2 p2 => ?_⟩⟩
      cases p1 with
      | lst k1 k2 =>
      obtain ⟨b', ws, rfl, b1, b2⟩ := vwLst r2.same p2
      refine ⟨_, _, _, _, rfl, rfl, r2.same _ _ (m2.g _ _ k1), b1, by rw [dvAll_len k2, dvAll_len b2]; exact hc, fun p hn => ?_⟩
      obtain ⟨r3, m3, k, nf⟩ := r2.newLi hn (dvAll_app (dvMonoAll m2.g _ _ k2) b2)
      refine q _ _ [p] ((m1.trans m2).trans m3) r3 s2 ee2 k fun a ha => ?_
      rw [List.mem_singleton.mp ha]
      refine ⟨?_, nf⟩
      by_cases hz : z.H p = none
      · exact hz
      · exact absurd hn ((m1.trans m2).dom p hz)
    · cases hf
  · cases hf⟩
end
/-! evaluation -/
section
variable (e e1 : Ev) (i : Nat) (d : D) (f : EF) (o : OF) (s : Sl) (ds xs : List D)
def retOC : Sl × Ev → O := fun p => .rt p.1 p.2
theorem sRetO_ev : sRetO o e = (o e).map retOC := rfl
theorem retOC_ev : retOC (s, e1) = .rt s e1 := rfl
def oTnC : D × Ev → Option (Sl × Ev) := fun p => match p.1 with
  | .list xs => some (.tn xs, p.2)
  | _ => none
theorem oTn_ev : oTn f e = (f e).bind oTnC := rfl
theorem oTnC_ev : oTnC (.list xs, e1) = some (.tn xs, e1) := rfl
theorem tnOf_ev : tnOf (some (.tn xs)) = some xs := rfl
def mtTC3 (g : List D → D → Option D) (d : D) (e : Ev) : List D → Option (D × Ev) := fun xs => (g xs d).map (prE e)
def mtTC2 (g : List D → D → Option D) (i : Nat) : D × Ev → Option (D × Ev) := fun p => (tnOf p.2[i]?).bind (mtTC3 g p.1 p.2)
def mtTC (g : List D → D → Option D) (i : Nat) (f : EF) (e : Ev) : List D → Option (D × Ev) := fun _ => (f e).bind (mtTC2 g i)
theorem eMtT_ev (g : List D → D → Option D) : eMtT g i f e = (tnOf e[i]?).bind (mtTC g i f e) := rfl
theorem mtTC_ev (g : List D → D → Option D) : mtTC g i f e xs = (f e).bind (mtTC2 g i) := rfl
theorem mtTC2_ev (g : List D → D → Option D) : mtTC2 g i (d, e1) = (tnOf e1[i]?).bind (mtTC3 g d e1) := rfl
theorem mtTC3_ev (g : List D → D → Option D) : mtTC3 g d e xs = (g xs d).map (prE e) := rfl
def catC2 (x : D) : D × Ev → Option (Sl × Ev) := fun q => match x, q.1 with
  | .list xs, .list ys => if xs.length + ys.length ≤ sizeLine then some (.li (xs ++ ys), q.2) else none
  | _, _ => none
def catC (g : EF) : D × Ev → Option (Sl × Ev) := fun p => (g p.2).bind (catC2 p.1)
theorem oCat_ev (g : EF) : oCat f g e = (f e).bind (catC g) := rfl
theorem catC_ev (g : EF) : catC g (d, e1) = (g e1).bind (catC2 d) := rfl
theorem catC2_ev (ys : List D) (h : xs.length + ys.length ≤ sizeLine) : catC2 (.list xs) (.list ys, e1) = some (.li (xs ++ ys), e1) := if_pos h
theorem isOw_tn : isOw (some (.tn ds)) = false := rfl
end
end Fl

set_option linter.all false
set_option maxRecDepth 100000
set_option maxHeartbeats 1000000
set_option autoImplicit false
/-! FnStr: lists as streams, a door's queue. -/
namespace Fl
open PySem PySem.Spec PyProof.Rows L2
local macro_rules | `(tactic| walk_at "ev") => `(tactic| simp -implicitDefEqProofs only [prE_ev, eVar_ev, varC_ev, varC_tn, eNm_ev, nmC_va, nmC_tn, nmC_li, eC_ev, vw_va, vw_tn, vw_li, eOwn_ev, eIxO_ev, ixoC_ev, ixoC2_ev, ixoC3_ev, eOp_ev, opC_ev, opC2_ev, eUn_ev, unC_ev, bE_ev, bEC_ev, bB_ev, bBC_ev, bNot_ev, notC_ev, bAnd_ev, andC_t, andC_f, bOr_ev, orC_t, orC_f, bYes_ev, eAnd_ev, eandC_t, eandC_f, eOr_ev, eorC_t, eorC_f, eNot_ev, enotC_ev, eIf_ev, ifC_t, ifC_f, eTup_ev, tupC_ev, aNil_ev, aCons_ev, aconsC_ev, aconsC2_ev, oLst_ev, lstC_ev, oE_ev, oEC_ev, eFz_ev, fzC_tn, fzC_va, fzC_li, oUn_ev, ounC_ev, prL_ev, eSl_ev, slC_ev, slC2_ev, slC3_ev, eSlO_ev, sloC_ev, sloC2_ev, sloC3_ev, sloC4_ev, lEnum_ev, enC_tup, enC_lst, pNo_ev, pSo_ev, psoC_ev, lOf_ev, lofC_tup, lofC_lst, lRng1_ev, rng1C_ev, lRng2_ev, rng2C_ev, rng2C2_ev, oRep_ev, repC_ev, repC2_ev, oCall_ev, callC_0, callC_1, callC_2, callC_3, callC_4, callC_5, callC_rv, callC_rv4, arSl_vl, arSl_rf, callC2_ev, arBack_nil, arBack_vl, arBack_rf, rNil_ev, rVal_ev, rvC_ev, rvC2_ev, rRef_ev, rrC_ev, oComp_ev, compC2_ev, wipeE_nil, wipeE_cons, backE_nil, backE_cons, gNm_ev, gTupF_ev, gsNil_ev, gsCons_ev, sNext_ev, sBreak_ev, sCont_ev, sSeq_ev, seqC_nx, seqC_bk, seqC_ct, seqC_rt, sSet_ev, setC_ev, sPar_ev, parC_ev, setAll_nil, setAll_cons, olNil_ev, olCons_ev, olC_ev, olC2_ev, sAsg_ev, asgC_ev, sIf_ev, sifC_t, sifC_f, sFor_ev, forC_ev, sDrop_ev, dropC_ev, sRet_ev, retC_ev, sRetN_ev, retnC_va, retnC_li, liOf_li, eMt1_ev, mt1C_ev, mt1C2_ev, mt1C3_ev, mt1C4_ev, eMt0_ev, mt0C_ev, sSub_ev, subC_ev, subC1_ev, subC2_ev, subC3_ev, subC4_ev, sAug_ev, augC_ev, augC2_ev, augC3_ev, mkF_ev, mkC_rt, mkC_nx, keepE_nil, keepE_va, keepE_ow', dTru_bool, dTru_int, dTru_none, dTru_list, dTru_tuple, dAdd_int, dAdd_tup, dAdd_lst, dIadd_int, dSub_int, dMul_int, dDiv_int, dMod_int, dNeg_int, dMin2_int, dMax2_int, dLtA_int, dLe_int, dLt_int, dGt_int, dGe_int, shaped_int, shaped_bool, shaped_none, eqv_int, eqv_bool, dEq_int, dNe_int, dEq_bool, dIs_none, dIsN_none, isNon_none, isNon_int, isNon_tup, isNon_bool, dLen_tup, dLen_lst, dIx_tup, dIx_lst, at0, at1, at2, at3, gExtend_lst, dTuple_lst, dTuple_tup, dList_lst, dList_tup, dInt_int, dSl_tup, dSl_lst, isTup, isLst, isBool, isIntB, isStr, beq_self_eq_true, decide_true, decide_false, isi_tup, isi_lst, isi_int, isi_bool, isi_str, isi_none, sz0, sz1, sz2, sz3, sz4, sz5, sz6, sz7, sz8, sz9, sz10, sz11, sz12, isOw_no, isOw_va, isOw_li, isOw_di, isOw_dt, isOw_ow, isOw_none, isOw_sl,
  Option.bind_some, Option.map_some, Option.bind_none, Option.map_none, Option.getD_some, Option.getD_none, List.getElem?_cons_zero, List.getElem?_cons_succ, List.set_cons_zero, List.set_cons_succ, List.map_cons, List.map_nil, List.headD_cons, List.headD_nil, List.tail_cons, List.tail_nil, List.isEmpty_nil, List.isEmpty_cons, List.length_nil, List.length_cons, List.nil_append, List.cons_append, List.replicate_succ, List.replicate_zero, Nat.reduceSub, Nat.reduceAdd, Bool.false_eq_true, if_false, if_true, reduceIte, Bool.not_true, Bool.not_false, and_true, true_and, and_self, Int.toNat_natCast, Int.zero_add])
local macro_rules | `(tactic| walk_at "evh") => `(tactic| simp -implicitDefEqProofs only [prE_ev, eVar_ev, varC_ev, varC_tn, eNm_ev, nmC_va, nmC_tn, nmC_li, eC_ev, vw_va, vw_tn, vw_li, eOwn_ev, eIxO_ev, ixoC_ev, ixoC2_ev, ixoC3_ev, eOp_ev, opC_ev, opC2_ev, eUn_ev, unC_ev, bE_ev, bEC_ev, bB_ev, bBC_ev, bNot_ev, notC_ev, bAnd_ev, andC_t, andC_f, bOr_ev, orC_t, orC_f, bYes_ev, eAnd_ev, eandC_t, eandC_f, eOr_ev, eorC_t, eorC_f, eNot_ev, enotC_ev, eIf_ev, ifC_t, ifC_f, eTup_ev, tupC_ev, aNil_ev, aCons_ev, aconsC_ev, aconsC2_ev, oLst_ev, lstC_ev, oE_ev, oEC_ev, eFz_ev, fzC_tn, fzC_va, fzC_li, oUn_ev, ounC_ev, prL_ev, eSl_ev, slC_ev, slC2_ev, slC3_ev, eSlO_ev, sloC_ev, sloC2_ev, sloC3_ev, sloC4_ev, lEnum_ev, enC_tup, enC_lst, pNo_ev, pSo_ev, psoC_ev, lOf_ev, lofC_tup, lofC_lst, lRng1_ev, rng1C_ev, lRng2_ev, rng2C_ev, rng2C2_ev, oRep_ev, repC_ev, repC2_ev, oCall_ev, callC_0, callC_1, callC_2, callC_3, callC_4, callC_5, callC_rv, callC_rv4, arSl_vl, arSl_rf, callC2_ev, arBack_nil, arBack_vl, arBack_rf, rNil_ev, rVal_ev, rvC_ev, rvC2_ev, rRef_ev, rrC_ev, oComp_ev, compC2_ev, wipeE_nil, wipeE_cons, backE_nil, backE_cons, gNm_ev, gTupF_ev, gsNil_ev, gsCons_ev, sNext_ev, sBreak_ev, sCont_ev, sSeq_ev, seqC_nx, seqC_bk, seqC_ct, seqC_rt, sSet_ev, setC_ev, sPar_ev, parC_ev, setAll_nil, setAll_cons, olNil_ev, olCons_ev, olC_ev, olC2_ev, sAsg_ev, asgC_ev, sIf_ev, sifC_t, sifC_f, sFor_ev, forC_ev, sDrop_ev, dropC_ev, sRet_ev, retC_ev, sRetN_ev, retnC_va, retnC_li, liOf_li, eMt1_ev, mt1C_ev, mt1C2_ev, mt1C3_ev, mt1C4_ev, eMt0_ev, mt0C_ev, sSub_ev, subC_ev, subC1_ev, subC2_ev, subC3_ev, subC4_ev, sAug_ev, augC_ev, augC2_ev, augC3_ev, mkF_ev, mkC_rt, mkC_nx, keepE_nil, keepE_va, keepE_ow', dTru_bool, dTru_int, dTru_none, dTru_list, dTru_tuple, dAdd_int, dAdd_tup, dAdd_lst, dIadd_int, dSub_int, dMul_int, dDiv_int, dMod_int, dNeg_int, dMin2_int, dMax2_int, dLtA_int, dLe_int, dLt_int, dGt_int, dGe_int, shaped_int, shaped_bool, shaped_none, eqv_int, eqv_bool, dEq_int, dNe_int, dEq_bool, dIs_none, dIsN_none, isNon_none, isNon_int, isNon_tup, isNon_bool, dLen_tup, dLen_lst, dIx_tup, dIx_lst, at0, at1, at2, at3, gExtend_lst, dTuple_lst, dTuple_tup, dList_lst, dList_tup, dInt_int, dSl_tup, dSl_lst, isTup, isLst, isBool, isIntB, isStr, beq_self_eq_true, decide_true, decide_false, isi_tup, isi_lst, isi_int, isi_bool, isi_str, isi_none, sz0, sz1, sz2, sz3, sz4, sz5, sz6, sz7, sz8, sz9, sz10, sz11, sz12, isOw_no, isOw_va, isOw_li, isOw_di, isOw_dt, isOw_ow, isOw_none, isOw_sl,
  Option.bind_some, Option.map_some, Option.bind_none, Option.map_none, Option.getD_some, Option.getD_none, List.getElem?_cons_zero, List.getElem?_cons_succ, List.set_cons_zero, List.set_cons_succ, List.map_cons, List.map_nil, List.headD_cons, List.headD_nil, List.tail_cons, List.tail_nil, List.isEmpty_nil, List.isEmpty_cons, List.length_nil, List.length_cons, List.nil_append, List.cons_append, List.replicate_succ, List.replicate_zero, Nat.reduceSub, Nat.reduceAdd, Bool.false_eq_true, if_false, if_true, reduceIte, Bool.not_true, Bool.not_false, and_true, true_and, and_self, Int.toNat_natCast, Int.zero_add, *])
/-! ### streams -/
def st (xs : List Int) : Nat → Int := fun t => xs.getD t 0
theorem st_cat0 (xs : List Int) : st (xs ++ [0]) = st xs := by
  funext t
  unfold st
  rw [List.getD_eq_getElem?_getD, List.getD_eq_getElem?_getD]
  by_cases h : t < xs.length
  · rw [List.getElem?_append_left h]
  · rw [List.getElem?_append_right (by omega), List.getElem?_eq_none (l := xs) (by omega)]
    cases t - xs.length <;> rfl
theorem st_lt {xs : List Int} {t : Nat} (h : t < xs.length) : xs[t]? = some (st xs t) := by
  unfold st
  rw [List.getD_eq_getElem?_getD, List.getElem?_eq_getElem h]; rfl
theorem st_ge {xs : List Int} {t : Nat} (h : xs.length ≤ t) : st xs t = 0 := by
  unfold st
  rw [List.getD_eq_getElem?_getD, List.getElem?_eq_none h]; rfl
theorem st_last (xs : List Int) (y : Int) : st (xs ++ [y]) xs.length = y := by
  unfold st
  rw [List.getD_eq_getElem?_getD, List.getElem?_append_right (Nat.le_refl _), Nat.sub_self]; rfl
/-- no naught at the end -/
def Tr (xs : List Int) : Prop := ∀ ys, xs ≠ ys ++ [0]
theorem tr_len {xs : List Int} {N : Nat} (h : Tr xs) (z : ∀ t, N ≤ t → st xs t = 0) : xs.length ≤ N := by
  rcases nilCat xs with rfl | ⟨ys, y, rfl⟩
  · exact Nat.zero_le _
  · rcases Nat.lt_or_ge N (ys ++ [y]).length with hl | hl
    · have hl' : N ≤ ys.length := by rw [List.length_append, List.length_singleton] at hl; omega
      have := z _ hl'
      rw [st_last] at this
      exact absurd (by rw [this]) (h ys)
    · exact hl
theorem tr_ext {xs ys : List Int} (hx : Tr xs) (hy : Tr ys) (h : st xs = st ys) : xs = ys := by
  have e1 : xs.length ≤ ys.length := tr_len hx fun t ht => by rw [h]; exact st_ge ht
  have e2 : ys.length ≤ xs.length := tr_len hy fun t ht => by rw [← h]; exact st_ge ht
  apply List.ext_getElem?
  intro i
  by_cases hi : i < xs.length
  · rw [st_lt hi, st_lt (by omega), h]
  · rw [List.getElem?_eq_none (by omega), List.getElem?_eq_none (by omega)]
theorem trim_st {c : BF} {b : SF} (enc : List Int → Ev) (M : Nat) (h0 : c (enc []) = some (false, enc [])) (h1 : ∀ ys y, ys.length < M → c (enc (ys ++ [y])) = some (y == 0, enc (ys ++ [y])))
    (h2 : ∀ ys, ys.length < M → b (enc (ys ++ [0])) = some (.nx (enc ys))) : ∀ (n : Nat) (xs : List Int), xs.length = n → n ≤ M → ∃ ys, sWhile c b (enc xs) = some (.nx (enc ys)) ∧ st ys = st xs ∧ Tr ys ∧ ys.length ≤ xs.length := by
  intro n
  induction n with
  | zero =>
    intro xs hx _
    have : xs = [] := List.length_eq_zero_iff.mp hx
    subst this
    refine ⟨[], ?_, rfl, fun ys h => (by cases ys <;> cases h), Nat.le_refl _⟩
    rw [sWhile_eq, h0]; rfl
  | succ n ih =>
    intro xs hx hM
    rcases nilCat xs with rfl | ⟨ys, y, rfl⟩
    · cases hx
    · have hy : ys.length = n := by rw [List.length_append, List.length_singleton] at hx; omega
      by_cases e : y = 0
      · subst e
        obtain ⟨zs, k1, k2, k3, k4⟩ := ih ys hy (by omega)
        refine ⟨zs, ?_, by rw [k2, st_cat0], k3, by rw [List.length_append]; omega⟩
        rw [sWhile_eq, h1 _ _ (by omega)]
        show ((b (enc (ys ++ [0]))).bind _) = _
        rw [h2 _ (by omega)]
        exact k1
      · refine ⟨ys ++ [y], ?_, rfl, fun zs h => ?_, Nat.le_refl _⟩
        · rw [sWhile_eq, h1 _ _ (by omega), show (y == 0) = false by simpa using e]; rfl
        · have := congrArg List.getLast? h
          rw [List.getLast?_concat, List.getLast?_concat] at this
          exact e (Option.some.inj this)
/-- the first n of a stream -/
def prS (a : Nat → Int) (n : Nat) : List Int := (List.range n).map a
theorem prS_succ (a : Nat → Int) (n : Nat) : prS a (n + 1) = prS a n ++ [a n] := by unfold prS; rw [List.range_succ, List.map_append]; rfl
theorem prS_len (a : Nat → Int) (n : Nat) : (prS a n).length = n := by unfold prS; rw [List.length_map, List.length_range]
theorem st_prS {a : Nat → Int} {n : Nat} (h : ∀ t, n ≤ t → a t = 0) : st (prS a n) = a := by
  funext t
  unfold st prS
  rw [List.getD_eq_getElem?_getD, List.getElem?_map]
  by_cases ht : t < n
  · rw [List.getElem?_range ht]; rfl
  · rw [List.getElem?_eq_none (by rw [List.length_range]; omega), h t (by omega)]; rfl
theorem st_map_drop {xs : List Int} {n : Nat} (h : n < xs.length) : xs.drop n = st xs n :: xs.drop (n + 1) := by
  rw [List.drop_eq_getElem_cons h]
  have := st_lt h
  rw [List.getElem?_eq_getElem h] at this
  rw [Option.some.inj this]
/-! ### a door -/
def qW (a : Nat → Int) (w : Int) : Nat → Int
  | 0 => 0
  | t + 1 => max 0 (qW a w t + a t - w)
def oW (a : Nat → Int) (w : Int) (t : Nat) : Int := min (qW a w t + a t) w
theorem qW_succ (a : Nat → Int) (w : Int) (t : Nat) : qW a w (t + 1) = qW a w t + a t - oW a w t := by
  show max 0 (qW a w t + a t - w) = qW a w t + a t - min (qW a w t + a t) w
  omega
theorem qW_nn (a : Nat → Int) (w : Int) : ∀ t, 0 ≤ qW a w t
  | 0 => Int.le_refl _
  | t + 1 => by show 0 ≤ max 0 (qW a w t + a t - w); omega
theorem oW_nn {a : Nat → Int} {w : Int} (ha : ∀ t, 0 ≤ a t) (hw : 0 ≤ w) (t : Nat) : 0 ≤ oW a w t := by
  have := qW_nn a w t
  have := ha t
  unfold oW; omega
/-- two doors in a row wait as the narrower alone -/
theorem two_q {a : Nat → Int} (ha : ∀ t, 0 ≤ a t) (w v : Int) (hw : 0 ≤ w) : ∀ t, qW a w t + qW (oW a w) v t = qW a (min w v) t ∧ (w ≤ v → qW (oW a w) v t = 0)
  | 0 => ⟨rfl, fun _ => rfl⟩
  | t + 1 => by
    obtain ⟨h1, h2⟩ := two_q ha w v hw t
    have k1 := qW_nn a w t
    have k2 := qW_nn (oW a w) v t
    have k3 := ha t
    show max 0 (qW a w t + a t - w) + max 0 (qW (oW a w) v t + min (qW a w t + a t) w - v) = max 0 (qW a (min w v) t + a t - min w v) ∧ (w ≤ v → max 0 (qW (oW a w) v t + min (qW a w t + a t) w - v) = 0)
    by_cases hv : w ≤ v
    · have := h2 hv
      constructor
      · omega
      · intro _; omega
    · constructor
      · omega
      · intro _; omega
theorem two_o {a : Nat → Int} (ha : ∀ t, 0 ≤ a t) (w v : Int) (hw : 0 ≤ w) : oW (oW a w) v = oW a (min w v) := by
  funext t
  have h1 := (two_q ha w v hw t).1
  have h2 := (two_q ha w v hw (t + 1)).1
  have e1 := qW_succ a w t
  have e2 := qW_succ (oW a w) v t
  have e3 := qW_succ a (min w v) t
  omega
/-- all waits up to a moment -/
def sW (a : Nat → Int) (w : Int) : Nat → Int
  | 0 => 0
  | n + 1 => sW a w n + qW a w (n + 1)
/-- a stream that ends, behind each door too -/
structure Dry (N : Nat) (a : Nat → Int) : Prop where
  nn : ∀ t, 0 ≤ a t
  dead : ∀ t, N ≤ t → a t = 0
  dry : ∀ w, 1 ≤ w → ∀ t, N ≤ t → qW a w t = 0
theorem Dry.out {N : Nat} {a : Nat → Int} (h : Dry N a) {v : Int} (hv : 1 ≤ v) : Dry N (oW a v) where
  nn := oW_nn h.nn (by omega)
  dead t ht := by
    have h1 := h.dry v hv t ht
    have h2 := h.dead t ht
    unfold oW; omega
  dry w hw t ht := by
    have h1 := (two_q h.nn v w (by omega) t).1
    have h2 := h.dry (min v w) (by omega) t ht
    have h3 := qW_nn a v t
    have h4 := qW_nn (oW a v) w t
    omega
theorem dr_of {xs : List Int} {L : Nat} {B : Int} {N : Nat} (hl : xs.length ≤ L) (hx : ∀ x ∈ xs, 0 ≤ x ∧ x ≤ B) (hB : 0 ≤ B) (hN : L + (B * L).toNat ≤ N) : Dry N (st xs) := by
  have nn : ∀ t, 0 ≤ st xs t ∧ st xs t ≤ B := fun t => by
    by_cases ht : t < xs.length
    · exact hx _ (List.mem_of_getElem? (st_lt ht))
    · rw [st_ge (by omega)]; omega
  have dead : ∀ t, L ≤ t → st xs t = 0 := fun t ht => st_ge (by omega)
  have grow : ∀ w : Int, 1 ≤ w → ∀ t : Nat, qW (st xs) w t ≤ B * t := fun w hw t => by
    induction t with
    | zero => show (0 : Int) ≤ _; omega
    | succ t ih =>
      show max 0 (qW (st xs) w t + st xs t - w) ≤ B * ((t + 1 : Nat) : Int)
      have := (nn t).2
      rw [Int.natCast_add, Int.mul_add]
      have : 0 ≤ B * (t : Int) := Int.mul_nonneg hB (by omega)
      omega
  refine ⟨fun t => (nn t).1, fun t ht => dead t (by omega), fun w hw t ht => ?_⟩
  have fall : ∀ j : Nat, qW (st xs) w (L + j) ≤ max 0 (B * L - j) := fun j => by
    induction j with
    | zero => have := grow w hw L; show qW (st xs) w L ≤ _; omega
    | succ j ih =>
      show max 0 (qW (st xs) w (L + j) + st xs (L + j) - w) ≤ _
      have := dead (L + j) (by omega)
      omega
  have := fall (t - L)
  rw [show L + (t - L) = t by omega] at this
  have := qW_nn (st xs) w t
  have hB2 : 0 ≤ B * (L : Int) := Int.mul_nonneg hB (by omega)
  omega
theorem sW_dead {N : Nat} {a : Nat → Int} (h : Dry N a) {w : Int} (hw : 1 ≤ w) {n : Nat} (hn : ∀ t, n < t → qW a w t = 0) : sW a w n = sW a w N := by
  have key : ∀ m j : Nat, (∀ t, m < t → qW a w t = 0) → sW a w (m + j) = sW a w m := fun m j hm => by
    induction j with
    | zero => rfl
    | succ j ih => show sW a w (m + j) + qW a w (m + j + 1) = _; rw [ih, hm _ (by omega)]; omega
  rcases Nat.le_total n N with hl | hl
  · have := key n (N - n) hn
    rw [show n + (N - n) = N by omega] at this
    exact this.symm
  · have := key N (n - N) fun t ht => h.dry w hw t (by omega)
    rw [show N + (n - N) = n by omega] at this
    exact this
/-! ### doors in a row -/
def chW (a : Nat → Int) : List Int → Nat → Int
  | [] => a
  | w :: ws => chW (oW a w) ws
def wS (N : Nat) (a : Nat → Int) : List Int → List Int
  | [] => []
  | w :: ws => sW a w N :: wS N (oW a w) ws
theorem chW_cat (a : Nat → Int) (ws vs : List Int) : chW a (ws ++ vs) = chW (chW a ws) vs := by
  induction ws generalizing a with
  | nil => rfl
  | cons w ws ih => exact ih _
theorem wS_cat (N : Nat) (a : Nat → Int) (ws vs : List Int) : wS N a (ws ++ vs) = wS N a ws ++ wS N (chW a ws) vs := by
  induction ws generalizing a with
  | nil => rfl
  | cons w ws ih => show sW a w N :: wS N (oW a w) (ws ++ vs) = _; rw [ih]; rfl
theorem wS_len (N : Nat) (a : Nat → Int) (ws : List Int) : (wS N a ws).length = ws.length := by
  induction ws generalizing a with
  | nil => rfl
  | cons w ws ih => show (_ :: _).length = _; rw [List.length_cons, ih]; rfl
theorem Dry.ch {N : Nat} {a : Nat → Int} (h : Dry N a) : ∀ {ws : List Int}, (∀ w ∈ ws, 1 ≤ w) → Dry N (chW a ws)
  | [], _ => h
  | w :: ws, hw => Dry.ch (h.out (hw w List.mem_cons_self)) fun v hv => hw v (List.mem_cons_of_mem _ hv)
/-- a row of doors is its narrowest -/
def minL (w : Int) : List Int → Int
  | [] => w
  | v :: vs => min w (minL v vs)
theorem minL_ge {w : Int} {ws : List Int} {b : Int} (h : b ≤ w) (k : ∀ v ∈ ws, b ≤ v) : b ≤ minL w ws := by
  induction ws generalizing w with
  | nil => exact h
  | cons v vs ih =>
    have := ih (k v List.mem_cons_self) fun u hu => k u (List.mem_cons_of_mem _ hu)
    show b ≤ min w _; omega
theorem minL_le {w : Int} {ws : List Int} : minL w ws ≤ w ∧ ∀ v ∈ ws, minL w ws ≤ v := by
  induction ws generalizing w with
  | nil => exact ⟨Int.le_refl _, fun _ h => nomatch h⟩
  | cons v vs ih =>
    obtain ⟨h1, h2⟩ := ih (w := v)
    refine ⟨by show min w _ ≤ _; omega, fun u hu => ?_⟩
    show min w (minL v vs) ≤ u
    rcases List.mem_cons.mp hu with rfl | hu
    · omega
    · have := h2 u hu; omega
theorem minL_mem {w : Int} {ws : List Int} : minL w ws ∈ w :: ws := by
  induction ws generalizing w with
  | nil => exact List.mem_singleton.mpr rfl
  | cons v vs ih =>
    show min w (minL v vs) ∈ _
    have := ih (w := v)
    by_cases h : w ≤ minL v vs
    · rw [Int.min_eq_left h]; exact List.mem_cons_self
    · rw [Int.min_eq_right (by omega)]; exact List.mem_cons_of_mem _ this
theorem chW_min {a : Nat → Int} (ha : ∀ t, 0 ≤ a t) : ∀ (w : Int) (ws : List Int), 0 ≤ w → (∀ v ∈ ws, 0 ≤ v) → chW a (w :: ws) = oW a (minL w ws)
  | w, [], _, _ => rfl
  | w, v :: vs, hw, hv => by
    show chW (oW a w) (v :: vs) = oW a (min w (minL v vs))
    rw [chW_min (oW_nn ha hw) v vs (hv v List.mem_cons_self) fun u hu => hv u (List.mem_cons_of_mem _ hu), two_o ha _ _ hw]
theorem sW_two {a : Nat → Int} (ha : ∀ t, 0 ≤ a t) (w v : Int) (hw : 0 ≤ w) (n : Nat) : sW a w n + sW (oW a w) v n = sW a (min w v) n := by
  induction n with
  | zero => rfl
  | succ n ih =>
    show sW a w n + qW a w (n + 1) + (sW (oW a w) v n + qW (oW a w) v (n + 1)) = sW a (min w v) n + qW a (min w v) (n + 1)
    have := (two_q ha w v hw (n + 1)).1
    omega
theorem wS_sum {N : Nat} {a : Nat → Int} (ha : ∀ t, 0 ≤ a t) : ∀ (w : Int) (ws : List Int), 0 ≤ w → (∀ v ∈ ws, 0 ≤ v) → (wS N a (w :: ws)).sum = sW a (minL w ws) N
  | w, [], _, _ => by show (sW a w N + 0) = sW a w N; omega
  | w, v :: vs, hw, hv => by
    show sW a w N + (wS N (oW a w) (v :: vs)).sum = sW a (min w (minL v vs)) N
    rw [wS_sum (oW_nn ha hw) v vs (hv v List.mem_cons_self) fun u hu => hv u (List.mem_cons_of_mem _ hu), sW_two ha _ _ hw]
theorem minL_perm {w v : Int} {ws vs : List Int} (h : ∀ x, x ∈ w :: ws ↔ x ∈ v :: vs) : minL w ws = minL v vs := by
  have key : ∀ {w v : Int} {ws vs : List Int}, (∀ x, x ∈ w :: ws ↔ x ∈ v :: vs) → minL w ws ≤ minL v vs := fun {w v ws vs} h => by
    have := (h _).mpr (minL_mem (w := v) (ws := vs))
    rcases List.mem_cons.mp this with e | e
    · rw [e]; exact minL_le.1
    · exact minL_le.2 _ e
  exact Int.le_antisymm (key h) (key fun x => (h x).symm)
/-- a door as wide as the greatest crowd -/
theorem wide_q {a : Nat → Int} {w : Int} (h : ∀ t, a t ≤ w) : ∀ t, qW a w t = 0
  | 0 => rfl
  | t + 1 => by
    have h1 := wide_q h t
    have h2 := h t
    show max 0 (qW a w t + a t - w) = 0
    omega
theorem wide_o {a : Nat → Int} {w : Int} (h : ∀ t, a t ≤ w) : oW a w = a := by
  funext t
  have h1 := wide_q h t
  have h2 := h t
  unfold oW; omega
/-! the queues of a row at a moment -/
def qL (n : Nat) (a : Nat → Int) : List Int → List Int
  | [] => []
  | w :: ws => qW a w n :: qL n (oW a w) ws
theorem qL_len (n : Nat) : ∀ (a : Nat → Int) (ws : List Int), (qL n a ws).length = ws.length
  | _, [] => rfl
  | a, w :: ws => by show (qW a w n :: qL n (oW a w) ws).length = _; rw [List.length_cons, qL_len n _ ws]; rfl
theorem qL_get (n : Nat) : ∀ (a : Nat → Int) (ws : List Int) (k : Nat), k < ws.length → st (qL n a ws) k = qW (chW a (ws.take k)) (st ws k) n
  | _, [], _, h => absurd h (Nat.not_lt_zero _)
  | a, w :: ws, 0, _ => rfl
  | a, w :: ws, k + 1, h => qL_get n (oW a w) ws k (Nat.lt_of_succ_lt_succ h)
theorem wS_get (n : Nat) : ∀ (a : Nat → Int) (ws : List Int) (k : Nat), k < ws.length → st (wS n a ws) k = sW (chW a (ws.take k)) (st ws k) n
  | _, [], _, h => absurd h (Nat.not_lt_zero _)
  | a, w :: ws, 0, _ => rfl
  | a, w :: ws, k + 1, h => wS_get n (oW a w) ws k (Nat.lt_of_succ_lt_succ h)
theorem qL_nn (n : Nat) : ∀ (a : Nat → Int) (ws : List Int), 0 ≤ (qL n a ws).sum
  | _, [] => Int.le_refl _
  | a, w :: ws => by
    show 0 ≤ qW a w n + (qL n (oW a w) ws).sum
    have := qL_nn n (oW a w) ws
    have := qW_nn a w n
    omega
theorem qL_dry {N n : Nat} (hn : N ≤ n) : ∀ {a : Nat → Int} {ws : List Int}, Dry N a → (∀ w ∈ ws, 1 ≤ w) → (qL n a ws).sum = 0
  | _, [], _, _ => rfl
  | a, w :: ws, hD, hw => by
    show qW a w n + (qL n (oW a w) ws).sum = 0
    rw [qL_dry hn (hD.out (hw w List.mem_cons_self)) fun v hv => hw v (List.mem_cons_of_mem _ hv), hD.dry w (hw w List.mem_cons_self) n hn]; rfl
theorem qL_zero : ∀ (a : Nat → Int) (ws : List Int), qL 0 a ws = List.replicate ws.length 0
  | _, [] => rfl
  | a, w :: ws => by show qW a w 0 :: qL 0 (oW a w) ws = _; rw [qL_zero _ ws]; rfl
theorem wS_zero : ∀ (a : Nat → Int) (ws : List Int), wS 0 a ws = List.replicate ws.length 0
  | _, [] => rfl
  | a, w :: ws => by show sW a w 0 :: wS 0 (oW a w) ws = _; rw [wS_zero _ ws]; rfl
/-- nothing comes, nobody waits: nothing more happens -/
theorem q_still {a : Nat → Int} {w : Int} {n : Nat} (hw : 0 ≤ w) (ha : ∀ t, n ≤ t → a t = 0) (hq : qW a w n ≤ 0) : ∀ t, n ≤ t → qW a w t = 0 ∧ oW a w t = 0 := by
  have key : ∀ j, qW a w (n + j) = 0 := fun j => by
    induction j with
    | zero => have := qW_nn a w n; show qW a w n = 0; omega
    | succ j ih => show max 0 (qW a w (n + j) + a (n + j) - w) = 0; rw [ih, ha _ (by omega)]; omega
  intro t ht
  have := key (t - n)
  rw [show n + (t - n) = t by omega] at this
  refine ⟨this, ?_⟩
  unfold oW
  rw [this, ha t ht]; omega
theorem row_still {N n : Nat} : ∀ {a : Nat → Int} {ws : List Int}, Dry N a → (∀ w ∈ ws, 1 ≤ w) → (∀ t, n ≤ t → a t = 0) → (qL n a ws).sum ≤ 0 → wS n a ws = wS N a ws ∧ ∀ t, n ≤ t → chW a ws t = 0
  | _, [], _, _, ha, _ => ⟨rfl, ha⟩
  | a, w :: ws, hD, hw, ha, hs => by
    have hs' : qW a w n + (qL n (oW a w) ws).sum ≤ 0 := hs
    have h1 := qW_nn a w n
    have h2 := qL_nn n (oW a w) ws
    have hw1 := hw w List.mem_cons_self
    have hz := q_still (by omega) ha (show qW a w n ≤ 0 by omega)
    obtain ⟨k1, k2⟩ := row_still (n := n) (hD.out hw1) (fun v hv => hw v (List.mem_cons_of_mem _ hv)) (fun t ht => (hz t ht).2) (show (qL n (oW a w) ws).sum ≤ 0 by omega)
    refine ⟨?_, k2⟩
    show sW a w n :: wS n (oW a w) ws = sW a w N :: _
    rw [k1, sW_dead hD hw1 fun t ht => (hz t (by omega)).1]
theorem take_succ' {ws : List Int} {n : Nat} (h : n < ws.length) : ws.take (n + 1) = ws.take n ++ [st ws n] := by
  rw [List.take_add_one, st_lt h]; rfl
theorem st_in {ws : List Int} {n : Nat} (h : n < ws.length) : st ws n ∈ ws := List.mem_of_getElem? (st_lt h)
end Fl

set_option Elab.async false
set_option linter.all false
set_option maxRecDepth 100000
set_option maxHeartbeats 4000000
namespace Fl
open PySem PySem.Spec PyProof.Rows L2
def topS (i : Nat) : Stmt := PySem.Challenge.pw_roomsemptied_k45_whole_queues.main.body.getD i (.Pass ⟨0, 0, 0, 0⟩)
section
variable {P : Program} {w : World} {K : Frg} {mg : Str → Option Value} {base : Heap}
abbrev s__law_box : Stmt := topS 7
abbrev s__law_load : Stmt := topS 8
abbrev s__law_draw : Stmt := topS 9
theorem sc__law_load : FnScope ["box", "cells", "cell", "size", "first", "second"] ["box"] (defScope s__law_load) := ⟨rfl, rfl, rfl, by decide +kernel, rfl, by decide +kernel, by decide +kernel⟩
theorem sc__law_draw : FnScope ["box", "many", "digit"] ["box", "many"] (defScope s__law_draw) := ⟨rfl, rfl, rfl, by decide +kernel, rfl, by decide +kernel, by decide +kernel⟩
theorem sc__law_box : FnScope ["script"] ["script"] (defScope s__law_box) := ⟨rfl, rfl, rfl, by decide +kernel, rfl, by decide +kernel, by decide +kernel⟩
theorem ok_load {f : Addr} {fd : FuncData} {k : Nat} (F : Fun K "_law_load" "_law_load" s__law_load f fd) (mlen : mg "len" = none) (mint : mg "int" = none) :
    FnOk P w K mg base CX0 (k + 1) f fd ["box"] (spBox 0 fun b _ => some (.int (loadB b).1, (loadB b).2)) := by
  refine F.ok sc__law_load (fun vs H Q E h => h.1) (fun cdv A outer s H vs Q E hr h => ?_)
  obtain ⟨hl, p, c, b, as, r, b', rfl, hB, hgo, q⟩ := h
  obtain ⟨hne, hp, hc⟩ := hB
  match as, hl with
  | [], _ =>
  cases hgo
  refine ⟨_, pss_cons (ps_set (i := 1) sc__law_load.nd rfl (.inl rfl) (pe_ix ix_list (pv 0) pe_int (fun _ _ => rfl)))
    (pss_cons (ps_if (pt_cmpR op_gt (pe_callB call_len_seq (by rfl) mlen PySem.boot_len (pa_cons (pv 1) pa_nil)) pe_int (nomark _))
      (pss_cons (ps_set (i := 2) sc__law_load.nd rfl (.inl rfl) (pe_callTy call_int1 (by rfl) mint (by decide +kernel) (pa_cons (pe_bm PySem.F.plainAttrs_list PySem.F.slot_list_pop PySem.F.type_list_pop mt_popAt (pv 1) (pa_cons pe_int pa_nil)) pa_nil)))
      (pss_cons (ps_set (i := 3) sc__law_load.nd rfl (.inl rfl) (pe_ifExp (pt_cmpR op_ge (pv 2) pe_int (nomark _)) (pe_op op_mul pe_int (pv 2)) (pe_op op_sub (pe_op op_mul (pe_un un_neg pe_int) (pv 2)) pe_int)))
      (pss_cons (ps_if (pt_cmpR op_ge (pv 3) pe_int (nomark _)) (pss_one (ps_ret (pv 3))) pss_nil)
      (pss_one (ps_asg (pe_op op_mod (pe_callTy call_int1 (by rfl) mint (by decide +kernel) (pa_cons (pe_op op_add (pe_op op_add (pe_op op_mul (pe_ix ix_list (pv 0) pe_int (fun _ _ => rfl)) pe_int) (pe_op op_mul (pv 3) pe_int)) pe_int) pa_nil)) pe_int) (pg_sub (pv 0) pe_int set_list))))))
      pss_nil)
    (PSs.imp (t' := tMix p c b.a) (pss_cons (ps_set (i := 4) sc__law_load.nd rfl (.inl rfl) (pe_op op_mod (pe_callTy call_int1 (by rfl) mint (by decide +kernel) (pa_cons (pe_op op_add (pe_op op_mul (pe_ix ix_list (pv 0) pe_int (fun _ _ => rfl)) pe_int) pe_int) pa_nil)) pe_int))
    (pss_cons (ps_set (i := 5) sc__law_load.nd rfl (.inl rfl) (pe_op op_mod (pe_callTy call_int1 (by rfl) mint (by decide +kernel) (pa_cons (pe_op op_add (pe_op op_mul (pv 4) pe_int) pe_int) pa_nil)) pe_int))
    (pss_cons (ps_asg (pe_op op_mod (pe_callTy call_int1 (by rfl) mint (by decide +kernel) (pa_cons (pe_op op_add (pe_op op_mul (pv 5) pe_int) pe_int) pa_nil)) pe_int) (pg_sub (pv 0) pe_int set_list))
    (pss_one (ps_ret (pe_op op_add (pe_op op_add (pe_op op_mul (pv 4) pe_int) (pe_op op_mul (pv 5) pe_int)) (pe_ix ix_list (pv 0) pe_int (fun _ _ => rfl))))))))
    (fun D σ H1 ⟨cs, bb, c2, c3, hne, hσ, h1, h2, q⟩ => by
      subst hσ
      refine ⟨.ref p, rfl, p, _, 2, _, rfl, rfl, SqL.of h1, rfl, _, _, rfl, rfl, cmulR (by decide), _, _, rfl, rfl, .inl ⟨_, rfl, _, _, rfl, rfl, by show (0 : Int) < _; decide, ?_⟩⟩
      refine ⟨_, rfl, _, _, rfl, rfl, cmulR (by decide), _, _, rfl, rfl, .inl ⟨_, rfl, _, _, rfl, rfl, by show (0 : Int) < _; decide, ?_⟩⟩
      refine ⟨_, rfl, _, _, rfl, rfl, cmulR (by decide), _, _, rfl, rfl, .inl ⟨_, rfl, _, _, rfl, rfl, by show (0 : Int) < _; decide, ?_⟩⟩
      refine ⟨.ref p, rfl, p, _, 2, 2, rfl, rfl, h1, rfl, ?_⟩
      refine ⟨_, rfl, _, _, rfl, rfl, cmulR (by decide), _, rfl, _, _, rfl, rfl, cmulR (by decide), _, _, rfl, rfl, .ref p, rfl, p, _, 2, _, rfl, rfl, SqL.of upd_same, rfl, _, _, rfl, rfl, ?_⟩
      exact q _ ⟨hne, upd_same, upd_get (Ne.symm hne) h2⟩ fun u hu _ => upd_ne hu))), ?_⟩
  refine ⟨.ref p, rfl, p, _, 0, .ref c, rfl, rfl, SqL.of hp, rfl, ?_⟩
  refine ⟨.ref c, rfl, c, b.cells.map V.int, rfl, .inl (SqL.of hc), _, _, rfl, rfl, _, rfl, ?_⟩
  obtain ⟨cells, a, bb⟩ := b
  cases cells with
  | nil => exact iteF ⟨[], bb, none, none, hne, rfl, hp, hc, fun H' h1 h2 => q H' h1 h2⟩
  | cons x cs =>
    refine ite2 (fun _ => ?_) fun hlt => absurd (decide_eq_true (by show (0 : Int) < ((((x :: cs).map V.int).length : Nat) : Int); rw [List.length_map, List.length_cons]; omega)) hlt
    -- the first number is taken
    refine ⟨.ref c, rfl, .inl ⟨rfl, _, SqL.of hc⟩, c, (x :: cs).map V.int, 0, 0, .int x, rfl, rfl, hc, by decide, by decide, (ixN_seq (by unfold ixN; rw [if_pos (by decide), if_pos (by rw [List.length_map, List.length_cons]; omega)]; rfl)).1, rfl, .inl ⟨_, rfl, ?_⟩⟩
    have hp2 : upd H c (.lst (cs.map V.int)) p = some (.lst [.ref c, .int a, .int bb]) := upd_get hne hp
    have key : ∀ T : Prop, (sized x = sized x → T) → T := fun T h => h rfl
    refine ⟨_, rfl, _, _, rfl, rfl, _, rfl, ite2 (fun e => ?_) fun e => ?_⟩
    · have hx : sized x = 2 * x := by unfold sized; rw [if_pos (of_decide_eq_true e)]
      refine ⟨_, rfl, _, _, rfl, rfl, .inl (by decide), ?_⟩
      refine ⟨_, rfl, _, _, rfl, rfl, _, rfl, ite2 (fun g => ?_) fun g => ?_⟩
      · have hg : 1000000000000000000 ≤ sized x := by rw [hx]; exact of_decide_eq_true g
        have hl : loadB ⟨x :: cs, a, bb⟩ = (sized x, ⟨cs, a, bb⟩) := by show (if _ then _ else _) = _; rw [if_pos hg]
        rw [hl, hx] at q
        exact ⟨_, rfl, q _ ⟨hne, hp2, upd_same⟩ fun u _ hu => upd_ne hu⟩
      · have hg : ¬ 1000000000000000000 ≤ sized x := by rw [hx]; exact fun z => g (decide_eq_true z)
        have hl : loadB ⟨x :: cs, a, bb⟩ = mixed cs a ((bb * 69621 + sized x * 48271 + 11) % 2147483647) := by show (if _ then _ else _) = _; rw [if_neg hg]
        rw [hl, hx] at q
        refine ⟨.ref p, rfl, p, _, 2, _, rfl, rfl, SqL.of hp2, rfl, _, _, rfl, rfl, cmulR (by decide), _, rfl, _, _, rfl, rfl, cmulR (by decide), _, _, rfl, rfl, _, _, rfl, rfl, .inl ⟨_, rfl, _, _, rfl, rfl, by show (0 : Int) < _; decide, ?_⟩⟩
        refine ⟨.ref p, rfl, p, _, 2, 2, rfl, rfl, hp2, rfl, ?_⟩
        exact ⟨cs, _, _, _, hne, rfl, upd_same, upd_get (Ne.symm hne) upd_same, fun H' h1 h2 => q H' h1 fun u hu hu2 => by rw [h2 u hu hu2, upd_ne hu, upd_ne hu2]⟩
    · have hx : sized x = -2 * x - 1 := by unfold sized; rw [if_neg (fun z => e (decide_eq_true z))]
      refine ⟨_, rfl, _, rfl, _, _, rfl, rfl, .inl (by decide), _, _, rfl, rfl, ?_⟩
      refine ⟨_, rfl, _, _, rfl, rfl, _, rfl, ite2 (fun g => ?_) fun g => ?_⟩
      · have hg : 1000000000000000000 ≤ sized x := by rw [hx]; exact of_decide_eq_true g
        have hl : loadB ⟨x :: cs, a, bb⟩ = (sized x, ⟨cs, a, bb⟩) := by show (if _ then _ else _) = _; rw [if_pos hg]
        rw [hl, hx] at q
        exact ⟨_, rfl, q _ ⟨hne, hp2, upd_same⟩ fun u _ hu => upd_ne hu⟩
      · have hg : ¬ 1000000000000000000 ≤ sized x := by rw [hx]; exact fun z => g (decide_eq_true z)
        have hl : loadB ⟨x :: cs, a, bb⟩ = mixed cs a ((bb * 69621 + sized x * 48271 + 11) % 2147483647) := by show (if _ then _ else _) = _; rw [if_neg hg]
        rw [hl, hx] at q
        refine ⟨.ref p, rfl, p, _, 2, _, rfl, rfl, SqL.of hp2, rfl, _, _, rfl, rfl, cmulR (by decide), _, rfl, _, _, rfl, rfl, cmulR (by decide), _, _, rfl, rfl, _, _, rfl, rfl, .inl ⟨_, rfl, _, _, rfl, rfl, by show (0 : Int) < _; decide, ?_⟩⟩
        refine ⟨.ref p, rfl, p, _, 2, 2, rfl, rfl, hp2, rfl, ?_⟩
        exact ⟨cs, _, _, _, hne, rfl, upd_same, upd_get (Ne.symm hne) upd_same, fun H' h1 h2 => q H' h1 fun u hu hu2 => by rw [h2 u hu hu2, upd_ne hu, upd_ne hu2]⟩
theorem ok_draw {f fL : Addr} {fd fdL : FuncData} {k : Nat} (F : Fun K "_law_draw" "_law_draw" s__law_draw f fd) (FL : Fun K "_law_load" "_law_load" s__law_load fL fdL) (bL : Binds K fdL ["box"] []) (gL : mg "_law_load" = some (.ref fL)) (mlen : mg "len" = none) (mint : mg "int" = none) :
    FnOk P w K mg base CX0 (k + 2) f fd ["box", "many"] (spBox 1 fun b as => match as with
      | [.int m] => if decide (0 < m ∧ m < 1073741824) = true then some (.int (drawB b m).1, (drawB b m).2) else none
      | _ => none) := by
  have GL : FnOk P w K mg base CX0 (k + 1) fL fdL ["box"] (spBox 0 fun b _ => some (.int (loadB b).1, (loadB b).2)) := ok_load FL mlen mint
  refine F.ok sc__law_draw (fun vs H Q E h => h.1) (fun cdv A outer s H vs Q E hr h => ?_)
  obtain ⟨hl, p, c, b, as, r, b', rfl, hB, hgo, q⟩ := h
  obtain ⟨hne, hp, hc⟩ := hB
  match as, hl with
  | [.int m], _ =>
    have hgo' : (if decide (0 < m ∧ m < 1073741824) = true then some (V.int (drawB b m).1, (drawB b m).2) else none) = some (r, b') := hgo
    split at hgo'
    · rename_i hm
      obtain ⟨hm0, hm1⟩ := of_decide_eq_true hm
      cases hgo'
      refine ⟨_, pss_cons (ps_if (pt_cmpR op_lt (pe_ix ix_list (pv 0) pe_int (fun _ _ => rfl)) (pv 1) (nomark _))
          (pss_one (ps_asg (pe_call GL hr (by rfl) gL FL.kp bL .nil pass0 (pa_cons (pv 0) pa_nil)) (pg_sub (pv 0) pe_int set_list))) pss_nil)
        (PSs.imp (t' := fun D σ H1 => ∃ n bb cs, σ = [some (.ref p), some (.int m), none] ∧ H1 p = some (.lst [.ref c, .int n, .int bb]) ∧ H1 c = some (.lst (cs.map V.int)) ∧
            ∀ H', BoxAt H' p c ⟨cs, n / m, bb⟩ → (∀ u, u ≠ p → u ≠ c → H' u = H1 u) → D.rt (.int (n % m)) H')
          (pss_cons (ps_set (i := 2) sc__law_draw.nd rfl (.inl rfl) (pe_op op_mod (pe_callTy call_int1 (by rfl) mint (by decide +kernel) (pa_cons (pe_ix ix_list (pv 0) pe_int (fun _ _ => rfl)) pa_nil)) (pv 1)))
          (pss_cons (ps_asg (pe_op op_fdiv (pe_ix ix_list (pv 0) pe_int (fun _ _ => rfl)) (pv 1)) (pg_sub (pv 0) pe_int set_list))
          (pss_one (ps_ret (pv 2)))))
          (fun D σ H1 ⟨n, bb, cs, hσ, h1, h2, q⟩ => by
            subst hσ
            refine ⟨.ref p, rfl, p, _, 1, _, rfl, rfl, SqL.of h1, rfl, .inl ⟨_, rfl, _, rfl, _, _, rfl, rfl, hm0, ?_⟩⟩
            refine ⟨.ref p, rfl, p, _, 1, _, rfl, rfl, SqL.of h1, rfl, _, rfl, _, _, rfl, rfl, ⟨hm0, hm1⟩, ?_⟩
            refine ⟨.ref p, rfl, p, _, 1, 1, rfl, rfl, h1, rfl, _, rfl, ?_⟩
            exact q _ ⟨hne, upd_same, upd_get (Ne.symm hne) h2⟩ fun u hu _ => upd_ne hu)), ?_⟩
      refine ⟨.ref p, rfl, p, _, 1, _, rfl, rfl, SqL.of hp, rfl, _, rfl, _, _, rfl, rfl, _, rfl, ite2 (fun e => ?_) fun e => ?_⟩
      · have ha : b.a < m := of_decide_eq_true e
        have hd : drawB b m = ((loadB b).1 % m, { (loadB b).2 with a := (loadB b).1 / m }) := by unfold drawB; rw [if_pos ha]
        refine ⟨.ref p, rfl, rfl, p, c, b, [], _, _, rfl, ⟨hne, hp, hc⟩, rfl, fun H2 hB2 hs2 => ?_⟩
        refine ⟨.ref p, rfl, p, _, 1, 1, rfl, rfl, hB2.2.1, rfl, ?_⟩
        refine ⟨(loadB b).1, (loadB b).2.b, (loadB b).2.cells, rfl, upd_same, upd_get (Ne.symm hne) hB2.2.2, fun H' h1 h2 => ?_⟩
        rw [hd] at q
        exact q H' h1 fun u hu hu2 => by rw [h2 u hu hu2, upd_ne hu, hs2 u hu hu2]
      · have ha : ¬ b.a < m := fun z => e (decide_eq_true z)
        have hd : drawB b m = (b.a % m, { b with a := b.a / m }) := by unfold drawB; rw [if_neg ha]
        rw [hd] at q
        exact ⟨b.a, b.b, b.cells, rfl, hp, hc, fun H' h1 h2 => q H' h1 h2⟩
    · cases hgo'
theorem ok_box {f : Addr} {fd : FuncData} {k : Nat} (F : Fun K "_law_box" "_law_box" s__law_box f fd) (mlen : mg "len" = none) (mlist : mg "list" = none) : FnOk P w K mg base CX0 (k + 1) f fd ["script"] (spTape K) := by
  refine F.ok sc__law_box (fun vs H Q E ⟨a, ns, h, _⟩ => by rw [h]; rfl) (fun cdv A outer s H vs Q E hr h => ?_)
  obtain ⟨a, ns, rfl, hS, hl, q⟩ := h
  refine ⟨_, pss_one (ps_ret (pe_lst (pa_cons (pe_callTy call_list_of (by rfl) mlist (by decide +kernel) (pa_cons (pe_slice sl_list (pv 0) po_none (po_some pe_int)) pa_nil)) (pa_cons pe_int (pa_cons (pe_op op_add pe_int (pe_callB call_len_seq (by rfl) mlen PySem.boot_len (pa_cons (pv 0) pa_nil))) pa_nil))))), ?_⟩
  refine ⟨.ref a, rfl, 63, rfl, a, _, rfl, hS, fun p1 n1 => ?_⟩
  have s1 : Same H (upd H p1 (.lst (cutV (ns.map V.int) none (some 63)))) := sameUpd n1
  refine ⟨p1, _, rfl, .inl (SqL.of upd_same), fun c n2 => ?_⟩
  have s2 := s1.trans (sameUpd n2 (o := .lst (cutV (ns.map V.int) none (some 63))))
  refine ⟨.ref a, rfl, a, _, rfl, .inl (s2.seq hS), _, _, rfl, rfl, by show 3 ≤ sizeLine; decide, fun p n3 => ?_⟩
  have hpc : p ≠ c := fun e => by rw [e, upd_same] at n3; cases n3
  refine q _ p c (s2.trans (sameUpd n3)) (s2.free n3) (s1.free n2) ⟨hpc, ?_, ?_⟩
  · rw [upd_same, List.length_map]
  · rw [upd_ne (Ne.symm hpc), upd_same, cut63 _ (by rw [List.length_map]; exact hl)]

noncomputable def F__law_draw : Fnc := gDraw drawB fun m => decide (0 < m ∧ m < 1073741824)
/-! ### gone -/
abbrev s_gone : Stmt := topS 1
theorem sc_gone : FnScope ["arrivals", "wide", "waiting", "found", "many"] ["arrivals", "wide"] (defScope s_gone) := ⟨rfl, rfl, rfl, by decide +kernel, rfl, by decide +kernel, by decide +kernel⟩
noncomputable def L1_gone : SF := (sSeq (sAug dIadd 2 (eVar 4)) (sSeq (sDrop (eMt1 gAppend 3 (eOp dMin2 (eVar 2) (eVar 1)))) (sAug dSub 2 (eIxO 3 (eUn dNeg (eC (.int 1)))))))
noncomputable def T2_gone : BF := (bB (eOp dGt (eVar 2) (eC (.int 0))))
noncomputable def L3_gone : SF := (sSeq (sDrop (eMt1 gAppend 3 (eOp dMin2 (eVar 2) (eVar 1)))) (sAug dSub 2 (eIxO 3 (eUn dNeg (eC (.int 1))))))
noncomputable def T4_gone : BF := (bAnd (bE (eOwn 3)) (bB (eOp dEq (eIxO 3 (eUn dNeg (eC (.int 1)))) (eC (.int 0)))))
noncomputable def L5_gone : SF := (sDrop (eMt0 gPop 3))
noncomputable def F_gone : Fnc := mkF 5 (sSeq (sPar [2, 3] (olCons (oE (eC (.int 0))) (olCons (oLst aNil) olNil))) (sSeq (sFor (lOf (eVar 0)) (gNm 4) (L1_gone)) (sSeq (sWhile (T2_gone) (L3_gone)) (sSeq (sWhile (T4_gone) (L5_gone)) (sRet (eUn dTuple (eOwn 3)))))))
theorem ok_gone {f : Addr} {fd : FuncData} (F : Fun K "gone" "gone" s_gone f fd) (B : Bt mg) : FnOk P w K mg base CX0 1 f fd ["arrivals", "wide"] (spF K 2 F_gone) :=
  def_ok F sc_gone (by decide) fun cdv A outer s H E hr =>
    (fss_cons (fpar 2 3 sc_gone.nd (fol_cons (fo_fe fe_int) (fol_cons (fo_lst fa_nil) fol_nil))) (fss_cons (fs_for PassesOwn.never rfl (fi_seq (fv 0)) (fgn 4 sc_gone.nd) (fss_cons (faugA 2 sc_gone.nd (fv 4)) (fss_cons (fs_expr (fapp 3 (fe_min2 ⟨rfl, sc_gone.nd, hr⟩ (fv 2) (fb_fe (fv 1)) B.min))) (fss_one (faugS 2 sc_gone.nd (fixo 3 (fe_neg (fb_fe fe_int)))))))) (fss_cons (fs_while PassesOwn.never (fc_gt ⟨rfl, sc_gone.nd, hr⟩ (fv 2) (fb_fe fe_int)).t (fss_cons (fs_expr (fapp 3 (fe_min2 ⟨rfl, sc_gone.nd, hr⟩ (fv 2) (fb_fe (fv 1)) B.min))) (fss_one (faugS 2 sc_gone.nd (fixo 3 (fe_neg (fb_fe fe_int))))))) (fss_cons (fs_while PassesOwn.never (FW.ft (fw_and (ft_e (fo 3) (by intro _; rfl)) (fw_and1 (fc_eq ⟨rfl, sc_gone.nd, hr⟩ (fixo 3 (fe_neg (fb_fe fe_int))) (fb_fe fe_int)).t))) (fss_one (fs_expr (fpop 3)))) (fss_one (fs_ret (fe_tuple (fo 3) B.tuple)))))))
/-! ### left_waiting -/
abbrev s_left_waiting : Stmt := topS 2
theorem sc_left_waiting : FnScope ["arrivals", "wide", "waiting", "found", "many"] ["arrivals", "wide"] (defScope s_left_waiting) := ⟨rfl, rfl, rfl, by decide +kernel, rfl, by decide +kernel, by decide +kernel⟩
noncomputable def L1_left_waiting : SF := (sSeq (sSet 2 (oE (eOp dMax2 (eC (.int 0)) (eOp dSub (eOp dAdd (eVar 2) (eVar 4)) (eVar 1))))) (sDrop (eMt1 gAppend 3 (eVar 2))))
noncomputable def F_left_waiting : Fnc := mkF 5 (sSeq (sPar [2, 3] (olCons (oE (eC (.int 0))) (olCons (oLst aNil) olNil))) (sSeq (sFor (lOf (eVar 0)) (gNm 4) (L1_left_waiting)) (sRetO (oTn (eOwn 3)))))
theorem ok_left_waiting {f : Addr} {fd : FuncData} (F : Fun K "left_waiting" "left_waiting" s_left_waiting f fd) (B : Bt mg) : FnOk P w K mg base CX0 1 f fd ["arrivals", "wide"] (spF K 2 F_left_waiting) :=
  def_ok F sc_left_waiting (by decide) fun cdv A outer s H E hr =>
    (fss_cons (fpar 2 3 sc_left_waiting.nd (fol_cons (fo_fe fe_int) (fol_cons (fo_lst fa_nil) fol_nil))) (fss_cons (fs_for PassesOwn.never rfl (fi_seq (fv 0)) (fgn 4 sc_left_waiting.nd) (fss_cons (fset 2 sc_left_waiting.nd (fo_fe (fe_max2 ⟨rfl, sc_left_waiting.nd, hr⟩ fe_int (fb_fe (fe_sub (fe_add (fv 2) (fb_fe (fv 4))) (fb_fe (fv 1)))) B.max))) (fss_one (fs_expr (fapp 3 (fv 2)))))) (fss_one (fs_retO (fo_tn (fo 3) B.tuple)))))
/-! ### longest_queue -/
abbrev s_longest_queue : Stmt := topS 3
theorem sc_longest_queue : FnScope ["arrivals", "wide", "lengths", "most", "t", "s", "left"] ["arrivals", "wide"] (defScope s_longest_queue) := ⟨rfl, rfl, rfl, by decide +kernel, rfl, by decide +kernel, by decide +kernel⟩
noncomputable def T1_longest_queue : BF := (bB (eOp dNe (eVar 6) (eVar 3)))
noncomputable def L2_longest_queue : SF := (sSeq (sAug dSub 5 (eC (.int 1))) (sAug dIadd 6 (eOp dSub (eOp dIx (eVar 0) (eVar 5)) (eVar 1))))
noncomputable def F_longest_queue : Fnc := mkF 7 (sSeq (sSet 2 (oCall F_left_waiting (rVal (eVar 0) (rVal (eVar 1) rNil)))) (sSeq (sSet 3 (oE (eUn dMax (eOp dAdd (eTup (aCons (eC (.int 0)) aNil)) (eVar 2))))) (sSeq (sIf (bB (eOp dEq (eVar 3) (eC (.int 0)))) (sRet (eTup (aCons (eC (.int 0)) (aCons (eC .none) (aCons (eC .none) aNil))))) sNext) (sSeq (sSet 4 (oE (eMtT dIndex 2 (eVar 3)))) (sSeq (sPar [5, 6] (olCons (oE (eVar 4)) (olCons (oE (eOp dSub (eOp dIx (eVar 0) (eVar 4)) (eVar 1))) olNil))) (sSeq (sWhile (T1_longest_queue) (L2_longest_queue)) (sRet (eTup (aCons (eVar 3) (aCons (eVar 5) (aCons (eVar 4) aNil)))))))))))
theorem ok_longest_queue {f : Addr} {fd : FuncData} (F : Fun K "longest_queue" "longest_queue" s_longest_queue f fd) (B : Bt mg) (D_left_waiting : Dk P w K mg base "left_waiting" 1 2 F_left_waiting) : FnOk P w K mg base CX0 2 f fd ["arrivals", "wide"] (spF K 2 F_longest_queue) :=
  def_ok F sc_longest_queue (by decide) fun cdv A outer s H E hr =>
    (fss_cons (fset 2 sc_longest_queue.nd (foc D_left_waiting (hr.mono (by decide)) (fr_val (fv 0) (fr_val (fv 1) fr_nil)))) (fss_cons (fset 3 sc_longest_queue.nd (fo_fe (fe_max1 ⟨rfl, sc_longest_queue.nd, hr⟩ (fb_fe (fe_add (fe_tup (fa_cons fe_int fa_nil)) (fb_fe (fv 2)))) B.max))) (fss_cons (fs_if (fc_eq ⟨rfl, sc_longest_queue.nd, hr⟩ (fv 3) (fb_fe fe_int)).t (fss_one (fs_ret (fe_tup (fa_cons fe_int (fa_cons fe_non (fa_cons fe_non fa_nil)))))) fss_nil) (fss_cons (fset 4 sc_longest_queue.nd (fo_fe (ftidx 2 (fv 3)))) (fss_cons (fpar 5 6 sc_longest_queue.nd (fol_cons (fo_fe (fv 4)) (fol_cons (fo_fe (fe_sub (fe_ix (fv 0) (fv 4)) (fb_fe (fv 1)))) fol_nil))) (fss_cons (fs_while PassesOwn.never (fc_ne ⟨rfl, sc_longest_queue.nd, hr⟩ (fv 6) (fb_fe (fv 3))).t (fss_cons (faugS 5 sc_longest_queue.nd fe_int) (fss_one (faugA 6 sc_longest_queue.nd (fe_sub (fe_ix (fv 0) (fv 5)) (fb_fe (fv 1))))))) (fss_one (fs_ret (fe_tup (fa_cons (fv 3) (fa_cons (fv 5) (fa_cons (fv 4) fa_nil))))))))))))
/-! ### waited -/
abbrev s_waited : Stmt := topS 4
theorem sc_waited : FnScope ["arrivals", "wide", "lengths", "total", "rest"] ["arrivals", "wide"] (defScope s_waited) := ⟨rfl, rfl, rfl, by decide +kernel, rfl, by decide +kernel, by decide +kernel⟩
noncomputable def T1_waited : BF := (bB (eOp dGt (eVar 4) (eVar 1)))
noncomputable def L2_waited : SF := (sSeq (sAug dSub 4 (eVar 1)) (sAug dIadd 3 (eVar 4)))
noncomputable def F_waited : Fnc := mkF 5 (sSeq (sSet 2 (oCall F_left_waiting (rVal (eVar 0) (rVal (eVar 1) rNil)))) (sSeq (sPar [3, 4] (olCons (oE (eUn dSum (eVar 2))) (olCons (oE (eIf (bE (eVar 2)) (eOp dIx (eVar 2) (eUn dNeg (eC (.int 1)))) (eC (.int 0)))) olNil))) (sSeq (sWhile (T1_waited) (L2_waited)) (sRet (eVar 3)))))
theorem ok_waited {f : Addr} {fd : FuncData} (F : Fun K "waited" "waited" s_waited f fd) (B : Bt mg) (D_left_waiting : Dk P w K mg base "left_waiting" 1 2 F_left_waiting) : FnOk P w K mg base CX0 2 f fd ["arrivals", "wide"] (spF K 2 F_waited) :=
  def_ok F sc_waited (by decide) fun cdv A outer s H E hr =>
    (fss_cons (fset 2 sc_waited.nd (foc D_left_waiting (hr.mono (by decide)) (fr_val (fv 0) (fr_val (fv 1) fr_nil)))) (fss_cons (fpar 3 4 sc_waited.nd (fol_cons (fo_fe (fe_sum ⟨rfl, sc_waited.nd, hr⟩ (fb_fe (fv 2)) B.sum)) (fol_cons (fo_fe (fe_if (ft_e (fb_fe (fv 2)) (by intro _; rfl)) (fe_ix (fv 2) (fe_neg (fb_fe fe_int))) fe_int)) fol_nil))) (fss_cons (fs_while PassesOwn.never (fc_gt ⟨rfl, sc_waited.nd, hr⟩ (fv 4) (fb_fe (fv 1))).t (fss_cons (faugS 4 sc_waited.nd (fv 1)) (fss_one (faugA 3 sc_waited.nd (fv 4))))) (fss_one (fs_ret (fv 3))))))
/-! ### all_gone -/
abbrev s_all_gone : Stmt := topS 5
theorem sc_all_gone : FnScope ["arrivals", "wide"] ["arrivals", "wide"] (defScope s_all_gone) := ⟨rfl, rfl, rfl, by decide +kernel, rfl, by decide +kernel, by decide +kernel⟩
noncomputable def F_all_gone : Fnc := mkF 2 (sRet (eOp dMax2 (eC (.int 0)) (eOp dSub (eUn dLen (eFz (oCall F_gone (rVal (eVar 0) (rVal (eVar 1) rNil))))) (eC (.int 1)))))
theorem ok_all_gone {f : Addr} {fd : FuncData} (F : Fun K "all_gone" "all_gone" s_all_gone f fd) (B : Bt mg) (D_gone : Dk P w K mg base "gone" 1 2 F_gone) : FnOk P w K mg base CX0 2 f fd ["arrivals", "wide"] (spF K 2 F_all_gone) :=
  def_ok F sc_all_gone (by decide) fun cdv A outer s H E hr =>
    (fss_one (fs_ret (fe_max2 ⟨rfl, sc_all_gone.nd, hr⟩ fe_int (fb_fe (fe_sub (fe_len (fb_fe (fe_fo (foc D_gone (hr.mono (by decide)) (fr_val (fv 0) (fr_val (fv 1) fr_nil))))) B.len) (fb_fe fe_int))) B.max)))
/-! ### _law_same -/
abbrev s__law_same : Stmt := topS 10
theorem sc__law_same : FnScope ["a", "b", "k"] ["a", "b"] (defScope s__law_same) := ⟨rfl, rfl, rfl, by decide +kernel, rfl, by decide +kernel, by decide +kernel⟩
noncomputable def K1__law_same (F : Fnc) : EF := (eFz (oCall F (rVal (eOp dIx (eVar 0) (eVar 2)) (rVal (eOp dIx (eVar 1) (eVar 2)) rNil))))
noncomputable def B__law_same (F : Fnc) : SF := (sSeq (sIf (bOr (bAnd (bE (eUn (dIsi isTup) (eVar 0))) (bE (eUn (dIsi isTup) (eVar 1)))) (bAnd (bE (eUn (dIsi isLst) (eVar 0))) (bE (eUn (dIsi isLst) (eVar 1))))) (sRet (eAnd (eOp dEq (eUn dLen (eVar 0)) (eUn dLen (eVar 1))) (eUn dAll (eFz (oComp (lRng1 (eUn dLen (eVar 0))) (gNm 2) bYes (K1__law_same F) [2]))))) sNext) (sSeq (sIf (bOr (bE (eUn (dIsi isBool) (eVar 0))) (bE (eUn (dIsi isBool) (eVar 1)))) (sRet (eAnd (eUn (dIsi isBool) (eVar 0)) (eAnd (eUn (dIsi isBool) (eVar 1)) (eOp dEq (eVar 0) (eVar 1))))) sNext) (sSeq (sIf (bOr (bAnd (bE (eUn (dIsi isIntB) (eVar 0))) (bE (eUn (dIsi isIntB) (eVar 1)))) (bAnd (bE (eUn (dIsi isStr) (eVar 0))) (bE (eUn (dIsi isStr) (eVar 1))))) (sRet (eOp dEq (eVar 0) (eVar 1))) sNext) (sRet (eAnd (eOp dIs (eVar 0) (eC .none)) (eOp dIs (eVar 1) (eC .none)))))))
noncomputable def R__law_same : Nat → Fnc
  | 0 => fun _ => none
  | k + 1 => mkF 3 (B__law_same (R__law_same k))
noncomputable def F__law_same : Fnc := R__law_same 20
theorem st__law_same {f : Addr} {fd : FuncData} {k : Nat} {G : Fnc} (F : Fun K "_law_same" "_law_same" s__law_same f fd) (B : Bt mg) (D : Dk P w K mg base "_law_same" k 2 G) (hk : 0 ≤ k) : FnOk P w K mg base CX0 (k + 1) f fd ["a", "b"] (spF K 2 (mkF 3 (B__law_same G))) :=
  def_ok F sc__law_same (by decide) fun cdv A outer s H E hr =>
    (fss_cons (fs_if (FW.ft (fw_or (FW.ft (fw_and (ft_e (fb_fe (fe_isi kit_tup (fv 0) B.isinstance B.tuple (by decide +kernel))) (by intro _; rfl)) (fw_and1 (ft_e (fb_fe (fe_isi kit_tup (fv 1) B.isinstance B.tuple (by decide +kernel))) (by intro _; rfl))))) (fw_or1 (FW.ft (fw_and (ft_e (fb_fe (fe_isi kit_lst (fv 0) B.isinstance B.list (by decide +kernel))) (by intro _; rfl)) (fw_and1 (ft_e (fb_fe (fe_isi kit_lst (fv 1) B.isinstance B.list (by decide +kernel))) (by intro _; rfl)))))))) (fss_one (fs_ret (fe_and (fc_eq ⟨rfl, sc__law_same.nd, hr⟩ (fe_len (fb_fe (fv 0)) B.len) (fb_fe (fe_len (fb_fe (fv 1)) B.len))).v (fe_one (fe_all ⟨rfl, sc__law_same.nd, hr⟩ (fb_fe (fe_fo (fo_lc ⟨rfl, sc__law_same.nd, hr⟩ (fi_rng1 (fe_len (fb_fe (fv 0)) B.len) B.range) (blkOk_by (own := [("k", 2)]) (N := ["a", "b", "k"]) (sc := defScope s__law_same) (by decide +kernel)) (fun _ _ _ _ _ => (fgn 2 sc__law_same.nd)) (fun _ _ _ _ _ => fts_nil) (fun _ _ _ _ _ => (fe_fo (foc D hr (fr_val (fe_ix (fv 0) (fv 2)) (fr_val (fe_ix (fv 1) (fv 2)) fr_nil)))))))) B.all))))) fss_nil) (fss_cons (fs_if (FW.ft (fw_or (ft_e (fb_fe (fe_isi kit_bool (fv 0) B.isinstance B.bool (by decide +kernel))) (by intro _; rfl)) (fw_or1 (ft_e (fb_fe (fe_isi kit_bool (fv 1) B.isinstance B.bool (by decide +kernel))) (by intro _; rfl))))) (fss_one (fs_ret (fe_and (fe_isi kit_bool (fv 0) B.isinstance B.bool (by decide +kernel)) (fe_and (fe_isi kit_bool (fv 1) B.isinstance B.bool (by decide +kernel)) (fe_one (fc_eq ⟨rfl, sc__law_same.nd, hr⟩ (fv 0) (fb_fe (fv 1))).v))))) fss_nil) (fss_cons (fs_if (FW.ft (fw_or (FW.ft (fw_and (ft_e (fb_fe (fe_isi kit_int (fv 0) B.isinstance B.int (by decide +kernel))) (by intro _; rfl)) (fw_and1 (ft_e (fb_fe (fe_isi kit_int (fv 1) B.isinstance B.int (by decide +kernel))) (by intro _; rfl))))) (fw_or1 (FW.ft (fw_and (ft_e (fb_fe (fe_isi kit_str (fv 0) B.isinstance B.str (by decide +kernel))) (by intro _; rfl)) (fw_and1 (ft_e (fb_fe (fe_isi kit_str (fv 1) B.isinstance B.str (by decide +kernel))) (by intro _; rfl)))))))) (fss_one (fs_ret (fc_eq ⟨rfl, sc__law_same.nd, hr⟩ (fv 0) (fb_fe (fv 1))).v)) fss_nil) (fss_one (fs_ret (fe_and (fc_is ⟨rfl, sc__law_same.nd, hr⟩ (fv 0) (fb_fe fe_non)).v (fe_one (fc_is ⟨rfl, sc__law_same.nd, hr⟩ (fv 1) (fb_fe fe_non)).v)))))))
/-! ### _law_walked_through -/
abbrev s__law_walked_through : Stmt := topS 11
theorem sc__law_walked_through : FnScope ["arrivals", "wide", "here", "waits_here", "moment", "through", "out", "step"] ["arrivals", "wide"] (defScope s__law_walked_through) := ⟨rfl, rfl, rfl, by decide +kernel, rfl, by decide +kernel, by decide +kernel⟩
noncomputable def L1__law_walked_through : SF := (sDrop (eMt1 gAppend 3 (eOp dSub (eVar 4) (eMt0 gPop 2))))
noncomputable def T2__law_walked_through : BF := (bOr (bB (eOp dLtA (eVar 4) (eUn dLen (eVar 0)))) (bB (eOp dGt (eUn dLen (eOwn 2)) (eC (.int 0)))))
noncomputable def L3__law_walked_through : SF := (sSeq (sIf (bB (eOp dLtA (eVar 4) (eUn dLen (eVar 0)))) (sSet 2 (oCat (eNm 2) (eFz (oRep (eFz (oLst (aCons (eVar 4) aNil))) (eOp dIx (eVar 0) (eVar 4)))))) sNext) (sSeq (sSet 6 (oE (eOp dMin2 (eVar 1) (eUn dLen (eOwn 2))))) (sSeq (sFor (lRng1 (eVar 6)) (gNm 7) (L1__law_walked_through)) (sSeq (sDrop (eMt1 gAppend 5 (eVar 6))) (sSet 4 (oE (eOp dAdd (eVar 4) (eC (.int 1)))))))))
noncomputable def T4__law_walked_through : BF := (bAnd (bB (eOp dGt (eUn dLen (eOwn 5)) (eC (.int 0)))) (bB (eOp dEq (eIxO 5 (eUn dNeg (eC (.int 1)))) (eC (.int 0)))))
noncomputable def L5__law_walked_through : SF := (sDrop (eMt0 gPop 5))
noncomputable def F__law_walked_through : Fnc := mkF 8 (sSeq (sPar [2, 3, 4, 5] (olCons (oLst aNil) (olCons (oLst aNil) (olCons (oE (eC (.int 0))) (olCons (oLst aNil) olNil))))) (sSeq (sWhile (T2__law_walked_through) (L3__law_walked_through)) (sSeq (sWhile (T4__law_walked_through) (L5__law_walked_through)) (sRet (eTup (aCons (eUn dTuple (eOwn 5)) (aCons (eUn dSum (eOwn 3)) aNil)))))))
theorem ok__law_walked_through {f : Addr} {fd : FuncData} (F : Fun K "_law_walked_through" "_law_walked_through" s__law_walked_through f fd) (B : Bt mg) : FnOk P w K mg base CX0 1 f fd ["arrivals", "wide"] (spF K 2 F__law_walked_through) :=
  def_ok F sc__law_walked_through (by decide) fun cdv A outer s H E hr =>
    (fss_cons (fs_parT (is := [2, 3, 4, 5]) rfl (fol_cons (fo_lst fa_nil) (fol_cons (fo_lst fa_nil) (fol_cons (fo_fe fe_int) (fol_cons (fo_lst fa_nil) fol_nil)))) (fns_cons 2 sc__law_walked_through.nd (fns_cons 3 sc__law_walked_through.nd (fns_cons 4 sc__law_walked_through.nd (fns_cons 5 sc__law_walked_through.nd fns_nil)))) (by decide)) (fss_cons (fs_while PassesOwn.never (FW.ft (fw_or (fc_lt ⟨rfl, sc__law_walked_through.nd, hr⟩ (fv 4) (fb_fe (fe_len (fb_fe (fv 0)) B.len))).t (fw_or1 (fc_gt ⟨rfl, sc__law_walked_through.nd, hr⟩ (fe_len (fo 2) B.len) (fb_fe fe_int)).t))) (fss_cons (fs_if (fc_lt ⟨rfl, sc__law_walked_through.nd, hr⟩ (fv 4) (fb_fe (fe_len (fb_fe (fv 0)) B.len))).t (fss_one (fset 2 sc__law_walked_through.nd (fo_cat (fm 2) (fb_fe (fe_fo (fo_rep (fe_fo (fo_lst (fa_cons (fv 4) fa_nil))) (fb_fe (fe_ix (fv 0) (fv 4))))))))) fss_nil) (fss_cons (fset 6 sc__law_walked_through.nd (fo_fe (fe_min2 ⟨rfl, sc__law_walked_through.nd, hr⟩ (fv 1) (fb_fe (fe_len (fo 2) B.len)) B.min))) (fss_cons (fs_for PassesOwn.never rfl (fi_rng1 (fv 6) B.range) (fgn 7 sc__law_walked_through.nd) (fss_one (fs_expr (fapp 3 (fe_sub (fv 4) (fb_fe (fpop 2))))))) (fss_cons (fs_expr (fapp 5 (fv 6))) (fss_one (fset 4 sc__law_walked_through.nd (fo_fe (fe_add (fv 4) (fb_fe fe_int)))))))))) (fss_cons (fs_while PassesOwn.never (FW.ft (fw_and (fc_gt ⟨rfl, sc__law_walked_through.nd, hr⟩ (fe_len (fo 5) B.len) (fb_fe fe_int)).t (fw_and1 (fc_eq ⟨rfl, sc__law_walked_through.nd, hr⟩ (fixo 5 (fe_neg (fb_fe fe_int))) (fb_fe fe_int)).t))) (fss_one (fs_expr (fpop 5)))) (fss_one (fs_ret (fe_tup (fa_cons (fe_tuple (fo 5) B.tuple) (fa_cons (fe_sum ⟨rfl, sc__law_walked_through.nd, hr⟩ (fo 3) B.sum) fa_nil))))))))
/-! ### law -/
abbrev s_law : Stmt := topS 12
theorem sc_law : FnScope ["script", "box", "turn", "arrivals", "wide", "through", "waits_here", "lengths", "t", "most", "due", "left", "total", "moment", "out", "great", "told", "k", "s"] ["script"] (defScope s_law) := ⟨rfl, rfl, rfl, by decide +kernel, rfl, by decide +kernel, by decide +kernel⟩
noncomputable def K1_law : EF := (eIf (bB (eOp dGt (eFz (oCall F__law_draw (rRef 1 (rVal (eC (.int 3)) rNil)))) (eC (.int 0)))) (eFz (oCall F__law_draw (rRef 1 (rVal (eC (.int 7)) rNil)))) (eC (.int 0)))
noncomputable def K2_law : EF := (eOp dSub (eUn dSum (eSl (eVar 3) (pSo (eVar 18)) (pSo (eOp dAdd (eVar 8) (eC (.int 1)))))) (eOp dMul (eVar 4) (eOp dSub (eOp dAdd (eVar 8) (eC (.int 1))) (eVar 18))))
noncomputable def L3_law : SF := (sSeq (sDrop (eMt1 gAppend 7 (eOp dSub (eUn dSum (eSl (eVar 3) pNo (pSo (eOp dAdd (eVar 8) (eC (.int 1)))))) (eUn dSum (eSl (eVar 5) pNo (pSo (eOp dAdd (eVar 8) (eC (.int 1))))))))) (sIf (bB (eOp dNe (eIxO 7 (eUn dNeg (eC (.int 1)))) (eUn dMax (eOp dAdd (eFz (oLst (aCons (eC (.int 0)) aNil))) (eFz (oComp (lRng1 (eOp dAdd (eVar 8) (eC (.int 1)))) (gNm 18) bYes (K2_law) [18])))))) (sRet (eC (.bool false))) sNext))
noncomputable def T4_law : BF := (bB (eOp dEq (eOp dSub (eUn dSum (eSl (eVar 3) (pSo (eVar 18)) (pSo (eOp dAdd (eVar 8) (eC (.int 1)))))) (eOp dMul (eVar 4) (eOp dSub (eOp dAdd (eVar 8) (eC (.int 1))) (eVar 18)))) (eVar 9)))
noncomputable def K5_law : EF := (eVar 18)
noncomputable def T6_law : BF := (bOr (bB (eOp dLtA (eVar 13) (eUn dLen (eVar 3)))) (bB (eOp dGt (eVar 11) (eC (.int 0)))))
noncomputable def L7_law : SF := (sSeq (sSet 11 (oE (eOp dAdd (eVar 11) (eIf (bB (eOp dLtA (eVar 13) (eUn dLen (eVar 3)))) (eOp dIx (eVar 3) (eVar 13)) (eC (.int 0)))))) (sSeq (sSet 14 (oE (eIf (bB (eOp dGt (eVar 13) (eC (.int 40)))) (eOp dMin2 (eVar 11) (eVar 4)) (eFz (oCall F__law_draw (rRef 1 (rVal (eOp dAdd (eOp dMin2 (eVar 11) (eVar 4)) (eC (.int 1))) rNil))))))) (sSeq (sPar [11, 13] (olCons (oE (eOp dSub (eVar 11) (eVar 14))) (olCons (oE (eOp dAdd (eVar 13) (eC (.int 1)))) olNil))) (sSet 12 (oE (eOp dAdd (eVar 12) (eVar 11)))))))
noncomputable def K8_law : EF := (eOp dGt (eVar 14) (eVar 4))
noncomputable def S9_law : SF := (sSet 3 (oE (eUn dTuple (eFz (oComp (lRng1 (eFz (oCall F__law_draw (rRef 1 (rVal (eC (.int 10)) rNil))))) (gNm 17) bYes (K1_law) [17])))))
noncomputable def S10_law : SF := (sSet 4 (oE (eOp dAdd (eC (.int 1)) (eFz (oCall F__law_draw (rRef 1 (rVal (eC (.int 4)) rNil)))))))
noncomputable def S11_law : SF := (sAsg (eFz (oCall F__law_walked_through (rVal (eVar 3) (rVal (eVar 4) rNil)))) (gTupF (gsCons (gNm 5) (gsCons (gNm 6) gsNil)) 2))
noncomputable def S12_law : SF := (sIf (bNot (bE (eFz (oCall F__law_same (rVal (eTup (aCons (eFz (oCall F_gone (rVal (eVar 3) (rVal (eVar 4) rNil)))) (aCons (eFz (oCall F_waited (rVal (eVar 3) (rVal (eVar 4) rNil)))) aNil))) (rVal (eTup (aCons (eVar 5) (aCons (eVar 6) aNil))) rNil)))))) (sRet (eC (.bool false))) sNext)
noncomputable def S13_law : SF := (sSet 7 (oLst aNil))
noncomputable def S14_law : SF := (sFor (lRng1 (eUn dLen (eVar 3))) (gNm 8) (L3_law))
noncomputable def S15_law : SF := (sIf (bNot (bE (eFz (oCall F__law_same (rVal (eFz (oCall F_left_waiting (rVal (eVar 3) (rVal (eVar 4) rNil)))) (rVal (eUn dTuple (eOwn 7)) rNil)))))) (sRet (eC (.bool false))) sNext)
noncomputable def S16_law : SF := (sSet 9 (oE (eUn dMax (eOp dAdd (eFz (oLst (aCons (eC (.int 0)) aNil))) (eOwn 7)))))
noncomputable def S17_law : SF := (sSet 10 (oE (eTup (aCons (eC (.int 0)) (aCons (eC .none) (aCons (eC .none) aNil))))))
noncomputable def S18_law : SF := (sIf (bB (eOp dGt (eVar 9) (eC (.int 0)))) (sSeq (sSet 8 (oE (eMt1 gIndex 7 (eVar 9)))) (sSet 10 (oE (eTup (aCons (eVar 9) (aCons (eUn dMax (eFz (oComp (lRng1 (eOp dAdd (eVar 8) (eC (.int 1)))) (gNm 18) (T4_law) (K5_law) [18]))) (aCons (eVar 8) aNil))))))) sNext)
noncomputable def S19_law : SF := (sIf (bOr (bNot (bE (eFz (oCall F__law_same (rVal (eFz (oCall F_longest_queue (rVal (eVar 3) (rVal (eVar 4) rNil)))) (rVal (eVar 10) rNil)))))) (bNot (bE (eFz (oCall F__law_same (rVal (eFz (oCall F_all_gone (rVal (eVar 3) (rVal (eVar 4) rNil)))) (rVal (eOp dMax2 (eC (.int 0)) (eOp dSub (eUn dLen (eVar 5)) (eC (.int 1)))) rNil))))))) (sRet (eC (.bool false))) sNext)
noncomputable def S20_law : SF := (sAsg (eTup (aCons (eC (.int 0)) (aCons (eC (.int 0)) (aCons (eC (.int 0)) aNil)))) (gTupF (gsCons (gNm 11) (gsCons (gNm 12) (gsCons (gNm 13) gsNil))) 3))
noncomputable def S21_law : SF := (sWhile (T6_law) (L7_law))
noncomputable def S22_law : SF := (sIf (bB (eOp dLtA (eVar 12) (eVar 6))) (sRet (eC (.bool false))) sNext)
noncomputable def S23_law : SF := (sIf (bAnd (bB (eOp dGt (eVar 4) (eC (.int 1)))) (bOr (bB (eOp dLtA (eFz (oCall F_waited (rVal (eVar 3) (rVal (eOp dSub (eVar 4) (eC (.int 1))) rNil)))) (eVar 6))) (bB (eOp dLtA (eFz (oCall F_all_gone (rVal (eVar 3) (rVal (eOp dSub (eVar 4) (eC (.int 1))) rNil)))) (eFz (oCall F_all_gone (rVal (eVar 3) (rVal (eVar 4) rNil)))))))) (sRet (eC (.bool false))) sNext)
noncomputable def S24_law : SF := (sIf (bOr (bB (eOp dNe (eUn dSum (eFz (oCall F_gone (rVal (eVar 3) (rVal (eVar 4) rNil))))) (eUn dSum (eVar 3)))) (bE (eUn dAny (eFz (oComp (lOf (eVar 5)) (gNm 14) bYes (K8_law) [14]))))) (sRet (eC (.bool false))) sNext)
noncomputable def L25_law : SF := (sSeq S9_law (sSeq S10_law (sSeq S11_law (sSeq S12_law (sSeq S13_law (sSeq S14_law (sSeq S15_law (sSeq S16_law (sSeq S17_law (sSeq S18_law (sSeq S19_law (sSeq S20_law (sSeq S21_law (sSeq S22_law (sSeq S23_law S24_law)))))))))))))))
noncomputable def K26_law : EF := (eFz (oCall F__law_draw (rRef 1 (rVal (eC (.int 1001)) rNil))))
noncomputable def K27_law : EF := (eOp dSub (eUn dSum (eSl (eVar 15) pNo (pSo (eOp dAdd (eVar 8) (eC (.int 1)))))) (eUn dSum (eSl (eVar 16) pNo (pSo (eOp dAdd (eVar 8) (eC (.int 1)))))))
noncomputable def S28_law : SF := (sFor (lRng1 (eC (.int 6))) (gNm 2) (L25_law))
noncomputable def S29_law : SF := (sSet 15 (oE (eUn dTuple (eFz (oComp (lRng1 (eC (.int 30))) (gNm 17) bYes (K26_law) [17])))))
noncomputable def S30_law : SF := (sSet 4 (oE (eOp dAdd (eC (.int 1)) (eFz (oCall F__law_draw (rRef 1 (rVal (eC (.int 100)) rNil)))))))
noncomputable def S31_law : SF := (sSet 16 (oE (eFz (oCall F_gone (rVal (eVar 15) (rVal (eVar 4) rNil))))))
noncomputable def S32_law : SF := (sIf (bOr (bB (eOp dNe (eUn dSum (eVar 16)) (eUn dSum (eVar 15)))) (bB (eOp dNe (eFz (oCall F_waited (rVal (eVar 15) (rVal (eVar 4) rNil)))) (eUn dSum (eFz (oComp (lRng1 (eUn dLen (eVar 16))) (gNm 8) bYes (K27_law) [8])))))) (sRet (eC (.bool false))) sNext)
noncomputable def S33_law : SF := (sRet (eAnd (eFz (oCall F__law_same (rVal (eFz (oCall F_gone (rVal (eTup (aCons (eC (.int 5)) (aCons (eC (.int 0)) (aCons (eC (.int 2)) aNil)))) (rVal (eC (.int 2)) rNil)))) (rVal (eTup (aCons (eC (.int 2)) (aCons (eC (.int 2)) (aCons (eC (.int 2)) (aCons (eC (.int 1)) aNil))))) rNil)))) (eAnd (eFz (oCall F__law_same (rVal (eFz (oCall F_longest_queue (rVal (eTup (aCons (eC (.int 5)) (aCons (eC (.int 0)) (aCons (eC (.int 2)) aNil)))) (rVal (eC (.int 2)) rNil)))) (rVal (eTup (aCons (eC (.int 3)) (aCons (eC (.int 0)) (aCons (eC (.int 0)) aNil)))) rNil)))) (eFz (oCall F__law_same (rVal (eFz (oCall F_waited (rVal (eTup (aCons (eC (.int 5)) (aCons (eC (.int 0)) (aCons (eC (.int 2)) aNil)))) (rVal (eC (.int 2)) rNil)))) (rVal (eC (.int 5)) rNil)))))))
noncomputable def F_law : SF := (sSeq S28_law (sSeq S29_law (sSeq S30_law (sSeq S31_law (sSeq S32_law S33_law)))))
theorem ok_law_rest {f : Addr} (B : Bt mg) (D__law_draw : Dk P w K mg base "_law_draw" 2 2 F__law_draw) (D__law_walked_through : Dk P w K mg base "_law_walked_through" 1 2 F__law_walked_through) (D_gone : Dk P w K mg base "gone" 1 2 F_gone) (D_waited : Dk P w K mg base "waited" 2 2 F_waited) (D__law_same : Dk P w K mg base "_law_same" 20 2 F__law_same) (D_left_waiting : Dk P w K mg base "left_waiting" 1 2 F_left_waiting) (D_longest_queue : Dk P w K mg base "longest_queue" 2 2 F_longest_queue) (D_all_gone : Dk P w K mg base "all_gone" 2 2 F_all_gone) (cdv : Value) (A : Around) (outer : List Env) (s : Shared) (H : Hp) (E : XK) (hr : Room 20 (A.deeper (envOfC "law" (defScope s_law) s.heap.objs.size f cdv))) :
    FSs (cxOf CX0 P w K mg base ["script", "box", "turn", "arrivals", "wide", "through", "waits_here", "lengths", "t", "most", "due", "left", "total", "moment", "out", "great", "told", "k", "s"] "law" (defScope s_law) f cdv A outer s H E).nox ((defBody s_law).drop 1) F_law :=
  (fss_cons (fs_for PassesOwn.never rfl (fi_rng1 fe_int B.range) (fgn 2 sc_law.nd) (fss_cons (fset 3 sc_law.nd (fo_fe (fe_tuple (fb_fe (fe_fo (fo_lc ⟨rfl, sc_law.nd, hr⟩ (fi_rng1 (fe_fo (foc D__law_draw (hr.mono (by decide)) (frf 1 (fr_val fe_int fr_nil)))) B.range) (blkOk_by (own := [("k", 17)]) (N := ["script", "box", "turn", "arrivals", "wide", "through", "waits_here", "lengths", "t", "most", "due", "left", "total", "moment", "out", "great", "told", "k", "s"]) (sc := defScope s_law) (by decide +kernel)) (fun _ _ _ _ _ => (fgn 17 sc_law.nd)) (fun _ _ _ _ _ => fts_nil) (fun _ _ _ _ _ => (fe_if (fc_gt ⟨rfl, sc_law.nd, hr⟩ (fe_fo (foc D__law_draw (hr.mono (by decide)) (frf 1 (fr_val fe_int fr_nil)))) (fb_fe fe_int)).t (fe_fo (foc D__law_draw (hr.mono (by decide)) (frf 1 (fr_val fe_int fr_nil)))) fe_int))))) B.tuple))) (fss_cons (fset 4 sc_law.nd (fo_fe (fe_add fe_int (fb_fe (fe_fo (foc D__law_draw (hr.mono (by decide)) (frf 1 (fr_val fe_int fr_nil)))))))) (fss_cons (fs_asg (fe_fo (foc D__law_walked_through (hr.mono (by decide)) (fr_val (fv 3) (fr_val (fv 4) fr_nil)))) (fg_tup rfl (fgs_cons (fgn 5 sc_law.nd) (fgs_cons (fgn 6 sc_law.nd) fgs_nil)))) (fss_cons (fs_if (ft_not (ft_e (fb_fe (fe_fo (foc D__law_same (hr.mono (by decide)) (fr_val (fe_tup (fa_cons (fe_fo (foc D_gone (hr.mono (by decide)) (fr_val (fv 3) (fr_val (fv 4) fr_nil)))) (fa_cons (fe_fo (foc D_waited (hr.mono (by decide)) (fr_val (fv 3) (fr_val (fv 4) fr_nil)))) fa_nil))) (fr_val (fe_tup (fa_cons (fv 5) (fa_cons (fv 6) fa_nil))) fr_nil))))) (by intro _; rfl))) (fss_one (fs_ret fe_bl)) fss_nil) (fss_cons (fset 7 sc_law.nd (fo_lst fa_nil)) (fss_cons (fs_for PassesOwn.never rfl (fi_rng1 (fe_len (fb_fe (fv 3)) B.len) B.range) (fgn 8 sc_law.nd) (fss_cons (fs_expr (fapp 7 (fe_sub (fe_sum ⟨rfl, sc_law.nd, hr⟩ (fb_fe (fe_sl (fv 3) fp_no (fp_so (fe_add (fv 8) (fb_fe fe_int))))) B.sum) (fb_fe (fe_sum ⟨rfl, sc_law.nd, hr⟩ (fb_fe (fe_sl (fv 5) fp_no (fp_so (fe_add (fv 8) (fb_fe fe_int))))) B.sum))))) (fss_one (fs_if (fc_ne ⟨rfl, sc_law.nd, hr⟩ (fixo 7 (fe_neg (fb_fe fe_int))) (fb_fe (fe_max1 ⟨rfl, sc_law.nd, hr⟩ (fb_fe (fe_add (fe_fo (fo_lst (fa_cons fe_int fa_nil))) (fb_fe (fe_fo (fo_lc ⟨rfl, sc_law.nd, hr⟩ (fi_rng1 (fe_add (fv 8) (fb_fe fe_int)) B.range) (blkOk_by (own := [("s", 18)]) (N := ["script", "box", "turn", "arrivals", "wide", "through", "waits_here", "lengths", "t", "most", "due", "left", "total", "moment", "out", "great", "told", "k", "s"]) (sc := defScope s_law) (by decide +kernel)) (fun _ _ _ _ _ => (fgn 18 sc_law.nd)) (fun _ _ _ _ _ => fts_nil) (fun _ _ _ _ _ => (fe_sub (fe_sum ⟨rfl, sc_law.nd, hr⟩ (fb_fe (fe_sl (fv 3) (fp_so (fv 18)) (fp_so (fe_add (fv 8) (fb_fe fe_int))))) B.sum) (fb_fe (fe_mul (fv 4) (fb_fe (fe_sub (fe_add (fv 8) (fb_fe fe_int)) (fb_fe (fv 18))))))))))))) B.max))).t (fss_one (fs_ret fe_bl)) fss_nil)))) (fss_cons (fs_if (ft_not (ft_e (fb_fe (fe_fo (foc D__law_same (hr.mono (by decide)) (fr_val (fe_fo (foc D_left_waiting (hr.mono (by decide)) (fr_val (fv 3) (fr_val (fv 4) fr_nil)))) (fr_val (fe_tuple (fo 7) B.tuple) fr_nil))))) (by intro _; rfl))) (fss_one (fs_ret fe_bl)) fss_nil) (fss_cons (fset 9 sc_law.nd (fo_fe (fe_max1 ⟨rfl, sc_law.nd, hr⟩ (fb_fe (fe_add (fe_fo (fo_lst (fa_cons fe_int fa_nil))) (fo 7))) B.max))) (fss_cons (fset 10 sc_law.nd (fo_fe (fe_tup (fa_cons fe_int (fa_cons fe_non (fa_cons fe_non fa_nil)))))) (fss_cons (fs_if (fc_gt ⟨rfl, sc_law.nd, hr⟩ (fv 9) (fb_fe fe_int)).t (fss_cons (fset 8 sc_law.nd (fo_fe (fidx 7 (fv 9)))) (fss_one (fset 10 sc_law.nd (fo_fe (fe_tup (fa_cons (fv 9) (fa_cons (fe_max1 ⟨rfl, sc_law.nd, hr⟩ (fb_fe (fe_fo (fo_lc ⟨rfl, sc_law.nd, hr⟩ (fi_rng1 (fe_add (fv 8) (fb_fe fe_int)) B.range) (blkOk_by (own := [("s", 18)]) (N := ["script", "box", "turn", "arrivals", "wide", "through", "waits_here", "lengths", "t", "most", "due", "left", "total", "moment", "out", "great", "told", "k", "s"]) (sc := defScope s_law) (by decide +kernel)) (fun _ _ _ _ _ => (fgn 18 sc_law.nd)) (fun _ _ _ _ _ => (fts_one (fc_eq ⟨rfl, sc_law.nd, hr⟩ (fe_sub (fe_sum ⟨rfl, sc_law.nd, hr⟩ (fb_fe (fe_sl (fv 3) (fp_so (fv 18)) (fp_so (fe_add (fv 8) (fb_fe fe_int))))) B.sum) (fb_fe (fe_mul (fv 4) (fb_fe (fe_sub (fe_add (fv 8) (fb_fe fe_int)) (fb_fe (fv 18))))))) (fb_fe (fv 9))).t)) (fun _ _ _ _ _ => (fv 18))))) B.max) (fa_cons (fv 8) fa_nil)))))))) fss_nil) (fss_cons (fs_if (FW.ft (fw_or (ft_not (ft_e (fb_fe (fe_fo (foc D__law_same (hr.mono (by decide)) (fr_val (fe_fo (foc D_longest_queue (hr.mono (by decide)) (fr_val (fv 3) (fr_val (fv 4) fr_nil)))) (fr_val (fv 10) fr_nil))))) (by intro _; rfl))) (fw_or1 (ft_not (ft_e (fb_fe (fe_fo (foc D__law_same (hr.mono (by decide)) (fr_val (fe_fo (foc D_all_gone (hr.mono (by decide)) (fr_val (fv 3) (fr_val (fv 4) fr_nil)))) (fr_val (fe_max2 ⟨rfl, sc_law.nd, hr⟩ fe_int (fb_fe (fe_sub (fe_len (fb_fe (fv 5)) B.len) (fb_fe fe_int))) B.max) fr_nil))))) (by intro _; rfl)))))) (fss_one (fs_ret fe_bl)) fss_nil) (fss_cons (fs_asg (fe_tup (fa_cons fe_int (fa_cons fe_int (fa_cons fe_int fa_nil)))) (fg_tup rfl (fgs_cons (fgn 11 sc_law.nd) (fgs_cons (fgn 12 sc_law.nd) (fgs_cons (fgn 13 sc_law.nd) fgs_nil))))) (fss_cons (fs_while PassesOwn.never (FW.ft (fw_or (fc_lt ⟨rfl, sc_law.nd, hr⟩ (fv 13) (fb_fe (fe_len (fb_fe (fv 3)) B.len))).t (fw_or1 (fc_gt ⟨rfl, sc_law.nd, hr⟩ (fv 11) (fb_fe fe_int)).t))) (fss_cons (fset 11 sc_law.nd (fo_fe (fe_add (fv 11) (fb_fe (fe_if (fc_lt ⟨rfl, sc_law.nd, hr⟩ (fv 13) (fb_fe (fe_len (fb_fe (fv 3)) B.len))).t (fe_ix (fv 3) (fv 13)) fe_int))))) (fss_cons (fset 14 sc_law.nd (fo_fe (fe_if (fc_gt ⟨rfl, sc_law.nd, hr⟩ (fv 13) (fb_fe fe_int)).t (fe_min2 ⟨rfl, sc_law.nd, hr⟩ (fv 11) (fb_fe (fv 4)) B.min) (fe_fo (foc D__law_draw (hr.mono (by decide)) (frf 1 (fr_val (fe_add (fe_min2 ⟨rfl, sc_law.nd, hr⟩ (fv 11) (fb_fe (fv 4)) B.min) (fb_fe fe_int)) fr_nil))))))) (fss_cons (fpar 11 13 sc_law.nd (fol_cons (fo_fe (fe_sub (fv 11) (fb_fe (fv 14)))) (fol_cons (fo_fe (fe_add (fv 13) (fb_fe fe_int))) fol_nil))) (fss_one (fset 12 sc_law.nd (fo_fe (fe_add (fv 12) (fb_fe (fv 11)))))))))) (fss_cons (fs_if (fc_lt ⟨rfl, sc_law.nd, hr⟩ (fv 12) (fb_fe (fv 6))).t (fss_one (fs_ret fe_bl)) fss_nil) (fss_cons (fs_if (FW.ft (fw_and (fc_gt ⟨rfl, sc_law.nd, hr⟩ (fv 4) (fb_fe fe_int)).t (fw_and1 (FW.ft (fw_or (fc_lt ⟨rfl, sc_law.nd, hr⟩ (fe_fo (foc D_waited (hr.mono (by decide)) (fr_val (fv 3) (fr_val (fe_sub (fv 4) (fb_fe fe_int)) fr_nil)))) (fb_fe (fv 6))).t (fw_or1 (fc_lt ⟨rfl, sc_law.nd, hr⟩ (fe_fo (foc D_all_gone (hr.mono (by decide)) (fr_val (fv 3) (fr_val (fe_sub (fv 4) (fb_fe fe_int)) fr_nil)))) (fb_fe (fe_fo (foc D_all_gone (hr.mono (by decide)) (fr_val (fv 3) (fr_val (fv 4) fr_nil)))))).t)))))) (fss_one (fs_ret fe_bl)) fss_nil) (fss_one (fs_if (FW.ft (fw_or (fc_ne ⟨rfl, sc_law.nd, hr⟩ (fe_sum ⟨rfl, sc_law.nd, hr⟩ (fb_fe (fe_fo (foc D_gone (hr.mono (by decide)) (fr_val (fv 3) (fr_val (fv 4) fr_nil))))) B.sum) (fb_fe (fe_sum ⟨rfl, sc_law.nd, hr⟩ (fb_fe (fv 3)) B.sum))).t (fw_or1 (ft_e (fb_fe (fe_any ⟨rfl, sc_law.nd, hr⟩ (fb_fe (fe_fo (fo_lc ⟨rfl, sc_law.nd, hr⟩ (fi_seq (fv 5)) (blkOk_by (own := [("out", 14)]) (N := ["script", "box", "turn", "arrivals", "wide", "through", "waits_here", "lengths", "t", "most", "due", "left", "total", "moment", "out", "great", "told", "k", "s"]) (sc := defScope s_law) (by decide +kernel)) (fun _ _ _ _ _ => (fgn 14 sc_law.nd)) (fun _ _ _ _ _ => fts_nil) (fun _ _ _ _ _ => (fc_gt ⟨rfl, sc_law.nd, hr⟩ (fv 14) (fb_fe (fv 4))).v)))) B.any)) (by intro _; rfl))))) (fss_one (fs_ret fe_bl)) fss_nil)))))))))))))))))) (fss_cons (fset 15 sc_law.nd (fo_fe (fe_tuple (fb_fe (fe_fo (fo_lc ⟨rfl, sc_law.nd, hr⟩ (fi_rng1 fe_int B.range) (blkOk_by (own := [("k", 17)]) (N := ["script", "box", "turn", "arrivals", "wide", "through", "waits_here", "lengths", "t", "most", "due", "left", "total", "moment", "out", "great", "told", "k", "s"]) (sc := defScope s_law) (by decide +kernel)) (fun _ _ _ _ _ => (fgn 17 sc_law.nd)) (fun _ _ _ _ _ => fts_nil) (fun _ _ _ _ _ => (fe_fo (foc D__law_draw (hr.mono (by decide)) (frf 1 (fr_val fe_int fr_nil)))))))) B.tuple))) (fss_cons (fset 4 sc_law.nd (fo_fe (fe_add fe_int (fb_fe (fe_fo (foc D__law_draw (hr.mono (by decide)) (frf 1 (fr_val fe_int fr_nil)))))))) (fss_cons (fset 16 sc_law.nd (fo_fe (fe_fo (foc D_gone (hr.mono (by decide)) (fr_val (fv 15) (fr_val (fv 4) fr_nil)))))) (fss_cons (fs_if (FW.ft (fw_or (fc_ne ⟨rfl, sc_law.nd, hr⟩ (fe_sum ⟨rfl, sc_law.nd, hr⟩ (fb_fe (fv 16)) B.sum) (fb_fe (fe_sum ⟨rfl, sc_law.nd, hr⟩ (fb_fe (fv 15)) B.sum))).t (fw_or1 (fc_ne ⟨rfl, sc_law.nd, hr⟩ (fe_fo (foc D_waited (hr.mono (by decide)) (fr_val (fv 15) (fr_val (fv 4) fr_nil)))) (fb_fe (fe_sum ⟨rfl, sc_law.nd, hr⟩ (fb_fe (fe_fo (fo_lc ⟨rfl, sc_law.nd, hr⟩ (fi_rng1 (fe_len (fb_fe (fv 16)) B.len) B.range) (blkOk_by (own := [("t", 8)]) (N := ["script", "box", "turn", "arrivals", "wide", "through", "waits_here", "lengths", "t", "most", "due", "left", "total", "moment", "out", "great", "told", "k", "s"]) (sc := defScope s_law) (by decide +kernel)) (fun _ _ _ _ _ => (fgn 8 sc_law.nd)) (fun _ _ _ _ _ => fts_nil) (fun _ _ _ _ _ => (fe_sub (fe_sum ⟨rfl, sc_law.nd, hr⟩ (fb_fe (fe_sl (fv 15) fp_no (fp_so (fe_add (fv 8) (fb_fe fe_int))))) B.sum) (fb_fe (fe_sum ⟨rfl, sc_law.nd, hr⟩ (fb_fe (fe_sl (fv 16) fp_no (fp_so (fe_add (fv 8) (fb_fe fe_int))))) B.sum))))))) B.sum))).t))) (fss_one (fs_ret fe_bl)) fss_nil) (fss_one (fs_ret (fe_and (fe_fo (foc D__law_same (hr.mono (by decide)) (fr_val (fe_fo (foc D_gone (hr.mono (by decide)) (fr_val (fe_tup (fa_cons fe_int (fa_cons fe_int (fa_cons fe_int fa_nil)))) (fr_val fe_int fr_nil)))) (fr_val (fe_tup (fa_cons fe_int (fa_cons fe_int (fa_cons fe_int (fa_cons fe_int fa_nil))))) fr_nil)))) (fe_and (fe_fo (foc D__law_same (hr.mono (by decide)) (fr_val (fe_fo (foc D_longest_queue (hr.mono (by decide)) (fr_val (fe_tup (fa_cons fe_int (fa_cons fe_int (fa_cons fe_int fa_nil)))) (fr_val fe_int fr_nil)))) (fr_val (fe_tup (fa_cons fe_int (fa_cons fe_int (fa_cons fe_int fa_nil)))) fr_nil)))) (fe_one (fe_fo (foc D__law_same (hr.mono (by decide)) (fr_val (fe_fo (foc D_waited (hr.mono (by decide)) (fr_val (fe_tup (fa_cons fe_int (fa_cons fe_int (fa_cons fe_int fa_nil)))) (fr_val fe_int fr_nil)))) (fr_val fe_int fr_nil))))))))))))))
end
end Fl

set_option Elab.async false
set_option linter.all false
set_option maxRecDepth 100000
set_option maxHeartbeats 4000000

set_option autoImplicit false
namespace Fl
open PySem PySem.Spec PyProof.Rows L2
local macro_rules | `(tactic| walk_at "ev") => `(tactic| simp -implicitDefEqProofs only [prE_ev, eVar_ev, varC_ev, varC_tn, eNm_ev, nmC_va, nmC_tn, nmC_li, eC_ev, vw_va, vw_tn, vw_li, eOwn_ev, eIxO_ev, ixoC_ev, ixoC2_ev, ixoC3_ev, eOp_ev, opC_ev, opC2_ev, eUn_ev, unC_ev, bE_ev, bEC_ev, bB_ev, bBC_ev, bNot_ev, notC_ev, bAnd_ev, andC_t, andC_f, bOr_ev, orC_t, orC_f, bYes_ev, eAnd_ev, eandC_t, eandC_f, eOr_ev, eorC_t, eorC_f, eNot_ev, enotC_ev, eIf_ev, ifC_t, ifC_f, eTup_ev, tupC_ev, aNil_ev, aCons_ev, aconsC_ev, aconsC2_ev, oLst_ev, lstC_ev, oE_ev, oEC_ev, eFz_ev, fzC_tn, fzC_va, fzC_li, oUn_ev, ounC_ev, prL_ev, eSl_ev, slC_ev, slC2_ev, slC3_ev, eSlO_ev, sloC_ev, sloC2_ev, sloC3_ev, sloC4_ev, lEnum_ev, enC_tup, enC_lst, pNo_ev, pSo_ev, psoC_ev, lOf_ev, lofC_tup, lofC_lst, lRng1_ev, rng1C_ev, lRng2_ev, rng2C_ev, rng2C2_ev, oRep_ev, repC_ev, repC2_ev, oCall_ev, callC_0, callC_1, callC_2, callC_3, callC_4, callC_5, callC_rv, callC_rv4, arSl_vl, arSl_rf, callC2_ev, arBack_nil, arBack_vl, arBack_rf, rNil_ev, rVal_ev, rvC_ev, rvC2_ev, rRef_ev, rrC_ev, oComp_ev, compC2_ev, wipeE_nil, wipeE_cons, backE_nil, backE_cons, gNm_ev, gTupF_ev, gsNil_ev, gsCons_ev, sNext_ev, sBreak_ev, sCont_ev, sSeq_ev, seqC_nx, seqC_bk, seqC_ct, seqC_rt, sSet_ev, setC_ev, sPar_ev, parC_ev, setAll_nil, setAll_cons, olNil_ev, olCons_ev, olC_ev, olC2_ev, sAsg_ev, asgC_ev, sIf_ev, sifC_t, sifC_f, sFor_ev, forC_ev, sDrop_ev, dropC_ev, sRet_ev, retC_ev, sRetN_ev, retnC_va, retnC_li, liOf_li, eMt1_ev, mt1C_ev, mt1C2_ev, mt1C3_ev, mt1C4_ev, eMt0_ev, mt0C_ev, sSub_ev, subC_ev, subC1_ev, subC2_ev, subC3_ev, subC4_ev, sAug_ev, augC_ev, augC2_ev, augC3_ev, mkF_ev, mkC_rt, mkC_nx, keepE_nil, keepE_va, keepE_ow', dTru_bool, dTru_int, dTru_none, dTru_list, dTru_tuple, dAdd_int, dAdd_tup, dAdd_lst, dIadd_int, dSub_int, dMul_int, dDiv_int, dMod_int, dNeg_int, dMin2_int, dMax2_int, dLtA_int, dLe_int, dLt_int, dGt_int, dGe_int, shaped_int, shaped_bool, shaped_none, eqv_int, eqv_bool, dEq_int, dNe_int, dEq_bool, dIs_none, dIsN_none, isNon_none, isNon_int, isNon_tup, isNon_bool, dLen_tup, dLen_lst, dIx_tup, dIx_lst, at0, at1, at2, at3, gExtend_lst, dTuple_lst, dTuple_tup, dList_lst, dList_tup, dInt_int, dSl_tup, dSl_lst, isTup, isLst, isBool, isIntB, isStr, beq_self_eq_true, decide_true, decide_false, isi_tup, isi_lst, isi_int, isi_bool, isi_str, isi_none, sz0, sz1, sz2, sz3, sz4, sz5, sz6, sz7, sz8, sz9, sz10, sz11, sz12, isOw_no, isOw_va, isOw_li, isOw_di, isOw_dt, isOw_ow, isOw_none, isOw_sl,
  Option.bind_some, Option.map_some, Option.bind_none, Option.map_none, Option.getD_some, Option.getD_none, List.getElem?_cons_zero, List.getElem?_cons_succ, List.set_cons_zero, List.set_cons_succ, List.map_cons, List.map_nil, List.headD_cons, List.headD_nil, List.tail_cons, List.tail_nil, List.isEmpty_nil, List.isEmpty_cons, List.length_nil, List.length_cons, List.nil_append, List.cons_append, List.replicate_succ, List.replicate_zero, Nat.reduceSub, Nat.reduceAdd, Bool.false_eq_true, if_false, if_true, reduceIte, Bool.not_true, Bool.not_false, and_true, true_and, and_self, Int.toNat_natCast, Int.zero_add, eCh_ev, chC_ev, chC2_ev, chC3_t, chC3_f, chC4_ev, lZip_ev, zipC_ev, zipC2_tup, zipC2_lst, dRev_tup, dRev_lst, dRngL_int, dRngT_int, oIte_ev, oiteC_li, oiteC_va, oCompO_ev, callC_rv2, callC_rv3, rdOf_di, rdOf_dl, diOf_di, keyD_int, eDget_ev, dgC_ev, dgC1_ev, dgC2_ev, dgC3_ev, eDin_ev, diC_ev, diC1_ev, diC2_t, diC2_f, eDlen_ev, dlC_ev, eDgt2_ev, d2C_ev, d2C1_ev, d2C2_ev, d2C3_ev, d2C4_ev, eDpop_ev, dpC_ev, dpC1_ev, dpC2_ev, dpC3_ev, dpC4_ev, sDput_ev, ddC_ev, ddC1_ev, ddC2_ev, ddC3_ev, ddC4_ev, oDnew_ev, oLock_ev, lkC_ev, lkC1_ev, lKeys_ev, lkyC_ev, isDl_li, isOw_dl, sRetO_ev, retOC_ev, oTn_ev, oTnC_ev, tnOf_ev, eMtT_ev, mtTC_ev, mtTC2_ev, mtTC3_ev, isOw_tn, oCat_ev, catC_ev])
local macro_rules | `(tactic| walk_at "evh") => `(tactic| simp -implicitDefEqProofs only [prE_ev, eVar_ev, varC_ev, varC_tn, eNm_ev, nmC_va, nmC_tn, nmC_li, eC_ev, vw_va, vw_tn, vw_li, eOwn_ev, eIxO_ev, ixoC_ev, ixoC2_ev, ixoC3_ev, eOp_ev, opC_ev, opC2_ev, eUn_ev, unC_ev, bE_ev, bEC_ev, bB_ev, bBC_ev, bNot_ev, notC_ev, bAnd_ev, andC_t, andC_f, bOr_ev, orC_t, orC_f, bYes_ev, eAnd_ev, eandC_t, eandC_f, eOr_ev, eorC_t, eorC_f, eNot_ev, enotC_ev, eIf_ev, ifC_t, ifC_f, eTup_ev, tupC_ev, aNil_ev, aCons_ev, aconsC_ev, aconsC2_ev, oLst_ev, lstC_ev, oE_ev, oEC_ev, eFz_ev, fzC_tn, fzC_va, fzC_li, oUn_ev, ounC_ev, prL_ev, eSl_ev, slC_ev, slC2_ev, slC3_ev, eSlO_ev, sloC_ev, sloC2_ev, sloC3_ev, sloC4_ev, lEnum_ev, enC_tup, enC_lst, pNo_ev, pSo_ev, psoC_ev, lOf_ev, lofC_tup, lofC_lst, lRng1_ev, rng1C_ev, lRng2_ev, rng2C_ev, rng2C2_ev, oRep_ev, repC_ev, repC2_ev, oCall_ev, callC_0, callC_1, callC_2, callC_3, callC_4, callC_5, callC_rv, callC_rv4, arSl_vl, arSl_rf, callC2_ev, arBack_nil, arBack_vl, arBack_rf, rNil_ev, rVal_ev, rvC_ev, rvC2_ev, rRef_ev, rrC_ev, oComp_ev, compC2_ev, wipeE_nil, wipeE_cons, backE_nil, backE_cons, gNm_ev, gTupF_ev, gsNil_ev, gsCons_ev, sNext_ev, sBreak_ev, sCont_ev, sSeq_ev, seqC_nx, seqC_bk, seqC_ct, seqC_rt, sSet_ev, setC_ev, sPar_ev, parC_ev, setAll_nil, setAll_cons, olNil_ev, olCons_ev, olC_ev, olC2_ev, sAsg_ev, asgC_ev, sIf_ev, sifC_t, sifC_f, sFor_ev, forC_ev, sDrop_ev, dropC_ev, sRet_ev, retC_ev, sRetN_ev, retnC_va, retnC_li, liOf_li, eMt1_ev, mt1C_ev, mt1C2_ev, mt1C3_ev, mt1C4_ev, eMt0_ev, mt0C_ev, sSub_ev, subC_ev, subC1_ev, subC2_ev, subC3_ev, subC4_ev, sAug_ev, augC_ev, augC2_ev, augC3_ev, mkF_ev, mkC_rt, mkC_nx, keepE_nil, keepE_va, keepE_ow', dTru_bool, dTru_int, dTru_none, dTru_list, dTru_tuple, dAdd_int, dAdd_tup, dAdd_lst, dIadd_int, dSub_int, dMul_int, dDiv_int, dMod_int, dNeg_int, dMin2_int, dMax2_int, dLtA_int, dLe_int, dLt_int, dGt_int, dGe_int, shaped_int, shaped_bool, shaped_none, eqv_int, eqv_bool, dEq_int, dNe_int, dEq_bool, dIs_none, dIsN_none, isNon_none, isNon_int, isNon_tup, isNon_bool, dLen_tup, dLen_lst, dIx_tup, dIx_lst, at0, at1, at2, at3, gExtend_lst, dTuple_lst, dTuple_tup, dList_lst, dList_tup, dInt_int, dSl_tup, dSl_lst, isTup, isLst, isBool, isIntB, isStr, beq_self_eq_true, decide_true, decide_false, isi_tup, isi_lst, isi_int, isi_bool, isi_str, isi_none, sz0, sz1, sz2, sz3, sz4, sz5, sz6, sz7, sz8, sz9, sz10, sz11, sz12, isOw_no, isOw_va, isOw_li, isOw_di, isOw_dt, isOw_ow, isOw_none, isOw_sl,
  Option.bind_some, Option.map_some, Option.bind_none, Option.map_none, Option.getD_some, Option.getD_none, List.getElem?_cons_zero, List.getElem?_cons_succ, List.set_cons_zero, List.set_cons_succ, List.map_cons, List.map_nil, List.headD_cons, List.headD_nil, List.tail_cons, List.tail_nil, List.isEmpty_nil, List.isEmpty_cons, List.length_nil, List.length_cons, List.nil_append, List.cons_append, List.replicate_succ, List.replicate_zero, Nat.reduceSub, Nat.reduceAdd, Bool.false_eq_true, if_false, if_true, reduceIte, Bool.not_true, Bool.not_false, and_true, true_and, and_self, Int.toNat_natCast, Int.zero_add, eCh_ev, chC_ev, chC2_ev, chC3_t, chC3_f, chC4_ev, lZip_ev, zipC_ev, zipC2_tup, zipC2_lst, dRev_tup, dRev_lst, dRngL_int, dRngT_int, oIte_ev, oiteC_li, oiteC_va, oCompO_ev, callC_rv2, callC_rv3, rdOf_di, rdOf_dl, diOf_di, keyD_int, eDget_ev, dgC_ev, dgC1_ev, dgC2_ev, dgC3_ev, eDin_ev, diC_ev, diC1_ev, diC2_t, diC2_f, eDlen_ev, dlC_ev, eDgt2_ev, d2C_ev, d2C1_ev, d2C2_ev, d2C3_ev, d2C4_ev, eDpop_ev, dpC_ev, dpC1_ev, dpC2_ev, dpC3_ev, dpC4_ev, sDput_ev, ddC_ev, ddC1_ev, ddC2_ev, ddC3_ev, ddC4_ev, oDnew_ev, oLock_ev, lkC_ev, lkC1_ev, lKeys_ev, lkyC_ev, isDl_li, isOw_dl, sRetO_ev, retOC_ev, oTn_ev, oTnC_ev, tnOf_ev, eMtT_ev, mtTC_ev, mtTC2_ev, mtTC3_ev, isOw_tn, oCat_ev, catC_ev, *])
/-! gone -/
def gE (xs : List Int) (w : Int) (n : Nat) (m : Option D) : Ev := [.va (.tuple (iL xs)), .va (.int w), .va (.int (qW (st xs) w n)), .li (iL (prS (oW (st xs) w) n)), sl m]
theorem iL_get {xs : List Int} {n : Nat} {d : D} (h : (iL xs)[n]? = some d) : n < xs.length ∧ d = .int (st xs n) := by
  rw [List.getElem?_map] at h
  by_cases hn : n < xs.length
  · rw [st_lt hn] at h; cases h; exact ⟨hn, rfl⟩
  · rw [List.getElem?_eq_none (by omega)] at h; cases h
theorem gone_for {xs : List Int} {w : Int} (hl : xs.length ≤ 100000) (m : Option D) : ∃ m', forL (gNm 4) L1_gone (iL xs) (gE xs w 0 m) = some (.nx (gE xs w xs.length m')) := by
  obtain ⟨m', h, _⟩ := forL_at (t := gNm 4) (b := L1_gone) (ds := iL xs) (gE xs w) (fun _ _ => True) (fun n m d hd _ => by
    obtain ⟨hn, rfl⟩ := iL_get hd
    refine ⟨some (.int (st xs n)), ?_, trivial⟩
    have ha : gAppend (iL (prS (oW (st xs) w) n)) (.int (oW (st xs) w n)) = some (.none, iL (prS (oW (st xs) w) n) ++ [.int (oW (st xs) w n)]) := gAppend_ok (by rw [iL_len, prS_len]; omega)
    have hm : min (qW (st xs) w n + st xs n) w = oW (st xs) w n := rfl
    unfold L1_gone gE
    walk_at "ev"
    simp only [min_if, hm, ha, Option.bind_some, Option.map_some]
    walk_at "ev"
    simp only [atI_end, Option.map_some, Option.bind_some]
    walk_at "ev"
    rw [← qW_succ, prS_succ, iL_cat]; rfl) m trivial
  exact ⟨m', by rw [h, iL_len]⟩
theorem gone_while {xs : List Int} {w : Int} {N : Nat} (hD : Dry N (st xs)) (hl : xs.length ≤ N) (hN : N ≤ 100000) (hw : 1 ≤ w) (m : Option D) : ∃ n, sWhile T2_gone L3_gone (gE xs w xs.length m) = some (.nx (gE xs w n m)) ∧ xs.length ≤ n ∧ n ≤ N ∧ qW (st xs) w n ≤ 0 := by
  obtain ⟨n, h1, h2, h3, _⟩ := while_st (c := T2_gone) (b := L3_gone) (fun n => gE xs w n m) (fun n => decide (0 < qW (st xs) w n)) (· + 1) (fun n => xs.length ≤ n ∧ n ≤ N) (fun n => N - n) (fun n ⟨hn, hn2⟩ => by
    refine ⟨?_, fun ht => ?_⟩
    · unfold T2_gone gE
      walk_at "ev"
    · have hq : 0 < qW (st xs) w n := of_decide_eq_true ht
      have hlt : n < N := by
        rcases Nat.lt_or_ge n N with h | h
        · exact h
        · have := hD.dry w hw n h; omega
      refine ⟨?_, ⟨by omega, hlt⟩, by omega⟩
      have ha : gAppend (iL (prS (oW (st xs) w) n)) (.int (oW (st xs) w n)) = some (.none, iL (prS (oW (st xs) w) n) ++ [.int (oW (st xs) w n)]) := gAppend_ok (by rw [iL_len, prS_len]; omega)
      have h0 : st xs n = 0 := st_ge hn
      have hm : min (qW (st xs) w n) w = oW (st xs) w n := by unfold oW; rw [h0, Int.add_zero]
      have hq2 : qW (st xs) w n - oW (st xs) w n = qW (st xs) w (n + 1) := by rw [qW_succ, h0, Int.add_zero]
      unfold L3_gone gE
      walk_at "ev"
      simp only [min_if, hm, ha, Option.bind_some, Option.map_some]
      walk_at "ev"
      simp only [atI_end, Option.map_some, Option.bind_some]
      walk_at "ev"
      rw [hq2, prS_succ, iL_cat]) N xs.length (by omega) ⟨Nat.le_refl _, hl⟩
  exact ⟨n, h1, h2.1, h2.2, by have := of_decide_eq_false h3; omega⟩
theorem gone_trim (a b c d : Sl) (xs : List Int) : ∃ ys, sWhile T4_gone L5_gone [a, b, c, .li (iL xs), d] = some (.nx [a, b, c, .li (iL ys), d]) ∧ st ys = st xs ∧ Tr ys ∧ ys.length ≤ xs.length := by
  refine trim_st (fun ys => [a, b, c, .li (iL ys), d]) xs.length ?_ (fun ys y _ => ?_) (fun ys _ => ?_) xs.length xs rfl (Nat.le_refl _)
  · unfold T4_gone
    walk_at "ev"
  · unfold T4_gone
    walk_at "ev"
    simp only [iL_cat, emp_cat, Bool.not_false]
    walk_at "ev"
    simp only [atI_end, Option.map_some, Option.bind_some]
    walk_at "ev"
  · unfold L5_gone
    walk_at "ev"
    simp only [iL_cat, gPop_ok, Option.map_some]
    walk_at "ev"
theorem gone_ok {xs : List Int} {w : Int} {N : Nat} (hD : Dry N (st xs)) (hl : xs.length ≤ N) (hN : N ≤ 100000) (hw : 1 ≤ w) : ∃ ys, F_gone [.va (.tuple (iL xs)), .va (.int w)] = some (.va (.tuple (iL ys)), [.no, .no]) ∧ st ys = oW (st xs) w ∧ Tr ys ∧ ys.length ≤ N := by
  obtain ⟨m', h1⟩ := gone_for (xs := xs) (w := w) (by omega) none
  obtain ⟨n, h2, h3, h4, h5⟩ := gone_while hD hl hN hw m'
  obtain ⟨ys, h6, h7, h8, h9⟩ := gone_trim (.va (.tuple (iL xs))) (.va (.int w)) (.va (.int (qW (st xs) w n))) (sl m') (prS (oW (st xs) w) n)
  refine ⟨ys, ?_, ?_, h8, by rw [prS_len] at h9; omega⟩
  · unfold F_gone
    have e1 : forL (gNm 4) L1_gone (iL xs) [Sl.va (.tuple (iL xs)), .va (.int w), .va (.int 0), .li [], .no] = _ := h1
    have e2 : sWhile T4_gone L5_gone (gE xs w n m') = _ := h6
    walk_at "evh"
  · rw [h7]
    refine st_prS fun t ht => ?_
    have hq : qW (st xs) w n = 0 := by have := qW_nn (st xs) w n; omega
    have : ∀ j, qW (st xs) w (n + j) = 0 := fun j => by
      induction j with
      | zero => exact hq
      | succ j ih =>
        show max 0 (qW (st xs) w (n + j) + st xs (n + j) - w) = 0
        rw [ih, st_ge (by omega)]; omega
    have := this (t - n)
    rw [show n + (t - n) = t by omega] at this
    unfold oW
    rw [this, st_ge (by omega)]; omega
/-! left_waiting -/
def nx (a : Nat → Int) (w : Int) (t : Nat) : Int := qW a w (t + 1)
theorem nx_sum (a : Nat → Int) (w : Int) (n : Nat) : (prS (nx a w) n).sum = sW a w n := by
  induction n with
  | zero => rfl
  | succ n ih => rw [prS_succ, List.sum_append, ih]; show _ + (_ + 0) = sW a w n + _; rw [Int.add_zero]; rfl
theorem lw_ok {xs : List Int} {w : Int} (hl : xs.length ≤ 100000) : F_left_waiting [.va (.tuple (iL xs)), .va (.int w)] = some (.tn (iL (prS (nx (st xs) w) xs.length)), [.no, .no]) := by
  obtain ⟨m', h, _⟩ := forL_at (t := gNm 4) (b := L1_left_waiting) (ds := iL xs) (A := Option D) (fun n m => [Sl.va (.tuple (iL xs)), .va (.int w), .va (.int (qW (st xs) w n)), .li (iL (prS (nx (st xs) w) n)), sl m]) (fun _ _ => True) (fun n m d hd _ => by
    obtain ⟨hn, rfl⟩ := iL_get hd
    refine ⟨some (.int (st xs n)), ?_, trivial⟩
    have hm : (if qW (st xs) w n + st xs n - w > 0 then qW (st xs) w n + st xs n - w else 0) = qW (st xs) w (n + 1) := by
      show _ = max 0 (qW (st xs) w n + st xs n - w)
      split <;> omega
    have ha : gAppend (iL (prS (nx (st xs) w) n)) (.int (qW (st xs) w (n + 1))) = some (.none, iL (prS (nx (st xs) w) n) ++ [.int (qW (st xs) w (n + 1))]) := gAppend_ok (by rw [iL_len, prS_len]; omega)
    unfold L1_left_waiting
    walk_at "ev"
    simp only [hm, ha, Option.bind_some, Option.map_some]
    walk_at "ev"
    rw [prS_succ, iL_cat]; rfl) none trivial
  have e1 : forL (gNm 4) L1_left_waiting (iL xs) [Sl.va (.tuple (iL xs)), .va (.int w), .va (.int 0), .li [], .no] = _ := h
  rw [iL_len] at e1
  unfold F_left_waiting
  walk_at "evh"
/-! waited -/
theorem wd_while {xs : List Int} {w : Int} {N : Nat} (hD : Dry N (st xs)) (hl : xs.length ≤ N) (hw : 1 ≤ w) (s : Sl) : ∃ e, sWhile T1_waited L2_waited [.va (.tuple (iL xs)), .va (.int w), s, .va (.int (sW (st xs) w xs.length)), .va (.int (qW (st xs) w xs.length))] = some (.nx [.va (.tuple (iL xs)), .va (.int w), s, .va (.int (sW (st xs) w N)), e]) := by
  obtain ⟨n, h1, h2, h3, _⟩ := while_st (c := T1_waited) (b := L2_waited) (fun n => [.va (.tuple (iL xs)), .va (.int w), s, .va (.int (sW (st xs) w n)), .va (.int (qW (st xs) w n))]) (fun n => decide (w < qW (st xs) w n)) (· + 1) (fun n => xs.length ≤ n ∧ n ≤ N) (fun n => N - n) (fun n ⟨hn, hn2⟩ => by
    refine ⟨?_, fun ht => ?_⟩
    · unfold T1_waited
      walk_at "ev"
    · have hq : w < qW (st xs) w n := of_decide_eq_true ht
      have hlt : n < N := by
        rcases Nat.lt_or_ge n N with h | h
        · exact h
        · have := hD.dry w hw n h; omega
      refine ⟨?_, ⟨by omega, hlt⟩, by omega⟩
      have h0 : st xs n = 0 := st_ge hn
      have hq2 : qW (st xs) w n - w = qW (st xs) w (n + 1) := by show _ = max 0 (qW (st xs) w n + st xs n - w); omega
      unfold L2_waited
      walk_at "evh"
      rfl) N xs.length (by omega) ⟨Nat.le_refl _, hl⟩
  have hq : qW (st xs) w n ≤ w := by have := of_decide_eq_false h3; omega
  have hz : ∀ j, qW (st xs) w (n + 1 + j) = 0 := fun j => by
    induction j with
    | zero => show max 0 (qW (st xs) w n + st xs n - w) = 0; rw [st_ge h2.1]; omega
    | succ j ih => show max 0 (qW (st xs) w (n + 1 + j) + st xs (n + 1 + j) - w) = 0; rw [ih, st_ge (by omega)]; omega
  have hs : sW (st xs) w n = sW (st xs) w N := sW_dead hD hw fun t ht => by
    have := hz (t - (n + 1))
    rwa [show n + 1 + (t - (n + 1)) = t by omega] at this
  exact ⟨_, by rw [h1, hs]⟩
theorem wd_ok {xs : List Int} {w : Int} {N : Nat} (hD : Dry N (st xs)) (hl : xs.length ≤ N) (hN : N ≤ 100000) (hw : 1 ≤ w) : F_waited [.va (.tuple (iL xs)), .va (.int w)] = some (.va (.int (sW (st xs) w N)), [.no, .no]) := by
  have h1 := lw_ok (xs := xs) (w := w) (by omega)
  obtain ⟨e, h2⟩ := wd_while hD hl hw (.tn (iL (prS (nx (st xs) w) xs.length)))
  have hs : dSum (.tuple (iL (prS (nx (st xs) w) xs.length))) = some (.int (sW (st xs) w xs.length)) := by rw [dSum_tup, nx_sum]
  unfold F_waited
  walk_at "evh"
  rcases Nat.eq_zero_or_pos xs.length with h | h
  · rw [h] at h2 ⊢
    have h2' : sWhile T1_waited L2_waited [.va (.tuple (iL xs)), .va (.int w), .tn [], .va (.int (sW (st xs) w 0)), .va (.int 0)] = _ := h2
    rw [show iL (prS (nx (st xs) w) 0) = [] from rfl]
    walk_at "evh"
  · obtain ⟨k, hk⟩ : ∃ k, xs.length = k + 1 := ⟨xs.length - 1, by omega⟩
    rw [hk] at h2 ⊢
    rw [prS_succ, iL_cat] at h2 ⊢
    rw [emp_cat]
    have ha : atI (iL (prS (nx (st xs) w) k) ++ [PyData.int (nx (st xs) w k)]) (-1) = some (.int (qW (st xs) w (k + 1))) := atI_end _ _
    walk_at "evh"
/-! draws, sameness -/
theorem drI (b : Box) {m : Int} (h : 0 < m) (h2 : m < 1073741824) : ∃ (d : Int) (b' : Box), F__law_draw [.ow b.ot, .va (.int m)] = some (.va (.int d), [.ow b'.ot, .no]) ∧ 0 ≤ d ∧ d < m := fDraw_ex b h h2
theorem drN (b : Box) {m : Int} (h : 0 < m) (h2 : m < 1073741824) : ∃ (d : Nat) (b' : Box), F__law_draw [.ow b.ot, .va (.int m)] = some (.va (.int (d : Int)), [.ow b'.ot, .no]) ∧ (d : Int) < m := by
  obtain ⟨d, b', h1, h2, h3⟩ := drI b h h2
  obtain ⟨k, rfl⟩ : ∃ k : Nat, d = (k : Int) := ⟨d.toNat, by omega⟩
  exact ⟨k, b', h1, h3⟩
theorem rsameQ : ∀ n, R__law_same n = R_same n
  | 0 => rfl
  | n + 1 => by
    show mkF 3 (B__law_same (R__law_same n)) = mkF 3 (B_same (R_same n))
    rw [rsameQ n]; rfl
theorem sameQ {x : D} (h : Plain 19 x) : F__law_same [.va x, .va x] = some (.va (.bool true), [.no, .no]) := by
  show R__law_same 20 _ = _
  rw [rsameQ]
  exact same_refl 19 x h
theorem plain_iL {n : Nat} {xs : List Int} (h : xs.length ≤ 1000000) : Plain (n + 1) (.tuple (iL xs)) := plain_map h fun _ _ => by cases n <;> trivial
/-! all_gone -/
theorem ag_ok {xs ys : List Int} {w : Int} (h : F_gone [.va (.tuple (iL xs)), .va (.int w)] = some (.va (.tuple (iL ys)), [.no, .no])) : F_all_gone [.va (.tuple (iL xs)), .va (.int w)] = some (.va (.int (if (ys.length : Int) - 1 > 0 then (ys.length : Int) - 1 else 0)), [.no, .no]) := by
  unfold F_all_gone
  generalize iL xs = X at *
  have hl : (iL ys).length = ys.length := iL_len _
  generalize iL ys = Y at *
  repeat (first | walk_at "ev" | simp only [h, hl])
end Fl

set_option Elab.async false
set_option linter.all false
set_option maxRecDepth 100000
set_option maxHeartbeats 4000000
set_option autoImplicit false
namespace Fl
open PySem PySem.Spec PyProof.Rows L2
local macro_rules | `(tactic| walk_at "ev") => `(tactic| simp -implicitDefEqProofs only [prE_ev, eVar_ev, varC_ev, varC_tn, eNm_ev, nmC_va, nmC_tn, nmC_li, eC_ev, vw_va, vw_tn, vw_li, eOwn_ev, eIxO_ev, ixoC_ev, ixoC2_ev, ixoC3_ev, eOp_ev, opC_ev, opC2_ev, eUn_ev, unC_ev, bE_ev, bEC_ev, bB_ev, bBC_ev, bNot_ev, notC_ev, bAnd_ev, andC_t, andC_f, bOr_ev, orC_t, orC_f, bYes_ev, eAnd_ev, eandC_t, eandC_f, eOr_ev, eorC_t, eorC_f, eNot_ev, enotC_ev, eIf_ev, ifC_t, ifC_f, eTup_ev, tupC_ev, aNil_ev, aCons_ev, aconsC_ev, aconsC2_ev, oLst_ev, lstC_ev, oE_ev, oEC_ev, eFz_ev, fzC_tn, fzC_va, fzC_li, oUn_ev, ounC_ev, prL_ev, eSl_ev, slC_ev, slC2_ev, slC3_ev, eSlO_ev, sloC_ev, sloC2_ev, sloC3_ev, sloC4_ev, lEnum_ev, enC_tup, enC_lst, pNo_ev, pSo_ev, psoC_ev, lOf_ev, lofC_tup, lofC_lst, lRng1_ev, rng1C_ev, lRng2_ev, rng2C_ev, rng2C2_ev, oRep_ev, repC_ev, repC2_ev, oCall_ev, callC_0, callC_1, callC_2, callC_3, callC_4, callC_5, callC_rv, callC_rv4, arSl_vl, arSl_rf, callC2_ev, arBack_nil, arBack_vl, arBack_rf, rNil_ev, rVal_ev, rvC_ev, rvC2_ev, rRef_ev, rrC_ev, oComp_ev, compC2_ev, wipeE_nil, wipeE_cons, backE_nil, backE_cons, gNm_ev, gTupF_ev, gsNil_ev, gsCons_ev, sNext_ev, sBreak_ev, sCont_ev, sSeq_ev, seqC_nx, seqC_bk, seqC_ct, seqC_rt, sSet_ev, setC_ev, sPar_ev, parC_ev, setAll_nil, setAll_cons, olNil_ev, olCons_ev, olC_ev, olC2_ev, sAsg_ev, asgC_ev, sIf_ev, sifC_t, sifC_f, sFor_ev, forC_ev, sDrop_ev, dropC_ev, sRet_ev, retC_ev, sRetN_ev, retnC_va, retnC_li, liOf_li, eMt1_ev, mt1C_ev, mt1C2_ev, mt1C3_ev, mt1C4_ev, eMt0_ev, mt0C_ev, sSub_ev, subC_ev, subC1_ev, subC2_ev, subC3_ev, subC4_ev, sAug_ev, augC_ev, augC2_ev, augC3_ev, mkF_ev, mkC_rt, mkC_nx, keepE_nil, keepE_va, keepE_ow', dTru_bool, dTru_int, dTru_none, dTru_list, dTru_tuple, dAdd_int, dAdd_tup, dAdd_lst, dIadd_int, dSub_int, dMul_int, dDiv_int, dMod_int, dNeg_int, dMin2_int, dMax2_int, dLtA_int, dLe_int, dLt_int, dGt_int, dGe_int, shaped_int, shaped_bool, shaped_none, eqv_int, eqv_bool, dEq_int, dNe_int, dEq_bool, dIs_none, dIsN_none, isNon_none, isNon_int, isNon_tup, isNon_bool, dLen_tup, dLen_lst, dIx_tup, dIx_lst, at0, at1, at2, at3, gExtend_lst, dTuple_lst, dTuple_tup, dList_lst, dList_tup, dInt_int, dSl_tup, dSl_lst, isTup, isLst, isBool, isIntB, isStr, beq_self_eq_true, decide_true, decide_false, isi_tup, isi_lst, isi_int, isi_bool, isi_str, isi_none, sz0, sz1, sz2, sz3, sz4, sz5, sz6, sz7, sz8, sz9, sz10, sz11, sz12, isOw_no, isOw_va, isOw_li, isOw_di, isOw_dt, isOw_ow, isOw_none, isOw_sl,
  Option.bind_some, Option.map_some, Option.bind_none, Option.map_none, Option.getD_some, Option.getD_none, List.getElem?_cons_zero, List.getElem?_cons_succ, List.set_cons_zero, List.set_cons_succ, List.map_cons, List.map_nil, List.headD_cons, List.headD_nil, List.tail_cons, List.tail_nil, List.isEmpty_nil, List.isEmpty_cons, List.length_nil, List.length_cons, List.nil_append, List.cons_append, List.replicate_succ, List.replicate_zero, Nat.reduceSub, Nat.reduceAdd, Bool.false_eq_true, if_false, if_true, reduceIte, Bool.not_true, Bool.not_false, and_true, true_and, and_self, Int.toNat_natCast, Int.zero_add, eCh_ev, chC_ev, chC2_ev, chC3_t, chC3_f, chC4_ev, lZip_ev, zipC_ev, zipC2_tup, zipC2_lst, dRev_tup, dRev_lst, dRngL_int, dRngT_int, oIte_ev, oiteC_li, oiteC_va, oCompO_ev, callC_rv2, callC_rv3, rdOf_di, rdOf_dl, diOf_di, keyD_int, eDget_ev, dgC_ev, dgC1_ev, dgC2_ev, dgC3_ev, eDin_ev, diC_ev, diC1_ev, diC2_t, diC2_f, eDlen_ev, dlC_ev, eDgt2_ev, d2C_ev, d2C1_ev, d2C2_ev, d2C3_ev, d2C4_ev, eDpop_ev, dpC_ev, dpC1_ev, dpC2_ev, dpC3_ev, dpC4_ev, sDput_ev, ddC_ev, ddC1_ev, ddC2_ev, ddC3_ev, ddC4_ev, oDnew_ev, oLock_ev, lkC_ev, lkC1_ev, lKeys_ev, lkyC_ev, isDl_li, isOw_dl, sRetO_ev, retOC_ev, oTn_ev, oTnC_ev, tnOf_ev, eMtT_ev, mtTC_ev, mtTC2_ev, mtTC3_ev, isOw_tn, oCat_ev, catC_ev])
local macro_rules | `(tactic| walk_at "evh") => `(tactic| simp -implicitDefEqProofs only [prE_ev, eVar_ev, varC_ev, varC_tn, eNm_ev, nmC_va, nmC_tn, nmC_li, eC_ev, vw_va, vw_tn, vw_li, eOwn_ev, eIxO_ev, ixoC_ev, ixoC2_ev, ixoC3_ev, eOp_ev, opC_ev, opC2_ev, eUn_ev, unC_ev, bE_ev, bEC_ev, bB_ev, bBC_ev, bNot_ev, notC_ev, bAnd_ev, andC_t, andC_f, bOr_ev, orC_t, orC_f, bYes_ev, eAnd_ev, eandC_t, eandC_f, eOr_ev, eorC_t, eorC_f, eNot_ev, enotC_ev, eIf_ev, ifC_t, ifC_f, eTup_ev, tupC_ev, aNil_ev, aCons_ev, aconsC_ev, aconsC2_ev, oLst_ev, lstC_ev, oE_ev, oEC_ev, eFz_ev, fzC_tn, fzC_va, fzC_li, oUn_ev, ounC_ev, prL_ev, eSl_ev, slC_ev, slC2_ev, slC3_ev, eSlO_ev, sloC_ev, sloC2_ev, sloC3_ev, sloC4_ev, lEnum_ev, enC_tup, enC_lst, pNo_ev, pSo_ev, psoC_ev, lOf_ev, lofC_tup, lofC_lst, lRng1_ev, rng1C_ev, lRng2_ev, rng2C_ev, rng2C2_ev, oRep_ev, repC_ev, repC2_ev, oCall_ev, callC_0, callC_1, callC_2, callC_3, callC_4, callC_5, callC_rv, callC_rv4, arSl_vl, arSl_rf, callC2_ev, arBack_nil, arBack_vl, arBack_rf, rNil_ev, rVal_ev, rvC_ev, rvC2_ev, rRef_ev, rrC_ev, oComp_ev, compC2_ev, wipeE_nil, wipeE_cons, backE_nil, backE_cons, gNm_ev, gTupF_ev, gsNil_ev, gsCons_ev, sNext_ev, sBreak_ev, sCont_ev, sSeq_ev, seqC_nx, seqC_bk, seqC_ct, seqC_rt, sSet_ev, setC_ev, sPar_ev, parC_ev, setAll_nil, setAll_cons, olNil_ev, olCons_ev, olC_ev, olC2_ev, sAsg_ev, asgC_ev, sIf_ev, sifC_t, sifC_f, sFor_ev, forC_ev, sDrop_ev, dropC_ev, sRet_ev, retC_ev, sRetN_ev, retnC_va, retnC_li, liOf_li, eMt1_ev, mt1C_ev, mt1C2_ev, mt1C3_ev, mt1C4_ev, eMt0_ev, mt0C_ev, sSub_ev, subC_ev, subC1_ev, subC2_ev, subC3_ev, subC4_ev, sAug_ev, augC_ev, augC2_ev, augC3_ev, mkF_ev, mkC_rt, mkC_nx, keepE_nil, keepE_va, keepE_ow', dTru_bool, dTru_int, dTru_none, dTru_list, dTru_tuple, dAdd_int, dAdd_tup, dAdd_lst, dIadd_int, dSub_int, dMul_int, dDiv_int, dMod_int, dNeg_int, dMin2_int, dMax2_int, dLtA_int, dLe_int, dLt_int, dGt_int, dGe_int, shaped_int, shaped_bool, shaped_none, eqv_int, eqv_bool, dEq_int, dNe_int, dEq_bool, dIs_none, dIsN_none, isNon_none, isNon_int, isNon_tup, isNon_bool, dLen_tup, dLen_lst, dIx_tup, dIx_lst, at0, at1, at2, at3, gExtend_lst, dTuple_lst, dTuple_tup, dList_lst, dList_tup, dInt_int, dSl_tup, dSl_lst, isTup, isLst, isBool, isIntB, isStr, beq_self_eq_true, decide_true, decide_false, isi_tup, isi_lst, isi_int, isi_bool, isi_str, isi_none, sz0, sz1, sz2, sz3, sz4, sz5, sz6, sz7, sz8, sz9, sz10, sz11, sz12, isOw_no, isOw_va, isOw_li, isOw_di, isOw_dt, isOw_ow, isOw_none, isOw_sl,
  Option.bind_some, Option.map_some, Option.bind_none, Option.map_none, Option.getD_some, Option.getD_none, List.getElem?_cons_zero, List.getElem?_cons_succ, List.set_cons_zero, List.set_cons_succ, List.map_cons, List.map_nil, List.headD_cons, List.headD_nil, List.tail_cons, List.tail_nil, List.isEmpty_nil, List.isEmpty_cons, List.length_nil, List.length_cons, List.nil_append, List.cons_append, List.replicate_succ, List.replicate_zero, Nat.reduceSub, Nat.reduceAdd, Bool.false_eq_true, if_false, if_true, reduceIte, Bool.not_true, Bool.not_false, and_true, true_and, and_self, Int.toNat_natCast, Int.zero_add, eCh_ev, chC_ev, chC2_ev, chC3_t, chC3_f, chC4_ev, lZip_ev, zipC_ev, zipC2_tup, zipC2_lst, dRev_tup, dRev_lst, dRngL_int, dRngT_int, oIte_ev, oiteC_li, oiteC_va, oCompO_ev, callC_rv2, callC_rv3, rdOf_di, rdOf_dl, diOf_di, keyD_int, eDget_ev, dgC_ev, dgC1_ev, dgC2_ev, dgC3_ev, eDin_ev, diC_ev, diC1_ev, diC2_t, diC2_f, eDlen_ev, dlC_ev, eDgt2_ev, d2C_ev, d2C1_ev, d2C2_ev, d2C3_ev, d2C4_ev, eDpop_ev, dpC_ev, dpC1_ev, dpC2_ev, dpC3_ev, dpC4_ev, sDput_ev, ddC_ev, ddC1_ev, ddC2_ev, ddC3_ev, ddC4_ev, oDnew_ev, oLock_ev, lkC_ev, lkC1_ev, lKeys_ev, lkyC_ev, isDl_li, isOw_dl, sRetO_ev, retOC_ev, oTn_ev, oTnC_ev, tnOf_ev, eMtT_ev, mtTC_ev, mtTC2_ev, mtTC3_ev, isOw_tn, oCat_ev, catC_ev, *])
/-! K45_Wlk: person by person, the last one first. -/
def wtS (m : Int) (hs : List Int) : Int := (hs.map fun x => m - x).sum
theorem wtS_cat (m : Int) (as bs : List Int) : wtS m (as ++ bs) = wtS m as + wtS m bs := by
  unfold wtS
  rw [List.map_append, List.sum_append]
theorem wtS_one (m y : Int) : wtS m [y] = m - y := by
  show (m - y) + 0 = m - y
  omega
theorem wtS_next (m : Int) : ∀ hs : List Int, wtS (m + 1) hs = wtS m hs + hs.length
  | [] => rfl
  | x :: hs => by
    have ih := wtS_next m hs
    show (m + 1 - x) + wtS (m + 1) hs = ((m - x) + wtS m hs) + ((hs.length + 1 : Nat) : Int)
    rw [ih]; omega
theorem wtS_rep (m : Int) (k : Nat) : wtS m (List.replicate k m) = 0 := by
  induction k with
  | zero => rfl
  | succ k ih =>
    rw [List.replicate_succ]
    show (m - m) + wtS m (List.replicate k m) = 0
    rw [ih]; omega
theorem wlk_in (A W T S6 : Sl) (m : Int) (k : Nat) (hs ws : List Int) (hk : k ≤ hs.length) (hb : ws.length + k ≤ 500000) (s7 : Option D) :
    ∃ hs' ws' s7', forL (gNm 7) L1__law_walked_through (rngD 0 k) [A, W, .li (iL hs), .li (iL ws), .va (.int m), T, S6, sl s7] = some (.nx [A, W, .li (iL hs'), .li (iL ws'), .va (.int m), T, S6, sl s7']) ∧ hs'.length + k = hs.length ∧ ws'.length = ws.length + k ∧ ws'.sum + wtS m hs' = ws.sum + wtS m hs := by
  obtain ⟨⟨hs', ws', s7'⟩, h1, h2, h3, h4⟩ := forL_at (t := gNm 7) (b := L1__law_walked_through) (ds := rngD 0 k) (A := List Int × List Int × Option D) (fun _ a => [A, W, .li (iL a.1), .li (iL a.2.1), .va (.int m), T, S6, sl a.2.2])
    (fun j a => a.1.length + j = hs.length ∧ a.2.1.length = ws.length + j ∧ a.2.1.sum + wtS m a.1 = ws.sum + wtS m hs)
    (fun j ⟨as, bs, s⟩ d hd ⟨i1, i2, i3⟩ => by
      have i1 : as.length + j = hs.length := i1
      have i2 : bs.length = ws.length + j := i2
      have i3 : bs.sum + wtS m as = ws.sum + wtS m hs := i3
      have hj : j < k := by
        have := (List.getElem?_eq_some_iff.mp hd).1
        rwa [rngD_len] at this
      obtain ⟨ys, y, rfl⟩ : ∃ ys y, as = ys ++ [y] := by
        rcases nilCat as with rfl | h
        · simp at i1; omega
        · exact h
      have ha : gAppend (iL bs) (.int (m - y)) = some (.none, iL (bs ++ [m - y])) := by rw [iL_cat]; exact gAppend_ok (by rw [iL_len]; omega)
      refine ⟨(ys, bs ++ [m - y], some d), ?_, ?_, ?_, ?_⟩
      · show (gNm 7 d [A, W, .li (iL (ys ++ [y])), .li (iL bs), .va (.int m), T, S6, sl s]).bind L1__law_walked_through = some (O.nx [A, W, .li (iL ys), .li (iL (bs ++ [m - y])), .va (.int m), T, S6, sl (some d)])
        rw [iL_cat ys y]
        generalize iL ys = Y at *
        generalize iL (bs ++ [m - y]) = B2 at *
        generalize iL bs = B at *
        unfold L1__law_walked_through
        repeat (first | walk_at "ev" | simp only [gPop_ok, ha, Option.map_some, Option.bind_some])
        rfl
      · show ys.length + (j + 1) = hs.length
        rw [List.length_append, List.length_singleton] at i1; omega
      · show (bs ++ [m - y]).length = ws.length + (j + 1)
        rw [List.length_append, List.length_singleton]; omega
      · show (bs ++ [m - y]).sum + wtS m ys = _
        rw [wtS_cat, wtS_one] at i3
        rw [List.sum_append]
        show bs.sum + ((m - y) + 0) + wtS m ys = _
        omega) (hs, ws, s7) ⟨rfl, rfl, rfl⟩
  rw [rngD_len] at h2 h3
  exact ⟨hs', ws', s7', h1, h2, h3, h4⟩
/-- what has come before a moment -/
def asu (a : Nat → Int) : Nat → Int
  | 0 => 0
  | n + 1 => asu a n + a n
structure Ws where
  n : Nat
  hs : List Int
  ws : List Int
  s6 : Option D
  s7 : Option D
def wE (xs : List Int) (w : Int) (s : Ws) : Ev := [.va (.tuple (iL xs)), .va (.int w), .li (iL s.hs), .li (iL s.ws), .va (.int (s.n : Nat)), .li (iL (prS (oW (st xs) w) s.n)), sl s.s6, sl s.s7]
structure WI (xs : List Int) (w : Int) (N : Nat) (s : Ws) : Prop where
  h : (s.hs.length : Int) = qW (st xs) w s.n
  c : (s.ws.length : Int) + s.hs.length = asu (st xs) s.n
  n : s.n ≤ N
  t : s.ws.sum + wtS s.n s.hs = sW (st xs) w s.n
theorem rep_iL (k : Nat) (m : Int) : (List.replicate k [PyData.int m]).flatten = iL (List.replicate k m) := by
  induction k with
  | zero => rfl
  | succ k ih => rw [List.replicate_succ, List.flatten_cons, ih, List.replicate_succ]; rfl
theorem wlk_step {xs : List Int} {w : Int} {N : Nat} (hD : Dry N (st xs)) (hl : xs.length ≤ N) (hN : N ≤ 100000) (hw : 1 ≤ w) (hT : ∀ n, asu (st xs) n ≤ 100000) (s : Ws) (I : WI xs w N s) (hn : s.n < N) :
    ∃ s', L3__law_walked_through (wE xs w s) = some (.nx (wE xs w s')) ∧ WI xs w N s' ∧ s'.n = s.n + 1 := by
  obtain ⟨n, hs, ws, s6, s7⟩ := s
  have Ih : (hs.length : Int) = qW (st xs) w n := I.h
  have Ic : (ws.length : Int) + hs.length = asu (st xs) n := I.c
  have It : ws.sum + wtS n hs = sW (st xs) w n := I.t
  have hn : n < N := hn
  have an := hD.nn n
  have hT1 := hT (n + 1)
  have hT0 := hT n
  have hA : asu (st xs) (n + 1) = asu (st xs) n + st xs n := rfl
  have qn := qW_nn (st xs) w n
  have hq := qW_succ (st xs) w n
  obtain ⟨hs2, hhs2⟩ : ∃ hs2, hs2 = hs ++ List.replicate (st xs n).toNat (n : Int) := ⟨_, rfl⟩
  have hl2 : (hs2.length : Int) = qW (st xs) w n + st xs n := by
    rw [hhs2, List.length_append, List.length_replicate]; omega
  have ht2 : wtS n hs2 = wtS n hs := by rw [hhs2, wtS_cat, wtS_rep]; omega
  obtain ⟨k, hk⟩ : ∃ k : Nat, (k : Int) = oW (st xs) w n := ⟨(oW (st xs) w n).toNat, by have := oW_nn hD.nn (show 0 ≤ w by omega) n; omega⟩
  have ho : oW (st xs) w n = min (qW (st xs) w n + st xs n) w := rfl
  have hk2 : k ≤ hs2.length := by omega
  obtain ⟨hs', ws', s7', f, g1, g2, g3⟩ := wlk_in (.va (.tuple (iL xs))) (.va (.int w)) (.li (iL (prS (oW (st xs) w) n))) (.va (.int (k : Nat))) (n : Int) k hs2 ws hk2 (by omega) s7
  have ha : gAppend (iL (prS (oW (st xs) w) n)) (.int (k : Nat)) = some (.none, iL (prS (oW (st xs) w) (n + 1))) := by
    rw [hk, prS_succ, iL_cat]
    exact gAppend_ok (by rw [iL_len, prS_len]; omega)
  have hmin : (if ((iL hs2).length : Int) < w then ((iL hs2).length : Int) else w) = ((k : Nat) : Int) := by
    rw [iL_len, hk, ho, ← hl2]
    split <;> omega
  have hrg : Rg ((k : Nat) : Int) := rg_of (by omega) (by omega)
  have e1 : (n : Int) + 1 = ((n + 1 : Nat) : Int) := by omega
  have hlen : (iL xs).length = xs.length := iL_len xs
  refine ⟨⟨n + 1, hs', ws', some (.int (k : Nat)), s7'⟩, ?_, ⟨?_, ?_, hn, ?_⟩, rfl⟩
  · show L3__law_walked_through [.va (.tuple (iL xs)), .va (.int w), .li (iL hs), .li (iL ws), .va (.int (n : Nat)), .li (iL (prS (oW (st xs) w) n)), sl s6, sl s7] = some (.nx [.va (.tuple (iL xs)), .va (.int w), .li (iL hs'), .li (iL ws'), .va (.int ((n + 1 : Nat) : Int)), .li (iL (prS (oW (st xs) w) (n + 1))), .va (.int (k : Nat)), sl s7'])
    by_cases hc : n < xs.length
    · have hc1 : decide ((n : Int) < ((iL xs).length : Int)) = true := decide_eq_true (by rw [hlen]; omega)
      have hat : atI (iL xs) (n : Int) = some (.int (st xs n)) := atI_iL (st_lt hc)
      have hrp : Rpt 1 (st xs n) := ⟨⟨by omega, by omega⟩, by
        show 1 * (st xs n).toNat ≤ sizeLine
        exact small1Me (by omega)⟩
      have hcat : ∀ e1, catC2 (.list (iL hs)) (PyData.list (List.replicate (st xs n).toNat [PyData.int (n : Int)]).flatten, e1) = some (.li (iL hs2), e1) := fun e1 => by
        rw [rep_iL, hhs2, show iL (hs ++ List.replicate (st xs n).toNat (n : Int)) = iL hs ++ iL (List.replicate (st xs n).toNat (n : Int)) from List.map_append]
        exact catC2_ev _ _ _ (small1Me (by rw [iL_len, iL_len, List.length_replicate]; omega))
      generalize st xs n = an0 at *
      generalize iL (prS (oW (st xs) w) (n + 1)) = P2 at *
      generalize iL (prS (oW (st xs) w) n) = P1 at *
      generalize iL hs2 = H2 at *
      generalize iL hs' = H3 at *
      generalize iL ws' = W3 at *
      generalize iL hs = H1 at *
      generalize iL ws = W1 at *
      generalize iL xs = X at *
      unfold L3__law_walked_through
      repeat (first | walk_at "ev" | simp only [hc1, hat, hrp, hcat, hmin, hrg, f, ha, e1, reduceIte, Int.toNat_natCast])
    · have hc1 : decide ((n : Int) < ((iL xs).length : Int)) = false := decide_eq_false (by rw [hlen]; omega)
      have h0 : st xs n = 0 := st_ge (by omega)
      have hh : hs2 = hs := by rw [hhs2, h0]; exact List.append_nil _
      rw [hh] at hmin f
      generalize iL (prS (oW (st xs) w) (n + 1)) = P2 at *
      generalize iL (prS (oW (st xs) w) n) = P1 at *
      generalize iL hs' = H3 at *
      generalize iL ws' = W3 at *
      generalize iL hs = H1 at *
      generalize iL ws = W1 at *
      generalize iL xs = X at *
      unfold L3__law_walked_through
      repeat (first | walk_at "ev" | simp only [hc1, hmin, hrg, f, ha, e1, reduceIte, Int.toNat_natCast])
  · show (hs'.length : Int) = qW (st xs) w (n + 1)
    omega
  · show (ws'.length : Int) + hs'.length = asu (st xs) (n + 1)
    omega
  · show ws'.sum + wtS ((n + 1 : Nat) : Int) hs' = sW (st xs) w n + qW (st xs) w (n + 1)
    rw [← e1, wtS_next]
    omega
theorem wlk_while {xs : List Int} {w : Int} {N : Nat} (hD : Dry N (st xs)) (hl : xs.length ≤ N) (hN : N ≤ 100000) (hw : 1 ≤ w) (hT : ∀ n, asu (st xs) n ≤ 100000) :
    ∃ s, sWhile T2__law_walked_through L3__law_walked_through (wE xs w ⟨0, [], [], none, none⟩) = some (.nx (wE xs w s)) ∧ WI xs w N s ∧ xs.length ≤ s.n ∧ s.hs = [] := by
  obtain ⟨s, h1, h2, h3, h4⟩ := while_ex (c := T2__law_walked_through) (b := L3__law_walked_through) (wE xs w) (WI xs w N) (fun s => xs.length ≤ s.n ∧ s.hs = []) (fun s => N - s.n) (fun s I => by
    have hlen : (iL xs).length = xs.length := iL_len xs
    have hlh : (iL s.hs).length = s.hs.length := iL_len s.hs
    have hc : T2__law_walked_through (wE xs w s) = some (decide ((s.n : Int) < (xs.length : Int)) || decide ((s.hs.length : Int) > 0), wE xs w s) := by
      unfold T2__law_walked_through wE
      generalize iL xs = X at *
      generalize iL s.hs = H at *
      generalize iL s.ws = W1 at *
      generalize iL (prS (oW (st xs) w) s.n) = P1 at *
      cases hx : decide ((s.n : Int) < (xs.length : Int)) with
      | true => repeat (first | walk_at "ev" | simp only [hlen, hlh, hx, Bool.true_or])
      | false => repeat (first | walk_at "ev" | simp only [hlen, hlh, hx, Bool.false_or])
    by_cases hx : s.n < xs.length ∨ 0 < s.hs.length
    · right
      have hn : s.n < N := by
        rcases hx with hx | hx
        · omega
        · rcases Nat.lt_or_ge s.n N with h | h
          · exact h
          · have := hD.dry w hw s.n h
            have := I.h
            omega
      obtain ⟨s', k1, k2, k3⟩ := wlk_step hD hl hN hw hT s I hn
      refine ⟨?_, s', k1, k2, by omega⟩
      rw [hc]
      have : (decide ((s.n : Int) < (xs.length : Int)) || decide ((s.hs.length : Int) > 0)) = true := by
        rw [Bool.or_eq_true, decide_eq_true_eq, decide_eq_true_eq]
        rcases hx with hx | hx
        · left; omega
        · right; omega
      rw [this]
    · left
      refine ⟨?_, by omega, List.length_eq_zero_iff.mp (by omega)⟩
      rw [hc]
      have : (decide ((s.n : Int) < (xs.length : Int)) || decide ((s.hs.length : Int) > 0)) = false := by
        rw [Bool.or_eq_false_iff, decide_eq_false_iff_not, decide_eq_false_iff_not]
        exact ⟨by omega, by omega⟩
      rw [this]) ⟨0, [], [], none, none⟩ ⟨rfl, rfl, Nat.zero_le _, rfl⟩
  exact ⟨s, h1, h2, h3, h4⟩
theorem wlk_trim (a b c d f g h : Sl) (xs : List Int) (hl : xs.length ≤ 900000) : ∃ ys, sWhile T4__law_walked_through L5__law_walked_through [a, b, c, d, f, .li (iL xs), g, h] = some (.nx [a, b, c, d, f, .li (iL ys), g, h]) ∧ st ys = st xs ∧ Tr ys ∧ ys.length ≤ xs.length := by
  refine trim_st (fun ys => [a, b, c, d, f, .li (iL ys), g, h]) xs.length ?_ (fun ys y _ => ?_) (fun ys _ => ?_) xs.length xs rfl (Nat.le_refl _)
  · have h0 : (iL ([] : List Int)).length = 0 := rfl
    generalize iL ([] : List Int) = E at *
    unfold T4__law_walked_through
    repeat (first | walk_at "ev" | simp only [h0])
    rfl
  · have h0 : decide (((iL (ys ++ [y])).length : Int) > 0) = true := decide_eq_true (by rw [iL_len, List.length_append, List.length_singleton]; omega)
    have h1 : atI (iL (ys ++ [y])) (-1) = some (.int y) := by rw [iL_cat]; exact atI_end _ _
    generalize iL (ys ++ [y]) = E at *
    unfold T4__law_walked_through
    repeat (first | walk_at "ev" | simp only [h0, h1, Option.map_some, Option.bind_some])
  · unfold L5__law_walked_through
    repeat (first | walk_at "ev" | simp only [iL_cat, gPop_ok, Option.map_some])
theorem wlk_ok {xs : List Int} {w : Int} {N : Nat} (hD : Dry N (st xs)) (hl : xs.length ≤ N) (hN : N ≤ 100000) (hw : 1 ≤ w) (hT : ∀ n, asu (st xs) n ≤ 100000) :
    ∃ ys, F__law_walked_through [.va (.tuple (iL xs)), .va (.int w)] = some (.va (.tuple [.tuple (iL ys), .int (sW (st xs) w N)]), [.no, .no]) ∧ st ys = oW (st xs) w ∧ Tr ys ∧ ys.length ≤ N := by
  obtain ⟨⟨n, hs, ws, s6, s7⟩, h1, I, h2, h3⟩ := wlk_while hD hl hN hw hT
  have h3 : hs = [] := h3
  subst h3
  have h2 : xs.length ≤ n := h2
  have hn : n ≤ N := I.n
  have hq : qW (st xs) w n = 0 := I.h.symm
  obtain ⟨ys, k1, k2, k3, k4⟩ := wlk_trim (.va (.tuple (iL xs))) (.va (.int w)) (.li (iL [])) (.li (iL ws)) (.va (.int (n : Nat))) (sl s6) (sl s7) (prS (oW (st xs) w) n) (by rw [prS_len]; omega)
  rw [prS_len] at k4
  have hz : ∀ j, qW (st xs) w (n + j) = 0 := fun j => by
    induction j with
    | zero => exact hq
    | succ j ih =>
      show max 0 (qW (st xs) w (n + j) + st xs (n + j) - w) = 0
      rw [ih, st_ge (by omega)]; omega
  have hs : ws.sum = sW (st xs) w N := by
    have h5 : ws.sum + 0 = sW (st xs) w n := I.t
    have h6 : sW (st xs) w n = sW (st xs) w N := sW_dead hD hw fun t ht => by
      have := hz (t - n)
      rwa [show n + (t - n) = t by omega] at this
    omega
  refine ⟨ys, ?_, ?_, k3, by omega⟩
  · have e1 : sWhile T2__law_walked_through L3__law_walked_through [Sl.va (.tuple (iL xs)), .va (.int w), .li [], .li [], .va (.int 0), .li [], .no, .no] = _ := h1
    have e2 : wE xs w ⟨n, [], ws, s6, s7⟩ = [Sl.va (.tuple (iL xs)), .va (.int w), .li (iL []), .li (iL ws), .va (.int (n : Nat)), .li (iL (prS (oW (st xs) w) n)), sl s6, sl s7] := rfl
    have hs2 : dSum (.list (iL ws)) = some (.int (sW (st xs) w N)) := by rw [dSum_lst, hs]
    rw [e2] at e1
    generalize iL (prS (oW (st xs) w) n) = P at *
    generalize iL ws = W at *
    generalize iL ys = Y at *
    generalize iL xs = X at *
    generalize iL ([] : List Int) = E at *
    unfold F__law_walked_through
    repeat (first | walk_at "ev" | simp only [e1, k1, hs2, Option.map_some, Option.bind_some])
  · rw [k2]
    refine st_prS fun t ht => ?_
    have := hz (t - n)
    rw [show n + (t - n) = t by omega] at this
    unfold oW
    rw [this, st_ge (by omega)]; omega
end Fl

set_option Elab.async false
set_option linter.all false
set_option maxRecDepth 100000
set_option maxHeartbeats 4000000
set_option autoImplicit false
namespace Fl
open PySem PySem.Spec PyProof.Rows L2
local macro_rules | `(tactic| walk_at "ev") => `(tactic| simp -implicitDefEqProofs only [prE_ev, eVar_ev, varC_ev, varC_tn, eNm_ev, nmC_va, nmC_tn, nmC_li, eC_ev, vw_va, vw_tn, vw_li, eOwn_ev, eIxO_ev, ixoC_ev, ixoC2_ev, ixoC3_ev, eOp_ev, opC_ev, opC2_ev, eUn_ev, unC_ev, bE_ev, bEC_ev, bB_ev, bBC_ev, bNot_ev, notC_ev, bAnd_ev, andC_t, andC_f, bOr_ev, orC_t, orC_f, bYes_ev, eAnd_ev, eandC_t, eandC_f, eOr_ev, eorC_t, eorC_f, eNot_ev, enotC_ev, eIf_ev, ifC_t, ifC_f, eTup_ev, tupC_ev, aNil_ev, aCons_ev, aconsC_ev, aconsC2_ev, oLst_ev, lstC_ev, oE_ev, oEC_ev, eFz_ev, fzC_tn, fzC_va, fzC_li, oUn_ev, ounC_ev, prL_ev, eSl_ev, slC_ev, slC2_ev, slC3_ev, eSlO_ev, sloC_ev, sloC2_ev, sloC3_ev, sloC4_ev, lEnum_ev, enC_tup, enC_lst, pNo_ev, pSo_ev, psoC_ev, lOf_ev, lofC_tup, lofC_lst, lRng1_ev, rng1C_ev, lRng2_ev, rng2C_ev, rng2C2_ev, oRep_ev, repC_ev, repC2_ev, oCall_ev, callC_0, callC_1, callC_2, callC_3, callC_4, callC_5, callC_rv, callC_rv4, arSl_vl, arSl_rf, callC2_ev, arBack_nil, arBack_vl, arBack_rf, rNil_ev, rVal_ev, rvC_ev, rvC2_ev, rRef_ev, rrC_ev, oComp_ev, compC2_ev, wipeE_nil, wipeE_cons, backE_nil, backE_cons, gNm_ev, gTupF_ev, gsNil_ev, gsCons_ev, sNext_ev, sBreak_ev, sCont_ev, sSeq_ev, seqC_nx, seqC_bk, seqC_ct, seqC_rt, sSet_ev, setC_ev, sPar_ev, parC_ev, setAll_nil, setAll_cons, olNil_ev, olCons_ev, olC_ev, olC2_ev, sAsg_ev, asgC_ev, sIf_ev, sifC_t, sifC_f, sFor_ev, forC_ev, sDrop_ev, dropC_ev, sRet_ev, retC_ev, sRetN_ev, retnC_va, retnC_li, liOf_li, eMt1_ev, mt1C_ev, mt1C2_ev, mt1C3_ev, mt1C4_ev, eMt0_ev, mt0C_ev, sSub_ev, subC_ev, subC1_ev, subC2_ev, subC3_ev, subC4_ev, sAug_ev, augC_ev, augC2_ev, augC3_ev, mkF_ev, mkC_rt, mkC_nx, keepE_nil, keepE_va, keepE_ow', dTru_bool, dTru_int, dTru_none, dTru_list, dTru_tuple, dAdd_int, dAdd_tup, dAdd_lst, dIadd_int, dSub_int, dMul_int, dDiv_int, dMod_int, dNeg_int, dMin2_int, dMax2_int, dLtA_int, dLe_int, dLt_int, dGt_int, dGe_int, shaped_int, shaped_bool, shaped_none, eqv_int, eqv_bool, dEq_int, dNe_int, dEq_bool, dIs_none, dIsN_none, isNon_none, isNon_int, isNon_tup, isNon_bool, dLen_tup, dLen_lst, dIx_tup, dIx_lst, at0, at1, at2, at3, gExtend_lst, dTuple_lst, dTuple_tup, dList_lst, dList_tup, dInt_int, dSl_tup, dSl_lst, isTup, isLst, isBool, isIntB, isStr, beq_self_eq_true, decide_true, decide_false, isi_tup, isi_lst, isi_int, isi_bool, isi_str, isi_none, sz0, sz1, sz2, sz3, sz4, sz5, sz6, sz7, sz8, sz9, sz10, sz11, sz12, isOw_no, isOw_va, isOw_li, isOw_di, isOw_dt, isOw_ow, isOw_none, isOw_sl,
  Option.bind_some, Option.map_some, Option.bind_none, Option.map_none, Option.getD_some, Option.getD_none, List.getElem?_cons_zero, List.getElem?_cons_succ, List.set_cons_zero, List.set_cons_succ, List.map_cons, List.map_nil, List.headD_cons, List.headD_nil, List.tail_cons, List.tail_nil, List.isEmpty_nil, List.isEmpty_cons, List.length_nil, List.length_cons, List.nil_append, List.cons_append, List.replicate_succ, List.replicate_zero, Nat.reduceSub, Nat.reduceAdd, Bool.false_eq_true, if_false, if_true, reduceIte, Bool.not_true, Bool.not_false, and_true, true_and, and_self, Int.toNat_natCast, Int.zero_add, eCh_ev, chC_ev, chC2_ev, chC3_t, chC3_f, chC4_ev, lZip_ev, zipC_ev, zipC2_tup, zipC2_lst, dRev_tup, dRev_lst, dRngL_int, dRngT_int, oIte_ev, oiteC_li, oiteC_va, oCompO_ev, callC_rv2, callC_rv3, rdOf_di, rdOf_dl, diOf_di, keyD_int, eDget_ev, dgC_ev, dgC1_ev, dgC2_ev, dgC3_ev, eDin_ev, diC_ev, diC1_ev, diC2_t, diC2_f, eDlen_ev, dlC_ev, eDgt2_ev, d2C_ev, d2C1_ev, d2C2_ev, d2C3_ev, d2C4_ev, eDpop_ev, dpC_ev, dpC1_ev, dpC2_ev, dpC3_ev, dpC4_ev, sDput_ev, ddC_ev, ddC1_ev, ddC2_ev, ddC3_ev, ddC4_ev, oDnew_ev, oLock_ev, lkC_ev, lkC1_ev, lKeys_ev, lkyC_ev, isDl_li, isOw_dl, sRetO_ev, retOC_ev, oTn_ev, oTnC_ev, tnOf_ev, eMtT_ev, mtTC_ev, mtTC2_ev, mtTC3_ev, isOw_tn, oCat_ev, catC_ev])
local macro_rules | `(tactic| walk_at "evh") => `(tactic| simp -implicitDefEqProofs only [prE_ev, eVar_ev, varC_ev, varC_tn, eNm_ev, nmC_va, nmC_tn, nmC_li, eC_ev, vw_va, vw_tn, vw_li, eOwn_ev, eIxO_ev, ixoC_ev, ixoC2_ev, ixoC3_ev, eOp_ev, opC_ev, opC2_ev, eUn_ev, unC_ev, bE_ev, bEC_ev, bB_ev, bBC_ev, bNot_ev, notC_ev, bAnd_ev, andC_t, andC_f, bOr_ev, orC_t, orC_f, bYes_ev, eAnd_ev, eandC_t, eandC_f, eOr_ev, eorC_t, eorC_f, eNot_ev, enotC_ev, eIf_ev, ifC_t, ifC_f, eTup_ev, tupC_ev, aNil_ev, aCons_ev, aconsC_ev, aconsC2_ev, oLst_ev, lstC_ev, oE_ev, oEC_ev, eFz_ev, fzC_tn, fzC_va, fzC_li, oUn_ev, ounC_ev, prL_ev, eSl_ev, slC_ev, slC2_ev, slC3_ev, eSlO_ev, sloC_ev, sloC2_ev, sloC3_ev, sloC4_ev, lEnum_ev, enC_tup, enC_lst, pNo_ev, pSo_ev, psoC_ev, lOf_ev, lofC_tup, lofC_lst, lRng1_ev, rng1C_ev, lRng2_ev, rng2C_ev, rng2C2_ev, oRep_ev, repC_ev, repC2_ev, oCall_ev, callC_0, callC_1, callC_2, callC_3, callC_4, callC_5, callC_rv, callC_rv4, arSl_vl, arSl_rf, callC2_ev, arBack_nil, arBack_vl, arBack_rf, rNil_ev, rVal_ev, rvC_ev, rvC2_ev, rRef_ev, rrC_ev, oComp_ev, compC2_ev, wipeE_nil, wipeE_cons, backE_nil, backE_cons, gNm_ev, gTupF_ev, gsNil_ev, gsCons_ev, sNext_ev, sBreak_ev, sCont_ev, sSeq_ev, seqC_nx, seqC_bk, seqC_ct, seqC_rt, sSet_ev, setC_ev, sPar_ev, parC_ev, setAll_nil, setAll_cons, olNil_ev, olCons_ev, olC_ev, olC2_ev, sAsg_ev, asgC_ev, sIf_ev, sifC_t, sifC_f, sFor_ev, forC_ev, sDrop_ev, dropC_ev, sRet_ev, retC_ev, sRetN_ev, retnC_va, retnC_li, liOf_li, eMt1_ev, mt1C_ev, mt1C2_ev, mt1C3_ev, mt1C4_ev, eMt0_ev, mt0C_ev, sSub_ev, subC_ev, subC1_ev, subC2_ev, subC3_ev, subC4_ev, sAug_ev, augC_ev, augC2_ev, augC3_ev, mkF_ev, mkC_rt, mkC_nx, keepE_nil, keepE_va, keepE_ow', dTru_bool, dTru_int, dTru_none, dTru_list, dTru_tuple, dAdd_int, dAdd_tup, dAdd_lst, dIadd_int, dSub_int, dMul_int, dDiv_int, dMod_int, dNeg_int, dMin2_int, dMax2_int, dLtA_int, dLe_int, dLt_int, dGt_int, dGe_int, shaped_int, shaped_bool, shaped_none, eqv_int, eqv_bool, dEq_int, dNe_int, dEq_bool, dIs_none, dIsN_none, isNon_none, isNon_int, isNon_tup, isNon_bool, dLen_tup, dLen_lst, dIx_tup, dIx_lst, at0, at1, at2, at3, gExtend_lst, dTuple_lst, dTuple_tup, dList_lst, dList_tup, dInt_int, dSl_tup, dSl_lst, isTup, isLst, isBool, isIntB, isStr, beq_self_eq_true, decide_true, decide_false, isi_tup, isi_lst, isi_int, isi_bool, isi_str, isi_none, sz0, sz1, sz2, sz3, sz4, sz5, sz6, sz7, sz8, sz9, sz10, sz11, sz12, isOw_no, isOw_va, isOw_li, isOw_di, isOw_dt, isOw_ow, isOw_none, isOw_sl,
  Option.bind_some, Option.map_some, Option.bind_none, Option.map_none, Option.getD_some, Option.getD_none, List.getElem?_cons_zero, List.getElem?_cons_succ, List.set_cons_zero, List.set_cons_succ, List.map_cons, List.map_nil, List.headD_cons, List.headD_nil, List.tail_cons, List.tail_nil, List.isEmpty_nil, List.isEmpty_cons, List.length_nil, List.length_cons, List.nil_append, List.cons_append, List.replicate_succ, List.replicate_zero, Nat.reduceSub, Nat.reduceAdd, Bool.false_eq_true, if_false, if_true, reduceIte, Bool.not_true, Bool.not_false, and_true, true_and, and_self, Int.toNat_natCast, Int.zero_add, eCh_ev, chC_ev, chC2_ev, chC3_t, chC3_f, chC4_ev, lZip_ev, zipC_ev, zipC2_tup, zipC2_lst, dRev_tup, dRev_lst, dRngL_int, dRngT_int, oIte_ev, oiteC_li, oiteC_va, oCompO_ev, callC_rv2, callC_rv3, rdOf_di, rdOf_dl, diOf_di, keyD_int, eDget_ev, dgC_ev, dgC1_ev, dgC2_ev, dgC3_ev, eDin_ev, diC_ev, diC1_ev, diC2_t, diC2_f, eDlen_ev, dlC_ev, eDgt2_ev, d2C_ev, d2C1_ev, d2C2_ev, d2C3_ev, d2C4_ev, eDpop_ev, dpC_ev, dpC1_ev, dpC2_ev, dpC3_ev, dpC4_ev, sDput_ev, ddC_ev, ddC1_ev, ddC2_ev, ddC3_ev, ddC4_ev, oDnew_ev, oLock_ev, lkC_ev, lkC1_ev, lKeys_ev, lkyC_ev, isDl_li, isOw_dl, sRetO_ev, retOC_ev, oTn_ev, oTnC_ev, tnOf_ev, eMtT_ev, mtTC_ev, mtTC2_ev, mtTC3_ev, isOw_tn, oCat_ev, catC_ev, *])
/-! K45_Lq: the longest queue. -/
/-- what comes less what may go -/
def pw (a : Nat → Int) (w : Int) : Nat → Int
  | 0 => 0
  | n + 1 => pw a w n + a n - w
theorem pw_eq (a : Nat → Int) (w : Int) (n : Nat) : pw a w n = asu a n - w * n := by
  induction n with
  | zero => show (0 : Int) = 0 - w * 0; omega
  | succ n ih =>
    show pw a w n + a n - w = asu a n + a n - w * ((n + 1 : Nat) : Int)
    rw [ih, Int.natCast_add, Int.mul_add]
    omega
theorem lind (a : Nat → Int) (w : Int) : ∀ t, (∀ s, s ≤ t → pw a w (t + 1) - pw a w s ≤ qW a w (t + 1)) ∧ (qW a w (t + 1) = 0 ∨ ∃ s, s ≤ t ∧ qW a w (t + 1) = pw a w (t + 1) - pw a w s)
  | 0 => by
    have h1 : qW a w 1 = max 0 (0 + a 0 - w) := rfl
    have h2 : pw a w 1 = 0 + a 0 - w := rfl
    refine ⟨fun s hs => ?_, ?_⟩
    · obtain rfl : s = 0 := by omega
      show pw a w 1 - 0 ≤ qW a w 1
      omega
    · by_cases h : 0 + a 0 - w ≤ 0
      · left; show qW a w 1 = 0; omega
      · right; exact ⟨0, Nat.le_refl _, by show qW a w 1 = pw a w 1 - 0; omega⟩
  | t + 1 => by
    obtain ⟨i1, i2⟩ := lind a w t
    have h1 : qW a w (t + 2) = max 0 (qW a w (t + 1) + a (t + 1) - w) := rfl
    have h2 : pw a w (t + 2) = pw a w (t + 1) + a (t + 1) - w := rfl
    have h0 := qW_nn a w (t + 1)
    refine ⟨fun s hs => ?_, ?_⟩
    · by_cases h : s = t + 1
      · subst h
        show pw a w (t + 2) - pw a w (t + 1) ≤ qW a w (t + 2)
        omega
      · have := i1 s (by omega)
        show pw a w (t + 2) - pw a w s ≤ qW a w (t + 2)
        omega
    · by_cases h : qW a w (t + 1) + a (t + 1) - w ≤ 0
      · left
        show qW a w (t + 2) = 0
        omega
      · right
        rcases i2 with i2 | ⟨s, hs, i2⟩
        · exact ⟨t + 1, Nat.le_refl _, by show qW a w (t + 2) = pw a w (t + 2) - pw a w (t + 1); omega⟩
        · exact ⟨s, by omega, by show qW a w (t + 2) = pw a w (t + 2) - pw a w s; omega⟩
theorem dIdx_some {L : List Int} {m : Int} (h : m ∈ L) : ∃ t, dIndex (iL L) (.int m) = some (.int (t : Nat)) ∧ L[t]? = some m := by
  obtain ⟨i, hi⟩ := List.getElem?_of_mem h
  have hil := (List.getElem?_eq_some_iff.mp hi).1
  have e : ∀ z : Int, PyData.eqv (.int z) (.int m) = (z == m) := fun z => rfl
  cases hf : (iL L).findIdx? fun z => PyData.eqv z (.int m) with
  | none =>
    have := List.findIdx?_eq_none_iff.mp hf (.int m) (List.mem_map.mpr ⟨m, h, rfl⟩)
    rw [e] at this
    simp at this
  | some t =>
    obtain ⟨ht, hp, _⟩ := List.findIdx?_eq_some_iff_getElem.mp hf
    refine ⟨t, ?_, ?_⟩
    · unfold dIndex
      rw [if_pos ⟨rfl, flat_iL L⟩, hf]; rfl
    · have htl : t < L.length := by rwa [iL_len] at ht
      have : (iL L)[t] = .int L[t] := by simp [iL]
      rw [this, e] at hp
      rw [List.getElem?_eq_getElem htl, eq_of_beq hp]
def lqE (xs L : List Int) (w m : Int) (t s : Nat) : Ev := [.va (.tuple (iL xs)), .va (.int w), .tn (iL L), .va (.int m), .va (.int (t : Nat)), .va (.int (s : Nat)), .va (.int (pw (st xs) w (t + 1) - pw (st xs) w s))]
theorem lq_while {xs L : List Int} {w m : Int} {t s0 : Nat} (ht : t < xs.length) (hs : s0 ≤ t) (h0 : pw (st xs) w (t + 1) - pw (st xs) w s0 = m) (h1 : ∀ u, s0 < u → u ≤ t → pw (st xs) w (t + 1) - pw (st xs) w u ≠ m) :
    sWhile T1_longest_queue L2_longest_queue (lqE xs L w m t t) = some (.nx (lqE xs L w m t s0)) := by
  obtain ⟨s, k1, ⟨k2, k3⟩, k4, _⟩ := while_st (c := T1_longest_queue) (b := L2_longest_queue) (fun s => lqE xs L w m t s) (fun s => !decide (pw (st xs) w (t + 1) - pw (st xs) w s = m)) (· - 1) (fun s => s0 ≤ s ∧ s ≤ t) (fun s => s) (fun s ⟨i1, i2⟩ => by
    refine ⟨?_, fun hc => ?_⟩
    · unfold T1_longest_queue lqE
      generalize iL xs = X at *
      generalize iL L = LL at *
      generalize pw (st xs) w (t + 1) - pw (st xs) w s = p at *
      have hb : (!decide (p = m)) = (p != m) := by
        by_cases h : p = m
        · subst h; simp
        · rw [decide_eq_false h]
          symm
          rw [Bool.not_false, bne_iff_ne]; exact h
      rw [hb]
      repeat (first | walk_at "ev" | rfl)
    · have hne : pw (st xs) w (t + 1) - pw (st xs) w s ≠ m := by simpa using hc
      have hs1 : s0 < s := by
        rcases Nat.lt_or_ge s0 s with h | h
        · exact h
        · exact absurd (by rw [show s = s0 by omega]; exact h0) hne
      obtain ⟨u, rfl⟩ : ∃ u, s = u + 1 := ⟨s - 1, by omega⟩
      refine ⟨?_, ⟨by show s0 ≤ u; omega, by show u ≤ t; omega⟩, by show u < u + 1; omega⟩
      have hu : ((u + 1 : Nat) : Int) - 1 = (u : Nat) := by omega
      have hat : atI (iL xs) (u : Nat) = some (.int (st xs u)) := atI_iL (st_lt (by omega))
      have hp : pw (st xs) w (t + 1) - pw (st xs) w (u + 1) + (st xs u - w) = pw (st xs) w (t + 1) - pw (st xs) w u := by
        show pw (st xs) w (t + 1) - (pw (st xs) w u + st xs u - w) + (st xs u - w) = _
        omega
      show L2_longest_queue (lqE xs L w m t (u + 1)) = some (.nx (lqE xs L w m t u))
      unfold L2_longest_queue lqE
      generalize iL xs = X at *
      generalize iL L = LL at *
      generalize pw (st xs) w (t + 1) - pw (st xs) w (u + 1) = p1 at *
      generalize pw (st xs) w (t + 1) - pw (st xs) w u = p2 at *
      repeat (first | walk_at "ev" | simp only [hu, hat, hp])) t t (Nat.le_refl _) ⟨hs, Nat.le_refl _⟩
  have hk : pw (st xs) w (t + 1) - pw (st xs) w s = m := by simpa using k4
  have : s = s0 := by
    rcases Nat.lt_or_ge s0 s with h | h
    · exact absurd hk (h1 s h k3)
    · omega
  rw [k1, this]
theorem lq_ok {xs : List Int} {w m : Int} {t s0 : Nat} (hl : xs.length ≤ 100000) (hm : dMax (.tuple (iL (0 :: prS (nx (st xs) w) xs.length))) = some (.int m)) (h0 : 0 < m) (hi : dIndex (iL (prS (nx (st xs) w) xs.length)) (.int m) = some (.int (t : Nat))) (ht : t < xs.length)
    (hs : s0 ≤ t) (h1 : pw (st xs) w (t + 1) - pw (st xs) w s0 = m) (h2 : ∀ u, s0 < u → u ≤ t → pw (st xs) w (t + 1) - pw (st xs) w u ≠ m) :
    F_longest_queue [.va (.tuple (iL xs)), .va (.int w)] = some (.va (.tuple [.int m, .int (s0 : Nat), .int (t : Nat)]), [.no, .no]) := by
  have f1 := lw_ok (xs := xs) (w := w) hl
  have f2 := lq_while (L := prS (nx (st xs) w) xs.length) ht hs h1 h2
  have hadd : 1 + (iL (prS (nx (st xs) w) xs.length)).length ≤ sizeLine := small1Me (by rw [iL_len, prS_len]; omega)
  have hm : dMax (.tuple (.int 0 :: iL (prS (nx (st xs) w) xs.length))) = _ := hm
  have hat : atI (iL xs) (t : Nat) = some (.int (st xs t)) := atI_iL (st_lt ht)
  have hp : pw (st xs) w (t + 1) - pw (st xs) w t = st xs t - w := by
    show pw (st xs) w t + st xs t - w - pw (st xs) w t = _
    omega
  have hm0 : (m == 0) = false := by rw [beq_eq_false_iff_ne]; omega
  unfold lqE at f2
  rw [hp] at f2
  generalize iL (prS (nx (st xs) w) xs.length) = L at *
  generalize iL xs = X at *
  generalize pw (st xs) w (t + 1) - pw (st xs) w s0 = p0 at *
  unfold F_longest_queue
  repeat (first | walk_at "ev" | simp only [f1, hadd, hm, hm0, hi, hat, f2, reduceIte, Option.map_some, Option.bind_some])
theorem lq_none {xs : List Int} {w : Int} (hl : xs.length ≤ 100000) (hm : dMax (.tuple (iL (0 :: prS (nx (st xs) w) xs.length))) = some (.int 0)) :
    F_longest_queue [.va (.tuple (iL xs)), .va (.int w)] = some (.va (.tuple [.int 0, .none, .none]), [.no, .no]) := by
  have f1 := lw_ok (xs := xs) (w := w) hl
  have hadd : 1 + (iL (prS (nx (st xs) w) xs.length)).length ≤ sizeLine := small1Me (by rw [iL_len, prS_len]; omega)
  have hm : dMax (.tuple (.int 0 :: iL (prS (nx (st xs) w) xs.length))) = _ := hm
  generalize iL (prS (nx (st xs) w) xs.length) = L at *
  generalize iL xs = X at *
  unfold F_longest_queue
  repeat (first | walk_at "ev" | simp only [f1, hadd, hm, reduceIte, Option.map_some, Option.bind_some])
end Fl

set_option Elab.async false
set_option linter.all false
set_option maxRecDepth 100000
set_option maxHeartbeats 4000000
set_option autoImplicit false
namespace Fl
open PySem PySem.Spec PyProof.Rows L2
local macro_rules | `(tactic| walk_at "ev") => `(tactic| simp -implicitDefEqProofs only [prE_ev, eVar_ev, varC_ev, varC_tn, eNm_ev, nmC_va, nmC_tn, nmC_li, eC_ev, vw_va, vw_tn, vw_li, eOwn_ev, eIxO_ev, ixoC_ev, ixoC2_ev, ixoC3_ev, eOp_ev, opC_ev, opC2_ev, eUn_ev, unC_ev, bE_ev, bEC_ev, bB_ev, bBC_ev, bNot_ev, notC_ev, bAnd_ev, andC_t, andC_f, bOr_ev, orC_t, orC_f, bYes_ev, eAnd_ev, eandC_t, eandC_f, eOr_ev, eorC_t, eorC_f, eNot_ev, enotC_ev, eIf_ev, ifC_t, ifC_f, eTup_ev, tupC_ev, aNil_ev, aCons_ev, aconsC_ev, aconsC2_ev, oLst_ev, lstC_ev, oE_ev, oEC_ev, eFz_ev, fzC_tn, fzC_va, fzC_li, oUn_ev, ounC_ev, prL_ev, eSl_ev, slC_ev, slC2_ev, slC3_ev, eSlO_ev, sloC_ev, sloC2_ev, sloC3_ev, sloC4_ev, lEnum_ev, enC_tup, enC_lst, pNo_ev, pSo_ev, psoC_ev, lOf_ev, lofC_tup, lofC_lst, lRng1_ev, rng1C_ev, lRng2_ev, rng2C_ev, rng2C2_ev, oRep_ev, repC_ev, repC2_ev, oCall_ev, callC_0, callC_1, callC_2, callC_3, callC_4, callC_5, callC_rv, callC_rv4, arSl_vl, arSl_rf, callC2_ev, arBack_nil, arBack_vl, arBack_rf, rNil_ev, rVal_ev, rvC_ev, rvC2_ev, rRef_ev, rrC_ev, oComp_ev, compC2_ev, wipeE_nil, wipeE_cons, backE_nil, backE_cons, gNm_ev, gTupF_ev, gsNil_ev, gsCons_ev, sNext_ev, sBreak_ev, sCont_ev, sSeq_ev, seqC_nx, seqC_bk, seqC_ct, seqC_rt, sSet_ev, setC_ev, sPar_ev, parC_ev, setAll_nil, setAll_cons, olNil_ev, olCons_ev, olC_ev, olC2_ev, sAsg_ev, asgC_ev, sIf_ev, sifC_t, sifC_f, sFor_ev, forC_ev, sDrop_ev, dropC_ev, sRet_ev, retC_ev, sRetN_ev, retnC_va, retnC_li, liOf_li, eMt1_ev, mt1C_ev, mt1C2_ev, mt1C3_ev, mt1C4_ev, eMt0_ev, mt0C_ev, sSub_ev, subC_ev, subC1_ev, subC2_ev, subC3_ev, subC4_ev, sAug_ev, augC_ev, augC2_ev, augC3_ev, mkF_ev, mkC_rt, mkC_nx, keepE_nil, keepE_va, keepE_ow', dTru_bool, dTru_int, dTru_none, dTru_list, dTru_tuple, dAdd_int, dAdd_tup, dAdd_lst, dIadd_int, dSub_int, dMul_int, dDiv_int, dMod_int, dNeg_int, dMin2_int, dMax2_int, dLtA_int, dLe_int, dLt_int, dGt_int, dGe_int, shaped_int, shaped_bool, shaped_none, eqv_int, eqv_bool, dEq_int, dNe_int, dEq_bool, dIs_none, dIsN_none, isNon_none, isNon_int, isNon_tup, isNon_bool, dLen_tup, dLen_lst, dIx_tup, dIx_lst, at0, at1, at2, at3, gExtend_lst, dTuple_lst, dTuple_tup, dList_lst, dList_tup, dInt_int, dSl_tup, dSl_lst, isTup, isLst, isBool, isIntB, isStr, beq_self_eq_true, decide_true, decide_false, isi_tup, isi_lst, isi_int, isi_bool, isi_str, isi_none, sz0, sz1, sz2, sz3, sz4, sz5, sz6, sz7, sz8, sz9, sz10, sz11, sz12, isOw_no, isOw_va, isOw_li, isOw_di, isOw_dt, isOw_ow, isOw_none, isOw_sl,
  Option.bind_some, Option.map_some, Option.bind_none, Option.map_none, Option.getD_some, Option.getD_none, List.getElem?_cons_zero, List.getElem?_cons_succ, List.set_cons_zero, List.set_cons_succ, List.map_cons, List.map_nil, List.headD_cons, List.headD_nil, List.tail_cons, List.tail_nil, List.isEmpty_nil, List.isEmpty_cons, List.length_nil, List.length_cons, List.nil_append, List.cons_append, List.replicate_succ, List.replicate_zero, Nat.reduceSub, Nat.reduceAdd, Bool.false_eq_true, if_false, if_true, reduceIte, Bool.not_true, Bool.not_false, and_true, true_and, and_self, Int.toNat_natCast, Int.zero_add, eCh_ev, chC_ev, chC2_ev, chC3_t, chC3_f, chC4_ev, lZip_ev, zipC_ev, zipC2_tup, zipC2_lst, dRev_tup, dRev_lst, dRngL_int, dRngT_int, oIte_ev, oiteC_li, oiteC_va, oCompO_ev, callC_rv2, callC_rv3, rdOf_di, rdOf_dl, diOf_di, keyD_int, eDget_ev, dgC_ev, dgC1_ev, dgC2_ev, dgC3_ev, eDin_ev, diC_ev, diC1_ev, diC2_t, diC2_f, eDlen_ev, dlC_ev, eDgt2_ev, d2C_ev, d2C1_ev, d2C2_ev, d2C3_ev, d2C4_ev, eDpop_ev, dpC_ev, dpC1_ev, dpC2_ev, dpC3_ev, dpC4_ev, sDput_ev, ddC_ev, ddC1_ev, ddC2_ev, ddC3_ev, ddC4_ev, oDnew_ev, oLock_ev, lkC_ev, lkC1_ev, lKeys_ev, lkyC_ev, isDl_li, isOw_dl, sRetO_ev, retOC_ev, oTn_ev, oTnC_ev, tnOf_ev, eMtT_ev, mtTC_ev, mtTC2_ev, mtTC3_ev, isOw_tn, oCat_ev, catC_ev])
local macro_rules | `(tactic| walk_at "evh") => `(tactic| simp -implicitDefEqProofs only [prE_ev, eVar_ev, varC_ev, varC_tn, eNm_ev, nmC_va, nmC_tn, nmC_li, eC_ev, vw_va, vw_tn, vw_li, eOwn_ev, eIxO_ev, ixoC_ev, ixoC2_ev, ixoC3_ev, eOp_ev, opC_ev, opC2_ev, eUn_ev, unC_ev, bE_ev, bEC_ev, bB_ev, bBC_ev, bNot_ev, notC_ev, bAnd_ev, andC_t, andC_f, bOr_ev, orC_t, orC_f, bYes_ev, eAnd_ev, eandC_t, eandC_f, eOr_ev, eorC_t, eorC_f, eNot_ev, enotC_ev, eIf_ev, ifC_t, ifC_f, eTup_ev, tupC_ev, aNil_ev, aCons_ev, aconsC_ev, aconsC2_ev, oLst_ev, lstC_ev, oE_ev, oEC_ev, eFz_ev, fzC_tn, fzC_va, fzC_li, oUn_ev, ounC_ev, prL_ev, eSl_ev, slC_ev, slC2_ev, slC3_ev, eSlO_ev, sloC_ev, sloC2_ev, sloC3_ev, sloC4_ev, lEnum_ev, enC_tup, enC_lst, pNo_ev, pSo_ev, psoC_ev, lOf_ev, lofC_tup, lofC_lst, lRng1_ev, rng1C_ev, lRng2_ev, rng2C_ev, rng2C2_ev, oRep_ev, repC_ev, repC2_ev, oCall_ev, callC_0, callC_1, callC_2, callC_3, callC_4, callC_5, callC_rv, callC_rv4, arSl_vl, arSl_rf, callC2_ev, arBack_nil, arBack_vl, arBack_rf, rNil_ev, rVal_ev, rvC_ev, rvC2_ev, rRef_ev, rrC_ev, oComp_ev, compC2_ev, wipeE_nil, wipeE_cons, backE_nil, backE_cons, gNm_ev, gTupF_ev, gsNil_ev, gsCons_ev, sNext_ev, sBreak_ev, sCont_ev, sSeq_ev, seqC_nx, seqC_bk, seqC_ct, seqC_rt, sSet_ev, setC_ev, sPar_ev, parC_ev, setAll_nil, setAll_cons, olNil_ev, olCons_ev, olC_ev, olC2_ev, sAsg_ev, asgC_ev, sIf_ev, sifC_t, sifC_f, sFor_ev, forC_ev, sDrop_ev, dropC_ev, sRet_ev, retC_ev, sRetN_ev, retnC_va, retnC_li, liOf_li, eMt1_ev, mt1C_ev, mt1C2_ev, mt1C3_ev, mt1C4_ev, eMt0_ev, mt0C_ev, sSub_ev, subC_ev, subC1_ev, subC2_ev, subC3_ev, subC4_ev, sAug_ev, augC_ev, augC2_ev, augC3_ev, mkF_ev, mkC_rt, mkC_nx, keepE_nil, keepE_va, keepE_ow', dTru_bool, dTru_int, dTru_none, dTru_list, dTru_tuple, dAdd_int, dAdd_tup, dAdd_lst, dIadd_int, dSub_int, dMul_int, dDiv_int, dMod_int, dNeg_int, dMin2_int, dMax2_int, dLtA_int, dLe_int, dLt_int, dGt_int, dGe_int, shaped_int, shaped_bool, shaped_none, eqv_int, eqv_bool, dEq_int, dNe_int, dEq_bool, dIs_none, dIsN_none, isNon_none, isNon_int, isNon_tup, isNon_bool, dLen_tup, dLen_lst, dIx_tup, dIx_lst, at0, at1, at2, at3, gExtend_lst, dTuple_lst, dTuple_tup, dList_lst, dList_tup, dInt_int, dSl_tup, dSl_lst, isTup, isLst, isBool, isIntB, isStr, beq_self_eq_true, decide_true, decide_false, isi_tup, isi_lst, isi_int, isi_bool, isi_str, isi_none, sz0, sz1, sz2, sz3, sz4, sz5, sz6, sz7, sz8, sz9, sz10, sz11, sz12, isOw_no, isOw_va, isOw_li, isOw_di, isOw_dt, isOw_ow, isOw_none, isOw_sl,
  Option.bind_some, Option.map_some, Option.bind_none, Option.map_none, Option.getD_some, Option.getD_none, List.getElem?_cons_zero, List.getElem?_cons_succ, List.set_cons_zero, List.set_cons_succ, List.map_cons, List.map_nil, List.headD_cons, List.headD_nil, List.tail_cons, List.tail_nil, List.isEmpty_nil, List.isEmpty_cons, List.length_nil, List.length_cons, List.nil_append, List.cons_append, List.replicate_succ, List.replicate_zero, Nat.reduceSub, Nat.reduceAdd, Bool.false_eq_true, if_false, if_true, reduceIte, Bool.not_true, Bool.not_false, and_true, true_and, and_self, Int.toNat_natCast, Int.zero_add, eCh_ev, chC_ev, chC2_ev, chC3_t, chC3_f, chC4_ev, lZip_ev, zipC_ev, zipC2_tup, zipC2_lst, dRev_tup, dRev_lst, dRngL_int, dRngT_int, oIte_ev, oiteC_li, oiteC_va, oCompO_ev, callC_rv2, callC_rv3, rdOf_di, rdOf_dl, diOf_di, keyD_int, eDget_ev, dgC_ev, dgC1_ev, dgC2_ev, dgC3_ev, eDin_ev, diC_ev, diC1_ev, diC2_t, diC2_f, eDlen_ev, dlC_ev, eDgt2_ev, d2C_ev, d2C1_ev, d2C2_ev, d2C3_ev, d2C4_ev, eDpop_ev, dpC_ev, dpC1_ev, dpC2_ev, dpC3_ev, dpC4_ev, sDput_ev, ddC_ev, ddC1_ev, ddC2_ev, ddC3_ev, ddC4_ev, oDnew_ev, oLock_ev, lkC_ev, lkC1_ev, lKeys_ev, lkyC_ev, isDl_li, isOw_dl, sRetO_ev, retOC_ev, oTn_ev, oTnC_ev, tnOf_ev, eMtT_ev, mtTC_ev, mtTC2_ev, mtTC3_ev, isOw_tn, oCat_ev, catC_ev, *])
/-! K45_Tn: a turn's statements, up to the lengths. -/
theorem asu_take (xs : List Int) : ∀ n, asu (st xs) n = (xs.take n).sum
  | 0 => rfl
  | n + 1 => by
    show asu (st xs) n + st xs n = _
    rw [asu_take xs n]
    by_cases h : n < xs.length
    · rw [take_succ' h, List.sum_append]
      show _ = _ + (st xs n + 0)
      omega
    · rw [List.take_of_length_le (show xs.length ≤ n by omega), List.take_of_length_le (show xs.length ≤ n + 1 by omega), st_ge (by omega)]; omega
theorem sum_le {B : Int} (hB : 0 ≤ B) : ∀ {l : List Int}, (∀ x ∈ l, x ≤ B) → l.sum ≤ B * l.length
  | [], _ => by show (0 : Int) ≤ B * 0; omega
  | x :: l, h => by
    have h1 := h x List.mem_cons_self
    have h2 := sum_le hB (l := l) fun y hy => h y (List.mem_cons_of_mem _ hy)
    show x + l.sum ≤ B * ((l.length + 1 : Nat) : Int)
    rw [Int.natCast_add, Int.mul_add]
    omega
theorem cutD_mid {α : Type} {xs : List α} {i j : Nat} (hj : j ≤ xs.length) (h : i ≤ j) : cutD xs (some (i : Int)) (some (j : Int)) = (xs.take j).drop i := by
  unfold cutD
  rw [HT.sIx_nat, HT.sIx_nat, Nat.min_eq_left (show i ≤ xs.length by omega), Nat.min_eq_left hj, List.drop_take]
structure X45 (xs : List Int) (w : Int) : Prop where
  len : xs.length ≤ 9
  ok : ∀ x ∈ xs, 0 ≤ x ∧ x ≤ 6
  w1 : 1 ≤ w
  w2 : w ≤ 4
section
variable {xs : List Int} {w : Int} {b b' : Box} {e : Ev}
theorem X45.dry (X : X45 xs w) : Dry 100 (st xs) := dr_of (L := 9) (B := 6) X.len X.ok (by decide) (by decide)
theorem X45.asu (X : X45 xs w) (n : Nat) : asu (st xs) n ≤ 54 := by
  rw [asu_take]
  have h1 := sum_le (B := 6) (by decide) (l := xs.take n) fun x hx => (X.ok x (List.mem_of_mem_take hx)).2
  have h2 : (xs.take n).length ≤ 9 := Nat.le_trans (List.length_take_le' ..) X.len
  omega
structure F45 (xs : List Int) (w : Int) (b : Box) (e : Ev) : Prop extends Tz 19 e b where
  h3 : e[3]? = some (.va (.tuple (iL xs)))
  h4 : e[4]? = some (.va (.int w))
theorem F45.put (t : F45 xs w b e) {i : Nat} {s : Sl} (h1 : i ≠ 1) (h3 : i ≠ 3) (h4 : i ≠ 4) (hs : isOw (some s) = false) : F45 xs w b (e.set i s) :=
  ⟨t.toTz.set h1 hs, by rw [List.getElem?_set_ne h3]; exact t.h3, by rw [List.getElem?_set_ne h4]; exact t.h4⟩
theorem F45.bx (t : F45 xs w b e) : F45 xs w b' (e.set 1 (.ow b'.ot)) :=
  ⟨t.toTz.box (by decide), by rw [List.getElem?_set_ne (by decide)]; exact t.h3, by rw [List.getElem?_set_ne (by decide)]; exact t.h4⟩
theorem S9_ok (t : Tz 19 e b) : ∃ (xs : List Int) (b' : Box), S9_law e = some (.nx ((e.set 1 (.ow b'.ot)).set 3 (.va (.tuple (iL xs))))) ∧ xs.length ≤ 9 ∧ ∀ x ∈ xs, 0 ≤ x ∧ x ≤ 6 := by
  have hl := t.len
  have ho := t.ow
  obtain ⟨d, b1, e1, d1⟩ := drN b (m := 10) (by decide) (by decide)
  obtain ⟨xs, b2, c, k2, k3⟩ := compT (f := K1_law) (v := 17) (t.box (b' := b1) (by decide)) (fun i : Int => PyData.int i) (fun i => 0 ≤ i ∧ i ≤ 6) (rngD 0 d) (by rw [rngD_len]; omega) (by decide) (by decide) (by decide) fun dd _ b => by
    obtain ⟨d3, b3, e3, d30, d31⟩ := drI b (m := 3) (by decide) (by decide)
    obtain ⟨d8, b8, e8, d80, d81⟩ := drI b3 (m := 7) (by decide) (by decide)
    by_cases hp : 0 < d3
    · have hp' : decide (d3 > 0) = true := decide_eq_true hp
      refine ⟨d8, b8, ?_, d80, by omega⟩
      unfold K1_law
      repeat (first | walk_at "ev" | simp only [gset_ne, gset_self, List.length_set, Nat.reduceLT, Nat.reduceBEq, hl, e3, e8, hp'])
      rw [set_1v1 _ (by decide), set_1v1 _ (by decide)]
    · have hp' : decide (d3 > 0) = false := decide_eq_false hp
      refine ⟨0, b3, ?_, by omega, by omega⟩
      unfold K1_law
      repeat (first | walk_at "ev" | simp only [gset_ne, gset_self, List.length_set, Nat.reduceLT, Nat.reduceBEq, hl, e3, hp'])
      rw [set_1v1 _ (by decide)]
  rw [rngD_len] at k2
  refine ⟨xs, b2, ?_, by omega, k3⟩
  have hr : Rg (d : Int) := rg_of (by omega) (by omega)
  have n3 := t.no 3 (by decide)
  rw [List.set_set] at c
  unfold S9_law
  repeat (first | walk_at "ev" | simp only [gset_ne, gset_self, List.length_set, Nat.reduceLT, Nat.reduceBEq, hl, ho, n3, e1, hr, c, reduceIte, Int.toNat_natCast])
theorem S10_ok (t : Tz 19 e b) : ∃ (w : Int) (b' : Box), S10_law e = some (.nx ((e.set 1 (.ow b'.ot)).set 4 (.va (.int w)))) ∧ 1 ≤ w ∧ w ≤ 4 := by
  have hl := t.len
  have ho := t.ow
  have n4 := t.no 4 (by decide)
  obtain ⟨d, b1, e1, d0, d1⟩ := drI b (m := 4) (by decide) (by decide)
  refine ⟨1 + d, b1, ?_, by omega, by omega⟩
  unfold S10_law
  repeat (first | walk_at "ev" | simp only [gset_ne, gset_self, List.length_set, Nat.reduceLT, Nat.reduceBEq, hl, ho, n4, e1])
theorem S11_ok (t : F45 xs w b e) (X : X45 xs w) : ∃ ys, S11_law e = some (.nx ((e.set 5 (.va (.tuple (iL ys)))).set 6 (.va (.int (sW (st xs) w 100))))) ∧ st ys = oW (st xs) w ∧ Tr ys ∧ ys.length ≤ 100 := by
  have hl := t.len
  have h3 := t.h3
  have h4 := t.h4
  have n5 := t.no 5 (by decide)
  have n6 := t.no 6 (by decide)
  obtain ⟨ys, f, g1, g2, g3⟩ := wlk_ok X.dry (Nat.le_trans X.len (by decide)) (by decide) X.w1 fun n => Int.le_trans (X.asu n) (by decide)
  refine ⟨ys, ?_, g1, g2, g3⟩
  generalize sW (st xs) w 100 = s at *
  generalize iL ys = Y at *
  generalize iL xs = XX at *
  unfold S11_law
  repeat (first | walk_at "ev" | simp only [gset_ne, gset_self, List.length_set, Nat.reduceLT, Nat.reduceBEq, hl, h3, h4, n5, n6, f])
structure G45 (xs ys : List Int) (w : Int) (b : Box) (e : Ev) : Prop extends F45 xs w b e where
  h5 : e[5]? = some (.va (.tuple (iL ys)))
  h6 : e[6]? = some (.va (.int (sW (st xs) w 100)))
theorem G45.put {ys : List Int} (t : G45 xs ys w b e) {i : Nat} {s : Sl} (h1 : i ≠ 1) (h3 : i ≠ 3) (h4 : i ≠ 4) (h5 : i ≠ 5) (h6 : i ≠ 6) (hs : isOw (some s) = false) : G45 xs ys w b (e.set i s) :=
  ⟨t.toF45.put h1 h3 h4 hs, by rw [List.getElem?_set_ne h5]; exact t.h5, by rw [List.getElem?_set_ne h6]; exact t.h6⟩
theorem G45.bx {ys : List Int} (t : G45 xs ys w b e) : G45 xs ys w b' (e.set 1 (.ow b'.ot)) :=
  ⟨t.toF45.bx, by rw [List.getElem?_set_ne (by decide)]; exact t.h5, by rw [List.getElem?_set_ne (by decide)]; exact t.h6⟩
structure Y45 (xs ys : List Int) (w : Int) : Prop where
  s : st ys = oW (st xs) w
  t : Tr ys
  l : ys.length ≤ 100
theorem gone_eq {xs ys : List Int} {w : Int} {N : Nat} (hD : Dry N (st xs)) (hl : xs.length ≤ N) (hN : N ≤ 100000) (hw : 1 ≤ w) (hs : st ys = oW (st xs) w) (ht : Tr ys) : F_gone [.va (.tuple (iL xs)), .va (.int w)] = some (.va (.tuple (iL ys)), [.no, .no]) := by
  obtain ⟨zs, h1, h2, h3, _⟩ := gone_ok hD hl hN hw
  have : zs = ys := tr_ext h3 ht (h2.trans hs.symm)
  rw [← this]; exact h1
theorem S12_ok {ys : List Int} (t : G45 xs ys w b e) (X : X45 xs w) (Y : Y45 xs ys w) : S12_law e = some (.nx e) := by
  have hl := t.len
  have h3 := t.h3
  have h4 := t.h4
  have h5 := t.h5
  have h6 := t.h6
  have f1 := gone_eq X.dry (Nat.le_trans X.len (by decide)) (by decide) X.w1 Y.s Y.t
  have f2 := wd_ok X.dry (Nat.le_trans X.len (by decide)) (by decide) X.w1
  have f3 : F__law_same [.va (.tuple [.tuple (iL ys), .int (sW (st xs) w 100)]), .va (.tuple [.tuple (iL ys), .int (sW (st xs) w 100)])] = some (.va (.bool true), [.no, .no]) := sameQ ⟨Nat.le_of_ble_eq_true rfl, fun d hd => by
    rcases List.mem_cons.mp hd with rfl | hd
    · exact plain_iL (by have := Y.l; omega)
    · rw [List.mem_singleton.mp hd]; trivial⟩
  generalize sW (st xs) w 100 = s at *
  generalize iL ys = YY at *
  generalize iL xs = XX at *
  unfold S12_law
  repeat (first | walk_at "ev" | simp only [gset_ne, gset_self, List.length_set, Nat.reduceLT, Nat.reduceBEq, hl, h3, h4, h5, h6, f1, f2, f3])
theorem S13_ok (t : Tz 19 e b) : S13_law e = some (.nx (e.set 7 (.li []))) := by
  have hl := t.len
  have n7 := t.no 7 (by decide)
  unfold S13_law
  repeat (first | walk_at "ev" | simp only [gset_ne, gset_self, List.length_set, Nat.reduceLT, Nat.reduceBEq, hl, n7])
end
end Fl

set_option Elab.async false
set_option linter.all false
set_option maxRecDepth 100000
set_option maxHeartbeats 4000000
set_option autoImplicit false
namespace Fl
open PySem PySem.Spec PyProof.Rows L2
local macro_rules | `(tactic| walk_at "ev") => `(tactic| simp -implicitDefEqProofs only [prE_ev, eVar_ev, varC_ev, varC_tn, eNm_ev, nmC_va, nmC_tn, nmC_li, eC_ev, vw_va, vw_tn, vw_li, eOwn_ev, eIxO_ev, ixoC_ev, ixoC2_ev, ixoC3_ev, eOp_ev, opC_ev, opC2_ev, eUn_ev, unC_ev, bE_ev, bEC_ev, bB_ev, bBC_ev, bNot_ev, notC_ev, bAnd_ev, andC_t, andC_f, bOr_ev, orC_t, orC_f, bYes_ev, eAnd_ev, eandC_t, eandC_f, eOr_ev, eorC_t, eorC_f, eNot_ev, enotC_ev, eIf_ev, ifC_t, ifC_f, eTup_ev, tupC_ev, aNil_ev, aCons_ev, aconsC_ev, aconsC2_ev, oLst_ev, lstC_ev, oE_ev, oEC_ev, eFz_ev, fzC_tn, fzC_va, fzC_li, oUn_ev, ounC_ev, prL_ev, eSl_ev, slC_ev, slC2_ev, slC3_ev, eSlO_ev, sloC_ev, sloC2_ev, sloC3_ev, sloC4_ev, lEnum_ev, enC_tup, enC_lst, pNo_ev, pSo_ev, psoC_ev, lOf_ev, lofC_tup, lofC_lst, lRng1_ev, rng1C_ev, lRng2_ev, rng2C_ev, rng2C2_ev, oRep_ev, repC_ev, repC2_ev, oCall_ev, callC_0, callC_1, callC_2, callC_3, callC_4, callC_5, callC_rv, callC_rv4, arSl_vl, arSl_rf, callC2_ev, arBack_nil, arBack_vl, arBack_rf, rNil_ev, rVal_ev, rvC_ev, rvC2_ev, rRef_ev, rrC_ev, oComp_ev, compC2_ev, wipeE_nil, wipeE_cons, backE_nil, backE_cons, gNm_ev, gTupF_ev, gsNil_ev, gsCons_ev, sNext_ev, sBreak_ev, sCont_ev, sSeq_ev, seqC_nx, seqC_bk, seqC_ct, seqC_rt, sSet_ev, setC_ev, sPar_ev, parC_ev, setAll_nil, setAll_cons, olNil_ev, olCons_ev, olC_ev, olC2_ev, sAsg_ev, asgC_ev, sIf_ev, sifC_t, sifC_f, sFor_ev, forC_ev, sDrop_ev, dropC_ev, sRet_ev, retC_ev, sRetN_ev, retnC_va, retnC_li, liOf_li, eMt1_ev, mt1C_ev, mt1C2_ev, mt1C3_ev, mt1C4_ev, eMt0_ev, mt0C_ev, sSub_ev, subC_ev, subC1_ev, subC2_ev, subC3_ev, subC4_ev, sAug_ev, augC_ev, augC2_ev, augC3_ev, mkF_ev, mkC_rt, mkC_nx, keepE_nil, keepE_va, keepE_ow', dTru_bool, dTru_int, dTru_none, dTru_list, dTru_tuple, dAdd_int, dAdd_tup, dAdd_lst, dIadd_int, dSub_int, dMul_int, dDiv_int, dMod_int, dNeg_int, dMin2_int, dMax2_int, dLtA_int, dLe_int, dLt_int, dGt_int, dGe_int, shaped_int, shaped_bool, shaped_none, eqv_int, eqv_bool, dEq_int, dNe_int, dEq_bool, dIs_none, dIsN_none, isNon_none, isNon_int, isNon_tup, isNon_bool, dLen_tup, dLen_lst, dIx_tup, dIx_lst, at0, at1, at2, at3, gExtend_lst, dTuple_lst, dTuple_tup, dList_lst, dList_tup, dInt_int, dSl_tup, dSl_lst, isTup, isLst, isBool, isIntB, isStr, beq_self_eq_true, decide_true, decide_false, isi_tup, isi_lst, isi_int, isi_bool, isi_str, isi_none, sz0, sz1, sz2, sz3, sz4, sz5, sz6, sz7, sz8, sz9, sz10, sz11, sz12, isOw_no, isOw_va, isOw_li, isOw_di, isOw_dt, isOw_ow, isOw_none, isOw_sl,
  Option.bind_some, Option.map_some, Option.bind_none, Option.map_none, Option.getD_some, Option.getD_none, List.getElem?_cons_zero, List.getElem?_cons_succ, List.set_cons_zero, List.set_cons_succ, List.map_cons, List.map_nil, List.headD_cons, List.headD_nil, List.tail_cons, List.tail_nil, List.isEmpty_nil, List.isEmpty_cons, List.length_nil, List.length_cons, List.nil_append, List.cons_append, List.replicate_succ, List.replicate_zero, Nat.reduceSub, Nat.reduceAdd, Bool.false_eq_true, if_false, if_true, reduceIte, Bool.not_true, Bool.not_false, and_true, true_and, and_self, Int.toNat_natCast, Int.zero_add, eCh_ev, chC_ev, chC2_ev, chC3_t, chC3_f, chC4_ev, lZip_ev, zipC_ev, zipC2_tup, zipC2_lst, dRev_tup, dRev_lst, dRngL_int, dRngT_int, oIte_ev, oiteC_li, oiteC_va, oCompO_ev, callC_rv2, callC_rv3, rdOf_di, rdOf_dl, diOf_di, keyD_int, eDget_ev, dgC_ev, dgC1_ev, dgC2_ev, dgC3_ev, eDin_ev, diC_ev, diC1_ev, diC2_t, diC2_f, eDlen_ev, dlC_ev, eDgt2_ev, d2C_ev, d2C1_ev, d2C2_ev, d2C3_ev, d2C4_ev, eDpop_ev, dpC_ev, dpC1_ev, dpC2_ev, dpC3_ev, dpC4_ev, sDput_ev, ddC_ev, ddC1_ev, ddC2_ev, ddC3_ev, ddC4_ev, oDnew_ev, oLock_ev, lkC_ev, lkC1_ev, lKeys_ev, lkyC_ev, isDl_li, isOw_dl, sRetO_ev, retOC_ev, oTn_ev, oTnC_ev, tnOf_ev, eMtT_ev, mtTC_ev, mtTC2_ev, mtTC3_ev, isOw_tn, oCat_ev, catC_ev])
local macro_rules | `(tactic| walk_at "evh") => `(tactic| simp -implicitDefEqProofs only [prE_ev, eVar_ev, varC_ev, varC_tn, eNm_ev, nmC_va, nmC_tn, nmC_li, eC_ev, vw_va, vw_tn, vw_li, eOwn_ev, eIxO_ev, ixoC_ev, ixoC2_ev, ixoC3_ev, eOp_ev, opC_ev, opC2_ev, eUn_ev, unC_ev, bE_ev, bEC_ev, bB_ev, bBC_ev, bNot_ev, notC_ev, bAnd_ev, andC_t, andC_f, bOr_ev, orC_t, orC_f, bYes_ev, eAnd_ev, eandC_t, eandC_f, eOr_ev, eorC_t, eorC_f, eNot_ev, enotC_ev, eIf_ev, ifC_t, ifC_f, eTup_ev, tupC_ev, aNil_ev, aCons_ev, aconsC_ev, aconsC2_ev, oLst_ev, lstC_ev, oE_ev, oEC_ev, eFz_ev, fzC_tn, fzC_va, fzC_li, oUn_ev, ounC_ev, prL_ev, eSl_ev, slC_ev, slC2_ev, slC3_ev, eSlO_ev, sloC_ev, sloC2_ev, sloC3_ev, sloC4_ev, lEnum_ev, enC_tup, enC_lst, pNo_ev, pSo_ev, psoC_ev, lOf_ev, lofC_tup, lofC_lst, lRng1_ev, rng1C_ev, lRng2_ev, rng2C_ev, rng2C2_ev, oRep_ev, repC_ev, repC2_ev, oCall_ev, callC_0, callC_1, callC_2, callC_3, callC_4, callC_5, callC_rv, callC_rv4, arSl_vl, arSl_rf, callC2_ev, arBack_nil, arBack_vl, arBack_rf, rNil_ev, rVal_ev, rvC_ev, rvC2_ev, rRef_ev, rrC_ev, oComp_ev, compC2_ev, wipeE_nil, wipeE_cons, backE_nil, backE_cons, gNm_ev, gTupF_ev, gsNil_ev, gsCons_ev, sNext_ev, sBreak_ev, sCont_ev, sSeq_ev, seqC_nx, seqC_bk, seqC_ct, seqC_rt, sSet_ev, setC_ev, sPar_ev, parC_ev, setAll_nil, setAll_cons, olNil_ev, olCons_ev, olC_ev, olC2_ev, sAsg_ev, asgC_ev, sIf_ev, sifC_t, sifC_f, sFor_ev, forC_ev, sDrop_ev, dropC_ev, sRet_ev, retC_ev, sRetN_ev, retnC_va, retnC_li, liOf_li, eMt1_ev, mt1C_ev, mt1C2_ev, mt1C3_ev, mt1C4_ev, eMt0_ev, mt0C_ev, sSub_ev, subC_ev, subC1_ev, subC2_ev, subC3_ev, subC4_ev, sAug_ev, augC_ev, augC2_ev, augC3_ev, mkF_ev, mkC_rt, mkC_nx, keepE_nil, keepE_va, keepE_ow', dTru_bool, dTru_int, dTru_none, dTru_list, dTru_tuple, dAdd_int, dAdd_tup, dAdd_lst, dIadd_int, dSub_int, dMul_int, dDiv_int, dMod_int, dNeg_int, dMin2_int, dMax2_int, dLtA_int, dLe_int, dLt_int, dGt_int, dGe_int, shaped_int, shaped_bool, shaped_none, eqv_int, eqv_bool, dEq_int, dNe_int, dEq_bool, dIs_none, dIsN_none, isNon_none, isNon_int, isNon_tup, isNon_bool, dLen_tup, dLen_lst, dIx_tup, dIx_lst, at0, at1, at2, at3, gExtend_lst, dTuple_lst, dTuple_tup, dList_lst, dList_tup, dInt_int, dSl_tup, dSl_lst, isTup, isLst, isBool, isIntB, isStr, beq_self_eq_true, decide_true, decide_false, isi_tup, isi_lst, isi_int, isi_bool, isi_str, isi_none, sz0, sz1, sz2, sz3, sz4, sz5, sz6, sz7, sz8, sz9, sz10, sz11, sz12, isOw_no, isOw_va, isOw_li, isOw_di, isOw_dt, isOw_ow, isOw_none, isOw_sl,
  Option.bind_some, Option.map_some, Option.bind_none, Option.map_none, Option.getD_some, Option.getD_none, List.getElem?_cons_zero, List.getElem?_cons_succ, List.set_cons_zero, List.set_cons_succ, List.map_cons, List.map_nil, List.headD_cons, List.headD_nil, List.tail_cons, List.tail_nil, List.isEmpty_nil, List.isEmpty_cons, List.length_nil, List.length_cons, List.nil_append, List.cons_append, List.replicate_succ, List.replicate_zero, Nat.reduceSub, Nat.reduceAdd, Bool.false_eq_true, if_false, if_true, reduceIte, Bool.not_true, Bool.not_false, and_true, true_and, and_self, Int.toNat_natCast, Int.zero_add, eCh_ev, chC_ev, chC2_ev, chC3_t, chC3_f, chC4_ev, lZip_ev, zipC_ev, zipC2_tup, zipC2_lst, dRev_tup, dRev_lst, dRngL_int, dRngT_int, oIte_ev, oiteC_li, oiteC_va, oCompO_ev, callC_rv2, callC_rv3, rdOf_di, rdOf_dl, diOf_di, keyD_int, eDget_ev, dgC_ev, dgC1_ev, dgC2_ev, dgC3_ev, eDin_ev, diC_ev, diC1_ev, diC2_t, diC2_f, eDlen_ev, dlC_ev, eDgt2_ev, d2C_ev, d2C1_ev, d2C2_ev, d2C3_ev, d2C4_ev, eDpop_ev, dpC_ev, dpC1_ev, dpC2_ev, dpC3_ev, dpC4_ev, sDput_ev, ddC_ev, ddC1_ev, ddC2_ev, ddC3_ev, ddC4_ev, oDnew_ev, oLock_ev, lkC_ev, lkC1_ev, lKeys_ev, lkyC_ev, isDl_li, isOw_dl, sRetO_ev, retOC_ev, oTn_ev, oTnC_ev, tnOf_ev, eMtT_ev, mtTC_ev, mtTC2_ev, mtTC3_ev, isOw_tn, oCat_ev, catC_ev, *])
/-! K45_To: lengths, the longest queue, when all is gone. -/
theorem pre_asu (xs : List Int) (n : Nat) : pre xs n = asu (st xs) n := (asu_take xs n).symm
theorem asu_out (a : Nat → Int) (w : Int) : ∀ n, asu a n - asu (oW a w) n = qW a w n
  | 0 => rfl
  | n + 1 => by
    have ih := asu_out a w n
    have h := qW_succ a w n
    show asu a n + a n - (asu (oW a w) n + oW a w n) = _
    omega
def winL (a : Nat → Int) (w : Int) (t : Nat) : List Int := (List.range (t + 1)).map fun s => pw a w (t + 1) - pw a w s
theorem winL_max (a : Nat → Int) (w : Int) (t : Nat) : dMax (.list (.int 0 :: iL (winL a w t))) = some (.int (qW a w (t + 1))) := by
  obtain ⟨m, h1, h2, h3⟩ := dMax_l (ns := 0 :: winL a w t) nofun
  obtain ⟨l1, l2⟩ := lind a w t
  have q0 := qW_nn a w (t + 1)
  have e : m = qW a w (t + 1) := by
    have up : m ≤ qW a w (t + 1) := by
      rcases List.mem_cons.mp h2 with rfl | h
      · exact q0
      · obtain ⟨s, hs, rfl⟩ := List.mem_map.mp h
        exact l1 s (by have := List.mem_range.mp hs; omega)
    have lo : qW a w (t + 1) ≤ m := by
      rcases l2 with h | ⟨s, hs, h⟩
      · rw [h]; exact h3 0 List.mem_cons_self
      · rw [h]; exact h3 _ (List.mem_cons_of_mem _ (List.mem_map.mpr ⟨s, List.mem_range.mpr (by omega), rfl⟩))
    omega
  rw [← e]; exact h1
section
variable {xs ys : List Int} {w : Int} {b b' : Box} {e : Ev}
theorem k2_ev (X : X45 xs w) {t s : Nat} (ht : t < xs.length) (hs : s < t + 1) (hl : e.length = 19) (h3 : e[3]? = some (.va (.tuple (iL xs)))) (h4 : e[4]? = some (.va (.int w))) (h8 : e[8]? = some (.va (.int (t : Nat)))) (h18 : e[18]? = some (.va (.int (s : Nat)))) :
    K2_law e = some (.int (pw (st xs) w (t + 1) - pw (st xs) w s), e) := by
  have hc : (t : Int) + 1 = ((t + 1 : Nat) : Int) := by omega
  have c1 : dSum (.tuple (cutD (iL xs) (some ((s : Nat) : Int)) (some ((t + 1 : Nat) : Int)))) = some (.int (pre xs (t + 1) - pre xs s)) := by
    rw [cutD_mid (by rw [iL_len]; omega) (by omega), show ((iL xs).take (t + 1)).drop s = iL ((xs.take (t + 1)).drop s) by unfold iL; rw [List.map_drop, List.map_take], dSum_tup, pre_between _ (by omega)]
  have hv : pre xs (t + 1) - pre xs s - w * (((t + 1 : Nat) : Int) - ((s : Nat) : Int)) = pw (st xs) w (t + 1) - pw (st xs) w s := by
    rw [pw_eq, pw_eq, pre_asu, pre_asu, Int.mul_sub]
    omega
  have hX := X.len
  have hmu : CMul w (((t + 1 : Nat) : Int) - ((s : Nat) : Int)) := cmulR ⟨by omega, by omega⟩
  generalize iL xs = XX at *
  unfold K2_law
  repeat (first | walk_at "ev" | simp only [h3, h4, h8, h18, hc, c1, hmu, hv, reduceIte])
theorem S14_ok (t : G45 xs ys w b e) (X : X45 xs w) (Y : Y45 xs ys w) (h7 : e[7]? = some (.li [])) : ∃ e', S14_law e = some (.nx e') ∧ G45 xs ys w b e' ∧ e'[7]? = some (.li (iL (prS (nx (st xs) w) xs.length))) := by
  obtain ⟨e', k1, k2, k3⟩ := forL_idx (t := gNm 8) (b := L3_law) (ds := rngD 0 xs.length) (fun j e => G45 xs ys w b e ∧ e[7]? = some (.li (iL (prS (nx (st xs) w) j)))) (fun j d e hd ⟨t, h7⟩ => by
    obtain ⟨hj, rfl⟩ : j < xs.length ∧ d = .int (j : Nat) := by
      have hj := (List.getElem?_eq_some_iff.mp hd).1
      rw [rngD_len] at hj
      rw [rngD_nat, List.getElem?_map, List.getElem?_range hj] at hd
      cases hd
      exact ⟨hj, rfl⟩
    have hX := X.len
    have hc : (j : Int) + 1 = ((j + 1 : Nat) : Int) := by omega
    have c1 := pre_dSum xs (j + 1)
    have c2 := pre_dSum ys (j + 1)
    have hq : pre xs (j + 1) - pre ys (j + 1) = qW (st xs) w (j + 1) := by rw [pre_asu, pre_asu, Y.s]; exact asu_out _ _ _
    have ha : gAppend (iL (prS (nx (st xs) w) j)) (.int (qW (st xs) w (j + 1))) = some (.none, iL (prS (nx (st xs) w) (j + 1))) := by
      rw [prS_succ, iL_cat]; exact gAppend_ok (by rw [iL_len, prS_len]; omega)
    have hlast : atI (iL (prS (nx (st xs) w) (j + 1))) (-1) = some (.int (qW (st xs) w (j + 1))) := by rw [prS_succ, iL_cat]; exact atI_end _ _
    have t1 : G45 xs ys w b (e.set 8 (.va (.int (j : Nat)))) := t.put (by decide) (by decide) (by decide) (by decide) (by decide) rfl
    have hl := t.len
    have t2 : G45 xs ys w b ((e.set 8 (.va (.int (j : Nat)))).set 7 (.li (iL (prS (nx (st xs) w) (j + 1))))) := t1.put (by decide) (by decide) (by decide) (by decide) (by decide) rfl
    have hl2 := t2.len
    have c := compRy (f := K2_law) (v := 18) (n := j + 1) (e := (e.set 8 (.va (.int (j : Nat)))).set 7 (.li (iL (prS (nx (st xs) w) (j + 1))))) (fun s => PyData.int (pw (st xs) w (j + 1) - pw (st xs) w s)) (by omega) (t2.no 18 (by decide)) (by rw [hl2]; decide) fun s hs => by
      refine k2_ev X hj hs (by rw [List.length_set]; exact hl2) ?_ ?_ ?_ ?_
      · rw [gset_ne rfl]; exact t2.h3
      · rw [gset_ne rfl]; exact t2.h4
      · rw [gset_ne rfl, gset_ne rfl, gset_self (by rw [hl]; decide)]
      · exact gset_self (by rw [hl2]; decide)
    have hw : ((List.range (j + 1)).map fun s => PyData.int (pw (st xs) w (j + 1) - pw (st xs) w s)) = iL (winL (st xs) w j) := by unfold winL iL; rw [List.map_map]; rfl
    rw [hw] at c
    have hm := winL_max (st xs) w j
    have hadd : 1 + (iL (winL (st xs) w j)).length ≤ sizeLine := small1Me (by rw [iL_len]; unfold winL; rw [List.length_map, List.length_range]; omega)
    have hr : Rg ((j + 1 : Nat) : Int) := rg_of (by omega) (by omega)
    refine ⟨_, ?_, t2, gset_self (by rw [List.length_set, hl]; decide)⟩
    have h3 := t.h3
    have h5 := t.h5
    rw [t.gN _ (by decide)]
    generalize iL (winL (st xs) w j) = WL at *
    generalize iL (prS (nx (st xs) w) (j + 1)) = P2 at *
    generalize iL (prS (nx (st xs) w) j) = P1 at *
    generalize qW (st xs) w (j + 1) = q at *
    generalize iL ys = YY at *
    generalize iL xs = XX at *
    unfold L3_law
    repeat (first | walk_at "ev" | simp only [gset_ne, gset_self, List.length_set, Nat.reduceLT, Nat.reduceBEq, hl, h3, h5, h7, hc, c1, c2, hq, ha, hlast, c, hm, hadd, hr, reduceIte, Int.toNat_natCast, bne_self_eq_false])) e ⟨t, h7⟩
  rw [rngD_len] at k3
  refine ⟨e', ?_, k2, k3⟩
  have hl := t.len
  have h3 := t.h3
  have hX := X.len
  have hlen : (iL xs).length = xs.length := iL_len xs
  have hr : Rg ((xs.length : Nat) : Int) := rg_of (by omega) (by omega)
  generalize iL xs = XX at *
  unfold S14_law
  repeat (first | walk_at "ev" | simp only [gset_ne, gset_self, List.length_set, Nat.reduceLT, Nat.reduceBEq, hl, h3, hlen, hr, k1, reduceIte, Int.toNat_natCast])
theorem lens_plain (X : X45 xs w) : F__law_same [.va (.tuple (iL (prS (nx (st xs) w) xs.length))), .va (.tuple (iL (prS (nx (st xs) w) xs.length)))] = some (.va (.bool true), [.no, .no]) := sameQ (plain_iL (by rw [prS_len]; have := X.len; omega))
theorem S15_ok (t : G45 xs ys w b e) (X : X45 xs w) (h7 : e[7]? = some (.li (iL (prS (nx (st xs) w) xs.length)))) : S15_law e = some (.nx e) := by
  have hl := t.len
  have h3 := t.h3
  have h4 := t.h4
  have f1 := lw_ok (xs := xs) (w := w) (Nat.le_trans X.len (by decide))
  have f2 := lens_plain X
  generalize iL (prS (nx (st xs) w) xs.length) = L at *
  generalize iL xs = XX at *
  unfold S15_law
  repeat (first | walk_at "ev" | simp only [gset_ne, gset_self, List.length_set, Nat.reduceLT, Nat.reduceBEq, hl, h3, h4, h7, f1, f2])
theorem S16_ok {m : Int} (t : G45 xs ys w b e) (X : X45 xs w) (h7 : e[7]? = some (.li (iL (prS (nx (st xs) w) xs.length)))) (hm : dMax (.list (.int 0 :: iL (prS (nx (st xs) w) xs.length))) = some (.int m)) : S16_law e = some (.nx (e.set 9 (.va (.int m)))) := by
  have hl := t.len
  have n9 := t.no 9 (by decide)
  have hX := X.len
  have hadd : 1 + (iL (prS (nx (st xs) w) xs.length)).length ≤ sizeLine := small1Me (by rw [iL_len, prS_len]; omega)
  generalize iL (prS (nx (st xs) w) xs.length) = L at *
  unfold S16_law
  repeat (first | walk_at "ev" | simp only [gset_ne, gset_self, List.length_set, Nat.reduceLT, Nat.reduceBEq, hl, h7, n9, hm, hadd, reduceIte])
theorem S17_ok (t : G45 xs ys w b e) : S17_law e = some (.nx (e.set 10 (.va (.tuple [.int 0, .none, .none])))) := by
  have hl := t.len
  have n10 := t.no 10 (by decide)
  unfold S17_law
  repeat (first | walk_at "ev" | simp only [gset_ne, gset_self, List.length_set, Nat.reduceLT, Nat.reduceBEq, hl, n10])
theorem S18_no (t : G45 xs ys w b e) (h9 : e[9]? = some (.va (.int 0))) : S18_law e = some (.nx e) := by
  have hl := t.len
  have h0 : decide ((0 : Int) > 0) = false := by decide
  unfold S18_law
  repeat (first | walk_at "ev" | simp only [gset_ne, gset_self, List.length_set, Nat.reduceLT, Nat.reduceBEq, hl, h9, h0])
theorem S18_ok {m : Int} {tt s0 : Nat} (t : G45 xs ys w b e) (X : X45 xs w) (h7 : e[7]? = some (.li (iL (prS (nx (st xs) w) xs.length)))) (h9 : e[9]? = some (.va (.int m))) (h0 : 0 < m) (hi : dIndex (iL (prS (nx (st xs) w) xs.length)) (.int m) = some (.int (tt : Nat))) (ht : tt < xs.length)
    (hs : s0 ≤ tt) (h1 : pw (st xs) w (tt + 1) - pw (st xs) w s0 = m) (h2 : ∀ u, s0 < u → u ≤ tt → pw (st xs) w (tt + 1) - pw (st xs) w u ≠ m) :
    S18_law e = some (.nx ((e.set 8 (.va (.int (tt : Nat)))).set 10 (.va (.tuple [.int m, .int (s0 : Nat), .int (tt : Nat)])))) := by
  have hl := t.len
  have hX := X.len
  have n8 := t.no 8 (by decide)
  have n10 := t.no 10 (by decide)
  have hgt : decide (m > 0) = true := decide_eq_true h0
  have hgi : gIndex (iL (prS (nx (st xs) w) xs.length)) (.int m) = some (.int (tt : Nat), iL (prS (nx (st xs) w) xs.length)) := by unfold gIndex; rw [hi]; rfl
  have hself : e.set 7 (.li (iL (prS (nx (st xs) w) xs.length))) = e := by
    have := set_self (e := e) (v := 7) (by rw [hl]; decide)
    rw [h7] at this
    exact this
  have t1 : G45 xs ys w b (e.set 8 (.va (.int (tt : Nat)))) := t.put (by decide) (by decide) (by decide) (by decide) (by decide) rfl
  have hl1 := t1.len
  have hc : (tt : Int) + 1 = ((tt + 1 : Nat) : Int) := by omega
  have hr : Rg ((tt + 1 : Nat) : Int) := rg_of (by omega) (by omega)
  have c := compR (c := T4_law) (f := K5_law) (v := 18) (n := tt + 1) (e := e.set 8 (.va (.int (tt : Nat)))) (fun s => pw (st xs) w (tt + 1) - pw (st xs) w s == m) (fun s => PyData.int (s : Nat)) (by omega) (t1.no 18 (by decide)) (by rw [hl1]; decide) fun s hs => by
    have k := k2_ev (e := (e.set 8 (.va (.int (tt : Nat)))).set 18 (.va (.int (s : Nat)))) X ht hs (by rw [List.length_set]; exact hl1) (by rw [gset_ne rfl]; exact t1.h3) (by rw [gset_ne rfl]; exact t1.h4) (by rw [gset_ne rfl]; exact gset_self (by rw [hl]; decide)) (gset_self (by rw [hl1]; decide))
    have k' : (eOp dSub (eUn dSum (eSl (eVar 3) (pSo (eVar 18)) (pSo (eOp dAdd (eVar 8) (eC (.int 1)))))) (eOp dMul (eVar 4) (eOp dSub (eOp dAdd (eVar 8) (eC (.int 1))) (eVar 18)))) ((e.set 8 (.va (.int (tt : Nat)))).set 18 (.va (.int (s : Nat)))) = _ := k
    refine ⟨?_, fun _ => ?_⟩
    · unfold T4_law
      rw [bB_ev, eOp_ev, k']
      repeat (first | walk_at "ev" | simp only [gset_ne, gset_self, List.length_set, Nat.reduceLT, Nat.reduceBEq, hl, h9])
    · unfold K5_law
      repeat (first | walk_at "ev" | simp only [gset_ne, gset_self, List.length_set, Nat.reduceLT, Nat.reduceBEq, hl])
  have hmx : dMax (.list (((List.range (tt + 1)).filter fun s => pw (st xs) w (tt + 1) - pw (st xs) w s == m).map fun s => PyData.int (s : Nat))) = some (.int (s0 : Nat)) := by
    have hmem : s0 ∈ (List.range (tt + 1)).filter fun s => pw (st xs) w (tt + 1) - pw (st xs) w s == m := List.mem_filter.mpr ⟨List.mem_range.mpr (by omega), by simpa using h1⟩
    obtain ⟨v, g1, g2, g3⟩ := dMax_l (ns := ((List.range (tt + 1)).filter fun s => pw (st xs) w (tt + 1) - pw (st xs) w s == m).map fun s => ((s : Nat) : Int)) (fun z => by
      have := List.mem_map_of_mem (f := fun s : Nat => (s : Int)) hmem
      rw [z] at this
      cases this)
    have e1 : (iL (((List.range (tt + 1)).filter fun s => pw (st xs) w (tt + 1) - pw (st xs) w s == m).map fun s => ((s : Nat) : Int))) = ((List.range (tt + 1)).filter fun s => pw (st xs) w (tt + 1) - pw (st xs) w s == m).map fun s => PyData.int (s : Nat) := by unfold iL; rw [List.map_map]; rfl
    rw [e1] at g1
    rw [g1]
    have lo := g3 (s0 : Nat) (List.mem_map_of_mem (f := fun s : Nat => (s : Int)) hmem)
    obtain ⟨u, hu, rfl⟩ := List.mem_map.mp g2
    obtain ⟨hu1, hu2⟩ := List.mem_filter.mp hu
    have hu3 : pw (st xs) w (tt + 1) - pw (st xs) w u = m := by simpa using hu2
    have hu4 := List.mem_range.mp hu1
    by_cases hlt : s0 < u
    · exact absurd hu3 (h2 u hlt (by omega))
    · have : u = s0 := by omega
      rw [this]
  generalize (((List.range (tt + 1)).filter fun s => pw (st xs) w (tt + 1) - pw (st xs) w s == m).map fun s => PyData.int (s : Nat)) = ML at *
  generalize iL (prS (nx (st xs) w) xs.length) = L at *
  unfold S18_law
  repeat (first | walk_at "ev" | simp only [gset_ne, gset_self, List.length_set, Nat.reduceLT, Nat.reduceBEq, hl, h7, h9, n8, n10, hgt, hgi, hself, hc, hr, c, hmx, reduceIte, Int.toNat_natCast])
end
end Fl

set_option Elab.async false
set_option linter.all false
set_option maxRecDepth 100000
set_option maxHeartbeats 4000000
set_option autoImplicit false
namespace Fl
open PySem PySem.Spec PyProof.Rows L2
local macro_rules | `(tactic| walk_at "ev") => `(tactic| simp -implicitDefEqProofs only [prE_ev, eVar_ev, varC_ev, varC_tn, eNm_ev, nmC_va, nmC_tn, nmC_li, eC_ev, vw_va, vw_tn, vw_li, eOwn_ev, eIxO_ev, ixoC_ev, ixoC2_ev, ixoC3_ev, eOp_ev, opC_ev, opC2_ev, eUn_ev, unC_ev, bE_ev, bEC_ev, bB_ev, bBC_ev, bNot_ev, notC_ev, bAnd_ev, andC_t, andC_f, bOr_ev, orC_t, orC_f, bYes_ev, eAnd_ev, eandC_t, eandC_f, eOr_ev, eorC_t, eorC_f, eNot_ev, enotC_ev, eIf_ev, ifC_t, ifC_f, eTup_ev, tupC_ev, aNil_ev, aCons_ev, aconsC_ev, aconsC2_ev, oLst_ev, lstC_ev, oE_ev, oEC_ev, eFz_ev, fzC_tn, fzC_va, fzC_li, oUn_ev, ounC_ev, prL_ev, eSl_ev, slC_ev, slC2_ev, slC3_ev, eSlO_ev, sloC_ev, sloC2_ev, sloC3_ev, sloC4_ev, lEnum_ev, enC_tup, enC_lst, pNo_ev, pSo_ev, psoC_ev, lOf_ev, lofC_tup, lofC_lst, lRng1_ev, rng1C_ev, lRng2_ev, rng2C_ev, rng2C2_ev, oRep_ev, repC_ev, repC2_ev, oCall_ev, callC_0, callC_1, callC_2, callC_3, callC_4, callC_5, callC_rv, callC_rv4, arSl_vl, arSl_rf, callC2_ev, arBack_nil, arBack_vl, arBack_rf, rNil_ev, rVal_ev, rvC_ev, rvC2_ev, rRef_ev, rrC_ev, oComp_ev, compC2_ev, wipeE_nil, wipeE_cons, backE_nil, backE_cons, gNm_ev, gTupF_ev, gsNil_ev, gsCons_ev, sNext_ev, sBreak_ev, sCont_ev, sSeq_ev, seqC_nx, seqC_bk, seqC_ct, seqC_rt, sSet_ev, setC_ev, sPar_ev, parC_ev, setAll_nil, setAll_cons, olNil_ev, olCons_ev, olC_ev, olC2_ev, sAsg_ev, asgC_ev, sIf_ev, sifC_t, sifC_f, sFor_ev, forC_ev, sDrop_ev, dropC_ev, sRet_ev, retC_ev, sRetN_ev, retnC_va, retnC_li, liOf_li, eMt1_ev, mt1C_ev, mt1C2_ev, mt1C3_ev, mt1C4_ev, eMt0_ev, mt0C_ev, sSub_ev, subC_ev, subC1_ev, subC2_ev, subC3_ev, subC4_ev, sAug_ev, augC_ev, augC2_ev, augC3_ev, mkF_ev, mkC_rt, mkC_nx, keepE_nil, keepE_va, keepE_ow', dTru_bool, dTru_int, dTru_none, dTru_list, dTru_tuple, dAdd_int, dAdd_tup, dAdd_lst, dIadd_int, dSub_int, dMul_int, dDiv_int, dMod_int, dNeg_int, dMin2_int, dMax2_int, dLtA_int, dLe_int, dLt_int, dGt_int, dGe_int, shaped_int, shaped_bool, shaped_none, eqv_int, eqv_bool, dEq_int, dNe_int, dEq_bool, dIs_none, dIsN_none, isNon_none, isNon_int, isNon_tup, isNon_bool, dLen_tup, dLen_lst, dIx_tup, dIx_lst, at0, at1, at2, at3, gExtend_lst, dTuple_lst, dTuple_tup, dList_lst, dList_tup, dInt_int, dSl_tup, dSl_lst, isTup, isLst, isBool, isIntB, isStr, beq_self_eq_true, decide_true, decide_false, isi_tup, isi_lst, isi_int, isi_bool, isi_str, isi_none, sz0, sz1, sz2, sz3, sz4, sz5, sz6, sz7, sz8, sz9, sz10, sz11, sz12, isOw_no, isOw_va, isOw_li, isOw_di, isOw_dt, isOw_ow, isOw_none, isOw_sl,
  Option.bind_some, Option.map_some, Option.bind_none, Option.map_none, Option.getD_some, Option.getD_none, List.getElem?_cons_zero, List.getElem?_cons_succ, List.set_cons_zero, List.set_cons_succ, List.map_cons, List.map_nil, List.headD_cons, List.headD_nil, List.tail_cons, List.tail_nil, List.isEmpty_nil, List.isEmpty_cons, List.length_nil, List.length_cons, List.nil_append, List.cons_append, List.replicate_succ, List.replicate_zero, Nat.reduceSub, Nat.reduceAdd, Bool.false_eq_true, if_false, if_true, reduceIte, Bool.not_true, Bool.not_false, and_true, true_and, and_self, Int.toNat_natCast, Int.zero_add, eCh_ev, chC_ev, chC2_ev, chC3_t, chC3_f, chC4_ev, lZip_ev, zipC_ev, zipC2_tup, zipC2_lst, dRev_tup, dRev_lst, dRngL_int, dRngT_int, oIte_ev, oiteC_li, oiteC_va, oCompO_ev, callC_rv2, callC_rv3, rdOf_di, rdOf_dl, diOf_di, keyD_int, eDget_ev, dgC_ev, dgC1_ev, dgC2_ev, dgC3_ev, eDin_ev, diC_ev, diC1_ev, diC2_t, diC2_f, eDlen_ev, dlC_ev, eDgt2_ev, d2C_ev, d2C1_ev, d2C2_ev, d2C3_ev, d2C4_ev, eDpop_ev, dpC_ev, dpC1_ev, dpC2_ev, dpC3_ev, dpC4_ev, sDput_ev, ddC_ev, ddC1_ev, ddC2_ev, ddC3_ev, ddC4_ev, oDnew_ev, oLock_ev, lkC_ev, lkC1_ev, lKeys_ev, lkyC_ev, isDl_li, isOw_dl, sRetO_ev, retOC_ev, oTn_ev, oTnC_ev, tnOf_ev, eMtT_ev, mtTC_ev, mtTC2_ev, mtTC3_ev, isOw_tn, oCat_ev, catC_ev])
local macro_rules | `(tactic| walk_at "evh") => `(tactic| simp -implicitDefEqProofs only [prE_ev, eVar_ev, varC_ev, varC_tn, eNm_ev, nmC_va, nmC_tn, nmC_li, eC_ev, vw_va, vw_tn, vw_li, eOwn_ev, eIxO_ev, ixoC_ev, ixoC2_ev, ixoC3_ev, eOp_ev, opC_ev, opC2_ev, eUn_ev, unC_ev, bE_ev, bEC_ev, bB_ev, bBC_ev, bNot_ev, notC_ev, bAnd_ev, andC_t, andC_f, bOr_ev, orC_t, orC_f, bYes_ev, eAnd_ev, eandC_t, eandC_f, eOr_ev, eorC_t, eorC_f, eNot_ev, enotC_ev, eIf_ev, ifC_t, ifC_f, eTup_ev, tupC_ev, aNil_ev, aCons_ev, aconsC_ev, aconsC2_ev, oLst_ev, lstC_ev, oE_ev, oEC_ev, eFz_ev, fzC_tn, fzC_va, fzC_li, oUn_ev, ounC_ev, prL_ev, eSl_ev, slC_ev, slC2_ev, slC3_ev, eSlO_ev, sloC_ev, sloC2_ev, sloC3_ev, sloC4_ev, lEnum_ev, enC_tup, enC_lst, pNo_ev, pSo_ev, psoC_ev, lOf_ev, lofC_tup, lofC_lst, lRng1_ev, rng1C_ev, lRng2_ev, rng2C_ev, rng2C2_ev, oRep_ev, repC_ev, repC2_ev, oCall_ev, callC_0, callC_1, callC_2, callC_3, callC_4, callC_5, callC_rv, callC_rv4, arSl_vl, arSl_rf, callC2_ev, arBack_nil, arBack_vl, arBack_rf, rNil_ev, rVal_ev, rvC_ev, rvC2_ev, rRef_ev, rrC_ev, oComp_ev, compC2_ev, wipeE_nil, wipeE_cons, backE_nil, backE_cons, gNm_ev, gTupF_ev, gsNil_ev, gsCons_ev, sNext_ev, sBreak_ev, sCont_ev, sSeq_ev, seqC_nx, seqC_bk, seqC_ct, seqC_rt, sSet_ev, setC_ev, sPar_ev, parC_ev, setAll_nil, setAll_cons, olNil_ev, olCons_ev, olC_ev, olC2_ev, sAsg_ev, asgC_ev, sIf_ev, sifC_t, sifC_f, sFor_ev, forC_ev, sDrop_ev, dropC_ev, sRet_ev, retC_ev, sRetN_ev, retnC_va, retnC_li, liOf_li, eMt1_ev, mt1C_ev, mt1C2_ev, mt1C3_ev, mt1C4_ev, eMt0_ev, mt0C_ev, sSub_ev, subC_ev, subC1_ev, subC2_ev, subC3_ev, subC4_ev, sAug_ev, augC_ev, augC2_ev, augC3_ev, mkF_ev, mkC_rt, mkC_nx, keepE_nil, keepE_va, keepE_ow', dTru_bool, dTru_int, dTru_none, dTru_list, dTru_tuple, dAdd_int, dAdd_tup, dAdd_lst, dIadd_int, dSub_int, dMul_int, dDiv_int, dMod_int, dNeg_int, dMin2_int, dMax2_int, dLtA_int, dLe_int, dLt_int, dGt_int, dGe_int, shaped_int, shaped_bool, shaped_none, eqv_int, eqv_bool, dEq_int, dNe_int, dEq_bool, dIs_none, dIsN_none, isNon_none, isNon_int, isNon_tup, isNon_bool, dLen_tup, dLen_lst, dIx_tup, dIx_lst, at0, at1, at2, at3, gExtend_lst, dTuple_lst, dTuple_tup, dList_lst, dList_tup, dInt_int, dSl_tup, dSl_lst, isTup, isLst, isBool, isIntB, isStr, beq_self_eq_true, decide_true, decide_false, isi_tup, isi_lst, isi_int, isi_bool, isi_str, isi_none, sz0, sz1, sz2, sz3, sz4, sz5, sz6, sz7, sz8, sz9, sz10, sz11, sz12, isOw_no, isOw_va, isOw_li, isOw_di, isOw_dt, isOw_ow, isOw_none, isOw_sl,
  Option.bind_some, Option.map_some, Option.bind_none, Option.map_none, Option.getD_some, Option.getD_none, List.getElem?_cons_zero, List.getElem?_cons_succ, List.set_cons_zero, List.set_cons_succ, List.map_cons, List.map_nil, List.headD_cons, List.headD_nil, List.tail_cons, List.tail_nil, List.isEmpty_nil, List.isEmpty_cons, List.length_nil, List.length_cons, List.nil_append, List.cons_append, List.replicate_succ, List.replicate_zero, Nat.reduceSub, Nat.reduceAdd, Bool.false_eq_true, if_false, if_true, reduceIte, Bool.not_true, Bool.not_false, and_true, true_and, and_self, Int.toNat_natCast, Int.zero_add, eCh_ev, chC_ev, chC2_ev, chC3_t, chC3_f, chC4_ev, lZip_ev, zipC_ev, zipC2_tup, zipC2_lst, dRev_tup, dRev_lst, dRngL_int, dRngT_int, oIte_ev, oiteC_li, oiteC_va, oCompO_ev, callC_rv2, callC_rv3, rdOf_di, rdOf_dl, diOf_di, keyD_int, eDget_ev, dgC_ev, dgC1_ev, dgC2_ev, dgC3_ev, eDin_ev, diC_ev, diC1_ev, diC2_t, diC2_f, eDlen_ev, dlC_ev, eDgt2_ev, d2C_ev, d2C1_ev, d2C2_ev, d2C3_ev, d2C4_ev, eDpop_ev, dpC_ev, dpC1_ev, dpC2_ev, dpC3_ev, dpC4_ev, sDput_ev, ddC_ev, ddC1_ev, ddC2_ev, ddC3_ev, ddC4_ev, oDnew_ev, oLock_ev, lkC_ev, lkC1_ev, lKeys_ev, lkyC_ev, isDl_li, isOw_dl, sRetO_ev, retOC_ev, oTn_ev, oTnC_ev, tnOf_ev, eMtT_ev, mtTC_ev, mtTC2_ev, mtTC3_ev, isOw_tn, oCat_ev, catC_ev, *])
/-! K45_Tp: the longest queue told, drawn ways, narrower doors, sums. -/
section
variable {xs ys : List Int} {w : Int} {b b' : Box} {e : Ev}
theorem S19_ok {due : D} (t : G45 xs ys w b e) (X : X45 xs w) (Y : Y45 xs ys w) (h10 : e[10]? = some (.va due)) (f1 : F_longest_queue [.va (.tuple (iL xs)), .va (.int w)] = some (.va due, [.no, .no])) (f2 : F__law_same [.va due, .va due] = some (.va (.bool true), [.no, .no])) : S19_law e = some (.nx e) := by
  have hl := t.len
  have h3 := t.h3
  have h4 := t.h4
  have h5 := t.h5
  have f3 := ag_ok (gone_eq X.dry (Nat.le_trans X.len (by decide)) (by decide) X.w1 Y.s Y.t)
  have f4 : F__law_same [.va (.int (if (ys.length : Int) - 1 > 0 then (ys.length : Int) - 1 else 0)), .va (.int (if (ys.length : Int) - 1 > 0 then (ys.length : Int) - 1 else 0))] = some (.va (.bool true), [.no, .no]) := sameQ trivial
  have hlen : (iL ys).length = ys.length := iL_len ys
  generalize iL ys = YY at *
  generalize iL xs = XX at *
  unfold S19_law
  repeat (first | walk_at "ev" | simp only [gset_ne, gset_self, List.length_set, Nat.reduceLT, Nat.reduceBEq, hl, h3, h4, h5, h10, f1, f2, f3, f4, hlen])
theorem S20_ok (t : G45 xs ys w b e) : S20_law e = some (.nx (((e.set 11 (.va (.int 0))).set 12 (.va (.int 0))).set 13 (.va (.int 0)))) := by
  have hl := t.len
  have n11 := t.no 11 (by decide)
  have n12 := t.no 12 (by decide)
  have n13 := t.no 13 (by decide)
  unfold S20_law
  repeat (first | walk_at "ev" | simp only [gset_ne, gset_self, List.length_set, Nat.reduceLT, Nat.reduceBEq, hl, n11, n12, n13])
structure Dw where
  e : Ev
  b : Box
  n : Nat
  l : Int
  s : Int
structure DI (xs ys : List Int) (w : Int) (z : Dw) : Prop extends G45 xs ys w z.b z.e where
  h11 : z.e[11]? = some (.va (.int z.l))
  h12 : z.e[12]? = some (.va (.int z.s))
  h13 : z.e[13]? = some (.va (.int (z.n : Nat)))
  lo : qW (st xs) w z.n ≤ z.l
  up : z.l ≤ asu (st xs) z.n
  su : sW (st xs) w z.n ≤ z.s
def drE (e : Ev) (b : Box) (l s o : Int) (n : Nat) : Ev := (((((e.set 1 (.ow b.ot)).set 11 (.va (.int l))).set 14 (.va (.int o))).set 13 (.va (.int (n : Nat))))).set 12 (.va (.int s))
theorem dr_step (z : Dw) (X : X45 xs w) (I : DI xs ys w z) : ∃ (b' : Box) (o : Int) (e' : Ev), L7_law z.e = some (.nx e') ∧ DI xs ys w ⟨e', b', z.n + 1, z.l + st xs z.n - o, z.s + (z.l + st xs z.n - o)⟩ ∧ 0 ≤ o ∧ (40 < z.n → o = min (z.l + st xs z.n) w) := by
  obtain ⟨e, b, n, l, s⟩ := z
  have t : G45 xs ys w b e := I.toG45
  have hl := t.len
  have ho := t.ow
  have h3 := t.h3
  have h4 := t.h4
  have h11 : e[11]? = some (.va (.int l)) := I.h11
  have h12 : e[12]? = some (.va (.int s)) := I.h12
  have h13 : e[13]? = some (.va (.int (n : Nat))) := I.h13
  have n14 := t.no 14 (by decide)
  have lo : qW (st xs) w n ≤ l := I.lo
  have up : l ≤ asu (st xs) n := I.up
  have su : sW (st xs) w n ≤ s := I.su
  have q0 := qW_nn (st xs) w n
  have a0 := X.dry.nn n
  have hA : asu (st xs) (n + 1) = asu (st xs) n + st xs n := rfl
  have hA2 := X.asu (n + 1)
  have w1 := X.w1
  have w2 := X.w2
  have hX := X.len
  have hq : qW (st xs) w (n + 1) = max 0 (qW (st xs) w n + st xs n - w) := rfl
  have hs : sW (st xs) w (n + 1) = sW (st xs) w n + qW (st xs) w (n + 1) := rfl
  have hlen : (iL xs).length = xs.length := iL_len xs
  have hc : (n : Int) + 1 = ((n + 1 : Nat) : Int) := by omega
  have hmin : (if w < l + st xs n then w else l + st xs n) = min (l + st xs n) w := by split <;> omega
  have fin : ∀ (o : Int) (b1 : Box) (e1 : Ev), 0 ≤ o → o ≤ min (l + st xs n) w → G45 xs ys w b1 e1 → G45 xs ys w b1 (((e1.set 11 (.va (.int (l + st xs n - o)))).set 13 (.va (.int ((n + 1 : Nat) : Int)))).set 12 (.va (.int (s + (l + st xs n - o))))) ∧ DI xs ys w ⟨((e1.set 11 (.va (.int (l + st xs n - o)))).set 13 (.va (.int ((n + 1 : Nat) : Int)))).set 12 (.va (.int (s + (l + st xs n - o)))), b1, n + 1, l + st xs n - o, s + (l + st xs n - o)⟩ := fun o b1 e1 o0 o1 t1 => by
    have hl1 := t1.len
    have t2 : G45 xs ys w b1 (((e1.set 11 (.va (.int (l + st xs n - o)))).set 13 (.va (.int ((n + 1 : Nat) : Int)))).set 12 (.va (.int (s + (l + st xs n - o))))) :=
      ((t1.put (i := 11) (by decide) (by decide) (by decide) (by decide) (by decide) rfl).put (i := 13) (by decide) (by decide) (by decide) (by decide) (by decide) rfl).put (i := 12) (by decide) (by decide) (by decide) (by decide) (by decide) rfl
    refine ⟨t2, t2, ?_, ?_, ?_, ?_, ?_, ?_⟩
    · show (((e1.set 11 (.va (.int (l + st xs n - o)))).set 13 (.va (.int ((n + 1 : Nat) : Int)))).set 12 (.va (.int (s + (l + st xs n - o)))))[11]? = _
      rw [gset_ne rfl, gset_ne rfl]; exact gset_self (by rw [hl1]; decide)
    · exact gset_self (by rw [List.length_set, List.length_set, hl1]; decide)
    · show (((e1.set 11 (.va (.int (l + st xs n - o)))).set 13 (.va (.int ((n + 1 : Nat) : Int)))).set 12 (.va (.int (s + (l + st xs n - o)))))[13]? = _
      rw [gset_ne rfl]; exact gset_self (by rw [List.length_set, hl1]; decide)
    · show qW (st xs) w (n + 1) ≤ l + st xs n - o
      omega
    · show l + st xs n - o ≤ asu (st xs) (n + 1)
      omega
    · show sW (st xs) w (n + 1) ≤ s + (l + st xs n - o)
      omega
  by_cases h40 : 40 < n
  · have z0 : st xs n = 0 := st_ge (by omega)
    have c1 : decide ((n : Int) < ((iL xs).length : Int)) = false := decide_eq_false (by rw [hlen]; omega)
    have c2 : decide ((n : Int) > 40) = true := decide_eq_true (by omega)
    have hmin' : (if w < l then w else l) = min (l + st xs n) w := by rw [z0]; split <;> omega
    have hz : l = l + st xs n := by omega
    have t1 : G45 xs ys w b ((e.set 11 (.va (.int l))).set 14 (.va (.int (min (l + st xs n) w)))) := (t.put (i := 11) (by decide) (by decide) (by decide) (by decide) (by decide) rfl).put (i := 14) (by decide) (by decide) (by decide) (by decide) (by decide) rfl
    refine ⟨b, min (l + st xs n) w, _, ?_, (fin _ b _ (by omega) (Int.le_refl _) t1).2, by omega, fun _ => rfl⟩
    show L7_law e = _
    have hz0 : l + 0 = l := by omega
    have hz1 : l - min (l + st xs n) w = l + st xs n - min (l + st xs n) w := by omega
    generalize min (l + st xs n) w = o at *
    generalize l + st xs n - o = l2 at *
    generalize iL xs = XX at *
    unfold L7_law
    repeat (first | walk_at "ev" | simp only [gset_ne, gset_self, List.length_set, Nat.reduceLT, Nat.reduceBEq, hl, ho, h3, h4, h11, h12, h13, n14, c1, c2, hz0, hz1, hmin', hc])
  · have c2 : decide ((n : Int) > 40) = false := decide_eq_false (by omega)
    obtain ⟨o, b1, e1, o0, o1⟩ := drI b (m := min (l + st xs n) w + 1) (by omega) (by omega)
    have t1 : G45 xs ys w b1 (((e.set 11 (.va (.int (l + st xs n)))).set 1 (.ow b1.ot)).set 14 (.va (.int o))) := ((t.put (i := 11) (by decide) (by decide) (by decide) (by decide) (by decide) rfl).bx (b' := b1)).put (i := 14) (by decide) (by decide) (by decide) (by decide) (by decide) rfl
    refine ⟨b1, o, _, ?_, (fin _ b1 _ o0 (by omega) t1).2, o0, fun h => absurd h h40⟩
    show L7_law e = _
    by_cases hn : n < xs.length
    · have c1 : decide ((n : Int) < ((iL xs).length : Int)) = true := decide_eq_true (by rw [hlen]; omega)
      have hat : atI (iL xs) (n : Nat) = some (.int (st xs n)) := atI_iL (st_lt hn)
      generalize min (l + st xs n) w = mn at *
      generalize iL xs = XX at *
      unfold L7_law
      repeat (first | walk_at "ev" | simp only [gset_ne, gset_self, List.length_set, Nat.reduceLT, Nat.reduceBEq, hl, ho, h3, h4, h11, h12, h13, n14, c1, c2, hat, hmin, e1, hc])
    · have z0 : st xs n = 0 := st_ge (by omega)
      have c1 : decide ((n : Int) < ((iL xs).length : Int)) = false := decide_eq_false (by rw [hlen]; omega)
      have hz : l + 0 = l + st xs n := by omega
      generalize min (l + st xs n) w = mn at *
      generalize iL xs = XX at *
      unfold L7_law
      repeat (first | walk_at "ev" | simp only [gset_ne, gset_self, List.length_set, Nat.reduceLT, Nat.reduceBEq, hl, ho, h3, h4, h11, h12, h13, n14, c1, c2, hz, hmin, e1, hc])
theorem S21_ok (t : G45 xs ys w b e) (X : X45 xs w) (h11 : e[11]? = some (.va (.int 0))) (h12 : e[12]? = some (.va (.int 0))) (h13 : e[13]? = some (.va (.int 0))) : ∃ (e' : Ev) (b' : Box) (s : Int), S21_law e = some (.nx e') ∧ G45 xs ys w b' e' ∧ e'[12]? = some (.va (.int s)) ∧ sW (st xs) w 100 ≤ s := by
  obtain ⟨z, k1, k2, k3⟩ := while_ex (c := T6_law) (b := L7_law) (S := Dw) (fun z => z.e) (DI xs ys w) (fun z => xs.length ≤ z.n ∧ z.l = 0) (fun z => if z.n ≤ 40 then 141 - z.n else z.l.toNat) (fun z I => by
    have hl := I.len
    have h3 := I.h3
    have h11 := I.h11
    have h13 := I.h13
    have hX := X.len
    have q0 := qW_nn (st xs) w z.n
    have lo := I.lo
    have hlen : (iL xs).length = xs.length := iL_len xs
    have hc : T6_law z.e = some (decide ((z.n : Int) < (xs.length : Int)) || decide (z.l > 0), z.e) := by
      generalize iL xs = XX at *
      unfold T6_law
      cases hx : decide ((z.n : Int) < (xs.length : Int)) with
      | true => repeat (first | walk_at "ev" | simp only [h3, h11, h13, hlen, hx, Bool.true_or])
      | false => repeat (first | walk_at "ev" | simp only [h3, h11, h13, hlen, hx, Bool.false_or])
    by_cases hx : z.n < xs.length ∨ 0 < z.l
    · right
      obtain ⟨b', o, e', g1, g2, g3, g4⟩ := dr_step z X I
      refine ⟨?_, _, g1, g2, ?_⟩
      · rw [hc]
        have : (decide ((z.n : Int) < (xs.length : Int)) || decide (z.l > 0)) = true := by
          rw [Bool.or_eq_true, decide_eq_true_eq, decide_eq_true_eq]
          rcases hx with hx | hx
          · left; omega
          · right; exact hx
        rw [this]
      · show (if z.n + 1 ≤ 40 then 141 - (z.n + 1) else (z.l + st xs z.n - o).toNat) < if z.n ≤ 40 then 141 - z.n else z.l.toNat
        have up := g2.up
        have up' : z.l + st xs z.n - o ≤ asu (st xs) (z.n + 1) := up
        have hA2 := X.asu (z.n + 1)
        by_cases h40 : 40 < z.n
        · have z0 : st xs z.n = 0 := st_ge (by omega)
          have := g4 h40
          have w1 := X.w1
          rw [if_neg (by omega), if_neg (by omega)]
          omega
        · rw [if_pos (show z.n ≤ 40 by omega)]
          split <;> omega
    · left
      refine ⟨?_, by omega, by omega⟩
      rw [hc]
      have : (decide ((z.n : Int) < (xs.length : Int)) || decide (z.l > 0)) = false := by
        rw [Bool.or_eq_false_iff, decide_eq_false_iff_not, decide_eq_false_iff_not]
        exact ⟨by omega, by omega⟩
      rw [this]) ⟨e, b, 0, 0, 0⟩ ⟨t, h11, h12, h13, Int.le_refl _, Int.le_refl _, Int.le_refl _⟩
  refine ⟨z.e, z.b, z.s, k1, k2.toG45, k2.h12, ?_⟩
  have lo := k2.lo
  have q0 := qW_nn (st xs) w z.n
  have hz : ∀ j, qW (st xs) w (z.n + j) = 0 := fun j => by
    induction j with
    | zero => show qW (st xs) w z.n = 0; omega
    | succ j ih =>
      show max 0 (qW (st xs) w (z.n + j) + st xs (z.n + j) - w) = 0
      have := X.w1
      rw [ih, st_ge (by omega)]; omega
  have h6 : sW (st xs) w z.n = sW (st xs) w 100 := sW_dead X.dry X.w1 fun t ht => by
    have := hz (t - z.n)
    rwa [show z.n + (t - z.n) = t by omega] at this
  have := k2.su
  omega
theorem S22_ok {s : Int} (t : G45 xs ys w b e) (h12 : e[12]? = some (.va (.int s))) (hs : sW (st xs) w 100 ≤ s) : S22_law e = some (.nx e) := by
  have hl := t.len
  have h6 := t.h6
  have hc : decide (s < sW (st xs) w 100) = false := decide_eq_false (by omega)
  unfold S22_law
  repeat (first | walk_at "ev" | simp only [gset_ne, gset_self, List.length_set, Nat.reduceLT, Nat.reduceBEq, hl, h6, h12, hc])
theorem qW_mono {a : Nat → Int} {v w : Int} (h : v ≤ w) : ∀ t, qW a w t ≤ qW a v t
  | 0 => Int.le_refl _
  | t + 1 => by
    have ih := qW_mono (a := a) h t
    show max 0 (qW a w t + a t - w) ≤ max 0 (qW a v t + a t - v)
    omega
theorem sW_mono {a : Nat → Int} {v w : Int} (h : v ≤ w) : ∀ n, sW a w n ≤ sW a v n
  | 0 => Int.le_refl _
  | n + 1 => by
    have ih := sW_mono (a := a) h n
    have := qW_mono (a := a) h (n + 1)
    show sW a w n + qW a w (n + 1) ≤ sW a v n + qW a v (n + 1)
    omega
theorem len_mono {N : Nat} {us vs : List Int} (hD : Dry N (st xs)) {v : Int} (hv : 1 ≤ v) (h : v ≤ w) (hu : st us = oW (st xs) w) (tu : Tr us) (hvs : st vs = oW (st xs) v) : us.length ≤ vs.length := tr_len tu fun t ht => by
  have h1 : oW (st xs) v t = 0 := by rw [← hvs]; exact st_ge ht
  have h2 := qW_nn (st xs) v t
  have h3 := hD.nn t
  have h4 := qW_mono (a := st xs) h t
  have h5 := qW_nn (st xs) w t
  rw [hu]
  unfold oW at h1 ⊢
  omega
theorem S23_ok (t : G45 xs ys w b e) (X : X45 xs w) (Y : Y45 xs ys w) : S23_law e = some (.nx e) := by
  have hl := t.len
  have h3 := t.h3
  have h4 := t.h4
  have h6 := t.h6
  have hxl : xs.length ≤ 100 := Nat.le_trans X.len (by decide)
  have f1 := ag_ok (gone_eq X.dry hxl (by decide) X.w1 Y.s Y.t)
  by_cases hw : 1 < w
  · have hgt : decide (w > 1) = true := decide_eq_true hw
    obtain ⟨zs, g1, g2, g3, _⟩ := gone_ok (w := w - 1) X.dry hxl (by decide) (by omega)
    have f2 := ag_ok g1
    have f3 := wd_ok (w := w - 1) X.dry hxl (by decide) (by omega)
    have c1 : decide (sW (st xs) (w - 1) 100 < sW (st xs) w 100) = false := decide_eq_false (by have := sW_mono (a := st xs) (v := w - 1) (w := w) (by omega) 100; omega)
    have hlm := len_mono X.dry (show 1 ≤ w - 1 by omega) (by omega) Y.s Y.t g2
    have c2 : decide ((if (zs.length : Int) - 1 > 0 then (zs.length : Int) - 1 else 0) < (if (ys.length : Int) - 1 > 0 then (ys.length : Int) - 1 else 0)) = false := decide_eq_false (by split <;> split <;> omega)
    generalize (if (zs.length : Int) - 1 > 0 then (zs.length : Int) - 1 else 0) = k1 at *
    generalize (if (ys.length : Int) - 1 > 0 then (ys.length : Int) - 1 else 0) = k2 at *
    generalize sW (st xs) (w - 1) 100 = s1 at *
    generalize sW (st xs) w 100 = s2 at *
    generalize iL xs = XX at *
    unfold S23_law
    repeat (first | walk_at "ev" | simp only [gset_ne, gset_self, List.length_set, Nat.reduceLT, Nat.reduceBEq, hl, h3, h4, h6, hgt, f1, f2, f3, c1, c2])
  · have hgt : decide (w > 1) = false := decide_eq_false hw
    unfold S23_law
    repeat (first | walk_at "ev" | simp only [gset_ne, gset_self, List.length_set, Nat.reduceLT, Nat.reduceBEq, hl, h4, hgt])
theorem sum_asu (l : List Int) {N : Nat} (h : l.length ≤ N) : l.sum = asu (st l) N := by
  rw [asu_take, List.take_of_length_le h]
theorem sums_eq {N : Nat} {us : List Int} {v : Int} (hD : Dry N (st xs)) (hl : xs.length ≤ N) (hv : 1 ≤ v) (hu : st us = oW (st xs) v) (hul : us.length ≤ N) : us.sum = xs.sum := by
  rw [sum_asu us hul, sum_asu xs hl, hu]
  have h1 := asu_out (st xs) v N
  have h2 := hD.dry v hv N (Nat.le_refl _)
  omega
theorem S24_ok (t : G45 xs ys w b e) (X : X45 xs w) (Y : Y45 xs ys w) : S24_law e = some (.nx e) := by
  have hl := t.len
  have h3 := t.h3
  have h4 := t.h4
  have h5 := t.h5
  have hxl : xs.length ≤ 100 := Nat.le_trans X.len (by decide)
  have f1 := gone_eq X.dry hxl (by decide) X.w1 Y.s Y.t
  have d1 : dSum (.tuple (iL ys)) = some (.int xs.sum) := by rw [dSum_tup, sums_eq X.dry hxl X.w1 Y.s Y.l]
  have d2 := dSum_tup xs
  have c := comp1y (f := K8_law) (v := 14) (e := e) PyData.int (fun x => PyData.bool (decide (x > w))) ys (by have := Y.l; omega) (t.no 14 (by decide)) (by rw [hl]; decide) fun x _ => by
    unfold K8_law
    repeat (first | walk_at "ev" | simp only [gset_ne, gset_self, List.length_set, Nat.reduceLT, Nat.reduceBEq, hl, h4])
  have ha : dAny (.list (ys.map fun x => PyData.bool (decide (x > w)))) = some (.bool false) := by
    rw [dAny_map]
    congr 2
    rw [List.any_eq_false]
    intro x hx
    obtain ⟨i, hi⟩ := List.getElem?_of_mem hx
    have hil := (List.getElem?_eq_some_iff.mp hi).1
    rw [st_lt hil, Y.s] at hi
    have hi := Option.some.inj hi
    have : x ≤ w := by rw [← hi]; unfold oW; omega
    simp; omega
  have c' : compC (gNm 14) bYes K8_law [14] (iL ys, e) = _ := c
  generalize (ys.map fun x => PyData.bool (decide (x > w))) = B at *
  generalize xs.sum = sm at *
  generalize iL ys = YY at *
  generalize iL xs = XX at *
  unfold S24_law
  repeat (first | walk_at "ev" | simp only [gset_ne, gset_self, List.length_set, Nat.reduceLT, Nat.reduceBEq, hl, h3, h4, h5, f1, d1, d2, c', ha, bne_self_eq_false])
end
end Fl

set_option Elab.async false
set_option linter.all false
set_option maxRecDepth 100000
set_option maxHeartbeats 4000000
set_option autoImplicit false
namespace Fl
open PySem PySem.Spec PyProof.Rows L2
local macro_rules | `(tactic| walk_at "ev") => `(tactic| simp -implicitDefEqProofs only [prE_ev, eVar_ev, varC_ev, varC_tn, eNm_ev, nmC_va, nmC_tn, nmC_li, eC_ev, vw_va, vw_tn, vw_li, eOwn_ev, eIxO_ev, ixoC_ev, ixoC2_ev, ixoC3_ev, eOp_ev, opC_ev, opC2_ev, eUn_ev, unC_ev, bE_ev, bEC_ev, bB_ev, bBC_ev, bNot_ev, notC_ev, bAnd_ev, andC_t, andC_f, bOr_ev, orC_t, orC_f, bYes_ev, eAnd_ev, eandC_t, eandC_f, eOr_ev, eorC_t, eorC_f, eNot_ev, enotC_ev, eIf_ev, ifC_t, ifC_f, eTup_ev, tupC_ev, aNil_ev, aCons_ev, aconsC_ev, aconsC2_ev, oLst_ev, lstC_ev, oE_ev, oEC_ev, eFz_ev, fzC_tn, fzC_va, fzC_li, oUn_ev, ounC_ev, prL_ev, eSl_ev, slC_ev, slC2_ev, slC3_ev, eSlO_ev, sloC_ev, sloC2_ev, sloC3_ev, sloC4_ev, lEnum_ev, enC_tup, enC_lst, pNo_ev, pSo_ev, psoC_ev, lOf_ev, lofC_tup, lofC_lst, lRng1_ev, rng1C_ev, lRng2_ev, rng2C_ev, rng2C2_ev, oRep_ev, repC_ev, repC2_ev, oCall_ev, callC_0, callC_1, callC_2, callC_3, callC_4, callC_5, callC_rv, callC_rv4, arSl_vl, arSl_rf, callC2_ev, arBack_nil, arBack_vl, arBack_rf, rNil_ev, rVal_ev, rvC_ev, rvC2_ev, rRef_ev, rrC_ev, oComp_ev, compC2_ev, wipeE_nil, wipeE_cons, backE_nil, backE_cons, gNm_ev, gTupF_ev, gsNil_ev, gsCons_ev, sNext_ev, sBreak_ev, sCont_ev, sSeq_ev, seqC_nx, seqC_bk, seqC_ct, seqC_rt, sSet_ev, setC_ev, sPar_ev, parC_ev, setAll_nil, setAll_cons, olNil_ev, olCons_ev, olC_ev, olC2_ev, sAsg_ev, asgC_ev, sIf_ev, sifC_t, sifC_f, sFor_ev, forC_ev, sDrop_ev, dropC_ev, sRet_ev, retC_ev, sRetN_ev, retnC_va, retnC_li, liOf_li, eMt1_ev, mt1C_ev, mt1C2_ev, mt1C3_ev, mt1C4_ev, eMt0_ev, mt0C_ev, sSub_ev, subC_ev, subC1_ev, subC2_ev, subC3_ev, subC4_ev, sAug_ev, augC_ev, augC2_ev, augC3_ev, mkF_ev, mkC_rt, mkC_nx, keepE_nil, keepE_va, keepE_ow', dTru_bool, dTru_int, dTru_none, dTru_list, dTru_tuple, dAdd_int, dAdd_tup, dAdd_lst, dIadd_int, dSub_int, dMul_int, dDiv_int, dMod_int, dNeg_int, dMin2_int, dMax2_int, dLtA_int, dLe_int, dLt_int, dGt_int, dGe_int, shaped_int, shaped_bool, shaped_none, eqv_int, eqv_bool, dEq_int, dNe_int, dEq_bool, dIs_none, dIsN_none, isNon_none, isNon_int, isNon_tup, isNon_bool, dLen_tup, dLen_lst, dIx_tup, dIx_lst, at0, at1, at2, at3, gExtend_lst, dTuple_lst, dTuple_tup, dList_lst, dList_tup, dInt_int, dSl_tup, dSl_lst, isTup, isLst, isBool, isIntB, isStr, beq_self_eq_true, decide_true, decide_false, isi_tup, isi_lst, isi_int, isi_bool, isi_str, isi_none, sz0, sz1, sz2, sz3, sz4, sz5, sz6, sz7, sz8, sz9, sz10, sz11, sz12, isOw_no, isOw_va, isOw_li, isOw_di, isOw_dt, isOw_ow, isOw_none, isOw_sl,
  Option.bind_some, Option.map_some, Option.bind_none, Option.map_none, Option.getD_some, Option.getD_none, List.getElem?_cons_zero, List.getElem?_cons_succ, List.set_cons_zero, List.set_cons_succ, List.map_cons, List.map_nil, List.headD_cons, List.headD_nil, List.tail_cons, List.tail_nil, List.isEmpty_nil, List.isEmpty_cons, List.length_nil, List.length_cons, List.nil_append, List.cons_append, List.replicate_succ, List.replicate_zero, Nat.reduceSub, Nat.reduceAdd, Bool.false_eq_true, if_false, if_true, reduceIte, Bool.not_true, Bool.not_false, and_true, true_and, and_self, Int.toNat_natCast, Int.zero_add, eCh_ev, chC_ev, chC2_ev, chC3_t, chC3_f, chC4_ev, lZip_ev, zipC_ev, zipC2_tup, zipC2_lst, dRev_tup, dRev_lst, dRngL_int, dRngT_int, oIte_ev, oiteC_li, oiteC_va, oCompO_ev, callC_rv2, callC_rv3, rdOf_di, rdOf_dl, diOf_di, keyD_int, eDget_ev, dgC_ev, dgC1_ev, dgC2_ev, dgC3_ev, eDin_ev, diC_ev, diC1_ev, diC2_t, diC2_f, eDlen_ev, dlC_ev, eDgt2_ev, d2C_ev, d2C1_ev, d2C2_ev, d2C3_ev, d2C4_ev, eDpop_ev, dpC_ev, dpC1_ev, dpC2_ev, dpC3_ev, dpC4_ev, sDput_ev, ddC_ev, ddC1_ev, ddC2_ev, ddC3_ev, ddC4_ev, oDnew_ev, oLock_ev, lkC_ev, lkC1_ev, lKeys_ev, lkyC_ev, isDl_li, isOw_dl, sRetO_ev, retOC_ev, oTn_ev, oTnC_ev, tnOf_ev, eMtT_ev, mtTC_ev, mtTC2_ev, mtTC3_ev, isOw_tn, oCat_ev, catC_ev])
local macro_rules | `(tactic| walk_at "evh") => `(tactic| simp -implicitDefEqProofs only [prE_ev, eVar_ev, varC_ev, varC_tn, eNm_ev, nmC_va, nmC_tn, nmC_li, eC_ev, vw_va, vw_tn, vw_li, eOwn_ev, eIxO_ev, ixoC_ev, ixoC2_ev, ixoC3_ev, eOp_ev, opC_ev, opC2_ev, eUn_ev, unC_ev, bE_ev, bEC_ev, bB_ev, bBC_ev, bNot_ev, notC_ev, bAnd_ev, andC_t, andC_f, bOr_ev, orC_t, orC_f, bYes_ev, eAnd_ev, eandC_t, eandC_f, eOr_ev, eorC_t, eorC_f, eNot_ev, enotC_ev, eIf_ev, ifC_t, ifC_f, eTup_ev, tupC_ev, aNil_ev, aCons_ev, aconsC_ev, aconsC2_ev, oLst_ev, lstC_ev, oE_ev, oEC_ev, eFz_ev, fzC_tn, fzC_va, fzC_li, oUn_ev, ounC_ev, prL_ev, eSl_ev, slC_ev, slC2_ev, slC3_ev, eSlO_ev, sloC_ev, sloC2_ev, sloC3_ev, sloC4_ev, lEnum_ev, enC_tup, enC_lst, pNo_ev, pSo_ev, psoC_ev, lOf_ev, lofC_tup, lofC_lst, lRng1_ev, rng1C_ev, lRng2_ev, rng2C_ev, rng2C2_ev, oRep_ev, repC_ev, repC2_ev, oCall_ev, callC_0, callC_1, callC_2, callC_3, callC_4, callC_5, callC_rv, callC_rv4, arSl_vl, arSl_rf, callC2_ev, arBack_nil, arBack_vl, arBack_rf, rNil_ev, rVal_ev, rvC_ev, rvC2_ev, rRef_ev, rrC_ev, oComp_ev, compC2_ev, wipeE_nil, wipeE_cons, backE_nil, backE_cons, gNm_ev, gTupF_ev, gsNil_ev, gsCons_ev, sNext_ev, sBreak_ev, sCont_ev, sSeq_ev, seqC_nx, seqC_bk, seqC_ct, seqC_rt, sSet_ev, setC_ev, sPar_ev, parC_ev, setAll_nil, setAll_cons, olNil_ev, olCons_ev, olC_ev, olC2_ev, sAsg_ev, asgC_ev, sIf_ev, sifC_t, sifC_f, sFor_ev, forC_ev, sDrop_ev, dropC_ev, sRet_ev, retC_ev, sRetN_ev, retnC_va, retnC_li, liOf_li, eMt1_ev, mt1C_ev, mt1C2_ev, mt1C3_ev, mt1C4_ev, eMt0_ev, mt0C_ev, sSub_ev, subC_ev, subC1_ev, subC2_ev, subC3_ev, subC4_ev, sAug_ev, augC_ev, augC2_ev, augC3_ev, mkF_ev, mkC_rt, mkC_nx, keepE_nil, keepE_va, keepE_ow', dTru_bool, dTru_int, dTru_none, dTru_list, dTru_tuple, dAdd_int, dAdd_tup, dAdd_lst, dIadd_int, dSub_int, dMul_int, dDiv_int, dMod_int, dNeg_int, dMin2_int, dMax2_int, dLtA_int, dLe_int, dLt_int, dGt_int, dGe_int, shaped_int, shaped_bool, shaped_none, eqv_int, eqv_bool, dEq_int, dNe_int, dEq_bool, dIs_none, dIsN_none, isNon_none, isNon_int, isNon_tup, isNon_bool, dLen_tup, dLen_lst, dIx_tup, dIx_lst, at0, at1, at2, at3, gExtend_lst, dTuple_lst, dTuple_tup, dList_lst, dList_tup, dInt_int, dSl_tup, dSl_lst, isTup, isLst, isBool, isIntB, isStr, beq_self_eq_true, decide_true, decide_false, isi_tup, isi_lst, isi_int, isi_bool, isi_str, isi_none, sz0, sz1, sz2, sz3, sz4, sz5, sz6, sz7, sz8, sz9, sz10, sz11, sz12, isOw_no, isOw_va, isOw_li, isOw_di, isOw_dt, isOw_ow, isOw_none, isOw_sl,
  Option.bind_some, Option.map_some, Option.bind_none, Option.map_none, Option.getD_some, Option.getD_none, List.getElem?_cons_zero, List.getElem?_cons_succ, List.set_cons_zero, List.set_cons_succ, List.map_cons, List.map_nil, List.headD_cons, List.headD_nil, List.tail_cons, List.tail_nil, List.isEmpty_nil, List.isEmpty_cons, List.length_nil, List.length_cons, List.nil_append, List.cons_append, List.replicate_succ, List.replicate_zero, Nat.reduceSub, Nat.reduceAdd, Bool.false_eq_true, if_false, if_true, reduceIte, Bool.not_true, Bool.not_false, and_true, true_and, and_self, Int.toNat_natCast, Int.zero_add, eCh_ev, chC_ev, chC2_ev, chC3_t, chC3_f, chC4_ev, lZip_ev, zipC_ev, zipC2_tup, zipC2_lst, dRev_tup, dRev_lst, dRngL_int, dRngT_int, oIte_ev, oiteC_li, oiteC_va, oCompO_ev, callC_rv2, callC_rv3, rdOf_di, rdOf_dl, diOf_di, keyD_int, eDget_ev, dgC_ev, dgC1_ev, dgC2_ev, dgC3_ev, eDin_ev, diC_ev, diC1_ev, diC2_t, diC2_f, eDlen_ev, dlC_ev, eDgt2_ev, d2C_ev, d2C1_ev, d2C2_ev, d2C3_ev, d2C4_ev, eDpop_ev, dpC_ev, dpC1_ev, dpC2_ev, dpC3_ev, dpC4_ev, sDput_ev, ddC_ev, ddC1_ev, ddC2_ev, ddC3_ev, ddC4_ev, oDnew_ev, oLock_ev, lkC_ev, lkC1_ev, lKeys_ev, lkyC_ev, isDl_li, isOw_dl, sRetO_ev, retOC_ev, oTn_ev, oTnC_ev, tnOf_ev, eMtT_ev, mtTC_ev, mtTC2_ev, mtTC3_ev, isOw_tn, oCat_ev, catC_ev, *])
/-! K45_Top: the turn, the great queue, the law. -/
theorem seq_nx {S R : SF} {e e' : Ev} (h : S e = some (.nx e')) : sSeq S R e = R e' := by
  rw [sSeq_ev, h, Option.bind_some, seqC_nx]
theorem set_at {e : Ev} {i j : Nat} {s : Sl} {x : Option Sl} (h : e[j]? = x) (hne : i ≠ j) : (e.set i s)[j]? = x := by rw [List.getElem?_set_ne hne]; exact h
theorem prS_at {a : Nat → Int} {n t : Nat} {m : Int} (h : (prS a n)[t]? = some m) : t < n ∧ m = a t := by
  have ht : t < n := by
    have := (List.getElem?_eq_some_iff.mp h).1
    rwa [prS_len] at this
  unfold prS at h
  rw [List.getElem?_map, List.getElem?_range ht] at h
  cases h
  exact ⟨ht, rfl⟩
theorem last_at (p : Nat → Prop) [DecidablePred p] : ∀ (k s t : Nat), s + k = t → p s → ∃ s0, s0 ≤ t ∧ p s0 ∧ ∀ u, s0 < u → u ≤ t → ¬p u
  | 0, s, t, h, hp => ⟨s, by omega, hp, fun u h1 h2 => by omega⟩
  | k + 1, s, t, h, hp => by
    by_cases hx : ∃ v, s < v ∧ v ≤ t ∧ p v
    · obtain ⟨v, h1, h2, h3⟩ := hx
      by_cases hm : ∃ v', s + 1 ≤ v' ∧ v' ≤ t ∧ p v'
      · obtain ⟨v', g1, g2, g3⟩ := hm
        have key : ∀ j, ∀ v, s < v → v + j = t → p v → ∃ s0, s0 ≤ t ∧ p s0 ∧ ∀ u, s0 < u → u ≤ t → ¬p u := fun j => by
          induction j using Nat.strongRecOn with
          | ind j ih =>
            intro v hv hj hpv
            by_cases hy : ∃ v2, v < v2 ∧ v2 ≤ t ∧ p v2
            · obtain ⟨v2, y1, y2, y3⟩ := hy
              exact ih (t - v2) (by omega) v2 (by omega) (by omega) y3
            · exact ⟨v, by omega, hpv, fun u u1 u2 u3 => hy ⟨u, u1, u2, u3⟩⟩
        exact key (t - v) v h1 (by omega) h3
      · exact absurd ⟨v, h1, h2, h3⟩ hm
    · exact ⟨s, by omega, hp, fun u h1 h2 h3 => hx ⟨u, h1, h2, h3⟩⟩
theorem turn_ok {e : Ev} {b : Box} (t : Tz 19 e b) : ∃ (e' : Ev) (b' : Box), L25_law e = some (.nx e') ∧ Tz 19 e' b' := by
  obtain ⟨xs, b1, q9, xl, xo⟩ := S9_ok t
  have t1 : Tz 19 ((e.set 1 (.ow b1.ot)).set 3 (.va (.tuple (iL xs)))) b1 := (t.box (by decide)).set (by decide) rfl
  have g3 : ((e.set 1 (.ow b1.ot)).set 3 (.va (.tuple (iL xs))))[3]? = some (.va (.tuple (iL xs))) := gset_self (by rw [List.length_set, t.len]; decide)
  generalize (e.set 1 (.ow b1.ot)).set 3 (.va (.tuple (iL xs))) = e1 at *
  obtain ⟨w, b2, q10, w1, w2⟩ := S10_ok t1
  have X : X45 xs w := ⟨xl, xo, w1, w2⟩
  have t2 : F45 xs w b2 ((e1.set 1 (.ow b2.ot)).set 4 (.va (.int w))) := ⟨(t1.box (by decide)).set (by decide) rfl, by rw [gset_ne rfl, gset_ne rfl]; exact g3, gset_self (by rw [List.length_set, t1.len]; decide)⟩
  generalize (e1.set 1 (.ow b2.ot)).set 4 (.va (.int w)) = e2 at *
  obtain ⟨ys, q11, y1, y2, y3⟩ := S11_ok t2 X
  have Y : Y45 xs ys w := ⟨y1, y2, y3⟩
  have t3 : G45 xs ys w b2 ((e2.set 5 (.va (.tuple (iL ys)))).set 6 (.va (.int (sW (st xs) w 100)))) := ⟨(t2.put (by decide) (by decide) (by decide) rfl).put (by decide) (by decide) (by decide) rfl, by rw [gset_ne rfl]; exact gset_self (by rw [t2.len]; decide), gset_self (by rw [List.length_set, t2.len]; decide)⟩
  generalize (e2.set 5 (.va (.tuple (iL ys)))).set 6 (.va (.int (sW (st xs) w 100))) = e3 at *
  have q12 := S12_ok t3 X Y
  have q13 := S13_ok t3.toTz
  have t4 : G45 xs ys w b2 (e3.set 7 (.li [])) := t3.put (by decide) (by decide) (by decide) (by decide) (by decide) rfl
  have g7 : (e3.set 7 (.li []))[7]? = some (.li []) := gset_self (by rw [t3.len]; decide)
  generalize e3.set 7 (.li []) = e4 at *
  obtain ⟨e5, q14, t5, g7⟩ := S14_ok t4 X Y g7
  have q15 := S15_ok t5 X g7
  obtain ⟨m, hm, hm1, hm2⟩ := dMax_l (ns := 0 :: prS (nx (st xs) w) xs.length) nofun
  have q16 := S16_ok t5 X g7 hm
  have t6 : G45 xs ys w b2 (e5.set 9 (.va (.int m))) := t5.put (by decide) (by decide) (by decide) (by decide) (by decide) rfl
  have g9 : (e5.set 9 (.va (.int m)))[9]? = some (.va (.int m)) := gset_self (by rw [t5.len]; decide)
  replace g7 := set_at (s := .va (.int m)) g7 (show 9 ≠ 7 by decide)
  generalize e5.set 9 (.va (.int m)) = e6 at *
  have q17 := S17_ok t6
  have t7 : G45 xs ys w b2 (e6.set 10 (.va (.tuple [.int 0, .none, .none]))) := t6.put (by decide) (by decide) (by decide) (by decide) (by decide) rfl
  have g10 : (e6.set 10 (.va (.tuple [.int 0, .none, .none])))[10]? = some (.va (.tuple [.int 0, .none, .none])) := gset_self (by rw [t6.len]; decide)
  replace g7 := set_at (s := .va (.tuple [.int 0, .none, .none])) g7 (show 10 ≠ 7 by decide)
  replace g9 := set_at (s := .va (.tuple [.int 0, .none, .none])) g9 (show 10 ≠ 9 by decide)
  generalize e6.set 10 (.va (.tuple [.int 0, .none, .none])) = e7 at *
  have hml : dMax (.tuple (iL (0 :: prS (nx (st xs) w) xs.length))) = some (.int m) := hm
  have hxl : xs.length ≤ 100000 := Nat.le_trans X.len (by decide)
  have rest : ∃ e8, S18_law e7 = some (.nx e8) ∧ G45 xs ys w b2 e8 ∧ S19_law e8 = some (.nx e8) := by
    by_cases h0 : 0 < m
    · have hmL : m ∈ prS (nx (st xs) w) xs.length := by
        rcases List.mem_cons.mp hm1 with rfl | h
        · exact absurd h0 (Int.lt_irrefl _)
        · exact h
      obtain ⟨tt, hi, ht⟩ := dIdx_some hmL
      obtain ⟨ht1, ht2⟩ := prS_at ht
      have ht3 : m = qW (st xs) w (tt + 1) := ht2
      obtain ⟨s, hs, hs2⟩ : ∃ s, s ≤ tt ∧ pw (st xs) w (tt + 1) - pw (st xs) w s = m := by
        rcases (lind (st xs) w tt).2 with h | ⟨s, h1, h2⟩
        · omega
        · exact ⟨s, h1, by omega⟩
      obtain ⟨s0, k1, k2, k3⟩ := last_at (fun s => pw (st xs) w (tt + 1) - pw (st xs) w s = m) (tt - s) s tt (by omega) hs2
      refine ⟨_, S18_ok t7 X g7 g9 h0 hi ht1 k1 k2 k3, ?_, ?_⟩
      · exact (t7.put (by decide) (by decide) (by decide) (by decide) (by decide) rfl).put (by decide) (by decide) (by decide) (by decide) (by decide) rfl
      · refine S19_ok (due := .tuple [.int m, .int (s0 : Nat), .int (tt : Nat)]) ((t7.put (by decide) (by decide) (by decide) (by decide) (by decide) rfl).put (by decide) (by decide) (by decide) (by decide) (by decide) rfl) X Y (gset_self (by rw [List.length_set, t7.len]; decide)) (lq_ok hxl hml h0 hi ht1 k1 k2 k3) (sameQ ⟨Nat.le_of_ble_eq_true rfl, fun d hd => ?_⟩)
        simp only [List.mem_cons, List.not_mem_nil, or_false] at hd
        rcases hd with rfl | rfl | rfl <;> trivial
    · have hz : m = 0 := by have := hm2 0 List.mem_cons_self; omega
      subst hz
      exact ⟨e7, S18_no t7 g9, t7, S19_ok t7 X Y g10 (lq_none hxl hml) (sameQ ⟨Nat.le_of_ble_eq_true rfl, fun d hd => by
        simp only [List.mem_cons, List.not_mem_nil, or_false] at hd
        rcases hd with rfl | rfl | rfl <;> trivial⟩)⟩
  obtain ⟨e8, q18, t8, q19⟩ := rest
  have q20 := S20_ok t8
  have t9 : G45 xs ys w b2 (((e8.set 11 (.va (.int 0))).set 12 (.va (.int 0))).set 13 (.va (.int 0))) := ((t8.put (by decide) (by decide) (by decide) (by decide) (by decide) rfl).put (by decide) (by decide) (by decide) (by decide) (by decide) rfl).put (by decide) (by decide) (by decide) (by decide) (by decide) rfl
  have g11 : (((e8.set 11 (.va (.int 0))).set 12 (.va (.int 0))).set 13 (.va (.int 0)))[11]? = some (.va (.int 0)) := by rw [gset_ne rfl, gset_ne rfl]; exact gset_self (by rw [t8.len]; decide)
  have g12 : (((e8.set 11 (.va (.int 0))).set 12 (.va (.int 0))).set 13 (.va (.int 0)))[12]? = some (.va (.int 0)) := by rw [gset_ne rfl]; exact gset_self (by rw [List.length_set, t8.len]; decide)
  have g13 : (((e8.set 11 (.va (.int 0))).set 12 (.va (.int 0))).set 13 (.va (.int 0)))[13]? = some (.va (.int 0)) := gset_self (by rw [List.length_set, List.length_set, t8.len]; decide)
  generalize ((e8.set 11 (.va (.int 0))).set 12 (.va (.int 0))).set 13 (.va (.int 0)) = e9 at *
  obtain ⟨e10, b3, s, q21, t10, g12, hs⟩ := S21_ok t9 X g11 g12 g13
  refine ⟨e10, b3, ?_, t10.toTz⟩
  unfold L25_law
  rw [seq_nx q9, seq_nx q10, seq_nx q11, seq_nx q12, seq_nx q13, seq_nx q14, seq_nx q15, seq_nx q16, seq_nx q17, seq_nx q18, seq_nx q19, seq_nx q20, seq_nx q21, seq_nx (S22_ok t10 g12 hs), seq_nx (S23_ok t10 X Y)]
  exact S24_ok t10 X Y
/-! the great queue -/
theorem great_ok {e : Ev} {b : Box} (t : Tz 19 e b) : ∃ (e' : Ev) (b' : Box), sSeq S29_law (sSeq S30_law (sSeq S31_law (sSeq S32_law S33_law))) e = S33_law e' ∧ Tz 19 e' b' := by
  have hl := t.len
  have ho := t.ow
  obtain ⟨xs, b2, c, k2, k3⟩ := compT (f := K26_law) (v := 17) t (fun i : Int => PyData.int i) (fun i => 0 ≤ i ∧ i ≤ 1000) (rngD 0 30) (by rw [rngD_len]; decide) (by decide) (by decide) (by decide) fun dd _ b => by
    obtain ⟨d3, b3, e3, d30, d31⟩ := drI b (m := 1001) (by decide) (by decide)
    refine ⟨d3, b3, ?_, d30, by omega⟩
    unfold K26_law
    repeat (first | walk_at "ev" | simp only [gset_ne, gset_self, List.length_set, Nat.reduceLT, Nat.reduceBEq, hl, e3])
    rw [set_1v1 _ (by decide)]
  rw [rngD_len] at k2
  have hr30 : Rg (30 : Int) := rg_of (by decide) (by decide)
  have h30 : (30 : Int).toNat = 30 := rfl
  have n15 := t.no 15 (by decide)
  have q29 : S29_law e = some (.nx ((e.set 1 (.ow b2.ot)).set 15 (.va (.tuple (iL xs))))) := by
    unfold S29_law
    repeat (first | walk_at "ev" | simp only [gset_ne, gset_self, List.length_set, Nat.reduceLT, Nat.reduceBEq, hl, ho, n15, hr30, h30, c, reduceIte])
  have t1 : Tz 19 ((e.set 1 (.ow b2.ot)).set 15 (.va (.tuple (iL xs)))) b2 := (t.box (by decide)).set (by decide) rfl
  have g15 : ((e.set 1 (.ow b2.ot)).set 15 (.va (.tuple (iL xs))))[15]? = some (.va (.tuple (iL xs))) := gset_self (by rw [List.length_set, t.len]; decide)
  generalize (e.set 1 (.ow b2.ot)).set 15 (.va (.tuple (iL xs))) = e1 at *
  obtain ⟨d, b3, f3, d0, d1⟩ := drI b2 (m := 100) (by decide) (by decide)
  obtain ⟨w, hw⟩ : ∃ w, w = 1 + d := ⟨_, rfl⟩
  have q30 : S30_law e1 = some (.nx ((e1.set 1 (.ow b3.ot)).set 4 (.va (.int w)))) := by
    have hl1 := t1.len
    have ho1 := t1.ow
    have n4 := t1.no 4 (by decide)
    rw [hw]
    unfold S30_law
    repeat (first | walk_at "ev" | simp only [gset_ne, gset_self, List.length_set, Nat.reduceLT, Nat.reduceBEq, hl, ho1, n4, f3])
  have t2 : Tz 19 ((e1.set 1 (.ow b3.ot)).set 4 (.va (.int w))) b3 := (t1.box (by decide)).set (by decide) rfl
  have g4 : ((e1.set 1 (.ow b3.ot)).set 4 (.va (.int w)))[4]? = some (.va (.int w)) := gset_self (by rw [List.length_set, t1.len]; decide)
  replace g15 : ((e1.set 1 (.ow b3.ot)).set 4 (.va (.int w)))[15]? = some (.va (.tuple (iL xs))) := by rw [gset_ne rfl, gset_ne rfl]; exact g15
  generalize (e1.set 1 (.ow b3.ot)).set 4 (.va (.int w)) = e2 at *
  have hD : Dry 30030 (st xs) := dr_of (L := 30) (B := 1000) (by omega) k3 (by decide) (by decide)
  have hxl : xs.length ≤ 30030 := by omega
  have w1 : 1 ≤ w := by omega
  obtain ⟨ys, f1, y1, y2, y3⟩ := gone_ok hD hxl (by decide) w1
  have q31 : S31_law e2 = some (.nx (e2.set 16 (.va (.tuple (iL ys))))) := by
    have hl2 := t2.len
    have n16 := t2.no 16 (by decide)
    generalize iL ys = YY at *
    generalize iL xs = XX at *
    unfold S31_law
    repeat (first | walk_at "ev" | simp only [gset_ne, gset_self, List.length_set, Nat.reduceLT, Nat.reduceBEq, hl, n16, g4, g15, f1])
  have t3 : Tz 19 (e2.set 16 (.va (.tuple (iL ys)))) b3 := t2.set (by decide) rfl
  have g16 : (e2.set 16 (.va (.tuple (iL ys))))[16]? = some (.va (.tuple (iL ys))) := gset_self (by rw [t2.len]; decide)
  replace g15 := set_at (s := .va (.tuple (iL ys))) g15 (show 16 ≠ 15 by decide)
  replace g4 := set_at (s := .va (.tuple (iL ys))) g4 (show 16 ≠ 4 by decide)
  generalize e2.set 16 (.va (.tuple (iL ys))) = e3 at *
  have q32 : S32_law e3 = some (.nx e3) := by
    have hl := t3.len
    have d1 : dSum (.tuple (iL ys)) = some (.int xs.sum) := by rw [dSum_tup, sums_eq hD hxl w1 y1 y3]
    have d2 := dSum_tup xs
    have f2 := wd_ok hD hxl (by decide) w1
    have cc := compRy (f := K27_law) (v := 8) (n := ys.length) (e := e3) (fun t => PyData.int (nx (st xs) w t)) (by omega) (t3.no 8 (by decide)) (by rw [hl]; decide) fun j hj => by
      have hc : (j : Int) + 1 = ((j + 1 : Nat) : Int) := by omega
      have c1 := pre_dSum xs (j + 1)
      have c2 := pre_dSum ys (j + 1)
      have hq : pre xs (j + 1) - pre ys (j + 1) = nx (st xs) w j := by rw [pre_asu, pre_asu, y1]; exact asu_out _ _ _
      generalize iL ys = YY at *
      generalize iL xs = XX at *
      unfold K27_law
      repeat (first | walk_at "ev" | simp only [gset_ne, gset_self, List.length_set, Nat.reduceLT, Nat.reduceBEq, hl, g15, g16, hc, c1, c2, hq])
    have hm : ((List.range ys.length).map fun t => PyData.int (nx (st xs) w t)) = iL (prS (nx (st xs) w) ys.length) := by unfold prS iL; rw [List.map_map]; rfl
    have d3 : dSum (.list (iL (prS (nx (st xs) w) ys.length))) = some (.int (sW (st xs) w 30030)) := by
      rw [dSum_lst, nx_sum, sW_dead hD w1 fun t ht => ?_]
      have h1 : oW (st xs) w t = 0 := by rw [← y1]; exact st_ge (by omega)
      have h2 := qW_nn (st xs) w t
      have h3 := hD.nn t
      unfold oW at h1
      omega
    rw [hm] at cc
    have hlen : (iL ys).length = ys.length := iL_len ys
    have hr : Rg ((ys.length : Nat) : Int) := rg_of (by omega) (by omega)
    generalize iL (prS (nx (st xs) w) ys.length) = P at *
    generalize sW (st xs) w 30030 = s at *
    generalize xs.sum = sm at *
    generalize iL ys = YY at *
    generalize iL xs = XX at *
    unfold S32_law
    repeat (first | walk_at "ev" | simp only [gset_ne, gset_self, List.length_set, Nat.reduceLT, Nat.reduceBEq, hl, g4, g15, g16, d1, d2, f2, hlen, hr, cc, d3, reduceIte, Int.toNat_natCast, bne_self_eq_false])
  exact ⟨e3, b3, by rw [seq_nx q29, seq_nx q30, seq_nx q31, seq_nx q32], t3⟩
theorem tr2221 : Tr [2, 2, 2, 1] := fun ys h => by
  have := congrArg List.getLast? h
  rw [List.getLast?_concat] at this
  exact absurd this (by decide)
theorem fin45 : F_gone [.va (.tuple [.int 5, .int 0, .int 2]), .va (.int 2)] = some (.va (.tuple [.int 2, .int 2, .int 2, .int 1]), [.no, .no]) ∧
    F_longest_queue [.va (.tuple [.int 5, .int 0, .int 2]), .va (.int 2)] = some (.va (.tuple [.int 3, .int 0, .int 0]), [.no, .no]) ∧
    F_waited [.va (.tuple [.int 5, .int 0, .int 2]), .va (.int 2)] = some (.va (.int 5), [.no, .no]) := by
  have hD : Dry 100 (st [5, 0, 2]) := dr_of (L := 3) (B := 5) (by decide) (by decide) (by decide) (by decide)
  have hd : ∀ t, 4 ≤ t → st [5, 0, 2] t = 0 := fun t ht => st_ge (Nat.le_trans (by decide) ht)
  have hq := q_still (a := st [5, 0, 2]) (w := 2) (n := 4) (by decide) hd (by decide)
  have hs : st [2, 2, 2, 1] = oW (st [5, 0, 2]) 2 := by
    funext t
    match t with
    | 0 => decide
    | 1 => decide
    | 2 => decide
    | 3 => decide
    | t + 4 => rw [(hq (t + 4) (by omega)).2, st_ge (by show 4 ≤ t + 4; omega)]
  refine ⟨gone_eq (xs := [5, 0, 2]) (ys := [2, 2, 2, 1]) hD (by decide) (by decide) (by decide) hs tr2221, ?_, ?_⟩
  · exact lq_ok (xs := [5, 0, 2]) (w := 2) (m := 3) (t := 0) (s0 := 0) (by decide) rfl (by decide) rfl (by decide) (Nat.le_refl _) (by decide) fun u h1 h2 => by omega
  · have := wd_ok (xs := [5, 0, 2]) (w := 2) hD (by decide) (by decide) (by decide)
    rw [← sW_dead hD (w := 2) (by decide) (n := 4) fun t ht => (hq t (by omega)).1] at this
    exact this
theorem S33_ok {e : Ev} {b : Box} (t : Tz 19 e b) : S33_law e = some (.rt (.va (.bool true)) e) := by
  obtain ⟨f1, f2, f3⟩ := fin45
  have m1 : F__law_same [.va (.tuple [.int 2, .int 2, .int 2, .int 1]), .va (.tuple [.int 2, .int 2, .int 2, .int 1])] = some (.va (.bool true), [.no, .no]) := sameQ (plain_iL (xs := [2, 2, 2, 1]) (by decide))
  have m2 : F__law_same [.va (.tuple [.int 3, .int 0, .int 0]), .va (.tuple [.int 3, .int 0, .int 0])] = some (.va (.bool true), [.no, .no]) := sameQ (plain_iL (xs := [3, 0, 0]) (by decide))
  have m3 : F__law_same [.va (.int 5), .va (.int 5)] = some (.va (.bool true), [.no, .no]) := sameQ trivial
  unfold S33_law
  repeat (first | walk_at "ev" | simp only [f1, f2, f3, m1, m2, m3, reduceIte])
theorem law_true : ∀ ns : List Int, ns.length ≤ 63 → ∃ e', F_law (.no :: .ow (box0 ns).ot :: List.replicate 17 .no) = some (.rt (.va (.bool true)) e') := by
  intro ns _
  have t0 := tz_start 17 (box0 ns)
  generalize (Sl.no :: .ow (box0 ns).ot :: List.replicate 17 .no) = e at t0
  obtain ⟨e1, k1, b1, t1⟩ := forL_atC (t := gNm 2) (b := L25_law) (fun e => ∃ b : Box, Tz 19 e b) (fun d e ⟨b, t⟩ => by
    obtain ⟨e', b', k1, k2⟩ := turn_ok (t.set (i := 2) (s := .va d) (by decide) rfl)
    refine ⟨e', .inl ?_, b', k2⟩
    rw [t.gN _ (by decide), Option.bind_some]
    exact k1) (rngD 0 6) e ⟨box0 ns, t0⟩
  have hr : Rg (6 : Int) := rg_of (by omega) (by omega)
  have h6 : (6 : Int).toNat = 6 := rfl
  have q28 : S28_law e = some (.nx e1) := by
    unfold S28_law
    repeat (first | walk_at "ev" | simp only [hr, h6, k1, reduceIte])
  obtain ⟨e2, b2, k2, t2⟩ := great_ok t1
  refine ⟨e2, ?_⟩
  unfold F_law
  rw [seq_nx q28, k2]
  exact S33_ok t2
end Fl

set_option Elab.async false
set_option linter.all false
set_option maxRecDepth 100000
set_option maxHeartbeats 4000000
namespace Fl
open PySem PySem.Spec PyProof.Rows L2
section
variable {P : Program} {w : World} {K : Frg} {mg : Str → Option Value} {base : Heap}
theorem all_ok {f : Addr} {fd : FuncData} (F : Fun K "law" "law" s_law f fd) (B : Bt mg) (T__law_box : Ft K mg "_law_box" s__law_box ["script"]) (T__law_load : Ft K mg "_law_load" s__law_load ["box"]) (T__law_draw : Ft K mg "_law_draw" s__law_draw ["box", "many"]) (T_gone : Ft K mg "gone" s_gone ["arrivals", "wide"]) (T_left_waiting : Ft K mg "left_waiting" s_left_waiting ["arrivals", "wide"]) (T_longest_queue : Ft K mg "longest_queue" s_longest_queue ["arrivals", "wide"]) (T_waited : Ft K mg "waited" s_waited ["arrivals", "wide"]) (T_all_gone : Ft K mg "all_gone" s_all_gone ["arrivals", "wide"]) (T__law_same : Ft K mg "_law_same" s__law_same ["a", "b"]) (T__law_walked_through : Ft K mg "_law_walked_through" s__law_walked_through ["arrivals", "wide"]) : FnOk P w K mg base CX0 21 f fd ["script"] (spLaw K) := by
  obtain ⟨f1, fd1, F1, b1, g1⟩ := T__law_box
  obtain ⟨f2, fd2, F2, b2, g2⟩ := T__law_load
  have D__law_draw : Dk P w K mg base "_law_draw" 2 2 F__law_draw := dk_of T__law_draw fun f fd F => draw_ok (ok_draw F F2 b2 g2 B.len B.int)
  have D_gone : Dk P w K mg base "gone" 1 2 F_gone := dk_of T_gone fun f fd F => ok_gone F B 
  have D_left_waiting : Dk P w K mg base "left_waiting" 1 2 F_left_waiting := dk_of T_left_waiting fun f fd F => ok_left_waiting F B 
  have D_longest_queue : Dk P w K mg base "longest_queue" 2 2 F_longest_queue := dk_of T_longest_queue fun f fd F => ok_longest_queue F B D_left_waiting
  have D_waited : Dk P w K mg base "waited" 2 2 F_waited := dk_of T_waited fun f fd F => ok_waited F B D_left_waiting
  have D_all_gone : Dk P w K mg base "all_gone" 2 2 F_all_gone := dk_of T_all_gone fun f fd F => ok_all_gone F B D_gone
  have D__law_same : Dk P w K mg base "_law_same" 20 2 F__law_same := dk_rec (l := 0) (R := R__law_same) T__law_same rfl (fun f fd k F D hk => st__law_same F B  D hk) 20
  have D__law_walked_through : Dk P w K mg base "_law_walked_through" 1 2 F__law_walked_through := dk_of T__law_walked_through fun f fd F => ok__law_walked_through F B 
  exact law_ok (k := 19) F sc_law (by decide) (ok_box (k := 0) F1 B.len B.list) b1 g1 F1.kp (fun cdv A outer s H E hr => ⟨_, ps_set (i := 1) sc_law.nd rfl (by first | exact .inl rfl | exact .inr rfl) (pe_call (ok_box (k := 0) F1 B.len B.list) (hr.mono (by decide)) (by rfl) g1 F1.kp b1 .nil pass0 (pa_cons (pv 0) pa_nil)), fun _ _ _ h => h⟩) rfl (fun cdv A outer s H E hr => ok_law_rest B D__law_draw D__law_walked_through D_gone D_waited D__law_same D_left_waiting D_longest_queue D_all_gone cdv A outer s H E hr) law_true
end
theorem all_mk {l : PySem.W.OpenLaw} {w : World} {K : PySem.W.Frag} {h : Heap} {mg : Str → Option Value} {fa fL : Addr} (X : K.In h) (G : h.Ns mainGlobals mg) (hfa : mg "law" = some (.ref fa))
    {f_0 f_1 f_2 f_3 f_4 f_5 f_6 f_7 f_8 f_9 : Addr} {odL anL od0 an0 od1 an1 od2 an2 od3 an3 od4 an4 od5 an5 od6 an6 od7 an7 od8 an8 od9 an9 : Option Addr} {slL sl0 sl1 sl2 sl3 sl4 sl5 sl6 sl7 sl8 sl9 : Array (Option Value)} {ocL kVL dcL pmL cdL ctL oc0 kV0 dc0 pm0 cd0 ct0 oc1 kV1 dc1 pm1 cd1 ct1 oc2 kV2 dc2 pm2 cd2 ct2 oc3 kV3 dc3 pm3 cd3 ct3 oc4 kV4 dc4 pm4 cd4 ct4 oc5 kV5 dc5 pm5 cd5 ct5 oc6 kV6 dc6 pm6 cd6 ct6 oc7 kV7 dc7 pm7 cd7 ct7 oc8 kV8 dc8 pm8 cd8 ct8 oc9 kV9 dc9 pm9 cd9 ct9 : Value}
    (a0 : PySem.W.nsIn K mainGlobals "_law_box" = some (some (.ref f_0))) (l0 : K.lookup f_0 = some ⟨oc0, od0, .func (PySem.W.fnOf "_law_box" "_law_box" (defArgs s__law_box) (defBody s__law_box) (defScope s__law_box) .none kV0 dc0 pm0 an0 cd0 ct0), sl0⟩) (c0 : PySem.W.codeIn K cd0 "_law_box" = true) (k0 : PySem.W.keepIn K (.ref f_0) = true)
    (a1 : PySem.W.nsIn K mainGlobals "_law_load" = some (some (.ref f_1))) (l1 : K.lookup f_1 = some ⟨oc1, od1, .func (PySem.W.fnOf "_law_load" "_law_load" (defArgs s__law_load) (defBody s__law_load) (defScope s__law_load) .none kV1 dc1 pm1 an1 cd1 ct1), sl1⟩) (c1 : PySem.W.codeIn K cd1 "_law_load" = true) (k1 : PySem.W.keepIn K (.ref f_1) = true)
    (a2 : PySem.W.nsIn K mainGlobals "_law_draw" = some (some (.ref f_2))) (l2 : K.lookup f_2 = some ⟨oc2, od2, .func (PySem.W.fnOf "_law_draw" "_law_draw" (defArgs s__law_draw) (defBody s__law_draw) (defScope s__law_draw) .none kV2 dc2 pm2 an2 cd2 ct2), sl2⟩) (c2 : PySem.W.codeIn K cd2 "_law_draw" = true) (k2 : PySem.W.keepIn K (.ref f_2) = true)
    (a3 : PySem.W.nsIn K mainGlobals "gone" = some (some (.ref f_3))) (l3 : K.lookup f_3 = some ⟨oc3, od3, .func (PySem.W.fnOf "gone" "gone" (defArgs s_gone) (defBody s_gone) (defScope s_gone) .none kV3 dc3 pm3 an3 cd3 ct3), sl3⟩) (c3 : PySem.W.codeIn K cd3 "gone" = true) (k3 : PySem.W.keepIn K (.ref f_3) = true)
    (a4 : PySem.W.nsIn K mainGlobals "left_waiting" = some (some (.ref f_4))) (l4 : K.lookup f_4 = some ⟨oc4, od4, .func (PySem.W.fnOf "left_waiting" "left_waiting" (defArgs s_left_waiting) (defBody s_left_waiting) (defScope s_left_waiting) .none kV4 dc4 pm4 an4 cd4 ct4), sl4⟩) (c4 : PySem.W.codeIn K cd4 "left_waiting" = true) (k4 : PySem.W.keepIn K (.ref f_4) = true)
    (a5 : PySem.W.nsIn K mainGlobals "longest_queue" = some (some (.ref f_5))) (l5 : K.lookup f_5 = some ⟨oc5, od5, .func (PySem.W.fnOf "longest_queue" "longest_queue" (defArgs s_longest_queue) (defBody s_longest_queue) (defScope s_longest_queue) .none kV5 dc5 pm5 an5 cd5 ct5), sl5⟩) (c5 : PySem.W.codeIn K cd5 "longest_queue" = true) (k5 : PySem.W.keepIn K (.ref f_5) = true)
    (a6 : PySem.W.nsIn K mainGlobals "waited" = some (some (.ref f_6))) (l6 : K.lookup f_6 = some ⟨oc6, od6, .func (PySem.W.fnOf "waited" "waited" (defArgs s_waited) (defBody s_waited) (defScope s_waited) .none kV6 dc6 pm6 an6 cd6 ct6), sl6⟩) (c6 : PySem.W.codeIn K cd6 "waited" = true) (k6 : PySem.W.keepIn K (.ref f_6) = true)
    (a7 : PySem.W.nsIn K mainGlobals "all_gone" = some (some (.ref f_7))) (l7 : K.lookup f_7 = some ⟨oc7, od7, .func (PySem.W.fnOf "all_gone" "all_gone" (defArgs s_all_gone) (defBody s_all_gone) (defScope s_all_gone) .none kV7 dc7 pm7 an7 cd7 ct7), sl7⟩) (c7 : PySem.W.codeIn K cd7 "all_gone" = true) (k7 : PySem.W.keepIn K (.ref f_7) = true)
    (a8 : PySem.W.nsIn K mainGlobals "_law_same" = some (some (.ref f_8))) (l8 : K.lookup f_8 = some ⟨oc8, od8, .func (PySem.W.fnOf "_law_same" "_law_same" (defArgs s__law_same) (defBody s__law_same) (defScope s__law_same) .none kV8 dc8 pm8 an8 cd8 ct8), sl8⟩) (c8 : PySem.W.codeIn K cd8 "_law_same" = true) (k8 : PySem.W.keepIn K (.ref f_8) = true)
    (a9 : PySem.W.nsIn K mainGlobals "_law_walked_through" = some (some (.ref f_9))) (l9 : K.lookup f_9 = some ⟨oc9, od9, .func (PySem.W.fnOf "_law_walked_through" "_law_walked_through" (defArgs s__law_walked_through) (defBody s__law_walked_through) (defScope s__law_walked_through) .none kV9 dc9 pm9 an9 cd9 ct9), sl9⟩) (c9 : PySem.W.codeIn K cd9 "_law_walked_through" = true) (k9 : PySem.W.keepIn K (.ref f_9) = true)
    (aL : PySem.W.nsIn K mainGlobals "law" = some (some (.ref fL))) (lL : K.lookup fL = some ⟨ocL, odL, .func (PySem.W.fnOf "law" "law" (defArgs s_law) (defBody s_law) (defScope s_law) .none kVL dcL pmL anL cdL ctL), slL⟩) (cL : PySem.W.codeIn K cdL "law" = true) (kL : PySem.W.keepIn K (.ref fL) = true)
    (z_len : PySem.W.nsIn K mainGlobals "len" = some none)
    (z_range : PySem.W.nsIn K mainGlobals "range" = some none)
    (z_tuple : PySem.W.nsIn K mainGlobals "tuple" = some none)
    (z_list : PySem.W.nsIn K mainGlobals "list" = some none)
    (z_int : PySem.W.nsIn K mainGlobals "int" = some none)
    (z_bool : PySem.W.nsIn K mainGlobals "bool" = some none)
    (z_str : PySem.W.nsIn K mainGlobals "str" = some none)
    (z_all : PySem.W.nsIn K mainGlobals "all" = some none)
    (z_any : PySem.W.nsIn K mainGlobals "any" = some none)
    (z_sum : PySem.W.nsIn K mainGlobals "sum" = some none)
    (z_min : PySem.W.nsIn K mainGlobals "min" = some none)
    (z_max : PySem.W.nsIn K mainGlobals "max" = some none)
    (z_abs : PySem.W.nsIn K mainGlobals "abs" = some none)
    (z_sorted : PySem.W.nsIn K mainGlobals "sorted" = some none)
    (z_isinstance : PySem.W.nsIn K mainGlobals "isinstance" = some none)
    (z_enumerate : PySem.W.nsIn K mainGlobals "enumerate" = some none)
    (z_zip : PySem.W.nsIn K mainGlobals "zip" = some none)
    (z_set : PySem.W.nsIn K mainGlobals "set" = some none)
    (z_dict : PySem.W.nsIn K mainGlobals "dict" = some none)
    (z_reversed : PySem.W.nsIn K mainGlobals "reversed" = some none)
    : ∃ fd : FuncData, (∀ (s : Shared) (v : Value), BindsTo s fd ⟨[v], []⟩ [("script", v)]) ∧ ∀ base : Heap, K.In base → base.Ns mainGlobals mg → FnOk l.prog w K mg base CX0 21 fa fd ["script"] (spLaw K) := by
  have e := hfa.symm.trans (PySem.W.mg_of X G aL)
  cases e
  have FL := fun_mk (st := s_law) lL cL kL
  have B : Bt mg := ⟨PySem.W.mg_none_of X G z_len, PySem.W.mg_none_of X G z_range, PySem.W.mg_none_of X G z_tuple, PySem.W.mg_none_of X G z_list, PySem.W.mg_none_of X G z_int, PySem.W.mg_none_of X G z_bool, PySem.W.mg_none_of X G z_str, PySem.W.mg_none_of X G z_all, PySem.W.mg_none_of X G z_any, PySem.W.mg_none_of X G z_sum, PySem.W.mg_none_of X G z_min, PySem.W.mg_none_of X G z_max, PySem.W.mg_none_of X G z_abs, PySem.W.mg_none_of X G z_sorted, PySem.W.mg_none_of X G z_isinstance, PySem.W.mg_none_of X G z_enumerate, PySem.W.mg_none_of X G z_zip, PySem.W.mg_none_of X G z_set, PySem.W.mg_none_of X G z_dict, PySem.W.mg_none_of X G z_reversed⟩
  have T0 : Ft K mg "_law_box" s__law_box ["script"] := ft_mk X G a0 l0 c0 k0 fun _ _ _ _ _ _ us hl => match us, hl with | [_], _ => rfl
  have T1 : Ft K mg "_law_load" s__law_load ["box"] := ft_mk X G a1 l1 c1 k1 fun _ _ _ _ _ _ us hl => match us, hl with | [_], _ => rfl
  have T2 : Ft K mg "_law_draw" s__law_draw ["box", "many"] := ft_mk X G a2 l2 c2 k2 fun _ _ _ _ _ _ us hl => match us, hl with | [_, _], _ => rfl
  have T3 : Ft K mg "gone" s_gone ["arrivals", "wide"] := ft_mk X G a3 l3 c3 k3 fun _ _ _ _ _ _ us hl => match us, hl with | [_, _], _ => rfl
  have T4 : Ft K mg "left_waiting" s_left_waiting ["arrivals", "wide"] := ft_mk X G a4 l4 c4 k4 fun _ _ _ _ _ _ us hl => match us, hl with | [_, _], _ => rfl
  have T5 : Ft K mg "longest_queue" s_longest_queue ["arrivals", "wide"] := ft_mk X G a5 l5 c5 k5 fun _ _ _ _ _ _ us hl => match us, hl with | [_, _], _ => rfl
  have T6 : Ft K mg "waited" s_waited ["arrivals", "wide"] := ft_mk X G a6 l6 c6 k6 fun _ _ _ _ _ _ us hl => match us, hl with | [_, _], _ => rfl
  have T7 : Ft K mg "all_gone" s_all_gone ["arrivals", "wide"] := ft_mk X G a7 l7 c7 k7 fun _ _ _ _ _ _ us hl => match us, hl with | [_, _], _ => rfl
  have T8 : Ft K mg "_law_same" s__law_same ["a", "b"] := ft_mk X G a8 l8 c8 k8 fun _ _ _ _ _ _ us hl => match us, hl with | [_, _], _ => rfl
  have T9 : Ft K mg "_law_walked_through" s__law_walked_through ["arrivals", "wide"] := ft_mk X G a9 l9 c9 k9 fun _ _ _ _ _ _ us hl => match us, hl with | [_, _], _ => rfl
  exact ⟨_, fun s v => .of_eq rfl, fun base _ _ => all_ok FL B T0 T1 T2 T3 T4 T5 T6 T7 T8 T9⟩
end Fl
open PySem PySem.W PyProof.Rows
set_option maxHeartbeats 0 in
theorem PySem.Challenge.cw_roomsemptied_k45_whole_queues_holds : PySem.Challenge.rw_roomsemptied_k45_whole_queues.Holds := by
  w_on; o_law; k_head; (case hw => w_witness2)
  k_fill
  refine L2.walk_of (l := PySem.Challenge.rw_roomsemptied_k45_whole_queues) (n := 63) (k := 21) (x := "script") (CX := fun _ => L2.CX0) (sp := fun w => Fl.spLaw _) rfl (by decide) rfl ⟨rfl, by decide, by decide⟩ (fun w h Y => PySem.W.kIn_of Y) ?F (fun _ _ a ns hl _ hS => ⟨a, ns, rfl, hS, hl, fun _ => rfl⟩) (fun _ _ _ _ _ h => h)
  case F =>
    intro w mg fa h KX G hmg
    refine' Fl.all_mk KX G hmg ?a0 ?l0 ?c0 ?k0 ?a1 ?l1 ?c1 ?k1 ?a2 ?l2 ?c2 ?k2 ?a3 ?l3 ?c3 ?k3 ?a4 ?l4 ?c4 ?k4 ?a5 ?l5 ?c5 ?k5 ?a6 ?l6 ?c6 ?k6 ?a7 ?l7 ?c7 ?k7 ?a8 ?l8 ?c8 ?k8 ?a9 ?l9 ?c9 ?k9 ?aL ?lL ?cL ?kL ?z_len ?z_range ?z_tuple ?z_list ?z_int ?z_bool ?z_str ?z_all ?z_any ?z_sum ?z_min ?z_max ?z_abs ?z_sorted ?z_isinstance ?z_enumerate ?z_zip ?z_set ?z_dict ?z_reversed
    (case a0 => k_is); (case l0 => k_is); (case c0 => k_is); (case k0 => k_is); (case a1 => k_is); (case l1 => k_is); (case c1 => k_is); (case k1 => k_is)
    (case a2 => k_is); (case l2 => k_is); (case c2 => k_is); (case k2 => k_is); (case a3 => k_is); (case l3 => k_is); (case c3 => k_is); (case k3 => k_is)
    (case a4 => k_is); (case l4 => k_is); (case c4 => k_is); (case k4 => k_is); (case a5 => k_is); (case l5 => k_is); (case c5 => k_is); (case k5 => k_is)
    (case a6 => k_is); (case l6 => k_is); (case c6 => k_is); (case k6 => k_is); (case a7 => k_is); (case l7 => k_is); (case c7 => k_is); (case k7 => k_is)
    (case a8 => k_is); (case l8 => k_is); (case c8 => k_is); (case k8 => k_is); (case a9 => k_is); (case l9 => k_is); (case c9 => k_is); (case k9 => k_is)
    (case aL => k_is); (case lL => k_is); (case cL => k_is); (case kL => k_is); (case z_len => k_is); (case z_range => k_is); (case z_tuple => k_is); (case z_list => k_is)
    (case z_int => k_is); (case z_bool => k_is); (case z_str => k_is); (case z_all => k_is); (case z_any => k_is); (case z_sum => k_is); (case z_min => k_is); (case z_max => k_is)
    (case z_abs => k_is); (case z_sorted => k_is); (case z_isinstance => k_is); (case z_enumerate => k_is); (case z_zip => k_is); (case z_set => k_is); (case z_dict => k_is); (case z_reversed => k_is)
