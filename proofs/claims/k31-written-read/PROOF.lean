import PyProof.Rows.All
import Wide.All
import OpenK.AllK
import Wide.FinOn
import HandS.ForMost
import HandS.Wide
import KE.GoesEnum
import HandS.TupAny
import HandS.IsInst
import HandS.Style
import HandS.Deep
import PySem.Challenge.RW_trayring_k31_whole_written_and_read
set_option Elab.async false
set_option linter.all false
set_option maxRecDepth 100000
set_option maxHeartbeats 4000000
namespace Z
open PySem PySem.Spec PyProof.Rows L2

/-! ### data: what a value is, without addresses -/
inductive Dt where
  | non | bl (b : Bool) | int (i : Int) | str (l : List Nat) | tup (xs : List Dt) | lst (xs : List Dt) | frl (xs : List Dt)
  | dct (ks : List (List Key)) (xs : List Dt) | ty (n : String) | adr (a : Addr)

mutual
/-- in the frozen heap B the value is d -/
def Is (K : PySem.W.Frag) (B : Hp) : Dt → V → Prop
  | .non, v => v = V.non
  | .bl b, v => v = V.bl b
  | .int i, v => v = V.int i
  | .str l, v => v = V.str ⟨l.toArray⟩
  | .tup ds, v => ∃ a vs, v = V.ref a ∧ B a = some (.tup vs) ∧ IsL K B ds vs
  | .lst ds, v => ∃ a vs, v = V.ref a ∧ B a = some (.lst vs) ∧ IsL K B ds vs
  | .frl ds, v => ∃ a vs, v = V.ref a ∧ SqL K B a vs ∧ IsL K B ds vs
  | .dct ks ds, v => ∃ a o vs, v = V.ref a ∧ B a = some (.frz o (.dT (ks.zip vs))) ∧ ks.length = ds.length ∧ IsL K B ds vs
  | .ty n, v => v = V.ty n
  | .adr a, v => v = V.ref a
def IsL (K : PySem.W.Frag) (B : Hp) : List Dt → List V → Prop
  | [], vs => vs = []
  | d :: ds, vs => ∃ v r, vs = v :: r ∧ Is K B d v ∧ IsL K B ds r
end

section
variable {K : PySem.W.Frag} {B B' : Hp}
mutual
theorem Is.mono (e : Same B B') : ∀ {d : Dt} {v : V}, Is K B d v → Is K B' d v
  | .non, _, h => h
  | .bl _, _, h => h
  | .int _, _, h => h
  | .str _, _, h => h
  | .tup ds, v, ⟨a, vs, h1, h2, h3⟩ => ⟨a, vs, h1, e _ _ h2, IsL.mono e h3⟩
  | .lst ds, v, ⟨a, vs, h1, h2, h3⟩ => ⟨a, vs, h1, e _ _ h2, IsL.mono e h3⟩
  | .frl ds, v, ⟨a, vs, h1, h2, h3⟩ => ⟨a, vs, h1, e.seq h2, IsL.mono e h3⟩
  | .dct ks ds, v, ⟨a, o, vs, h1, h2, h3, h4⟩ => ⟨a, o, vs, h1, e _ _ h2, h3, IsL.mono e h4⟩
  | .ty _, _, h => h
  | .adr _, _, h => h
theorem IsL.mono (e : Same B B') : ∀ {ds : List Dt} {vs : List V}, IsL K B ds vs → IsL K B' ds vs
  | [], _, h => h
  | d :: ds, vs, ⟨v, r, h1, h2, h3⟩ => ⟨v, r, h1, Is.mono e h2, IsL.mono e h3⟩
end
theorem IsL.length : ∀ {ds : List Dt} {vs : List V}, IsL K B ds vs → vs.length = ds.length
  | [], _, h => by
    have h : _ = [] := h
    rw [h]
    rfl
  | d :: ds, vs, ⟨v, r, h1, _, h3⟩ => by rw [h1, List.length_cons, List.length_cons, IsL.length h3]
theorem IsL.get : ∀ {ds : List Dt} {vs : List V} {i : Nat} {d : Dt}, IsL K B ds vs → ds[i]? = some d → ∃ v, vs[i]? = some v ∧ Is K B d v
  | [], _, _, _, _, e => by simp at e
  | x :: ds, vs, 0, d, ⟨v, r, h1, h2, _⟩, e => by
    simp at e
    subst e
    subst h1
    exact ⟨v, rfl, h2⟩
  | x :: ds, vs, i + 1, d, ⟨v, r, h1, _, h3⟩, e => by
    subst h1
    obtain ⟨u, e1, e2⟩ := IsL.get (i := i) h3 (by simpa using e)
    exact ⟨u, by simpa using e1, e2⟩
theorem IsL.append : ∀ {ds es : List Dt} {vs us : List V}, IsL K B ds vs → IsL K B es us → IsL K B (ds ++ es) (vs ++ us)
  | [], _, _, _, h, h' => by
    have h : _ = [] := h
    subst h
    exact h'
  | d :: ds, es, vs, us, ⟨v, r, h1, h2, h3⟩, h' => by
    subst h1
    exact ⟨v, r ++ us, rfl, h2, IsL.append h3 h'⟩
theorem IsL.one {d : Dt} {v : V} (h : Is K B d v) : IsL K B [d] [v] := ⟨v, [], rfl, h, rfl⟩
theorem IsL.set : ∀ {ds : List Dt} {vs : List V} {d : Dt} {v : V} (i : Nat), IsL K B ds vs → Is K B d v → IsL K B (ds.set i d) (vs.set i v)
  | [], vs, _, _, _, h, _ => by
    have h : _ = [] := h
    subst h
    exact rfl
  | x :: ds, _, d, v, 0, ⟨_, r, rfl, _, h3⟩, h => ⟨v, r, rfl, h, h3⟩
  | x :: ds, _, d, v, i + 1, ⟨u, r, rfl, h2, h3⟩, h => ⟨u, r.set i v, rfl, h2, IsL.set i h3 h⟩
theorem IsL.drop : ∀ {ds : List Dt} {vs : List V} (n : Nat), IsL K B ds vs → IsL K B (ds.drop n) (vs.drop n)
  | _, _, 0, h => h
  | [], vs, n + 1, h => by
    have h : _ = [] := h
    subst h
    exact rfl
  | d :: ds, _, n + 1, ⟨_, _, rfl, _, h3⟩ => IsL.drop n h3
theorem IsL.take : ∀ {ds : List Dt} {vs : List V} (n : Nat), IsL K B ds vs → IsL K B (ds.take n) (vs.take n)
  | _, _, 0, h => rfl
  | [], vs, n + 1, h => by
    have h : _ = [] := h
    subst h
    exact rfl
  | d :: ds, _, n + 1, ⟨v, r, rfl, h2, h3⟩ => ⟨v, r.take n, rfl, h2, IsL.take n h3⟩
theorem IsL.reverse : ∀ {ds : List Dt} {vs : List V}, IsL K B ds vs → IsL K B ds.reverse vs.reverse
  | [], vs, h => by
    have h : _ = [] := h
    subst h
    exact rfl
  | d :: ds, _, ⟨v, r, rfl, h2, h3⟩ => by
    rw [List.reverse_cons, List.reverse_cons]
    exact IsL.append (IsL.reverse h3) (IsL.one h2)
theorem IsL.ints : ∀ {ns : List Int} {vs : List V}, IsL K B (ns.map Dt.int) vs → vs = ns.map V.int
  | [], _, h => h
  | n :: ns, _, ⟨_, _, rfl, h2, h3⟩ => by
    have h2 : _ = V.int n := h2
    rw [h2, IsL.ints h3]
    rfl
theorem IsL.of_ints : ∀ {ns : List Int}, IsL K B (ns.map Dt.int) (ns.map V.int)
  | [] => rfl
  | n :: ns => ⟨V.int n, _, rfl, rfl, IsL.of_ints⟩
theorem IsL.strs : ∀ {ns : List (List Nat)} {vs : List V}, IsL K B (ns.map Dt.str) vs → vs = (ns.map fun l => (⟨l.toArray⟩ : Str)).map V.str
  | [], _, h => h
  | n :: ns, _, ⟨_, _, rfl, h2, h3⟩ => by
    have h2 : _ = V.str ⟨n.toArray⟩ := h2
    rw [h2, IsL.strs h3]
    rfl
theorem IsL.of_strs : ∀ {ns : List (List Nat)}, IsL K B (ns.map Dt.str) ((ns.map fun l => (⟨l.toArray⟩ : Str)).map V.str)
  | [] => rfl
  | n :: ns => ⟨_, _, rfl, rfl, IsL.of_strs⟩
end

/-! ### the slots -/
abbrev DS := List (Option Dt)
def Sl (K : PySem.W.Frag) (B : Hp) (ds : DS) (σ : L2.St) : Prop := σ.length = ds.length ∧ ∀ (i : Nat) (d : Dt), ds[i]? = some (some d) → ∃ v, σ[i]? = some (some v) ∧ Is K B d v
section
variable {K : PySem.W.Frag} {B B' : Hp} {ds : DS} {σ : L2.St}
theorem Sl.mono (e : Same B B') (h : Sl K B ds σ) : Sl K B' ds σ := ⟨h.1, fun i d q => by
  obtain ⟨v, e1, e2⟩ := h.2 i d q
  exact ⟨v, e1, e2.mono e⟩⟩
theorem Sl.set {d : Dt} {v : V} (i : Nat) (h : Sl K B ds σ) (hd : Is K B d v) : Sl K B (ds.set i (some d)) (σ.set i (some v)) := by
  refine ⟨by rw [List.length_set, List.length_set, h.1], fun j x q => ?_⟩
  by_cases hj : i = j
  · subst hj
    by_cases hl : i < ds.length
    · rw [List.getElem?_set_self hl] at q
      cases q
      exact ⟨v, by rw [List.getElem?_set_self (by rw [h.1]; exact hl)], hd⟩
    · rw [List.getElem?_eq_none (by rw [List.length_set]; omega)] at q
      cases q
  · rw [List.getElem?_set_ne hj] at q
    obtain ⟨u, e1, e2⟩ := h.2 j x q
    exact ⟨u, by rw [List.getElem?_set_ne hj]; exact e1, e2⟩
/-- ds2 knows less than ds -/
def Fg (ds ds2 : DS) : Prop := ds.length = ds2.length ∧ ∀ (i : Nat) (d : Dt), ds2[i]? = some (some d) → ds[i]? = some (some d)
theorem Fg.refl (ds : DS) : Fg ds ds := ⟨rfl, fun _ _ h => h⟩
theorem Fg.nil : Fg [] [] := Fg.refl []
theorem Fg.keep {o : Option Dt} {l l2 : DS} (h : Fg l l2) : Fg (o :: l) (o :: l2) := ⟨by rw [List.length_cons, List.length_cons, h.1], fun i d e => by
  cases i with
  | zero => exact e
  | succ i => exact h.2 i d e⟩
theorem Fg.drop {o : Option Dt} {l l2 : DS} (h : Fg l l2) : Fg (o :: l) (none :: l2) := ⟨by rw [List.length_cons, List.length_cons, h.1], fun i d e => by
  cases i with
  | zero => simp at e
  | succ i => exact h.2 i d e⟩
theorem Sl.fg {ds2 : DS} (h : Sl K B ds σ) (f : Fg ds ds2) : Sl K B ds2 σ := ⟨h.1.trans f.1, fun i d e => h.2 i d (f.2 i d e)⟩
end

/-! ### what may change: the objects of L, one apart from another -/
inductive MO where
  | lst (xs : List Dt) | dct (ks : List (List Key)) (xs : List Dt) | ins (C : Addr) (ns : List Str) (xs : List Dt)
abbrev MS := List (Addr × MO)
def Rep (K : PySem.W.Frag) (B : Hp) : MO → HO → Prop
  | .lst ds, o => ∃ vs, o = .lst vs ∧ IsL K B ds vs
  | .dct ks ds, o => ∃ vs, o = .dT (ks.zip vs) ∧ ks.length = ds.length ∧ IsL K B ds vs
  | .ins C ns ds, o => ∃ dx vs, o = .ins C dx (ns.zip vs) ∧ ns.length = ds.length ∧ IsL K B ds vs
structure Hs (K : PySem.W.Frag) (B : Hp) (L : MS) (H : Hp) : Prop where
  sub : Same B H
  own : ∀ a m, (a, m) ∈ L → B a = none ∧ ∃ o, H a = some o ∧ Rep K B m o
  nd : (L.map (·.1)).Nodup
section
variable {K : PySem.W.Frag} {B B' H : Hp} {L : MS}
theorem Rep.mono (e : Same B B') {m : MO} {o : HO} (h : Rep K B m o) : Rep K B' m o := by
  cases m with
  | lst ds => obtain ⟨vs, h1, h2⟩ := h; exact ⟨vs, h1, h2.mono e⟩
  | dct ks ds => obtain ⟨vs, h1, h2, h3⟩ := h; exact ⟨vs, h1, h2, h3.mono e⟩
  | ins C ns ds => obtain ⟨dx, vs, h1, h2, h3⟩ := h; exact ⟨dx, vs, h1, h2, h3.mono e⟩
/-- a new frozen object -/
theorem Hs.new {p : Addr} {o : HO} (h : Hs K B L H) (hp : H p = none) : Same B (upd B p o) ∧ Hs K (upd B p o) L (upd H p o) := by
  have hb : B p = none := h.sub.free hp
  have sb : Same B (upd B p o) := fun b x e => by rw [upd_ne (ne_of_none e hb)]; exact e
  refine ⟨sb, ⟨fun b x e => ?_, fun a m ha => ?_, h.nd⟩⟩
  · by_cases hbp : b = p
    · subst hbp
      rw [upd_same] at e ⊢
      exact e
    · rw [upd_ne hbp] at e ⊢
      exact h.sub b x e
  · obtain ⟨h1, u, h2, h3⟩ := h.own a m ha
    have ne : a ≠ p := ne_of_none h2 hp
    exact ⟨by rw [upd_ne ne]; exact h1, u, by rw [upd_ne ne]; exact h2, h3.mono sb⟩
/-- a new object that may change -/
theorem Hs.newM {p : Addr} {o : HO} {m : MO} (h : Hs K B L H) (hp : H p = none) (r : Rep K B m o) : Hs K B ((p, m) :: L) (upd H p o) := by
  have hb : B p = none := h.sub.free hp
  refine ⟨fun b x e => ?_, fun a x ha => ?_, ?_⟩
  · rw [upd_ne (ne_of_none e hb)]
    exact h.sub b x e
  · rcases List.mem_cons.mp ha with e | ha
    · cases e
      exact ⟨hb, o, upd_same, r⟩
    · obtain ⟨h1, u, h2, h3⟩ := h.own a x ha
      have ne : a ≠ p := ne_of_none h2 hp
      exact ⟨h1, u, by rw [upd_ne ne]; exact h2, h3⟩
  · rw [List.map_cons]
    refine List.nodup_cons.mpr ⟨fun hm => ?_, h.nd⟩
    obtain ⟨⟨a, x⟩, hq, e⟩ := List.mem_map.mp hm
    obtain ⟨_, u, h2, _⟩ := h.own a x hq
    have e : a = p := e
    rw [e, hp] at h2
    cases h2
end
/-- at a stands m -/
abbrev ML (L : MS) (a : Addr) (m : MO) : Prop := (a, m) ∈ L
/-- L2 is L with m at a -/
inductive MSt : MS → Addr → MO → MS → Prop where
  | hd {a : Addr} {m m' : MO} {L : MS} : MSt ((a, m) :: L) a m' ((a, m') :: L)
  | tl {p : Addr × MO} {a : Addr} {m' : MO} {L L2 : MS} : MSt L a m' L2 → MSt (p :: L) a m' (p :: L2)
theorem ML.hd {a : Addr} {m : MO} {L : MS} : ML ((a, m) :: L) a m := List.mem_cons_self
theorem ML.tl {p : Addr × MO} {a : Addr} {m : MO} {L : MS} (h : ML L a m) : ML (p :: L) a m := List.mem_cons_of_mem _ h
theorem MSt.mem {L L2 : MS} {a : Addr} {m : MO} (h : MSt L a m L2) : ∃ m0, ML L a m0 := by
  induction h with
  | hd => exact ⟨_, ML.hd⟩
  | tl _ ih => obtain ⟨m0, q⟩ := ih; exact ⟨m0, q.tl⟩
theorem MSt.keys {L L2 : MS} {a : Addr} {m : MO} (h : MSt L a m L2) : L2.map (·.1) = L.map (·.1) := by
  induction h with
  | hd => rfl
  | tl _ ih => rw [List.map_cons, List.map_cons, ih]
theorem MSt.cases {L L2 : MS} {a : Addr} {m : MO} (h : MSt L a m L2) : ∀ b x, (b, x) ∈ L2 → (b = a ∧ x = m) ∨ (b, x) ∈ L := by
  induction h with
  | hd =>
    intro b x hb
    rcases List.mem_cons.mp hb with e | hb
    · cases e; exact .inl ⟨rfl, rfl⟩
    · exact .inr (List.mem_cons_of_mem _ hb)
  | tl _ ih =>
    intro b x hb
    rcases List.mem_cons.mp hb with e | hb
    · rw [e]; exact .inr List.mem_cons_self
    · rcases ih b x hb with q | q
      · exact .inl q
      · exact .inr (List.mem_cons_of_mem _ q)
theorem MSt.there {L L2 : MS} {a : Addr} {m : MO} (h : MSt L a m L2) : ML L2 a m := by
  induction h with
  | hd => exact ML.hd
  | tl _ ih => exact ih.tl
theorem MSt.make {L : MS} {a : Addr} {m m' : MO} : ML L a m → ∃ L2, MSt L a m' L2 := by
  induction L with
  | nil => intro h; cases h
  | cons p L ih =>
    intro h
    rcases List.mem_cons.mp h with e | h
    · subst e; exact ⟨_, .hd⟩
    · obtain ⟨L2, q⟩ := ih h; exact ⟨_, q.tl⟩
theorem one_val {α β : Type} {a : α} {x y : β} : ∀ {l : List (α × β)}, (l.map (·.1)).Nodup → (a, x) ∈ l → (a, y) ∈ l → x = y
  | [], _, h, _ => by cases h
  | p :: l, nd, h, h' => by
    rw [List.map_cons] at nd
    obtain ⟨n1, n2⟩ := List.nodup_cons.mp nd
    rcases List.mem_cons.mp h with e | h
    · rcases List.mem_cons.mp h' with e' | h'
      · rw [← e] at e'
        exact (Prod.mk.inj e').2.symm
      · exact absurd (List.mem_map.mpr ⟨_, h', by rw [← e]⟩) n1
    · rcases List.mem_cons.mp h' with e' | h'
      · exact absurd (List.mem_map.mpr ⟨_, h, by rw [← e']⟩) n1
      · exact one_val n2 h h'
section
variable {K : PySem.W.Frag} {B B' H : Hp} {L L2 : MS}
/-- an object of L is changed -/
theorem Hs.put {a : Addr} {m : MO} {o : HO} (h : Hs K B L H) (s : MSt L a m L2) (r : Rep K B m o) : Hs K B L2 (upd H a o) := by
  obtain ⟨m0, hm⟩ := s.mem
  obtain ⟨hb, u, hu, _⟩ := h.own a m0 hm
  refine ⟨fun b x e => ?_, fun b x hq => ?_, by rw [s.keys]; exact h.nd⟩
  · rw [upd_ne (ne_of_none e hb)]
    exact h.sub b x e
  · by_cases hba : b = a
    · subst hba
      have e : x = m := by
        have nd : (L2.map (·.1)).Nodup := by rw [s.keys]; exact h.nd
        exact one_val nd hq s.there
      subst e
      exact ⟨hb, o, upd_same, r⟩
    · rcases s.cases b x hq with ⟨e, _⟩ | q
      · exact absurd e hba
      · obtain ⟨h1, v, h2, h3⟩ := h.own b x q
        exact ⟨h1, v, by rw [upd_ne hba]; exact h2, h3⟩
/-- L2 is L without a -/
inductive MDel : MS → Addr → MO → MS → Prop where
  | hd {a : Addr} {m : MO} {L : MS} : MDel ((a, m) :: L) a m L
  | tl {p : Addr × MO} {a : Addr} {m : MO} {L L2 : MS} : MDel L a m L2 → MDel (p :: L) a m (p :: L2)
theorem MDel.mem {a : Addr} {m : MO} (h : MDel L a m L2) : ML L a m := by
  induction h with
  | hd => exact ML.hd
  | tl _ ih => exact ih.tl
theorem MDel.sub {a : Addr} {m : MO} (h : MDel L a m L2) : ∀ p, p ∈ L2 → p ∈ L := by
  induction h with
  | hd => exact fun p hp => List.mem_cons_of_mem _ hp
  | tl _ ih =>
    intro p hp
    rcases List.mem_cons.mp hp with e | hp
    · rw [e]; exact List.mem_cons_self
    · exact List.mem_cons_of_mem _ (ih p hp)
theorem MDel.nd {a : Addr} {m : MO} (h : MDel L a m L2) (nd : (L.map (·.1)).Nodup) : (L2.map (·.1)).Nodup ∧ a ∉ L2.map (·.1) := by
  induction h with
  | hd =>
    rw [List.map_cons] at nd
    exact ⟨(List.nodup_cons.mp nd).2, (List.nodup_cons.mp nd).1⟩
  | @tl p a m L L2 hd ih =>
    rw [List.map_cons] at nd
    obtain ⟨n1, n2⟩ := List.nodup_cons.mp nd
    obtain ⟨i1, i2⟩ := ih n2
    rw [List.map_cons]
    refine ⟨List.nodup_cons.mpr ⟨fun hm => n1 ?_, i1⟩, fun hm => ?_⟩
    · obtain ⟨q, hq, e⟩ := List.mem_map.mp hm
      exact List.mem_map.mpr ⟨q, hd.sub q hq, e⟩
    · rcases List.mem_cons.mp hm with e | hm
      · exact n1 (List.mem_map.mpr ⟨(a, m), hd.mem, e⟩)
      · exact i2 hm
/-- a list of L is frozen -/
theorem Hs.freeze {a : Addr} {m : MO} {o : HO} (h : Hs K B L H) (s : MDel L a m L2) (ho : H a = some o) : Same B (upd B a o) ∧ Hs K (upd B a o) L2 H := by
  obtain ⟨hb, _⟩ := h.own a m s.mem
  have sb : Same B (upd B a o) := fun b x e => by rw [upd_ne (ne_of_none e hb)]; exact e
  obtain ⟨n1, n2⟩ := s.nd h.nd
  refine ⟨sb, ⟨fun b x e => ?_, fun b x hq => ?_, n1⟩⟩
  · by_cases hba : b = a
    · subst hba
      rw [upd_same] at e
      rw [ho]
      exact e
    · rw [upd_ne hba] at e
      exact h.sub b x e
  · have ne : b ≠ a := fun e => n2 (List.mem_map.mpr ⟨(b, x), hq, e⟩)
    obtain ⟨h1, u, h2, h3⟩ := h.own b x (s.sub _ hq)
    exact ⟨by rw [upd_ne ne]; exact h1, u, h2, h3.mono sb⟩
theorem Hs.lst {a : Addr} {xs : List Dt} (h : Hs K B L H) (m : ML L a (.lst xs)) : ∃ vs, H a = some (.lst vs) ∧ IsL K B xs vs := by
  obtain ⟨_, o, h2, vs, e, h3⟩ := h.own a _ m
  exact ⟨vs, by rw [h2, e], h3⟩
end
end Z
namespace Z
open PySem PySem.Spec PyProof.Rows L2

/-! ### the weakest readings -/
section
variable (X : Cx)
def EW (e : Expr) : TE := fun σ H Q => ∀ (pins : List (Addr × Obj)) (s : Shared), Inv X pins σ H s → wpAny (model X.prog X.w) X.A (eval e X.env) (EP X pins σ Q) X.xe s
def TW (e : Expr) : TT := fun σ H Q => ∀ (pins : List (Addr × Obj)) (s : Shared), Inv X pins σ H s → wpAny (model X.prog X.w) X.A (isTrue e X.env (eval e X.env)) (TP X pins σ Q) X.xe s
def TWW (e : Expr) : TT := fun σ H Q => ∀ (whole : Sem Value) (pins : List (Addr × Obj)) (s : Shared), Inv X pins σ H s → wpAny (model X.prog X.w) X.A (isTrue e X.env whole) (TP X pins σ Q) X.xe s
def TSW (ifs : List Expr) : TT := fun σ H Q => ∀ (pins : List (Addr × Obj)) (s : Shared), Inv X pins σ H s →
    wpAny (model X.prog X.w) X.A (forIn ifs true fun c r => if r = true then do let ok ← isTrue c X.env (eval c X.env); pure (ForInStep.yield ok) else pure (ForInStep.yield r)) (TP X pins σ Q) X.xe s
def AW (es : List Expr) : TA := fun σ H Q => ∀ (pos : Pos) (pins : List (Addr × Obj)) (s : Shared), Inv X pins σ H s → wpAny (model X.prog X.w) X.A (spliced (backTo pos (starEach es X.env))) (AP X pins σ Q) X.xe s
def SW (st : Stmt) : TS := fun D σ H => ∀ (pins : List (Addr × Obj)) (s : Shared), Inv X pins σ H s → wpAny (model X.prog X.w) X.A (exec st X.env) (SP X pins D) X.xe s
def SSW (sts : List Stmt) : TS := fun D σ H => ∀ (pins : List (Addr × Obj)) (s : Shared), Inv X pins σ H s → wpAny (model X.prog X.w) X.A (execs sts X.env) (SP X pins D) X.xe s
def GW (tg : Expr) : TG := fun v σ H Q => ∀ (pins : List (Addr × Obj)) (s : Shared) (u : Value), Inv X pins σ H s → RelV v u →
    wpAny (model X.prog X.w) X.A (assign tg X.env u) (fun _ s' => ∃ σ' H', Inv X pins σ' H' s' ∧ Q σ' H') X.xe s
def IW (tg iter : Expr) : TI := fun σ H R => ∀ (pins : List (Addr × Obj)) (s : Shared), Inv X pins σ H s →
    wpAny (model X.prog X.w) X.A (eval iter X.env) (fun v s1 => wpAny (model X.prog X.w) X.A (pyIter v) (PIE X pins σ tg R) X.xe s1) X.xe s
end
section
variable {X : Cx} {e : Expr} {es : List Expr} {st : Stmt} {sts : List Stmt}
theorem pe_w : PE X e (EW X e) := ⟨fun pins s _ _ _ I h => h pins s I⟩
theorem pt_w : PT X e (TW X e) := ⟨fun pins s _ _ _ I h => h pins s I⟩
theorem pw_w : PW X e (TWW X e) := ⟨fun wh pins s _ _ _ I h => h wh pins s I⟩
theorem pts_w : PTs X es (TSW X es) := ⟨fun pins s _ _ _ I h => h pins s I⟩
theorem pa_w : PA X es (AW X es) := ⟨fun pos pins s _ _ _ I h => h pos pins s I⟩
theorem ps_w : PS X st (SW X st) := ⟨fun pins s _ _ _ I h => h pins s I⟩
theorem pss_w : PSs X sts (SSW X sts) := ⟨fun pins s _ _ _ I h => h pins s I⟩
theorem pg_w : PG X e (GW X e) := ⟨fun pins s _ _ _ u _ I r h => h pins s u I r⟩
theorem pi_w {tg : Expr} : PI X tg e (IW X tg e) := ⟨fun pins s _ _ _ I h => h pins s I⟩
theorem PE.to {t : TE} (h : PE X e t) {σ : L2.St} {H : Hp} {Q : VK} (q : t σ H Q) : EW X e σ H Q := fun pins s I => h.run pins s σ H Q I q
theorem PT.to {t : TT} (h : PT X e t) {σ : L2.St} {H : Hp} {Q : Bool → Hp → Prop} (q : t σ H Q) : TW X e σ H Q := fun pins s I => h.run pins s σ H Q I q
theorem PW.to {t : TT} (h : PW X e t) {σ : L2.St} {H : Hp} {Q : Bool → Hp → Prop} (q : t σ H Q) : TWW X e σ H Q := fun wh pins s I => h.run wh pins s σ H Q I q
theorem PTs.to {t : TT} (h : PTs X es t) {σ : L2.St} {H : Hp} {Q : Bool → Hp → Prop} (q : t σ H Q) : TSW X es σ H Q := fun pins s I => h.run pins s σ H Q I q
theorem PA.to {t : TA} (h : PA X es t) {σ : L2.St} {H : Hp} {Q : List V → Hp → Prop} (q : t σ H Q) : AW X es σ H Q := fun pos pins s I => h.run pos pins s σ H Q I q
theorem PS.to {t : TS} (h : PS X st t) {D : Ends} {σ : L2.St} {H : Hp} (q : t D σ H) : SW X st D σ H := fun pins s I => h.run pins s σ H D I q
theorem PSs.to {t : TS} (h : PSs X sts t) {D : Ends} {σ : L2.St} {H : Hp} (q : t D σ H) : SSW X sts D σ H := fun pins s I => h.run pins s σ H D I q
theorem PG.to {t : TG} (h : PG X e t) {v : V} {σ : L2.St} {H : Hp} {Q : L2.St → Hp → Prop} (q : t v σ H Q) : GW X e v σ H Q := fun pins s u I r => h.run pins s σ H v u Q I r q
theorem PI.to {tg : Expr} {t : TI} (h : PI X tg e t) {σ : L2.St} {H : Hp} {R : It → Hp → Prop} (q : t σ H R) : IW X tg e σ H R := fun pins s I => h.run pins s σ H R I q
end

/-! ### what comes of an expression, by data -/
abbrev DK := Dt → MS → Prop
structure DP (X : Cx) (e : Expr) (ds : DS) (L : MS) (P : DK) : Prop where
  run : ∀ σ H B, Sl X.K B ds σ → Hs X.K B L H → ∀ Q : VK,
  (∀ d L' v B2 H2, P d L' → Same B B2 → Hs X.K B2 L' H2 → Is X.K B2 d v → Q v H2) → EW X e σ H Q
structure DT (X : Cx) (e : Expr) (ds : DS) (L : MS) (P : Bool → MS → Prop) : Prop where
  run : ∀ σ H B, Sl X.K B ds σ → Hs X.K B L H → ∀ Q : Bool → Hp → Prop,
  (∀ b L' B2 H2, P b L' → Same B B2 → Hs X.K B2 L' H2 → Q b H2) → TW X e σ H Q
structure DTW (X : Cx) (e : Expr) (ds : DS) (L : MS) (P : Bool → MS → Prop) : Prop where
  run : ∀ σ H B, Sl X.K B ds σ → Hs X.K B L H → ∀ Q : Bool → Hp → Prop,
  (∀ b L' B2 H2, P b L' → Same B B2 → Hs X.K B2 L' H2 → Q b H2) → TWW X e σ H Q
structure DTs (X : Cx) (es : List Expr) (ds : DS) (L : MS) (P : Bool → MS → Prop) : Prop where
  run : ∀ σ H B, Sl X.K B ds σ → Hs X.K B L H → ∀ Q : Bool → Hp → Prop,
  (∀ b L' B2 H2, P b L' → Same B B2 → Hs X.K B2 L' H2 → Q b H2) → TSW X es σ H Q
structure DA (X : Cx) (es : List Expr) (ds : DS) (L : MS) (P : List Dt → MS → Prop) : Prop where
  run : ∀ σ H B, Sl X.K B ds σ → Hs X.K B L H → ∀ Q : List V → Hp → Prop,
  (∀ xs L' vs B2 H2, P xs L' → Same B B2 → Hs X.K B2 L' H2 → IsL X.K B2 xs vs → Q vs H2) → AW X es σ H Q
/-- what is wanted behind a statement -/
structure DEnds where
  nx : DS → MS → Prop
  rt : DK
  bk : DS → MS → Prop := fun _ _ => False
  ct : DS → MS → Prop := fun _ _ => False
structure Meets (K : PySem.W.Frag) (B : Hp) (D : DEnds) (E : Ends) : Prop where
  nx : ∀ ds L σ B2 H2, D.nx ds L → Same B B2 → Sl K B2 ds σ → Hs K B2 L H2 → E.nx σ H2
  rt : ∀ d L v B2 H2, D.rt d L → Same B B2 → Hs K B2 L H2 → Is K B2 d v → E.rt v H2
  bk : ∀ ds L σ B2 H2, D.bk ds L → Same B B2 → Sl K B2 ds σ → Hs K B2 L H2 → E.bk σ H2
  ct : ∀ ds L σ B2 H2, D.ct ds L → Same B B2 → Sl K B2 ds σ → Hs K B2 L H2 → E.ct σ H2
theorem Meets.mono {K : PySem.W.Frag} {B B' : Hp} {D : DEnds} {E : Ends} (m : Meets K B D E) (e : Same B B') : Meets K B' D E :=
  ⟨fun ds L σ B2 H2 a b => m.nx ds L σ B2 H2 a (e.trans b), fun d L v B2 H2 a b => m.rt d L v B2 H2 a (e.trans b), fun ds L σ B2 H2 a b => m.bk ds L σ B2 H2 a (e.trans b), fun ds L σ B2 H2 a b => m.ct ds L σ B2 H2 a (e.trans b)⟩
structure DSt (X : Cx) (st : Stmt) (ds : DS) (L : MS) (D : DEnds) : Prop where
  run : ∀ σ H B (E : Ends), Sl X.K B ds σ → Hs X.K B L H → Meets X.K B D E → SW X st E σ H
structure DSs (X : Cx) (sts : List Stmt) (ds : DS) (L : MS) (D : DEnds) : Prop where
  run : ∀ σ H B (E : Ends), Sl X.K B ds σ → Hs X.K B L H → Meets X.K B D E → SSW X sts E σ H

section
variable {X : Cx} {e a b : Expr} {es rest : List Expr} {ds : DS} {L : MS} {P : DK} {pos : Pos}
theorem DP.imp {P' : DK} (h : DP X e ds L P') (k : ∀ d L, P' d L → P d L) : DP X e ds L P := .mk fun σ H B hs hl Q q => h.run σ H B hs hl Q fun d L' v B2 H2 p => q d L' v B2 H2 (k d L' p)
theorem DT.imp {P P' : Bool → MS → Prop} (h : DT X e ds L P') (k : ∀ d L, P' d L → P d L) : DT X e ds L P := .mk fun σ H B hs hl Q q => h.run σ H B hs hl Q fun d L' B2 H2 p => q d L' B2 H2 (k d L' p)
theorem DP.fg {ds2 : DS} (f : Fg ds ds2) (h : DP X e ds2 L P) : DP X e ds L P := .mk fun σ H B hs hl Q q => h.run σ H B (hs.fg f) hl Q q

/-! ### names and constants -/
def Get (ds : DS) (i : Nat) (d : Dt) : Prop := ds[i]? = some (some d)
def SetAt (ds : DS) (i : Nat) (d : Dt) (ds' : DS) : Prop := ds.set i (some d) = ds'
theorem dp_var {x : Str} {i : Nat} {d : Dt} (hg : Get ds i d) (p : P d L) (hN : X.N[i]? = some x := by rfl) (hv : Vis X.env.scope x := by first | exact Or.inl rfl | exact Or.inr (Or.inl rfl) | exact Or.inr (Or.inr rfl))
    (hd : (x == ("__debug__" : Str)) = false := by decide) (hcd : (x == ("__classdict__" : Str)) = false := by decide) : DP X (.Name x pos) ds L P := .mk fun σ H B hs hl Q q => by
  obtain ⟨v, e1, e2⟩ := hs.2 i d hg
  exact PE.to (pe_var hN hv hd hcd) ⟨v, e1, q d L v B H p (Same.refl B) hl e2⟩
theorem dp_int {i : Int} {j : Nat} (p : P (.int i) L) : DP X (.Constant (.int i) j pos) ds L P := .mk fun σ H B hs hl Q q => PE.to pe_int (q _ L _ B H p (Same.refl B) hl rfl)
theorem dp_bl {i : Bool} {j : Nat} (p : P (.bl i) L) : DP X (.Constant (.bool i) j pos) ds L P := .mk fun σ H B hs hl Q q => PE.to pe_bl (q _ L _ B H p (Same.refl B) hl rfl)
theorem dp_non {j : Nat} (p : P .non L) : DP X (.Constant .none j pos) ds L P := .mk fun σ H B hs hl Q q => PE.to pe_non (q _ L _ B H p (Same.refl B) hl rfl)
theorem dp_str {x : Str} {j : Nat} (p : P (.str x.cps.toList) L) : DP X (.Constant (.str x) j pos) ds L P := .mk fun σ H B hs hl Q q => PE.to pe_str (q _ L _ B H p (Same.refl B) hl (by show V.str x = V.str ⟨x.cps.toList.toArray⟩; rfl))
theorem dp_txt {x : Str} {j : Nat} {l : List Nat} (e : x.cps.toList = l) (p : P (.str l) L) : DP X (.Constant (.str x) j pos) ds L P := dp_str (by rw [e]; exact p)
theorem dp_glob {x : Str} {v : V} {u : Value} {d : Dt} (p : P d L) (hm : X.mg x = some u) (r : RelV v u) (hd : ∀ B, Is X.K B d v) (hg : Gl X x := by rfl) (h : (x == ("__debug__" : Str)) = false := by decide) : DP X (.Name x pos) ds L P := .mk fun σ H B hs hl Q q =>
  PE.to (pe_glob hg hm r h) (q _ L _ B H p (Same.refl B) hl (hd B))
theorem dp_bltn {x : Str} {n : String} (p : P (.ty n) L) (hm : X.mg x = none) (hv : bootBuiltins x = some (.type n)) (hg : Gl X x := by rfl) (hn : x ≠ "__name__" := by decide) (h : (x == ("__debug__" : Str)) = false := by decide) : DP X (.Name x pos) ds L P := .mk fun σ H B hs hl Q q =>
  PE.to (pe_bltn (v := .ty n) hg hm hv rfl hn h) (q _ L _ B H p (Same.refl B) hl rfl)

/-! ### operators by values -/
abbrev K2 := Dt → Dt → MS → DK → Prop
def KR2 (K : PySem.W.Frag) (r : R2) (k : K2) : Prop := ∀ B H L x y v u (Q : VK) (P : DK), Hs K B L H → Is K B x v → Is K B y u → k x y L P →
  (∀ d L' z B2 H2, P d L' → Same B B2 → Hs K B2 L' H2 → Is K B2 d z → Q z H2) → r v u H Q
theorem dp_op2 {r : R2} {k : K2} {f : Value → Value → Sem Value} {e : Expr} (pe : PE X e (tOp r (EW X a) (EW X b))) (hk : KR2 X.K r k) (h : DP X a ds L fun x L1 => DP X b ds L1 fun y L2 => k x y L2 P) : DP X e ds L P := .mk fun σ H B hs hl Q q =>
  PE.to pe (h.run σ H B hs hl _ fun x L1 v B1 H1 hb e1 hl1 ix => hb.run σ H1 B1 (hs.mono e1) hl1 _ fun y L2 u B2 H2 hp e2 hl2 iy =>
    hk B2 H2 L2 x y v u Q P hl2 (ix.mono e2) iy hp fun d L' z B3 H3 p e3 => q d L' z B3 H3 p ((e1.trans e2).trans e3))
theorem dp_bin {op : Operator} {r : R2} {k : K2} (ho : OpR X (binaryOp op) r) (hk : KR2 X.K r k) (h : DP X a ds L fun x L1 => DP X b ds L1 fun y L2 => k x y L2 P) : DP X (.BinOp a op b pos) ds L P :=
  dp_op2 (f := binaryOp op) (pe_op ho pe_w pe_w) hk h
theorem dp_cmp {op : CmpOp} {r : R2} {k : K2} (ho : OpR X (compareOp op) r) (hk : KR2 X.K r k) (h : DP X a ds L fun x L1 => DP X b ds L1 fun y L2 => k x y L2 P) (hm : behindInMarks op b = false := by first | exact nomark _ | rfl) : DP X (.Compare a [op] [b] pos) ds L P :=
  dp_op2 (f := compareOp op) (pe_cmpR ho pe_w pe_w hm) hk h
/-- a comparison as a test -/
theorem dt_cmp {op : CmpOp} {r : R2} {k : K2} {P : Bool → MS → Prop} (ho : OpR X (compareOp op) r) (hk : KR2 X.K r k) (h : DP X a ds L fun x L1 => DP X b ds L1 fun y L2 => k x y L2 fun d L3 => ∃ c, d = .bl c ∧ P c L3) (hm : behindInMarks op b = false := by first | exact nomark _ | rfl) : DT X (.Compare a [op] [b] pos) ds L P := .mk fun σ H B hs hl Q q =>
  PT.to (pt_cmpR ho pe_w pe_w hm) (h.run σ H B hs hl _ fun x L1 v B1 H1 hb e1 hl1 ix => hb.run σ H1 B1 (hs.mono e1) hl1 _ fun y L2 u B2 H2 hp e2 hl2 iy =>
    hk B2 H2 L2 x y v u _ _ hl2 (ix.mono e2) iy hp fun d L' z B3 H3 ⟨c, ed, p⟩ e3 hl3 iz => by
      subst ed
      exact ⟨c, iz, q c L' B3 H3 p ((e1.trans e2).trans e3) hl3⟩)
/-- an expression whose value is a bool, as a test -/
theorem dt_val {P : Bool → MS → Prop} (h : DP X e ds L fun d L1 => ∃ c, d = .bl c ∧ P c L1) (he : ∀ whole, isTrue e X.env whole = (do let v ← whole; standAt e.pos; holding [v] (truthy v)) := by intro _; rfl) : DT X e ds L P := .mk fun σ H B hs hl Q q =>
  PT.to (pt_val pe_w he) (h.run σ H B hs hl _ fun d L' z B3 H3 ⟨c, ed, p⟩ e3 hl3 iz => by
    subst ed
    exact ⟨c, iz, q c L' B3 H3 p e3 hl3⟩)
/-! ### tests -/
section
variable {P : Bool → MS → Prop}
abbrev two (c : Bool) (A B : Prop) : Prop := (c = true → A) ∧ (c = false → B)
theorem twoT {A B : Prop} (h : A) : two true A B := ⟨fun _ => h, fun z => nomatch z⟩
theorem twoF {A B : Prop} (h : B) : two false A B := ⟨fun z => (nomatch z), fun _ => h⟩
theorem twoY {c : Bool} {A B : Prop} (hc : c = true) (h : A) : two c A B := ⟨fun _ => h, fun z => absurd (hc.symm.trans z) (by decide)⟩
theorem twoN {c : Bool} {A B : Prop} (hc : c = false) (h : B) : two c A B := ⟨fun z => absurd (z.symm.trans hc) (by decide), fun _ => h⟩
theorem dt_bool (h : DTW X e ds L P) : DT X e ds L P := .mk fun σ H B hs hl Q q pins s I => h.run σ H B hs hl Q q _ pins s I
theorem dtw_and1 (h : DT X a ds L P) : DTW X (.BoolOp .And [a] pos) ds L P := .mk fun σ H B hs hl Q q => PW.to (pw_and1 pt_w) (h.run σ H B hs hl Q q)
theorem dtw_or1 (h : DT X a ds L P) : DTW X (.BoolOp .Or [a] pos) ds L P := .mk fun σ H B hs hl Q q => PW.to (pw_or1 pt_w) (h.run σ H B hs hl Q q)
theorem dtw_and (h : DT X a ds L fun c L1 => two c (DTW X (.BoolOp .And (b :: rest) pos) ds L1 P) (P false L1)) : DTW X (.BoolOp .And (a :: b :: rest) pos) ds L P := .mk fun σ H B hs hl Q q =>
  PW.to (pw_and pt_w pw_w) (h.run σ H B hs hl _ fun c L1 B1 H1 p e1 hl1 => by
    cases c with
    | true => exact (p.1 rfl).run σ H1 B1 (hs.mono e1) hl1 Q fun c L2 B2 H2 p2 e2 => q c L2 B2 H2 p2 (e1.trans e2)
    | false => exact q false L1 B1 H1 (p.2 rfl) e1 hl1)
theorem dtw_or (h : DT X a ds L fun c L1 => two c (P true L1) (DTW X (.BoolOp .Or (b :: rest) pos) ds L1 P)) : DTW X (.BoolOp .Or (a :: b :: rest) pos) ds L P := .mk fun σ H B hs hl Q q =>
  PW.to (pw_or pt_w pw_w) (h.run σ H B hs hl _ fun c L1 B1 H1 p e1 hl1 => by
    cases c with
    | false => exact (p.2 rfl).run σ H1 B1 (hs.mono e1) hl1 Q fun c L2 B2 H2 p2 e2 => q c L2 B2 H2 p2 (e1.trans e2)
    | true => exact q true L1 B1 H1 (p.1 rfl) e1 hl1)
theorem dt_not (h : DT X a ds L fun c L1 => P (!c) L1) : DT X (.UnaryOp .Not a pos) ds L P := .mk fun σ H B hs hl Q q =>
  PT.to (pt_not pt_w) (h.run σ H B hs hl _ fun c L1 B1 H1 p e1 hl1 => q (!c) L1 B1 H1 p e1 hl1)
theorem dts_nil (p : P true L) : DTs X [] ds L P := .mk fun σ H B hs hl Q q => PTs.to pts_nil (q true L B H p (Same.refl B) hl)
theorem dts_one (h : DT X a ds L P) : DTs X [a] ds L P := .mk fun σ H B hs hl Q q => PTs.to (pts_one pt_w) (h.run σ H B hs hl Q q)
end
/-- and, or, not as values -/
theorem dp_one {op} (h : DP X a ds L P) : DP X (.BoolOp op [a] pos) ds L P := .mk fun σ H B hs hl Q q => PE.to (pe_one pe_w) (h.run σ H B hs hl Q q)
theorem dp_and (h : DP X a ds L fun x L1 => ∃ c, x = .bl c ∧ two c (DP X (.BoolOp .And (b :: rest) pos) ds L1 P) (P (.bl false) L1)) : DP X (.BoolOp .And (a :: b :: rest) pos) ds L P := .mk fun σ H B hs hl Q q =>
  PE.to (pe_and pe_w pe_w) (h.run σ H B hs hl _ fun x L1 v B1 H1 ⟨c, ex, p⟩ e1 hl1 iv => by
    subst ex
    refine ⟨c, iv, ?_⟩
    cases c with
    | true => exact (p.1 rfl).run σ H1 B1 (hs.mono e1) hl1 Q fun d L2 z B2 H2 p2 e2 => q d L2 z B2 H2 p2 (e1.trans e2)
    | false => exact q (.bl false) L1 _ B1 H1 (p.2 rfl) e1 hl1 rfl)
theorem dp_or (h : DP X a ds L fun x L1 => ∃ c, x = .bl c ∧ two c (P (.bl true) L1) (DP X (.BoolOp .Or (b :: rest) pos) ds L1 P)) : DP X (.BoolOp .Or (a :: b :: rest) pos) ds L P := .mk fun σ H B hs hl Q q =>
  PE.to (pe_or pe_w pe_w) (h.run σ H B hs hl _ fun x L1 v B1 H1 ⟨c, ex, p⟩ e1 hl1 iv => by
    subst ex
    refine ⟨c, iv, ?_⟩
    cases c with
    | false => exact (p.2 rfl).run σ H1 B1 (hs.mono e1) hl1 Q fun d L2 z B2 H2 p2 e2 => q d L2 z B2 H2 p2 (e1.trans e2)
    | true => exact q (.bl true) L1 _ B1 H1 (p.1 rfl) e1 hl1 rfl)
theorem dp_not (h : DP X a ds L fun x L1 => ∃ c, x = .bl c ∧ P (.bl (!c)) L1) : DP X (.UnaryOp .Not a pos) ds L P := .mk fun σ H B hs hl Q q =>
  PE.to (pe_not pe_w) (h.run σ H B hs hl _ fun x L1 v B1 H1 ⟨c, ex, p⟩ e1 hl1 iv => by
    subst ex
    exact ⟨c, iv, q (.bl (!c)) L1 _ B1 H1 p e1 hl1 rfl⟩)
theorem dp_if {c : Expr} (h : DT X c ds L fun t L1 => two t (DP X a ds L1 P) (DP X b ds L1 P)) : DP X (.IfExp c a b pos) ds L P := .mk fun σ H B hs hl Q q =>
  PE.to (pe_ifExp pt_w pe_w pe_w) (h.run σ H B hs hl _ fun t L1 B1 H1 p e1 hl1 => by
    cases t with
    | true => exact (p.1 rfl).run σ H1 B1 (hs.mono e1) hl1 Q fun d L2 z B2 H2 p2 e2 => q d L2 z B2 H2 p2 (e1.trans e2)
    | false => exact (p.2 rfl).run σ H1 B1 (hs.mono e1) hl1 Q fun d L2 z B2 H2 p2 e2 => q d L2 z B2 H2 p2 (e1.trans e2))
/-! ### argument lists, displays -/
theorem da_nil {P : List Dt → MS → Prop} (p : P [] L) : DA X [] ds L P := .mk fun σ H B hs hl Q q => PA.to pa_nil (q [] L [] B H p (Same.refl B) hl rfl)
theorem da_cons {P : List Dt → MS → Prop} (h : DP X e ds L fun x L1 => DA X es ds L1 fun xs L2 => P (x :: xs) L2) (hs' : starEach (e :: es) X.env = (false, eval e X.env) :: starEach es X.env := by rfl) : DA X (e :: es) ds L P := .mk fun σ H B hs hl Q q =>
  PA.to (pa_cons pe_w pa_w hs') (h.run σ H B hs hl _ fun x L1 v B1 H1 ha e1 hl1 ix => ha.run σ H1 B1 (hs.mono e1) hl1 _ fun xs L2 vs B2 H2 p e2 hl2 ixs =>
    q (x :: xs) L2 (v :: vs) B2 H2 p (e1.trans e2) hl2 ⟨v, vs, rfl, ix.mono e2, ixs⟩)
theorem dp_tup {x1} (h : DA X es ds L fun xs L1 => xs.length ≤ sizeLine ∧ P (.tup xs) L1) : DP X (.Tuple es x1 pos) ds L P := .mk fun σ H B hs hl Q q =>
  PE.to (pe_tup pa_w) (h.run σ H B hs hl _ fun xs L1 vs B1 H1 p e1 hl1 ixs => ⟨by rw [ixs.length]; exact p.1, fun a ha => by
    obtain ⟨sb, h2⟩ := hl1.new (o := .tup vs) ha
    exact q (.tup xs) L1 _ _ _ p.2 (e1.trans sb) h2 ⟨a, vs, rfl, upd_same, ixs.mono sb⟩⟩)
/-- a list that stays as it is -/
theorem dp_lst (h : DA X es ds L fun xs L1 => xs.length ≤ sizeLine ∧ P (.lst xs) L1) : DP X (.List es pos) ds L P := .mk fun σ H B hs hl Q q =>
  PE.to (pe_lst pa_w) (h.run σ H B hs hl _ fun xs L1 vs B1 H1 p e1 hl1 ixs => ⟨by rw [ixs.length]; exact p.1, fun a ha => by
    obtain ⟨sb, h2⟩ := hl1.new (o := .lst vs) ha
    exact q (.lst xs) L1 _ _ _ p.2 (e1.trans sb) h2 ⟨a, vs, rfl, upd_same, ixs.mono sb⟩⟩)
/-- a list that will change -/
theorem dp_lstM (h : DA X es ds L fun xs L1 => xs.length ≤ sizeLine ∧ ∀ a, P (.adr a) ((a, .lst xs) :: L1)) : DP X (.List es pos) ds L P := .mk fun σ H B hs hl Q q =>
  PE.to (pe_lst pa_w) (h.run σ H B hs hl _ fun xs L1 vs B1 H1 p e1 hl1 ixs => ⟨by rw [ixs.length]; exact p.1, fun a ha =>
    q (.adr a) _ _ B1 _ (p.2 a) e1 (hl1.newM ha ⟨vs, rfl, ixs⟩) rfl⟩)
/-- a name that holds a list that may change: it's frozen from here on -/
theorem dp_freeze {x : Str} {i : Nat} {a : Addr} {xs : List Dt} {L1 : MS} (hg : Get ds i (.adr a)) (hd : MDel L a (.lst xs) L1) (p : P (.lst xs) L1) (hN : X.N[i]? = some x := by rfl) (hv : Vis X.env.scope x := by first | exact Or.inl rfl | exact Or.inr (Or.inl rfl) | exact Or.inr (Or.inr rfl))
    (h0 : (x == ("__debug__" : Str)) = false := by decide) (hcd : (x == ("__classdict__" : Str)) = false := by decide) : DP X (.Name x pos) ds L P := .mk fun σ H B hs hl Q q => by
  obtain ⟨v, e1, e2⟩ := hs.2 i _ hg
  obtain ⟨vs, hv1, hv2⟩ := hl.lst hd.mem
  obtain ⟨sb, hl2⟩ := hl.freeze hd hv1
  exact PE.to (pe_var hN hv h0 hcd) ⟨v, e1, q _ _ v _ H p sb hl2 ⟨a, vs, e2, upd_same, hv2.mono sb⟩⟩
end

/-! ### statements -/
section
variable {X : Cx} {e a b : Expr} {st : Stmt} {rest sts : List Stmt} {ds : DS} {L : MS} {D : DEnds} {pos : Pos}
theorem dss_nil (h : D.nx ds L) : DSs X [] ds L D := .mk fun σ H B E hs hl m => PSs.to pss_nil (m.nx ds L σ B H h (Same.refl B) hs hl)
theorem dss_cons (h : DSt X st ds L { D with nx := fun ds' L' => DSs X rest ds' L' D }) : DSs X (st :: rest) ds L D := .mk fun σ H B E hs hl m =>
  PSs.to (pss_cons ps_w pss_w) (h.run σ H B { E with nx := SSW X rest E } hs hl ⟨fun ds' L' σ' B2 H2 h2 e2 hs2 hl2 => h2.run σ' H2 B2 E hs2 hl2 (m.mono e2), m.rt, m.bk, m.ct⟩)
theorem dss_one (h : DSt X st ds L D) : DSs X [st] ds L D := .mk fun σ H B E hs hl m => PSs.to (pss_one ps_w) (h.run σ H B E hs hl m)
theorem dss_fg {ds2 : DS} (f : Fg ds ds2) (h : DSs X sts ds2 L D) : DSs X sts ds L D := .mk fun σ H B E hs hl m => h.run σ H B E (hs.fg f) hl m
theorem dst_fg {ds2 : DS} (f : Fg ds ds2) (h : DSt X st ds2 L D) : DSt X st ds L D := .mk fun σ H B E hs hl m => h.run σ H B E (hs.fg f) hl m
theorem ds_never (h : False) : DSt X st ds L D := h.elim
theorem dss_never (h : False) : DSs X sts ds L D := h.elim
theorem ds_pass (h : D.nx ds L) : DSt X (.Pass pos) ds L D := .mk fun σ H B E hs hl m => PS.to ps_pass (m.nx ds L σ B H h (Same.refl B) hs hl)
theorem ds_break (h : D.bk ds L) : DSt X (.Break pos) ds L D := .mk fun σ H B E hs hl m => PS.to ps_break (m.bk ds L σ B H h (Same.refl B) hs hl)
theorem ds_continue (h : D.ct ds L) : DSt X (.Continue pos) ds L D := .mk fun σ H B E hs hl m => PS.to ps_continue (m.ct ds L σ B H h (Same.refl B) hs hl)
theorem ds_expr (h : DP X e ds L fun _ L1 => D.nx ds L1) (hw : swapsWith e none pos.line X.env = pure false := by rfl) : DSt X (.Expr e pos) ds L D := .mk fun σ H B E hs hl m =>
  PS.to (ps_expr pe_w hw) (h.run σ H B hs hl _ fun d L1 v B1 H1 p e1 hl1 _ => m.nx ds L1 σ B1 H1 p e1 (hs.mono e1) hl1)
theorem ds_ret (h : DP X e ds L D.rt) : DSt X (.Return (some e) pos) ds L D := .mk fun σ H B E hs hl m =>
  PS.to (ps_ret pe_w) (h.run σ H B hs hl _ fun d L1 v B1 H1 p e1 hl1 iv => m.rt d L1 v B1 H1 p e1 hl1 iv)
theorem ds_retN (h : D.rt .non L) : DSt X (.Return none pos) ds L D := .mk fun σ H B E hs hl m => PS.to ps_retN (m.rt .non L _ B H h (Same.refl B) hl rfl)
theorem ds_if {c : Expr} {s1 s2 : List Stmt} (h : DT X c ds L fun t L1 => two t (DSs X s1 ds L1 D) (DSs X s2 ds L1 D)) : DSt X (.If c s1 s2 pos) ds L D := .mk fun σ H B E hs hl m =>
  PS.to (ps_if pt_w pss_w pss_w) (h.run σ H B hs hl _ fun t L1 B1 H1 p e1 hl1 => by
    cases t with
    | true => exact (p.1 rfl).run σ H1 B1 E (hs.mono e1) hl1 (m.mono e1)
    | false => exact (p.2 rfl).run σ H1 B1 E (hs.mono e1) hl1 (m.mono e1))
/-- name = e -/
theorem ds_set {i : Nat} {x : Str} {pos' : Pos} {ds' : Dt → DS} (hset : ∀ d, SetAt ds i d (ds' d)) (h : DP X e ds L fun d L1 => D.nx (ds' d) L1) (hN : X.N.Nodup) (hi : X.N[i]? = some x := by rfl) (hx : Loc X.env.scope x := by first | exact .inl rfl | exact .inr rfl)
    (hw : swapsWith e (some (.Name x pos')) pos.line X.env = pure false := by rfl) (hf : X.fn x = true ∨ X.env.scope.names.lookup x = some .local := by first | exact .inl rfl | exact .inr rfl) : DSt X (.Assign [.Name x pos'] e pos) ds L D := .mk fun σ H B E hs hl m =>
  PS.to (ps_set hN hi hx pe_w hw hf) (h.run σ H B hs hl _ fun d L1 v B1 H1 p e1 hl1 iv => m.nx (ds' d) L1 _ B1 H1 p e1 (by
    rw [← hset d]
    exact (hs.mono e1).set i iv) hl1)
end

/-! ### targets, loops -/
section
variable {X : Cx} {tg iter e : Expr} {sts : List Stmt} {ds : DS} {L : MS} {D : DEnds} {pos : Pos}
/-- a target takes d -/
structure DG (X : Cx) (tg : Expr) (d : Dt) (ds : DS) (L : MS) (P : DS → MS → Prop) : Prop where
  run : ∀ σ H B v, Sl X.K B ds σ → Hs X.K B L H → Is X.K B d v → ∀ Q : L2.St → Hp → Prop,
  (∀ ds' L' σ' B2 H2, P ds' L' → Same B B2 → Sl X.K B2 ds' σ' → Hs X.K B2 L' H2 → Q σ' H2) → GW X tg v σ H Q
theorem dg_name {x : Str} {i : Nat} {d : Dt} {ds' : DS} {P : DS → MS → Prop} (hset : SetAt ds i d ds') (p : P ds' L) (hN : X.N.Nodup) (hi : X.N[i]? = some x := by rfl) (hx : Loc X.env.scope x := by first | exact .inl rfl | exact .inr rfl)
    (hf : X.fn x = true ∨ X.env.scope.names.lookup x = some .local := by first | exact .inl rfl | exact .inr rfl) : DG X (.Name x pos) d ds L P := .mk fun σ H B v hs hl iv Q q =>
  PG.to (pg_name hN hi hx hf) (q ds' L _ B H p (Same.refl B) (by
    rw [← hset]
    exact hs.set i iv) hl)
/-- several targets -/
structure DGs (X : Cx) (ts : List Expr) (xs : List Dt) (ds : DS) (L : MS) (P : DS → MS → Prop) : Prop where
  run : ∀ σ H B vs, Sl X.K B ds σ → Hs X.K B L H → IsL X.K B xs vs → ∀ Q : L2.St → Hp → Prop,
  (∀ ds' L' σ' B2 H2, P ds' L' → Same B B2 → Sl X.K B2 ds' σ' → Hs X.K B2 L' H2 → Q σ' H2) →
  ∀ (pins : List (Addr × Obj)) (s : Shared) (us : List Value), Inv X pins σ H s → Vals vs us → wpAny (model X.prog X.w) X.A (assignInOrder ((assignEach ts X.env).map (·.2)) us) (fun _ s' => ∃ σ' H', Inv X pins σ' H' s' ∧ Q σ' H') X.xe s
theorem dgs_nil {P : DS → MS → Prop} (p : P ds L) : DGs X [] [] ds L P := .mk fun σ H B vs hs hl iv Q q pins s us I r =>
  pgs_nil.run pins s σ H vs us Q I r ⟨iv, q ds L σ B H p (Same.refl B) hs hl⟩
theorem dgs_cons {es : List Expr} {x : Dt} {xs : List Dt} {P : DS → MS → Prop} (h : DG X e x ds L fun ds1 L1 => DGs X es xs ds1 L1 P) (hst : (assignEach (e :: es) X.env).map (·.2) = assign e X.env :: (assignEach es X.env).map (·.2) := by rfl) : DGs X (e :: es) (x :: xs) ds L P := .mk fun σ H B vs hs hl iv Q q pins s us I r => by
  obtain ⟨v, rs, rfl, i1, i2⟩ := iv
  cases r with
  | cons r rr =>
    rw [hst]
    refine assignInOrder_cons (thn (h.run σ H B v hs hl i1 (fun σ1 H1 => ∃ ds1 L1 B1, DGs X es xs ds1 L1 P ∧ Same B B1 ∧ Sl X.K B1 ds1 σ1 ∧ Hs X.K B1 L1 H1) (fun ds1 L1 σ1 B1 H1 p e1 hs1 hl1 => ⟨ds1, L1, B1, p, e1, hs1, hl1⟩) pins s _ I r) fun _ s1 h1 => ?_)
    obtain ⟨σ1, H1, I1, ds1, L1, B1, p, e1, hs1, hl1⟩ := h1
    exact p.run σ1 H1 B1 rs hs1 hl1 (i2.mono e1) Q (fun ds2 L2 σ2 B2 H2 p2 e2 => q ds2 L2 σ2 B2 H2 p2 (e1.trans e2)) pins s1 _ I1 rr
theorem dg_tup {es : List Expr} {k : Nat} {xs : List Dt} {P : DS → MS → Prop} (h : DGs X es xs ds L P) (hl' : (assignEach es X.env).length = xs.length := by rfl) (hc : X.calm = true := by rfl) (hst : (assignEach es X.env).findIdx? (·.1) = none := by rfl) : DG X (.Tuple es k pos) (.tup xs) ds L P := .mk fun σ H B v hs hl iv Q q => by
  obtain ⟨a, vs, rfl, ha, iv⟩ := iv
  refine PG.to (pg_tup (t := fun vs' σ H Q => ∀ (pins : List (Addr × Obj)) (s : Shared) (us : List Value), Inv X pins σ H s → Vals vs' us → wpAny (model X.prog X.w) X.A (assignInOrder ((assignEach es X.env).map (·.2)) us) (fun _ s' => ∃ σ' H', Inv X pins σ' H' s' ∧ Q σ' H') X.xe s) hc ⟨fun pins s σ H vs us Q I r h => h pins s us I r⟩ rfl hst) ?_
  exact ⟨a, vs, rfl, SqT.of (hl.sub _ _ ha), by rw [iv.length, hl'], h.run σ H B vs hs hl iv Q q⟩
/-- any = e -/
theorem ds_asg (h : DP X e ds L fun d L1 => DG X tg d ds L1 D.nx) (hw : swapsWithSole [tg] e pos.line X.env = pure false := by rfl) (hw2 : swappedStores [tg] e X.env = pure none := by rfl)
    (h1 : (assignEach [tg] X.env).map (·.2) = [assign tg X.env] := by rfl) : DSt X (.Assign [tg] e pos) ds L D := .mk fun σ H B E hs hl m =>
  PS.to (ps_asg pe_w pg_w hw hw2 h1) (h.run σ H B hs hl _ fun d L1 v B1 H1 p e1 hl1 iv => p.run σ H1 B1 v (hs.mono e1) hl1 iv _ fun ds2 L2 σ2 B2 H2 q e2 hs2 hl2 => m.nx ds2 L2 σ2 B2 H2 q (e1.trans e2) hs2 hl2)
/-- a, b = x, y -/
theorem ds_par {i j : Nat} {x y : Str} {a b : Expr} {px py pt : Pos} {kt k2 pt2} {ds' : Dt → Dt → DS} (hset : ∀ d d', (ds.set i (some d)).set j (some d') = ds' d d') (h : DA X [a, b] ds L fun xs L1 => ∃ d d', xs = [d, d'] ∧ D.nx (ds' d d') L1)
    (hN : X.N.Nodup) (hij : i ≠ j) (hi : X.N[i]? = some x := by rfl) (hj : X.N[j]? = some y := by rfl) (hx : X.env.scope.names.lookup x = some .local := by rfl) (hy : X.env.scope.names.lookup y = some .local := by rfl) (hc : X.calm = true := by rfl)
    (hw : swappedStores [.Tuple [.Name x px, .Name y py] kt pt] (.Tuple [a, b] k2 pt2) X.env = pure (some [x, y]) := by kernel_rfl)
    (hs' : swapsWithSole [.Tuple [.Name x px, .Name y py] kt pt] (.Tuple [a, b] k2 pt2) pos.line X.env = pure false := by kernel_rfl) :
    DSt X (.Assign [.Tuple [.Name x px, .Name y py] kt pt] (.Tuple [a, b] k2 pt2) pos) ds L D := .mk fun σ H B E hs hl m =>
  PS.to (ps_par hc hN hi hj hij hx hy pa_w hw hs') (h.run σ H B hs hl _ fun xs L1 vs B1 H1 ⟨d, d', ex, p⟩ e1 hl1 ixs => by
    subst ex
    obtain ⟨v, _, rfl, i1, u, _, rfl, i2, h0⟩ := ixs
    have h0 : _ = [] := h0
    subst h0
    refine ⟨v, u, rfl, m.nx (ds' d d') L1 _ B1 H1 p e1 ?_ hl1⟩
    rw [← hset d d']
    exact ((hs.mono e1).set i i1).set j i2)

/-- J yields the items xs, whatever else happens to what isn't frozen in B -/
def Yields (K : PySem.W.Frag) (B : Hp) (J : It) (xs : List Dt) : Prop := ∀ i B' H' L', Same B B' → Hs K B' L' H' →
  (∀ d, xs[i]? = some d → J.go i H' ∧ ∀ v H2, J.yld i H' v H2 → ∃ B2, Same B' B2 ∧ Hs K B2 L' H2 ∧ Is K B2 d v) ∧ (xs.length ≤ i → J.stop i H')
theorem Yields.mono {K : PySem.W.Frag} {B B1 : Hp} {J : It} {xs : List Dt} (h : Yields K B J xs) (e : Same B B1) : Yields K B1 J xs := fun i B' H' L' e' => h i B' H' L' (e.trans e')
structure DI (X : Cx) (tg iter : Expr) (ds : DS) (L : MS) (P : List Dt → MS → Prop) : Prop where
  run : ∀ σ H B, Sl X.K B ds σ → Hs X.K B L H → ∀ R : It → Hp → Prop,
  (∀ xs L' J B2 H2, P xs L' → Same B B2 → Hs X.K B2 L' H2 → Yields X.K B2 J xs → R J H2) → IW X tg iter σ H R
theorem ds_for (h : DI X tg iter ds L fun xs L1 => ∃ W : Nat → DS → MS → Prop, (∃ ds0, Fg ds ds0 ∧ W 0 ds0 L1) ∧ (∀ i d ds' L', xs[i]? = some d → W i ds' L' → DG X tg d ds' L' fun ds2 L2 =>
      DSs X sts ds2 L2 ⟨fun ds3 L3 => ∃ ds4, Fg ds3 ds4 ∧ W (i + 1) ds4 L3, D.rt, D.nx, fun ds3 L3 => ∃ ds4, Fg ds3 ds4 ∧ W (i + 1) ds4 L3⟩) ∧ ∀ ds' L', W xs.length ds' L' → D.nx ds' L')
    (hp : PassesOwn (model X.prog X.w) X.A X.env X.xe) (hc : X.calm = true := by rfl) (hf : ∀ x, foldedSetIterable iter X.env x = pure x := by intro _; rfl) : DSt X (.For tg iter sts [] pos) ds L D := .mk fun σ H B E hs hl m => by
  refine PS.to (ps_for hp hc pi_w pg_w pss_w hf) (h.run σ H B hs hl _ fun xs L1 J B1 H1 ⟨W, ⟨ds0, f0, h0⟩, hstep, hend⟩ e1 hl1 hy => ?_)
  refine ⟨fun i n σ' H' => i + n = xs.length ∧ ∃ ds' L' B', W i ds' L' ∧ Same B1 B' ∧ Sl X.K B' ds' σ' ∧ Hs X.K B' L' H', ⟨xs.length, Nat.zero_add _, ds0, L1, B1, h0, Same.refl B1, (hs.mono e1).fg f0, hl1⟩, ?_⟩
  rintro i n σ' H' ⟨hn, ds', L', B', w, e2, hs2, hl2⟩
  obtain ⟨y1, y2⟩ := hy i B' H' L' e2 hl2
  by_cases hi : i < xs.length
  · have hx : xs[i]? = some xs[i] := List.getElem?_eq_getElem hi
    obtain ⟨g1, g2⟩ := y1 _ hx
    refine .inr ⟨g1, fun σ3 H3 => ∃ ds3 L3 B3, (∃ ds4, Fg ds3 ds4 ∧ W (i + 1) ds4 L3) ∧ Same B1 B3 ∧ Sl X.K B3 ds3 σ3 ∧ Hs X.K B3 L3 H3, fun σ3 H3 hN => ?_, fun v H2 hv => ?_⟩
    · obtain ⟨ds3, L3, B3, ⟨ds4, f4, w4⟩, e3, hs3, hl3⟩ := hN
      exact ⟨n - 1, by omega, by omega, ds4, L3, B3, w4, e3, hs3.fg f4, hl3⟩
    · obtain ⟨B2, e3, hl3, iv⟩ := g2 v H2 hv
      refine (hstep i _ ds' L' hx w).run σ' H2 B2 v (hs2.mono e3) hl3 iv _ fun ds5 L5 σ5 B5 H5 p e5 hs5 hl5 => ?_
      have eB : Same B1 B5 := (e2.trans e3).trans e5
      refine p.run σ5 H5 B5 _ hs5 hl5 ⟨fun ds6 L6 σ6 B6 H6 w6 e6 hs6 hl6 => ⟨ds6, L6, B6, w6, eB.trans e6, hs6, hl6⟩, ?_, ?_, fun ds6 L6 σ6 B6 H6 w6 e6 hs6 hl6 => ⟨ds6, L6, B6, w6, eB.trans e6, hs6, hl6⟩⟩
      · exact fun d6 L6 v6 B6 H6 p6 e6 => m.rt d6 L6 v6 B6 H6 p6 ((e1.trans eB).trans e6)
      · exact fun ds6 L6 σ6 B6 H6 p6 e6 => m.nx ds6 L6 σ6 B6 H6 p6 ((e1.trans eB).trans e6)
  · have ei : i = xs.length := by omega
    refine .inl ⟨y2 (by omega), ?_⟩
    subst ei
    exact m.nx ds' L' σ' B' H' (hend ds' L' w) (e1.trans e2) hs2 hl2
/-- while -/
theorem ds_while {c : Expr} (W : Nat → DS → MS → Prop) (n0 : Nat) (h0 : ∃ ds0, Fg ds ds0 ∧ W n0 ds0 L) (hstep : ∀ n ds' L', W n ds' L' → DT X c ds' L' fun t L1 => two t
      (DSs X sts ds' L1 ⟨fun ds3 L3 => ∃ m ds4, m < n ∧ Fg ds3 ds4 ∧ W m ds4 L3, D.rt, D.nx, fun ds3 L3 => ∃ m ds4, m < n ∧ Fg ds3 ds4 ∧ W m ds4 L3⟩) (D.nx ds' L1))
    (hp : PassesOwn (model X.prog X.w) X.A X.env X.xe) : DSt X (.While c sts [] pos) ds L D := .mk fun σ H B E hs hl m => by
  obtain ⟨ds0, f0, h0⟩ := h0
  refine PS.to (ps_while hp pt_w pss_w) ?_
  refine ⟨fun n σ' H' => ∃ ds' L' B', W n ds' L' ∧ Same B B' ∧ Sl X.K B' ds' σ' ∧ Hs X.K B' L' H', ⟨n0, ds0, L, B, h0, Same.refl B, hs.fg f0, hl⟩, ?_⟩
  rintro n σ' H' ⟨ds', L', B', w, e2, hs2, hl2⟩
  refine (hstep n ds' L' w).run σ' H' B' hs2 hl2 _ fun t L1 B1 H1 p e1 hl1 => ?_
  cases t with
  | true =>
    refine ⟨fun σ3 H3 => ∃ ds3 L3 B3, (∃ m ds4, m < n ∧ Fg ds3 ds4 ∧ W m ds4 L3) ∧ Same B B3 ∧ Sl X.K B3 ds3 σ3 ∧ Hs X.K B3 L3 H3, fun σ3 H3 hN => ?_, ?_⟩
    · obtain ⟨ds3, L3, B3, ⟨k, ds4, hk, f4, w4⟩, e3, hs3, hl3⟩ := hN
      exact ⟨k, hk, ds4, L3, B3, w4, e3, hs3.fg f4, hl3⟩
    · have eB : Same B B1 := e2.trans e1
      refine (p.1 rfl).run σ' H1 B1 _ (hs2.mono e1) hl1 ⟨fun ds6 L6 σ6 B6 H6 w6 e6 hs6 hl6 => ⟨ds6, L6, B6, w6, eB.trans e6, hs6, hl6⟩, ?_, ?_, fun ds6 L6 σ6 B6 H6 w6 e6 hs6 hl6 => ⟨ds6, L6, B6, w6, eB.trans e6, hs6, hl6⟩⟩
      · exact fun d6 L6 v6 B6 H6 p6 e6 => m.rt d6 L6 v6 B6 H6 p6 (eB.trans e6)
      · exact fun ds6 L6 σ6 B6 H6 p6 e6 => m.nx ds6 L6 σ6 B6 H6 p6 (eB.trans e6)
  | false => exact m.nx ds' L1 σ' B1 H1 (p.2 rfl) (e2.trans e1) (hs2.mono e1) hl1
end
end Z
namespace PySem
open Sem (wp)
open Builtin Builtin.Str
set_option maxHeartbeats 1000000 in
theorem meets_enumerate_newB1 {v : Value} {o : Obj} {H : Heap → Prop} (B : Begins v o H) :
    Meets (Builtin.«enumerate.__new__» ⟨[.type "enumerate", v], []⟩) (fun _ R s => H s.heap ∧
      R (.ok (.ret (.ref (s.heap.push o).objs.size))) { s with heap := (s.heap.push o).push { cls := .type "enumerate", data := .fields #[.none, .bool false, .ref s.heap.objs.size, rawInt 0, .none, .none] } }) :=
  .of_wp fun prog w A R s h => by
    obtain ⟨hp, g, d, tk, os⟩ := s; obtain ⟨h1, h⟩ := h
    have hsub := sub_enumerate
    have q1 : ∀ {A' : Around} {E : Value → Shared → Prop} {Q : Value → Shared → Prop}, Q (.ref hp.objs.size) ⟨hp.push o, g, d, tk, os⟩ → wpAny (model prog w) A' (pyIter v) Q E ⟨hp, g, d, tk, os⟩ :=
      fun q => B.iter prog w _ _ ⟨hp, g, d, tk, os⟩ _ h1 q
    wp_walk using q1
    refine wpAny_stack_any fun st => wpAny_pure ?_
    split
    · rename_i c _ _ _ _ _
      cases (c == Value.type "enumerate")
      · wp_walk using q1
        exact ⟨_, rfl, h⟩
      · wp_walk using q1
        exact ⟨_, rfl, h⟩
    · wp_walk using q1
      exact ⟨_, rfl, h⟩
section
variable {prog : Program} {w : World} {A : Around} {E : Value → Shared → Prop} {s : Shared}
/-- enumerate(v): its two new cells -/
theorem enum_begins1 {v : Value} {o : Obj} {H : Heap → Prop} {Q : Value → Shared → Prop} (B : Begins v o H) (h1 : H s.heap)
    (h : ∀ h', IsEnum h' (s.heap.objs.size + 1) s.heap.objs.size 0 .none → h'.get? s.heap.objs.size = some o → h'.objs.size = s.heap.objs.size + 2 →
      (∀ b o, s.heap.get? b = some o → h'.get? b = some o) → Q (.ref (s.heap.objs.size + 1)) { s with heap := h' }) :
    wpAny (model prog w) A (call (.type "enumerate") [v]) Q E s := by
  refine callType_new F.called_enumerate (by decide) (F.typeCall_enumerate_1 _) (F.newCall_enumerate_1 _) (fun obj => F.args_object_init_2 obj _) F.entry_enumerate_new
    (meets_enumerate_newB1 B) ⟨h1, ?_⟩
  have hz : (s.heap.push o).objs.size = s.heap.objs.size + 1 := Heap.size_push ..
  show _ ∧ _
  rw [hz]
  have he : IsEnum ((s.heap.push o).push { cls := .type "enumerate", data := .fields #[.none, .bool false, .ref s.heap.objs.size, rawInt 0, .none, .none] }) (s.heap.objs.size + 1) s.heap.objs.size 0 .none := by
    have := Heap.get?_push_size (s.heap.push o) (o := { cls := .type "enumerate", data := .fields #[.none, .bool false, .ref s.heap.objs.size, rawInt 0, .none, .none] }) rfl
    rw [hz] at this; exact this
  refine ⟨⟨_, he, rfl⟩, h _ he (Heap.get?_push_of_some _ (Heap.get?_push_size _ B.free)) (by rw [Heap.size_push, hz]) fun b o x => Heap.get?_push_of_some _ (Heap.get?_push_of_some _ x)⟩
end
section
variable {prog : Program} {w : World} {A : Around} {E : Value → Shared → Prop} {s : Shared}
theorem wpAny_pyNext_enum_endX {e it : Addr} {i : Int} {old : Value} {Q : Option Value → Shared → Prop} (he : IsEnum s.heap e it i old)
    (hd : ∀ (Q : Value → Shared → Prop) (E : Value → Shared → Prop), (∀ h' e, Heap.ExtBut it s.heap h' → (∃ o, h'.get? e = some o ∧ o.cls = .type "StopIteration") → E (.ref e) { s with heap := h' }) → wpAny (model prog w) A.in1 (Builtin.SmallTypes.nextOf (.ref it)) Q E s)
    (hQ : ∀ h', Heap.ExtBut it s.heap h' → Q none { s with heap := h' }) : wpAny (model prog w) A (pyNext (.ref e)) Q E s := by
  have hT : s.TypeIs (.ref e) "enumerate" := ⟨_, he, rfl⟩
  unfold pyNext
  refine wpAny_bind (wpAny_attempt (wpAny_callSpecial?_slot (name := Str.ofString "__next__") hT F.slot_enumerate_next
    (wpAny_call_entry F.slot_enumerate_next hT F.entry_enumerate_next ?_ (F.args_enumerate_next_1 _))))
  show wpAny _ _ (field (.ref e) 2 >>= _) _ _ _
  refine wpAny_bind (wpAny_field he rfl (x := .ref it) rfl ?_)
  refine wpAny_bind (hd _ _ fun h' x he' hx' => ?_)
  obtain ⟨o, ho, hc⟩ := hx'
  refine wpAny_bind (wpAny_isInstance (T := "StopIteration") (b := true) ⟨o, ho, hc⟩ isSubtype_stop ?_)
  exact wpAny_pure (hQ _ he')
end
end PySem
namespace L2
open PySem PySem.Spec PyProof.Rows
/-- the tuple at a, each item in a new pair with its turn -/
def IteT (K : PySem.W.Frag) (a : Addr) : It :=
  ⟨fun i H => ∃ xs x, SqT K H a xs ∧ xs[i]? = some x, fun i H v H' => ∃ T x, v = .ref T ∧ H T = none ∧ H' = upd H T (.tup [.int (i : Nat), x]) ∧ ∀ xs, SqT K H a xs → xs[i]? = some x, fun i H => ∃ xs, SqT K H a xs ∧ xs.length ≤ i⟩
theorem SqT.rd {K : PySem.W.Frag} {X : Cx} {pins : List (Addr × Obj)} {σ : St} {H : Hp} {s : Shared} {a e : Addr} {xs : List V} (I : Inv X pins σ H s) (h : SqT X.K H a xs) (hb : X.base.get? e = none) (hn : H e = none) : e ≠ a := by
  rcases h with (h | ⟨o, h⟩) | ⟨o, its, n, hk, _⟩
  · exact fun z => by rw [← z, hn] at h; cases h
  · exact fun z => by rw [← z, hn] at h; cases h
  · intro z
    have q : X.base.get? a = some o := I.ok.mod.kin a o hk
    rw [← z, hb] at q
    cases q
theorem Fp.base {X : Cx} {pins : List (Addr × Obj)} {σ : St} {H : Hp} {s : Shared} {b : Addr} (I : Inv X pins σ H s) (h : FpOk X pins H b) : X.base.get? b = none := by
  obtain ⟨_, _, _, h4, _⟩ := h
  cases q : X.base.get? b with
  | none => rfl
  | some o =>
    rcases h4 with h4 | h4
    · exact absurd h4 (I.ok.noex b o q)
    · exact absurd (Nat.lt_of_lt_of_le (Heap.lt_size (I.ok.bs b o q).1) h4) (Nat.lt_irrefl _)
theorem turn_enumT {P : Program} {w : World} {K : PySem.W.Frag} {elts : List Expr} {kk : Nat} {tpos : Pos} (a e it : Addr) :
    Turn P w K (.Tuple elts kk tpos) (IteT K a) [e, it] e (fun i h => (∃ old, IsEnum h e it ((i : Nat) : Int) old) ∧ h.IsTupleIter it a i ∧ e ≠ it) where
  mem := by simp
  obj := fun i h st b hb => by
    obtain ⟨⟨old, he⟩, ⟨o, ho, hc, hd⟩, _⟩ := st
    have e' : b = e ∨ b = it := by simpa using hb
    rcases e' with z | z
    · rw [z]; exact ⟨_, he, fun v q => nomatch q⟩
    · rw [z]; exact ⟨o, ho, fun v q => by rw [hd] at q; cases q⟩
  keep := fun i h h' st k => let ⟨⟨old, he⟩, hi, hne⟩ := st; ⟨⟨old, k e (by simp) _ he⟩, hi.at fun o q => k it (by simp) o q, hne⟩
  item := by
    intro X hP hw hK hc i pins s σ H E I hf st hg
    subst hP hw hK
    obtain ⟨⟨old, he⟩, hit, hne⟩ := st
    obtain ⟨xs, x, hq, hx⟩ := hg
    obtain ⟨its, rv, p, hz⟩ := I.tuple hq
    obtain ⟨u, hu, ru⟩ := rv.get hx
    have hel : e < s.heap.objs.size := Heap.lt_size he
    have hil : it < s.heap.objs.size := by obtain ⟨_, q, _⟩ := hit; exact Heap.lt_size q
    have nea : e ≠ a := SqT.rd (K := X.K) I hq (Fp.base I (hf e (by simp))) (hf e (by simp)).1
    have nia : it ≠ a := SqT.rd (K := X.K) I hq (Fp.base I (hf it (by simp))) (hf it (by simp)).1
    have Dr := Draws.tuple (prog := X.prog) (w := X.w) (A := X.A.in1) (I.ok.hd hc) it a (Ne.symm nia) its.toArray
    refine wpAny_pyNext_enum_itemC Dr he ⟨hit, p⟩ (show i < its.toArray.size by simp; exact (List.getElem?_eq_some_iff.mp hu).1) hne (by simp [hne, nea]) fun y h' tk hy ho hst' hT hsz hk => ?_
    have ey : y = u := by
      have q : its.toArray[i]? = some u := by simpa using hu
      rw [q] at hy
      exact (Option.some.inj hy).symm
    subst ey
    obtain ⟨hit', _⟩ := hst'
    refine ⟨_, rfl, wpAny_letOwnedTupleGo_enum (s := { s with heap := h', toks := tk + 1 }) ho fun h'' he' sb => ?_⟩
    have hT2 : h''.get? s.heap.objs.size = some { cls := .type "tuple", data := .seq #[.int i tk, y] } := (sb.2 _ (Nat.ne_of_gt hel)).trans hT
    have new : ObjOk X.prog X.w (upd H s.heap.objs.size (.tup [.int (i : Nat), x])) h'' s.heap.objs.size (.tup [.int (i : Nat), x]) :=
      ⟨by show 2 ≤ sizeLine; decide, [.int i tk, y], .cons ⟨_, rfl⟩ (.cons ru .nil), ⟨_, hT2, rfl, _, rfl⟩⟩
    have I1 : Inv X pins σ (upd H s.heap.objs.size (.tup [.int (i : Nat), x])) { s with heap := h'', toks := tk + 1 } :=
      I.turnedNew (ch := [e, it]) (fun b ob hb q => (sb.2 b (fun z => hb (by simp [z]))).trans (hk b ob (fun z => hb (by simp [z])) (fun z => hb (by simp [z])) q)) hf (Nat.le_refl _) new
    refine ⟨.ref s.heap.objs.size, _, I1, rfl, ⟨_, x, rfl, I.hok.fresh (Nat.le_refl _), rfl, fun ys hy => by rw [I.tuple_inj hy hq]; exact hx⟩, ⟨⟨y, ?_⟩, hit'.at fun o q => (sb.2 it (Ne.symm hne)).trans q, hne⟩, fun b hb => ?_⟩
    · have e1 : ((i + 1 : Nat) : Int) = (i : Int) + 1 := by omega
      rw [e1]; exact he'
    · have hb' : b < s.heap.objs.size := by
        have e' : b = e ∨ b = it := by simpa using hb
        rcases e' with z | z
        · rw [z]; exact hel
        · rw [z]; exact hil
      rw [upd_ne (Nat.ne_of_lt hb')]
      exact (hf b hb).1
  done := by
    intro X hP hw hK hc i pins s σ H E I hf st hg
    subst hP hw hK
    obtain ⟨⟨old, he⟩, hit, hne⟩ := st
    obtain ⟨xs, hq, hx⟩ := hg
    obtain ⟨its, rv, p, hz⟩ := I.tuple hq
    obtain ⟨f0, f1, f2, f3, f4, f5⟩ := hf it (by simp)
    have nia : it ≠ a := SqT.rd (K := X.K) I hq (Fp.base I (hf it (by simp))) f0
    have hl := rv.length
    refine wpAny_pyNext_enum_endX he (fun Q E hE => wpAny_nextOf_tuple_end (I.ok.hd hc) hit p (by simp; omega) hE) fun h' eb => ⟨rfl, I.turned (t' := s.toks) (fun b o hb q => eb b o hb q) f0 f1 f3 f4 f5⟩
  self := fun A i s Q E st h => let ⟨⟨_, he⟩, _⟩ := st; wpAny_pyIter_enum he h
/-- a text, each sign in a new pair with its turn -/
def IteS (x : Str) : It :=
  ⟨fun i _ => i < x.cps.size, fun i H v H' => ∃ T c, v = .ref T ∧ H T = none ∧ H' = upd H T (.tup [.int (i : Nat), .str ⟨#[c]⟩]) ∧ x.cps[i]? = some c, fun i _ => x.cps.size ≤ i⟩
theorem turn_enumS {P : Program} {w : World} {K : PySem.W.Frag} {elts : List Expr} {kk : Nat} {tpos : Pos} (x : Str) (t : Tok) (e it : Addr) :
    Turn P w K (.Tuple elts kk tpos) (IteS x) [e, it] e (fun i h => i ≤ x.cps.size ∧ (∃ old, IsEnum h e it ((i : Nat) : Int) old) ∧ h.IsStrIter it (strIterType x) x t i ∧ e ≠ it) where
  mem := by simp
  obj := fun i h st b hb => by
    obtain ⟨_, ⟨old, he⟩, ⟨o, ho, hc, hd⟩, _⟩ := st
    have e' : b = e ∨ b = it := by simpa using hb
    rcases e' with z | z
    · rw [z]; exact ⟨_, he, fun v q => nomatch q⟩
    · rw [z]; exact ⟨o, ho, fun v q => by rw [hd] at q; cases q⟩
  keep := fun i h h' st k => by
    obtain ⟨hi, ⟨old, he⟩, ⟨o, ho, hc, hd⟩, hne⟩ := st
    exact ⟨hi, ⟨old, k e (by simp) _ he⟩, ⟨o, k it (by simp) o ho, hc, hd⟩, hne⟩
  item := by
    intro X hP hw hK hc i pins s σ H E I hf st hg
    subst hP hw hK
    obtain ⟨_, ⟨old, he⟩, hit, hne⟩ := st
    have hg : i < x.cps.size := hg
    have hel : e < s.heap.objs.size := Heap.lt_size he
    have hil : it < s.heap.objs.size := by obtain ⟨_, q, _⟩ := hit; exact Heap.lt_size q
    have Dr := Draws.text (prog := X.prog) (w := X.w) (A := X.A.in1) (I.ok.hd hc) it x t
    refine wpAny_pyNext_enum_itemC Dr he hit hg hne (by simp [hne]) fun y h' tk hy ho hit' hT hsz hk => ?_
    obtain ⟨c, u, hcx, rfl⟩ := hy
    refine ⟨_, rfl, wpAny_letOwnedTupleGo_enum (s := { s with heap := h', toks := tk + 1 }) ho fun h'' he' sb => ?_⟩
    have hT2 : h''.get? s.heap.objs.size = some { cls := .type "tuple", data := .seq #[.int i tk, .str ⟨#[c]⟩ u] } := (sb.2 _ (Nat.ne_of_gt hel)).trans hT
    have new : ObjOk X.prog X.w (upd H s.heap.objs.size (.tup [.int (i : Nat), .str ⟨#[c]⟩])) h'' s.heap.objs.size (.tup [.int (i : Nat), .str ⟨#[c]⟩]) :=
      ⟨by show 2 ≤ sizeLine; decide, [.int i tk, .str ⟨#[c]⟩ u], .cons ⟨_, rfl⟩ (.cons ⟨_, rfl⟩ .nil), ⟨_, hT2, rfl, _, rfl⟩⟩
    have I1 : Inv X pins σ (upd H s.heap.objs.size (.tup [.int (i : Nat), .str ⟨#[c]⟩])) { s with heap := h'', toks := tk + 1 } :=
      I.turnedNew (ch := [e, it]) (fun b ob hb q => (sb.2 b (fun z => hb (by simp [z]))).trans (hk b ob (fun z => hb (by simp [z])) (fun z => hb (by simp [z])) q)) hf (Nat.le_refl _) new
    obtain ⟨o1, ho1, hc1, hd1⟩ := hit'
    refine ⟨.ref s.heap.objs.size, _, I1, rfl, ⟨_, c, rfl, I.hok.fresh (Nat.le_refl _), rfl, hcx⟩, ⟨hg, ⟨.str ⟨#[c]⟩ u, ?_⟩, ⟨o1, (sb.2 it (Ne.symm hne)).trans ho1, hc1, hd1⟩, hne⟩, fun b hb => ?_⟩
    · have e1 : ((i + 1 : Nat) : Int) = (i : Int) + 1 := by omega
      rw [e1]; exact he'
    · have hb' : b < s.heap.objs.size := by
        have e' : b = e ∨ b = it := by simpa using hb
        rcases e' with z | z
        · rw [z]; exact hel
        · rw [z]; exact hil
      rw [upd_ne (Nat.ne_of_lt hb')]
      exact (hf b hb).1
  done := by
    intro X hP hw hK hc i pins s σ H E I hf st hg
    subst hP hw hK
    obtain ⟨hi, ⟨old, he⟩, hit, hne⟩ := st
    have hg : x.cps.size ≤ i := hg
    have ei : i = x.cps.size := by omega
    subst ei
    obtain ⟨f0, f1, f2, f3, f4, f5⟩ := hf it (by simp)
    have Dr := Draws.text (prog := X.prog) (w := X.w) (A := X.A.in1) (I.ok.hd hc) it x t
    exact wpAny_pyNext_enum_endX he (fun Q E hE => Dr.done s Q E hit hE) fun h' eb => ⟨rfl, I.turned (t' := s.toks) (fun b o hb q => eb b o hb q) f0 f1 f3 f4 f5⟩
  self := fun A i s Q E st h => let ⟨_, ⟨_, he⟩, _⟩ := st; wpAny_pyIter_enum he h
def iEnumT (K : PySem.W.Frag) (ta : TA) : TI := fun σ H R => ta σ H fun vs H1 => ∃ a xs, vs = [.ref a] ∧ SqT K H1 a xs ∧ R (IteT K a) H1
def iEnumS (ta : TA) : TI := fun σ H R => ta σ H fun vs H1 => ∃ x, vs = [.str x] ∧ R (IteS x) H1
theorem pi_enumT {X : Cx} {e : Expr} {ta : TA} {p pos tpos : Pos} {elts : List Expr} {kk : Nat} (hg : Gl X "enumerate") (hm : X.mg "enumerate" = none) (ha : PA X [e] ta) (hs : starEach [e] X.env = [(false, eval e X.env)] := by rfl) :
    PI X (.Tuple elts kk tpos) (.Call (.Name "enumerate" p) [e] [] pos) (iEnumT X.K ta) := by
  refine ⟨fun pins s σ H R I h => ?_⟩
  refine Call_ (ld_blt I hg hm boot_enumerate (PyProof.Rows.callWith_type1 (thn (ha.run pos pins s σ H _ I h) fun us s1 ⟨vs, H1, I1, r1, q1⟩ => ?_) hs rfl))
  obtain ⟨a, xs, ex, hq, q⟩ := q1
  subst ex
  cases r1 with
  | cons r rr =>
    cases rr
    cases r
    obtain ⟨its, rv, p', hz⟩ := I1.tuple hq
    refine enum_begins1 (begins_tuple a its.toArray) p' fun h' he hit hsz hk => wpAny_pyIter_enum he ?_
    have I2 : Inv X pins σ H1 { s1 with heap := h' } := I1.kept (t' := s1.toks) hk
    refine ⟨s1.heap.objs.size + 1, [s1.heap.objs.size + 1, s1.heap.objs.size], _, _, H1, rfl, I2, turn_enumT a (s1.heap.objs.size + 1) s1.heap.objs.size, ⟨⟨.none, he⟩, ⟨_, hit, rfl, rfl⟩, Nat.succ_ne_self _⟩, fun b hb => ?_, q⟩
    have e' : b = s1.heap.objs.size + 1 ∨ b = s1.heap.objs.size := by simpa using hb
    have hle : s1.heap.objs.size ≤ b := by
      rcases e' with z | z
      · rw [z]; exact Nat.le_add_right _ _
      · rw [z]; exact Nat.le_refl _
    exact I1.fpOk hle (I1.hok.fresh hle)
theorem pi_enumS {X : Cx} {e : Expr} {ta : TA} {p pos tpos : Pos} {elts : List Expr} {kk : Nat} (hg : Gl X "enumerate") (hm : X.mg "enumerate" = none) (ha : PA X [e] ta) (hs : starEach [e] X.env = [(false, eval e X.env)] := by rfl) :
    PI X (.Tuple elts kk tpos) (.Call (.Name "enumerate" p) [e] [] pos) (iEnumS ta) := by
  refine ⟨fun pins s σ H R I h => ?_⟩
  refine Call_ (ld_blt I hg hm boot_enumerate (PyProof.Rows.callWith_type1 (thn (ha.run pos pins s σ H _ I h) fun us s1 ⟨vs, H1, I1, r1, q1⟩ => ?_) hs rfl))
  obtain ⟨x, ex, q⟩ := q1
  subst ex
  cases r1 with
  | cons r rr =>
    cases rr
    obtain ⟨t, rfl⟩ := r
    refine enum_begins1 (begins_text x t) trivial fun h' he hit hsz hk => wpAny_pyIter_enum he ?_
    have I2 : Inv X pins σ H1 { s1 with heap := h' } := I1.kept (t' := s1.toks) hk
    refine ⟨s1.heap.objs.size + 1, [s1.heap.objs.size + 1, s1.heap.objs.size], _, _, H1, rfl, I2, turn_enumS x t (s1.heap.objs.size + 1) s1.heap.objs.size, ⟨Nat.zero_le _, ⟨.none, he⟩, ⟨_, hit, rfl, rfl⟩, Nat.succ_ne_self _⟩, fun b hb => ?_, q⟩
    have e' : b = s1.heap.objs.size + 1 ∨ b = s1.heap.objs.size := by simpa using hb
    have hle : s1.heap.objs.size ≤ b := by
      rcases e' with z | z
      · rw [z]; exact Nat.le_add_right _ _
      · rw [z]; exact Nat.le_refl _
    exact I1.fpOk hle (I1.hok.fresh hle)
end L2
namespace Z
open PySem PySem.Spec PyProof.Rows L2

theorem txt_len (l : List Nat) : (⟨l.toArray⟩ : Str).length = l.length := List.size_toArray ..
theorem txt_app (a b : List Nat) : (⟨a.toArray⟩ : Str) ++ ⟨b.toArray⟩ = ⟨(a ++ b).toArray⟩ := by
  show (⟨a.toArray ++ b.toArray⟩ : Str) = _
  simp
theorem txt_inj {a b : List Nat} : (⟨a.toArray⟩ : Str) = ⟨b.toArray⟩ ↔ a = b := by
  constructor
  · intro e
    have e : a.toArray = b.toArray := Str.mk.inj e
    simpa using congrArg Array.toList e
  · intro e
    rw [e]
theorem txt_cps (l : List Nat) : (⟨l.toArray⟩ : Str).cps.toList = l := rfl

/-! ### an operator by values: how its cases are shown -/
section
variable {K : PySem.W.Frag} {B H : Hp} {L : MS} {Q : VK} {P : DK}
/-- what a rule's reading is shown for -/
abbrev Fin (K : PySem.W.Frag) (B : Hp) (P : DK) (Q : VK) : Prop := ∀ d L' z B2 H2, P d L' → Same B B2 → Hs K B2 L' H2 → Is K B2 d z → Q z H2
theorem Fin.here {d : Dt} {z : V} (q : Fin K B P Q) (hl : Hs K B L H) (p : P d L) (i : Is K B d z) : Q z H := q d L z B H p (Same.refl B) hl i
theorem Fin.tup {xs : List Dt} {vs : List V} (q : Fin K B P Q) (hl : Hs K B L H) (p : P (.tup xs) L) (i : IsL K B xs vs) {a : Addr} (ha : H a = none) : Q (.ref a) (upd H a (.tup vs)) := by
  obtain ⟨sb, h2⟩ := hl.new (o := .tup vs) ha
  exact q (.tup xs) L _ _ _ p sb h2 ⟨a, vs, rfl, upd_same, i.mono sb⟩
theorem Fin.lst {xs : List Dt} {vs : List V} (q : Fin K B P Q) (hl : Hs K B L H) (p : P (.lst xs) L) (i : IsL K B xs vs) {a : Addr} (ha : H a = none) : Q (.ref a) (upd H a (.lst vs)) := by
  obtain ⟨sb, h2⟩ := hl.new (o := .lst vs) ha
  exact q (.lst xs) L _ _ _ p sb h2 ⟨a, vs, rfl, upd_same, i.mono sb⟩
theorem Fin.lstM {xs : List Dt} {vs : List V} (q : Fin K B P Q) (hl : Hs K B L H) (p : ∀ a, P (.adr a) ((a, .lst xs) :: L)) (i : IsL K B xs vs) {a : Addr} (ha : H a = none) : Q (.ref a) (upd H a (.lst vs)) :=
  q (.adr a) _ _ B _ (p a) (Same.refl B) (hl.newM ha ⟨vs, rfl, i⟩) rfl
end
theorem IsL.nil_iff {K : PySem.W.Frag} {B : Hp} {ds : List Dt} {vs : List V} (h : IsL K B ds vs) : vs = [] ↔ ds = [] := by
  have e := h.length
  cases ds <;> cases vs <;> simp_all

/-! ### + -/
def addK : K2 := fun x y L P => match x, y with
  | .int i, .int j => P (.int (i + j)) L
  | .str a, .str b => a.length + b.length ≤ sizeLine ∧ P (.str (a ++ b)) L
  | .tup a, .tup b => a.length + b.length ≤ sizeLine ∧ P (.tup (a ++ b)) L
  | .lst a, .lst b => a.length + b.length ≤ sizeLine ∧ P (.lst (a ++ b)) L
  | _, _ => False
section
variable {X : Cx} {K : PySem.W.Frag}
def rPlus (K : PySem.W.Frag) : R2 := fun x y H Q => rI0 (fun i j => .int (i + j)) x y H Q ∨ (∃ i j, x = .str i ∧ y = .str j ∧ i.length + j.length ≤ sizeLine ∧ Q (.str (i ++ j)) H) ∨ rCatA K x y H Q ∨ rCat x y H Q
theorem op_plus : OpR X (binaryOp .Add) (rPlus X.K) := op_add.or (op_add_str.or (op_catA.or op_cat))
theorem kr_plus : KR2 K (rPlus K) addK := by
  intro B H L x y v u Q P hl ix iy hk q
  cases x <;> cases y <;> try exact False.elim hk
  · exact .inl ⟨_, _, ix, iy, Fin.here q hl hk rfl⟩
  · refine .inr (.inl ⟨_, _, ix, iy, ?_, ?_⟩)
    · rw [txt_len, txt_len]
      exact hk.1
    · rw [txt_app]
      exact Fin.here q hl hk.2 rfl
  · obtain ⟨a, vs, rfl, ha, ia⟩ := ix
    obtain ⟨b, us, rfl, hb, ib⟩ := iy
    obtain ⟨hz, p⟩ := hk
    refine .inr (.inr (.inl ⟨a, b, vs, us, rfl, rfl, SqT.of (hl.sub _ _ ha), SqT.of (hl.sub _ _ hb), by rw [ia.length, ib.length]; exact hz, fun e => ?_, fun _ e => ?_, fun _ _ c hc => ?_⟩))
    · rw [ia.nil_iff.mp e] at p
      exact Fin.here q hl p ⟨b, us, rfl, hb, ib⟩
    · rw [ib.nil_iff.mp e, List.append_nil] at p
      exact Fin.here q hl p ⟨a, vs, rfl, ha, ia⟩
    · exact Fin.tup q hl p (ia.append ib) hc
  · obtain ⟨a, vs, rfl, ha, ia⟩ := ix
    obtain ⟨b, us, rfl, hb, ib⟩ := iy
    obtain ⟨hz, p⟩ := hk
    exact .inr (.inr (.inr ⟨a, b, vs, us, rfl, rfl, hl.sub _ _ ha, hl.sub _ _ hb, by rw [ia.length, ib.length]; exact hz, fun c hc => Fin.lst q hl p (ia.append ib) hc⟩))

/-! ### ints -/
def intK (C : Int → Int → Prop) (g : Int → Int → Dt) : K2 := fun x y L P => match x, y with
  | .int i, .int j => C i j ∧ P (g i j) L
  | _, _ => False
def intK0 (g : Int → Int → Dt) : K2 := fun x y L P => match x, y with
  | .int i, .int j => P (g i j) L
  | _, _ => False
theorem kr_int {C : Int → Int → Prop} {g : Int → Int → V} {g' : Int → Int → Dt} (hg : ∀ i j B, Is K B (g' i j) (g i j)) : KR2 K (rI C g) (intK C g') := by
  intro B H L x y v u Q P hl ix iy hk q
  cases x <;> cases y <;> try exact False.elim hk
  exact ⟨_, _, ix, iy, hk.1, Fin.here q hl hk.2 (hg _ _ _)⟩
theorem kr_int0 {g : Int → Int → V} {g' : Int → Int → Dt} (hg : ∀ i j B, Is K B (g' i j) (g i j)) : KR2 K (rI0 g) (intK0 g') := by
  intro B H L x y v u Q P hl ix iy hk q
  cases x <;> cases y <;> try exact False.elim hk
  exact ⟨_, _, ix, iy, Fin.here q hl hk (hg _ _ _)⟩
theorem KR2.of {r : R2} {k k' : K2} (h : KR2 K r k) (e : ∀ x y L P, k' x y L P → k x y L P) : KR2 K r k' := fun B H L x y v u Q P hl ix iy hk q => h B H L x y v u Q P hl ix iy (e x y L P hk) q
theorem szOk {n : Nat} (h : Nat.ble n sizeLine = true := by rfl) : n ≤ sizeLine := Nat.le_of_ble_eq_true h
def CMulA (i j : Int) : Prop := CMul i j ∨ CMulW i j
def subK : K2 := fun x y L P => match x, y with
  | .int i, .int j => P (.int (i - j)) L
  | _, _ => False
def mulK : K2 := fun x y L P => match x, y with
  | .int i, .int j => CMulA i j ∧ P (.int (i * j)) L
  | _, _ => False
def fdivK : K2 := fun x y L P => match x, y with
  | .int i, .int j => CDivW i j ∧ P (.int (i / j)) L
  | _, _ => False
def modK : K2 := fun x y L P => match x, y with
  | .int i, .int j => 0 < j ∧ P (.int (i % j)) L
  | _, _ => False
def powK : K2 := fun x y L P => match x, y with
  | .int i, .int j => CPow i j ∧ P (.int (i ^ j.toNat)) L
  | _, _ => False
def ltK : K2 := fun x y L P => match x, y with
  | .int i, .int j => P (.bl (decide (i < j))) L
  | _, _ => False
def leK : K2 := fun x y L P => match x, y with
  | .int i, .int j => P (.bl (decide (i ≤ j))) L
  | _, _ => False
def gtK : K2 := fun x y L P => match x, y with
  | .int i, .int j => P (.bl (decide (j < i))) L
  | _, _ => False
def geK : K2 := fun x y L P => match x, y with
  | .int i, .int j => P (.bl (decide (j ≤ i))) L
  | _, _ => False
variable {a b : Expr} {ds : DS} {L : MS} {P : DK} {pos : Pos} {PB : Bool → MS → Prop}
theorem dp_add (h : DP X a ds L fun x L1 => DP X b ds L1 fun y L2 => addK x y L2 P) : DP X (.BinOp a .Add b pos) ds L P := dp_bin op_plus kr_plus h
theorem dp_sub (h : DP X a ds L fun x L1 => DP X b ds L1 fun y L2 => subK x y L2 P) : DP X (.BinOp a .Sub b pos) ds L P := dp_bin op_sub (KR2.of (k := intK0 (fun i j => .int (i - j))) (kr_int0 (by intros; rfl)) (fun x y L P h => by cases x <;> cases y <;> first | exact h | exact h.elim)) h
theorem op_mulA : OpR X (binaryOp .Mult) (rI CMulA fun i j => .int (i * j)) := by
  intro pins s σ H x y v u Q I rx ry h
  obtain ⟨i, j, e1, e2, c, q⟩ := h
  rcases c with c | c
  · exact op_mul pins s σ H x y v u Q I rx ry ⟨i, j, e1, e2, c, q⟩
  · exact op_mulW pins s σ H x y v u Q I rx ry ⟨i, j, e1, e2, c, q⟩
theorem dp_mul (h : DP X a ds L fun x L1 => DP X b ds L1 fun y L2 => mulK x y L2 P) : DP X (.BinOp a .Mult b pos) ds L P := dp_bin op_mulA (KR2.of (k := intK CMulA (fun i j => .int (i * j))) (kr_int (by intros; rfl)) (fun x y L P h => by cases x <;> cases y <;> first | exact h | exact h.elim)) h
theorem dp_fdiv (h : DP X a ds L fun x L1 => DP X b ds L1 fun y L2 => fdivK x y L2 P) : DP X (.BinOp a .FloorDiv b pos) ds L P := dp_bin op_fdivW (KR2.of (k := intK CDivW (fun i j => .int (i / j))) (kr_int (by intros; rfl)) (fun x y L P h => by cases x <;> cases y <;> first | exact h | exact h.elim)) h
theorem dp_mod (h : DP X a ds L fun x L1 => DP X b ds L1 fun y L2 => modK x y L2 P) : DP X (.BinOp a .Mod b pos) ds L P := dp_bin op_mod (KR2.of (k := intK (fun _ j => 0 < j) (fun i j => .int (i % j))) (kr_int (by intros; rfl)) (fun x y L P h => by cases x <;> cases y <;> first | exact h | exact h.elim)) h
theorem dp_pow (h : DP X a ds L fun x L1 => DP X b ds L1 fun y L2 => powK x y L2 P) : DP X (.BinOp a .Pow b pos) ds L P := dp_bin op_pow (KR2.of (k := intK CPow (fun i j => .int (i ^ j.toNat))) (kr_int (by intros; rfl)) (fun x y L P h => by cases x <;> cases y <;> first | exact h | exact h.elim)) h
/-- a list so many times -/
def repK : K2 := fun x y L P => match x, y with
  | .lst xs, .int k => -(2 ^ 63) ≤ k ∧ k < 2 ^ 63 ∧ xs.length * k.toNat ≤ sizeLine ∧ P (.lst (List.replicate k.toNat xs).flatten) L
  | _, _ => False
theorem IsL.rep {B : Hp} {xs : List Dt} {vs : List V} (h : IsL K B xs vs) : ∀ k : Nat, IsL K B (List.replicate k xs).flatten (List.replicate k vs).flatten
  | 0 => rfl
  | k + 1 => by
    rw [List.replicate_succ, List.replicate_succ, List.flatten_cons, List.flatten_cons]
    exact h.append (IsL.rep h k)
theorem kr_rep : KR2 K rRep repK := by
  intro B H L x y v u Q P hl ix iy hk q
  cases x <;> cases y <;> try exact False.elim hk
  obtain ⟨a, vs, rfl, ha, ia⟩ := ix
  obtain ⟨h1, h2, h3, p⟩ := hk
  exact ⟨a, _, vs, rfl, iy, hl.sub _ _ ha, h1, h2, by rw [ia.length]; exact h3, fun c hc => Fin.lst q hl p (ia.rep _) hc⟩
theorem dp_rep (h : DP X a ds L fun x L1 => DP X b ds L1 fun y L2 => repK x y L2 P) : DP X (.BinOp a .Mult b pos) ds L P := dp_bin op_rep kr_rep h
/-- comparisons of ints -/
theorem dt_lt (h : DP X a ds L fun x L1 => DP X b ds L1 fun y L2 => ltK x y L2 fun d L3 => ∃ c, d = .bl c ∧ PB c L3) : DT X (.Compare a [.Lt] [b] pos) ds L PB := dt_cmp op_lt (KR2.of (k := intK0 (fun i j => .bl (decide (i < j)))) (kr_int0 (by intros; rfl)) (fun x y L P h => by cases x <;> cases y <;> first | exact h | exact h.elim)) h
theorem dt_le (h : DP X a ds L fun x L1 => DP X b ds L1 fun y L2 => leK x y L2 fun d L3 => ∃ c, d = .bl c ∧ PB c L3) : DT X (.Compare a [.LtE] [b] pos) ds L PB := dt_cmp op_le (KR2.of (k := intK0 (fun i j => .bl (decide (i ≤ j)))) (kr_int0 (by intros; rfl)) (fun x y L P h => by cases x <;> cases y <;> first | exact h | exact h.elim)) h
theorem dt_gt (h : DP X a ds L fun x L1 => DP X b ds L1 fun y L2 => gtK x y L2 fun d L3 => ∃ c, d = .bl c ∧ PB c L3) : DT X (.Compare a [.Gt] [b] pos) ds L PB := dt_cmp op_gt (KR2.of (k := intK0 (fun i j => .bl (decide (j < i)))) (kr_int0 (by intros; rfl)) (fun x y L P h => by cases x <;> cases y <;> first | exact h | exact h.elim)) h
theorem dt_ge (h : DP X a ds L fun x L1 => DP X b ds L1 fun y L2 => geK x y L2 fun d L3 => ∃ c, d = .bl c ∧ PB c L3) : DT X (.Compare a [.GtE] [b] pos) ds L PB := dt_cmp op_ge (KR2.of (k := intK0 (fun i j => .bl (decide (j ≤ i)))) (kr_int0 (by intros; rfl)) (fun x y L P h => by cases x <;> cases y <;> first | exact h | exact h.elim)) h
theorem dp_lt (h : DP X a ds L fun x L1 => DP X b ds L1 fun y L2 => ltK x y L2 P) : DP X (.Compare a [.Lt] [b] pos) ds L P := dp_cmp op_lt (KR2.of (k := intK0 (fun i j => .bl (decide (i < j)))) (kr_int0 (by intros; rfl)) (fun x y L P h => by cases x <;> cases y <;> first | exact h | exact h.elim)) h
theorem dp_le (h : DP X a ds L fun x L1 => DP X b ds L1 fun y L2 => leK x y L2 P) : DP X (.Compare a [.LtE] [b] pos) ds L P := dp_cmp op_le (KR2.of (k := intK0 (fun i j => .bl (decide (i ≤ j)))) (kr_int0 (by intros; rfl)) (fun x y L P h => by cases x <;> cases y <;> first | exact h | exact h.elim)) h
theorem dp_gt (h : DP X a ds L fun x L1 => DP X b ds L1 fun y L2 => gtK x y L2 P) : DP X (.Compare a [.Gt] [b] pos) ds L P := dp_cmp op_gt (KR2.of (k := intK0 (fun i j => .bl (decide (j < i)))) (kr_int0 (by intros; rfl)) (fun x y L P h => by cases x <;> cases y <;> first | exact h | exact h.elim)) h
theorem dp_ge (h : DP X a ds L fun x L1 => DP X b ds L1 fun y L2 => geK x y L2 P) : DP X (.Compare a [.GtE] [b] pos) ds L P := dp_cmp op_ge (KR2.of (k := intK0 (fun i j => .bl (decide (j ≤ i)))) (kr_int0 (by intros; rfl)) (fun x y L P h => by cases x <;> cases y <;> first | exact h | exact h.elim)) h
/-- a <= b <= c of ints, as a test -/
theorem dt_chain_le {c : Expr} (h : DP X a ds L fun x L1 => DP X b ds L1 fun y L2 => ∃ i j, x = .int i ∧ y = .int j ∧ two (decide (i ≤ j)) (DP X c ds L2 fun z L3 => ∃ k, z = .int k ∧ PB (decide (j ≤ k)) L3) (PB false L2)) (hm : lastMarks [CmpOp.LtE, CmpOp.LtE] [b, c] = false := by with_unfolding_all rfl) : DT X (.Compare a [.LtE, .LtE] [b, c] pos) ds L PB := .mk fun σ H B hs hl Q q =>
  PT.to (pt_chain op_le op_le pe_w pe_w pe_w hm) (h.run σ H B hs hl _ fun x L1 v B1 H1 hb e1 hl1 ix => hb.run σ H1 B1 (hs.mono e1) hl1 _ fun y L2 u B2 H2 hp e2 hl2 iy => by
    obtain ⟨i, j, rfl, rfl, p⟩ := hp
    refine ⟨i, j, ix.mono e2, iy, decide (i ≤ j), rfl, ?_⟩
    cases e : decide (i ≤ j) with
    | true =>
      rw [e] at p
      refine (p.1 rfl).run σ H2 B2 ((hs.mono e1).mono e2) hl2 _ fun z L3 w B3 H3 hp3 e3 hl3 iz => ?_
      obtain ⟨k, rfl, p3⟩ := hp3
      exact ⟨j, k, by rw [show u = V.int j from iy], iz, _, rfl, q _ L3 B3 H3 p3 ((e1.trans e2).trans e3) hl3⟩
    | false =>
      rw [e] at p
      exact ⟨false, rfl, q _ L2 B2 H2 (p.2 rfl) (e1.trans e2) hl2⟩)

/-! ### == of ints, texts, bools, None -/
def scK (g : Bool → Bool) : K2 := fun x y L P => match x, y with
  | .int i, .int j => P (.bl (g (decide (i = j)))) L
  | .str a, .str b => P (.bl (g (decide (a = b)))) L
  | .bl a, .bl b => P (.bl (g (decide (a = b)))) L
  | .non, .non => P (.bl (g true)) L
  | _, _ => False
theorem kr_eq : KR2 K rEq (scK id) := by
  intro B H L x y v u Q P hl ix iy hk q
  cases x <;> cases y <;> try exact False.elim hk
  · obtain rfl : v = _ := ix
    obtain rfl : u = _ := iy
    exact ⟨rfl, Fin.here q hl hk rfl⟩
  · obtain rfl : v = _ := ix
    obtain rfl : u = _ := iy
    refine ⟨rfl, Fin.here q hl hk ?_⟩
    show V.bl _ = V.bl _
    rw [dec_bl, ← Bool.beq_eq_decide_eq]
    rfl
  · obtain rfl : v = _ := ix
    obtain rfl : u = _ := iy
    refine ⟨rfl, Fin.here q hl hk ?_⟩
    show V.bl _ = V.bl _
    rw [dec_int]
    rfl
  · obtain rfl : v = _ := ix
    obtain rfl : u = _ := iy
    refine ⟨rfl, Fin.here q hl hk ?_⟩
    show V.bl _ = V.bl (decide _)
    congr 1
    exact decide_eq_decide.mpr ⟨fun e => txt_inj.mp (V.str.inj e), fun e => by rw [e]⟩
theorem kr_ne : KR2 K rNe (scK not) := by
  intro B H L x y v u Q P hl ix iy hk q
  cases x <;> cases y <;> try exact False.elim hk
  · obtain rfl : v = _ := ix
    obtain rfl : u = _ := iy
    exact ⟨rfl, Fin.here q hl hk rfl⟩
  · obtain rfl : v = _ := ix
    obtain rfl : u = _ := iy
    refine ⟨rfl, Fin.here q hl hk ?_⟩
    show V.bl _ = V.bl _
    rw [dec_bl, ← Bool.beq_eq_decide_eq]
  · obtain rfl : v = _ := ix
    obtain rfl : u = _ := iy
    refine ⟨rfl, Fin.here q hl hk ?_⟩
    show V.bl _ = V.bl _
    rw [dec_int]
    rfl
  · obtain rfl : v = _ := ix
    obtain rfl : u = _ := iy
    refine ⟨rfl, Fin.here q hl hk ?_⟩
    show V.bl _ = V.bl (!decide _)
    congr 2
    exact decide_eq_decide.mpr ⟨fun e => txt_inj.mp (V.str.inj e), fun e => by rw [e]⟩
theorem dt_eq (h : DP X a ds L fun x L1 => DP X b ds L1 fun y L2 => scK id x y L2 fun d L3 => ∃ c, d = .bl c ∧ PB c L3) : DT X (.Compare a [.Eq] [b] pos) ds L PB := dt_cmp op_eq kr_eq h
theorem dt_ne (h : DP X a ds L fun x L1 => DP X b ds L1 fun y L2 => scK not x y L2 fun d L3 => ∃ c, d = .bl c ∧ PB c L3) : DT X (.Compare a [.NotEq] [b] pos) ds L PB := dt_cmp op_ne kr_ne h
theorem dp_eq (h : DP X a ds L fun x L1 => DP X b ds L1 fun y L2 => scK id x y L2 P) : DP X (.Compare a [.Eq] [b] pos) ds L P := dp_cmp op_eq kr_eq h
theorem dp_ne (h : DP X a ds L fun x L1 => DP X b ds L1 fun y L2 => scK not x y L2 P) : DP X (.Compare a [.NotEq] [b] pos) ds L P := dp_cmp op_ne kr_ne h

/-! ### is None -/
def isNon : Dt → Bool
  | .non => true
  | _ => false
theorem dt_isN {k : Nat} {p2 : Pos} (h : DP X a ds L fun x L1 => PB (isNon x) L1) : DT X (.Compare a [.Is] [.Constant .none k p2] pos) ds L PB := .mk fun σ H B hs hl Q q =>
  PT.to (pt_cmp (pc_isN pe_w) (nomark _)) (h.run σ H B hs hl _ fun x L1 v B1 H1 p e1 hl1 ix => ⟨_, rfl, by
    have e : decide (v = V.non) = isNon x := by
      cases x <;> first
        | (obtain rfl : v = _ := ix; rfl)
        | (obtain ⟨_, _, rfl, _⟩ := ix; rfl)
        | (obtain ⟨_, _, _, rfl, _⟩ := ix; rfl)
    rw [e]
    exact q _ L1 B1 H1 p e1 hl1⟩)
theorem dt_notN {k : Nat} {p2 : Pos} (h : DP X a ds L fun x L1 => PB (!isNon x) L1) : DT X (.Compare a [.IsNot] [.Constant .none k p2] pos) ds L PB := .mk fun σ H B hs hl Q q =>
  PT.to (pt_cmp (pc_notN pe_w) (nomark _)) (h.run σ H B hs hl _ fun x L1 v B1 H1 p e1 hl1 ix => ⟨_, rfl, by
    have e : (!decide (v = V.non)) = !isNon x := by
      cases x <;> first
        | (obtain rfl : v = _ := ix; rfl)
        | (obtain ⟨_, _, rfl, _⟩ := ix; rfl)
        | (obtain ⟨_, _, _, rfl, _⟩ := ix; rfl)
    rw [e]
    exact q _ L1 B1 H1 p e1 hl1⟩)

/-! ### one sign in a text -/
def inSK (g : Bool → Bool) : K2 := fun x y L P => match x, y with
  | .str [c], .str l => P (.bl (g (decide (c ∈ l)))) L
  | _, _ => False
theorem kr_inS : KR2 K (fun x y H Q => ∃ (c : Nat) (z : Str), x = .str ⟨#[c]⟩ ∧ y = .str z ∧ Q (.bl (decide (c ∈ z.cps.toList))) H) (inSK id) := by
  intro B H L x y v u Q P hl ix iy hk q
  unfold inSK at hk
  split at hk
  · exact ⟨_, _, ix, iy, Fin.here q hl hk rfl⟩
  · exact hk.elim
theorem kr_notInS : KR2 K (fun x y H Q => ∃ (c : Nat) (z : Str), x = .str ⟨#[c]⟩ ∧ y = .str z ∧ Q (.bl (!decide (c ∈ z.cps.toList))) H) (inSK not) := by
  intro B H L x y v u Q P hl ix iy hk q
  unfold inSK at hk
  split at hk
  · exact ⟨_, _, ix, iy, Fin.here q hl hk rfl⟩
  · exact hk.elim
theorem dt_inS (h : DP X a ds L fun x L1 => DP X b ds L1 fun y L2 => inSK id x y L2 fun d L3 => ∃ c, d = .bl c ∧ PB c L3) (hm : behindInMarks .In b = false := by rfl) : DT X (.Compare a [.In] [b] pos) ds L PB := dt_cmp op_in_sign kr_inS h hm
theorem dt_notInS (h : DP X a ds L fun x L1 => DP X b ds L1 fun y L2 => inSK not x y L2 fun d L3 => ∃ c, d = .bl c ∧ PB c L3) (hm : behindInMarks .NotIn b = false := by rfl) : DT X (.Compare a [.NotIn] [b] pos) ds L PB := dt_cmp op_notIn_sign kr_notInS h hm

/-! ### subscripts -/
theorem atI_is {K : PySem.W.Frag} {B : Hp} {xs : List Dt} {vs : List V} {i : Int} {d : Dt} (h : IsL K B xs vs) (e : atI xs i = some d) : ∃ v, atI vs i = some v ∧ Is K B d v := by
  unfold atI at e ⊢
  rw [h.length]
  cases hn : ixN xs.length i with
  | none => rw [hn] at e; cases e
  | some j =>
    rw [hn] at e
    exact h.get e
def ixK : K2 := fun x y L P => match x, y with
  | .lst xs, .int i => ∃ d, atI xs i = some d ∧ P d L
  | .frl xs, .int i => ∃ d, atI xs i = some d ∧ P d L
  | .tup xs, .int i => ∃ d, atI xs i = some d ∧ P d L
  | .str l, .int i => l.length ≤ sizeLine ∧ ∃ c, atI l i = some c ∧ P (.str [c]) L
  | .adr a, .int i => ∃ xs, ML L a (.lst xs) ∧ ∃ d, atI xs i = some d ∧ P d L
  | _, _ => False
theorem kr_ix : KR2 K (rIx K) ixK := by
  intro B H L x y v u Q P hl ix iy hk q
  cases x <;> cases y <;> try exact False.elim hk
  · obtain ⟨hz, c, e, p⟩ := hk
    exact .inr (.inr ⟨_, _, c, ix, iy, by rw [txt_len]; exact hz, e, Fin.here q hl p rfl⟩)
  · obtain ⟨a, vs, rfl, ha, ia⟩ := ix
    obtain ⟨d, e, p⟩ := hk
    obtain ⟨w, e2, iw⟩ := atI_is ia e
    exact .inr (.inl ⟨a, vs, _, w, rfl, iy, SqT.of (hl.sub _ _ ha), e2, Fin.here q hl p iw⟩)
  · obtain ⟨a, vs, rfl, ha, ia⟩ := ix
    obtain ⟨d, e, p⟩ := hk
    obtain ⟨w, e2, iw⟩ := atI_is ia e
    exact .inl ⟨a, vs, _, w, rfl, iy, SqL.of (hl.sub _ _ ha), e2, Fin.here q hl p iw⟩
  · obtain ⟨a, vs, rfl, ha, ia⟩ := ix
    obtain ⟨d, e, p⟩ := hk
    obtain ⟨w, e2, iw⟩ := atI_is ia e
    exact .inl ⟨a, vs, _, w, rfl, iy, hl.sub.seq ha, e2, Fin.here q hl p iw⟩
  · obtain ⟨xs, hm, d, e, p⟩ := hk
    obtain ⟨vs, ha, ia⟩ := hl.lst hm
    obtain ⟨w, e2, iw⟩ := atI_is ia e
    exact .inl ⟨_, vs, _, w, ix, iy, SqL.of ha, e2, Fin.here q hl p iw⟩
theorem dp_ix (h : DP X a ds L fun x L1 => DP X b ds L1 fun y L2 => ixK x y L2 P) (hs : PlainIx b := by intro _ _; rfl) : DP X (.Subscript a b pos) ds L P := dp_op2 (f := getItem) (pe_ix ix_seq pe_w pe_w hs) kr_ix h

/-! ### slices -/
def cutL {α : Type} (xs : List α) (lo hi : Option Int) : List α := (xs.drop (HT.sIx xs.length 0 lo)).take (HT.sIx xs.length xs.length hi - HT.sIx xs.length 0 lo)
theorem cut_is {B : Hp} {xs : List Dt} {vs : List V} (h : IsL K B xs vs) (lo hi : Option Int) : IsL K B (cutL xs lo hi) (cutV vs lo hi) := by
  unfold cutL cutV
  rw [h.length]
  exact (h.drop _).take _
def DO (X : Cx) (e : Option Expr) (ds : DS) (L : MS) (P : Option Int → MS → Prop) : Prop := match e with
  | none => P none L
  | some e => DP X e ds L fun x L1 => ∃ i, x = .int i ∧ P (some i) L1
def slK : Dt → Option Int → Option Int → MS → DK → Prop := fun x lo hi L P => match x with
  | .lst xs => P (.lst (cutL xs lo hi)) L
  | .tup xs => P (.tup (cutL xs lo hi)) L
  | .str l => l.length ≤ sizeLine ∧ P (.str (cutL l lo hi)) L
  | .adr a => ∃ xs, ML L a (.lst xs) ∧ P (.lst (cutL xs lo hi)) L
  | _ => False
theorem cutL_all {α : Type} (xs : List α) (lo hi : Option Int) (h : HT.sIx xs.length 0 lo = 0 ∧ HT.sIx xs.length xs.length hi = xs.length) : cutL xs lo hi = xs := by
  unfold cutL
  rw [h.1, h.2]
  simp
theorem dp_slice {e : Expr} {lo hi : Option Expr} {p2 : Pos} (h : DP X e ds L fun x L1 => DO X lo ds L1 fun l L2 => DO X hi ds L2 fun u L3 => slK x l u L3 P) : DP X (.Subscript e (.Slice lo hi none p2) pos) ds L P := .mk fun σ H B hs hl Q q => by
  have po : ∀ e : Option Expr, PO X e (match e with | none => tNoPart | some e => tPart (EW X e)) := fun e => match e with
    | none => po_none
    | some e => po_some pe_w
  have dof : ∀ (e : Option Expr) (P1 : Option Int → MS → Prop) (σ : L2.St) (H : Hp) (B : Hp) (L : MS) (Q1 : Option Int → Hp → Prop), Sl X.K B ds σ → Hs X.K B L H → DO X e ds L P1 →
      (∀ o L' B2 H2, P1 o L' → Same B B2 → Hs X.K B2 L' H2 → Q1 o H2) → (match e with | none => tNoPart | some e => tPart (EW X e)) σ H Q1 := fun e P1 σ H B L Q1 hs hl h q => match e, h with
    | none, h => q none L B H h (Same.refl B) hl
    | some e, h => h.run σ H B hs hl _ fun x L1 v B1 H1 ⟨i, ex, p⟩ e1 hl1 ix => by
      subst ex
      exact ⟨i, ix, q (some i) L1 B1 H1 p e1 hl1⟩
  refine PE.to (pe_slice (sl_list.or (sl_tupA.or sl_str)) pe_w (po lo) (po hi)) ?_
  refine h.run σ H B hs hl _ fun x L1 v B1 H1 h1 e1 hl1 ix => ?_
  refine dof lo _ σ H1 B1 L1 _ (hs.mono e1) hl1 h1 fun l L2 B2 H2 h2 e2 hl2 => ?_
  refine dof hi _ σ H2 B2 L2 _ ((hs.mono e1).mono e2) hl2 h2 fun u L3 B3 H3 h3 e3 hl3 => ?_
  have ix3 := (ix.mono e2).mono e3
  have q3 : Fin X.K B3 P Q := fun d L' z B4 H4 p e4 => q d L' z B4 H4 p (((e1.trans e2).trans e3).trans e4)
  cases x <;> try exact False.elim h3
  · exact .inr (.inr ⟨_, ix3, by rw [txt_len]; exact h3.1, Fin.here q3 hl3 h3.2 (by
      show V.str _ = V.str _
      rfl)⟩)
  · obtain ⟨a, vs, rfl, ha, ia⟩ := ix3
    refine .inr (.inl ⟨a, vs, rfl, SqT.of (hl3.sub _ _ ha), fun hw => ?_, fun _ c hc => Fin.tup q3 hl3 h3 (cut_is ia l u) hc⟩)
    have hw' := hw
    rw [ia.length] at hw'
    have h3' : P (.tup (cutL _ l u)) L3 := h3
    rw [cutL_all _ _ _ hw'] at h3'
    exact Fin.here q3 hl3 h3' ⟨a, vs, rfl, ha, ia⟩
  · obtain ⟨a, vs, rfl, ha, ia⟩ := ix3
    exact .inl ⟨a, vs, rfl, SqL.of (hl3.sub _ _ ha), fun c hc => Fin.lst q3 hl3 h3 (cut_is ia l u) hc⟩
  · obtain ⟨xs, hm, p⟩ := h3
    obtain ⟨vs, ha, ia⟩ := hl3.lst hm
    exact .inl ⟨_, vs, ix3, SqL.of ha, fun c hc => Fin.lst q3 hl3 p (cut_is ia l u) hc⟩
end
end Z
namespace Z
open PySem PySem.Spec PyProof.Rows L2

/-! ### contracts -/
abbrev Rel := List Dt → MS → DK → Prop
def spP (K : PySem.W.Frag) (R : Rel) : Sp := fun vs H Q _ => ∃ B ds L P, IsL K B ds vs ∧ Hs K B L H ∧ R ds L P ∧ Fin K B P Q
structure Cal (Pr : Program) (w : World) (K : PySem.W.Frag) (mg : Str → Option Value) (base : Heap) (x : Str) (k : Nat) (ps : List Str) (R : Rel) : Prop where
  ex : ∃ (f : Addr) (fd : FuncData), FnOk Pr w K mg base CX0 k f fd ps (spP K R) ∧ mg x = some (.ref f) ∧ PySem.W.keepIn K (.ref f) = true ∧ Binds K fd ps [] ∧ ∃ oc od osl, K.lookup f = some ⟨oc, od, .func fd, osl⟩
theorem _root_.L2.Fun.look {K : PySem.W.Frag} {x q : Str} {st : Stmt} {f : Addr} {fd : FuncData} (F : Fun K x q st f fd) : ∃ oc od osl, K.lookup f = some ⟨oc, od, .func fd, osl⟩ := by
  obtain ⟨oc, od, kV, doc, pm, an, cdv, ct, osl, _, lk, _⟩ := F.ex
  exact ⟨oc, od, osl, lk⟩
structure FunAt (K : PySem.W.Frag) (mg : Str → Option Value) (x : Str) (st : Stmt) : Prop where
  ex : ∃ (f : Addr) (fd : FuncData), Fun K x x st f fd ∧ mg x = some (.ref f)
/-- the names' data at the entry -/
def startD (N : List Str) (ds : List Dt) : DS := ds.map some ++ List.replicate (N.length - ds.length) none
theorem sl_start {K : PySem.W.Frag} {B : Hp} {N : List Str} {ds : List Dt} {vs : List V} (h : IsL K B ds vs) : Sl K B (startD N ds) (L2.start N vs) := by
  have hl := h.length
  unfold startD L2.start
  refine ⟨by simp [hl], fun i d q => ?_⟩
  by_cases hi : i < ds.length
  · rw [List.getElem?_append_left (by simpa using hi), List.getElem?_map] at q
    cases e : ds[i]? with
    | none => rw [e] at q; cases q
    | some x =>
      rw [e] at q
      cases q
      obtain ⟨v, e1, e2⟩ := h.get e
      exact ⟨v, by rw [List.getElem?_append_left (by simpa [hl] using hi), List.getElem?_map, e1]; rfl, e2⟩
  · rw [List.getElem?_append_right (by simpa using hi), List.getElem?_replicate] at q
    split at q <;> cases q
/-- the context of a def's body that lets no exception out -/
@[reducible] def fX (Pr : Program) (w : World) (K : PySem.W.Frag) (mg : Str → Option Value) (base : Heap) (N : List Str) (x : Str) (sc : Scope) (f : Addr) (cdv : Value) (A : Around) (outer : List Env) (s : Shared) (H : Hp) (E : XK) : Cx :=
  (cxOf CX0 Pr w K mg base N x sc f cdv A outer s H E).nox
section
variable {Pr : Program} {w : World} {K : PySem.W.Frag} {mg : Str → Option Value} {base : Heap}
theorem cal_of {x : Str} {st : Stmt} {N ps : List Str} {k : Nat} {R : Rel} (F : FunAt K mg x st) (S : FnScope N ps (defScope st)) (hlen : ∀ ds L P, R ds L P → ds.length = ps.length)
    (hb : ∀ (kV doc pm : Value) (an : Option Addr) (cdv ct : Value) (us : List Value), us.length = ps.length → bindArgs (PySem.W.fnOf x x (defArgs st) (defBody st) (defScope st) .none kV doc pm an cdv ct) ⟨us, []⟩ = pure (ps.zip us))
    (body : ∀ (f : Addr) (cdv : Value) (A : Around) (outer : List Env) (s : Shared) (H : Hp) (E : XK), Room k (fX Pr w K mg base N x (defScope st) f cdv A outer s H E).A → ∀ ds L P, R ds L P →
      DSs (fX Pr w K mg base N x (defScope st) f cdv A outer s H E) (defBody st) (startD N ds) L ⟨fun _ L' => P .non L', P, fun _ _ => False, fun _ _ => False⟩) : Cal Pr w K mg base x (k + 1) ps R := by
  obtain ⟨f, fd, F, hm⟩ := F.ex
  refine ⟨f, fd, ?_, hm, F.kp, F.binds hb, F.look⟩
  refine F.ok S (fun vs H Q E h => ?_) fun cdv A outer s H vs Q E hr h => ?_
  · obtain ⟨B, ds, L, P, i, _, r, _⟩ := h
    rw [i.length]
    exact hlen _ _ _ r
  · obtain ⟨B, ds, L, P, i, hl, r, q⟩ := h
    refine ⟨_, pss_w, (body f cdv A outer s H E hr ds L P r).run (L2.start N vs) H B _ (sl_start i) hl ⟨?_, ?_, ?_, ?_⟩⟩
    · exact fun ds L σ B2 H2 p e _ hl2 => q .non L _ B2 H2 p e hl2 rfl
    · exact fun d L v B2 H2 p e hl2 iv => q d L v B2 H2 p e hl2 iv
    · exact fun _ _ _ _ _ p => p.elim
    · exact fun _ _ _ _ _ p => p.elim
theorem Cal.mono {x : Str} {j k : Nat} {ps : List Str} {R : Rel} (C : Cal Pr w K mg base x j ps R) (h : j ≤ k) : Cal Pr w K mg base x k ps R := by
  obtain ⟨f, fd, h1, h2, h3, h4, h5⟩ := C.ex
  exact ⟨f, fd, h1.mono h, h2, h3, h4, h5⟩
theorem Cal.imp {x : Str} {k : Nat} {ps : List Str} {R R' : Rel} (C : Cal Pr w K mg base x k ps R) (h : ∀ ds L P, R' ds L P → R ds L P) : Cal Pr w K mg base x k ps R' := by
  obtain ⟨f, fd, h1, h2, h3, h4, h5⟩ := C.ex
  exact ⟨f, fd, h1.imp fun vs H Q E ⟨B, ds, L, P, i, hl, r, q⟩ => ⟨B, ds, L, P, i, hl, h _ _ _ r, q⟩, h2, h3, h4, h5⟩
end
section
variable {X : Cx} {x : Str} {k j : Nat} {ps : List Str} {R : Rel} {e : Expr} {es : List Expr} {ds : DS} {L : MS} {P : DK} {pos p : Pos}
theorem dp_call (C : Cal X.prog X.w X.K X.mg X.base x k ps R) (hr : Room j X.A) (hk : k ≤ j) (h : DA X (e :: es) ds L fun xs L1 => R xs L1 P) (hg : Gl X x := by rfl) (hdb : (x == ("__debug__" : Str)) = false := by decide)
    (he : starEach (e :: es) X.env = (false, eval e X.env) :: starEach es X.env := by rfl) (hpl : (backTo pos (starEach es X.env)).any (·.1) = false := by rfl) : DP X (.Call (.Name x p) (e :: es) [] pos) ds L P := .mk fun σ H B hs hl Q q => by
  obtain ⟨f, fd, F, hm, hkp, hb, _⟩ := C.ex
  refine PE.to (pe_call F (hr.mono hk) hg hm hkp hb .nil pass0 pa_w hdb he hpl) (h.run σ H B hs hl _ fun xs L1 vs B1 H1 r e1 hl1 ixs => ?_)
  show spP X.K R (vs ++ []) H1 Q E0
  rw [List.append_nil]
  exact ⟨B1, xs, L1, P, ixs, hl1, r, fun d L' z B2 H2 p2 e2 => q d L' z B2 H2 p2 (e1.trans e2)⟩
theorem dp_call0 (C : Cal X.prog X.w X.K X.mg X.base x k ps R) (hr : Room j X.A) (hk : k ≤ j) (h : R [] L P) (hg : Gl X x := by rfl) (hdb : (x == ("__debug__" : Str)) = false := by decide) : DP X (.Call (.Name x p) [] [] pos) ds L P := .mk fun σ H B hs hl Q q => by
  obtain ⟨f, fd, F, hm, hkp, hb, _⟩ := C.ex
  exact PE.to (pe_call0 F (hr.mono hk) hg hm hkp hb .nil pass0 hdb) ⟨B, [], L, P, rfl, hl, h, q⟩
end

/-! ### built-ins by name -/
abbrev KC := List Dt → MS → DK → Prop
def KRC (K : PySem.W.Frag) (r : List V → Hp → VK → Prop) (k : KC) : Prop := ∀ B H L xs vs (Q : VK) (P : DK), Hs K B L H → IsL K B xs vs → k xs L P → Fin K B P Q → r vs H Q
section
variable {X : Cx} {x : Str} {e : Expr} {es : List Expr} {ds : DS} {L : MS} {P : DK} {pos p : Pos} {id T : String} {r : List V → Hp → VK → Prop} {k : KC}
theorem dp_callB (hc : CallR X (.builtin id) r) (hk : KRC X.K r k) (hm : X.mg x = none) (hv : bootBuiltins x = some (.builtin id)) (h : DA X (e :: es) ds L fun xs L1 => k xs L1 P) (hg : Gl X x := by rfl) (hn : x ≠ "__name__" := by decide)
    (hdb : (x == ("__debug__" : Str)) = false := by decide) (he : starEach (e :: es) X.env = (false, eval e X.env) :: starEach es X.env := by rfl) (hpl : (backTo pos (starEach es X.env)).any (·.1) = false := by rfl) : DP X (.Call (.Name x p) (e :: es) [] pos) ds L P := .mk fun σ H B hs hl Q q =>
  PE.to (pe_callB hc hg hm hv pa_w hn hdb he hpl) (h.run σ H B hs hl _ fun xs L1 vs B1 H1 p1 e1 hl1 ixs => hk B1 H1 L1 xs vs Q P hl1 ixs p1 fun d L' z B2 H2 p2 e2 => q d L' z B2 H2 p2 (e1.trans e2))
theorem dp_callTy (hc : CallR X (.type T) r) (hk : KRC X.K r k) (hm : X.mg x = none) (hv : bootBuiltins x = some (.type T)) (h : DA X (e :: es) ds L fun xs L1 => k xs L1 P) (hg : Gl X x := by rfl) (hn : x ≠ "__name__" := by decide)
    (hdb : (x == ("__debug__" : Str)) = false := by decide) (he : starEach (e :: es) X.env = (false, eval e X.env) :: starEach es X.env := by rfl) (hpl : (backTo pos (starEach es X.env)).any (·.1) = false := by rfl) : DP X (.Call (.Name x p) (e :: es) [] pos) ds L P := .mk fun σ H B hs hl Q q =>
  PE.to (pe_callTy hc hg hm hv pa_w hn hdb he hpl) (h.run σ H B hs hl _ fun xs L1 vs B1 H1 p1 e1 hl1 ixs => hk B1 H1 L1 xs vs Q P hl1 ixs p1 fun d L' z B2 H2 p2 e2 => q d L' z B2 H2 p2 (e1.trans e2))
end
theorem IsL.one_inv {K : PySem.W.Frag} {B : Hp} {d : Dt} {vs : List V} (h : IsL K B [d] vs) : ∃ v, vs = [v] ∧ Is K B d v := by
  obtain ⟨v, r, rfl, i, h0⟩ := h
  have h0 : r = [] := h0
  subst h0
  exact ⟨v, rfl, i⟩
theorem IsL.two_inv {K : PySem.W.Frag} {B : Hp} {d d' : Dt} {vs : List V} (h : IsL K B [d, d'] vs) : ∃ v v', vs = [v, v'] ∧ Is K B d v ∧ Is K B d' v' := by
  obtain ⟨v, r, rfl, i, h0⟩ := h
  obtain ⟨v', rfl, i'⟩ := IsL.one_inv h0
  exact ⟨v, v', rfl, i, i'⟩
section
variable {X : Cx} {K : PySem.W.Frag} {e e2 : Expr} {es : List Expr} {ds : DS} {L : MS} {P : DK} {pos p : Pos}
/-- len -/
def lenK : KC := fun xs L P => match xs with
  | [.str l] => l.length ≤ sizeLine ∧ P (.int l.length) L
  | [.lst xs] => P (.int xs.length) L
  | [.frl xs] => P (.int xs.length) L
  | [.tup xs] => P (.int xs.length) L
  | [.adr a] => ∃ xs, ML L a (.lst xs) ∧ P (.int xs.length) L
  | _ => False
theorem kc_len : KRC K (fun xs H Q => ∃ x n, xs = [x] ∧ LenV K x H n ∧ Q (.int n) H) lenK := by
  intro B H L xs vs Q P hl ixs hk q
  unfold lenK at hk
  split at hk
  · obtain ⟨v, rfl, i⟩ := ixs.one_inv
    obtain rfl : v = _ := i
    exact ⟨_, _, rfl, ⟨by rw [txt_len]; exact hk.1, rfl⟩, by rw [txt_len]; exact Fin.here q hl hk.2 rfl⟩
  · obtain ⟨v, rfl, a, us, rfl, ha, ia⟩ := ixs.one_inv
    exact ⟨_, us.length, rfl, .inl ⟨us, SqL.of (hl.sub _ _ ha), rfl⟩, by rw [ia.length]; exact Fin.here q hl hk rfl⟩
  · obtain ⟨v, rfl, a, us, rfl, ha, ia⟩ := ixs.one_inv
    exact ⟨_, us.length, rfl, .inl ⟨us, hl.sub.seq ha, rfl⟩, by rw [ia.length]; exact Fin.here q hl hk rfl⟩
  · obtain ⟨v, rfl, a, us, rfl, ha, ia⟩ := ixs.one_inv
    exact ⟨_, us.length, rfl, .inr ⟨us, SqT.of (hl.sub _ _ ha), rfl⟩, by rw [ia.length]; exact Fin.here q hl hk rfl⟩
  · obtain ⟨v, rfl, i⟩ := ixs.one_inv
    obtain rfl : v = _ := i
    obtain ⟨xs, hm, p⟩ := hk
    obtain ⟨us, ha, ia⟩ := hl.lst hm
    exact ⟨_, us.length, rfl, .inl ⟨us, SqL.of ha, rfl⟩, by rw [ia.length]; exact Fin.here q hl p rfl⟩
  · exact hk.elim
theorem dp_len (hm : X.mg "len" = none) (h : DP X e ds L fun x L1 => lenK [x] L1 P) (hg : Gl X "len" := by rfl) (hs1 : starEach [e] X.env = (false, eval e X.env) :: starEach [] X.env := by rfl) (hpl : (backTo pos (starEach [] X.env)).any (·.1) = false := by rfl) : DP X (.Call (.Name "len" p) [e] [] pos) ds L P :=
  dp_callB call_len kc_len hm PySem.boot_len (da_cons (DP.imp h fun x L1 h1 => da_nil h1) hs1) hg (by decide) (by decide) hs1 hpl
/-- int(n), int(flag) -/
def intcK : KC := fun xs L P => match xs with
  | [.int i] => P (.int i) L
  | [.bl b] => P (.int (if b then 1 else 0)) L
  | _ => False
theorem kc_int : KRC K (fun xs H Q => (∃ i, xs = [.int i] ∧ Q (.int i) H) ∨ ∃ k, xs = [.bl k] ∧ Q (.int (if k then 1 else 0)) H) intcK := by
  intro B H L xs vs Q P hl ixs hk q
  unfold intcK at hk
  split at hk
  · obtain ⟨v, rfl, i⟩ := ixs.one_inv
    obtain rfl : v = _ := i
    exact .inl ⟨_, rfl, Fin.here q hl hk rfl⟩
  · obtain ⟨v, rfl, i⟩ := ixs.one_inv
    obtain rfl : v = _ := i
    exact .inr ⟨_, rfl, Fin.here q hl hk rfl⟩
  · exact hk.elim
theorem dp_intc (hm : X.mg "int" = none) (h : DP X e ds L fun x L1 => intcK [x] L1 P) (hg : Gl X "int" := by rfl) (hs1 : starEach [e] X.env = (false, eval e X.env) :: starEach [] X.env := by rfl) (hpl : (backTo pos (starEach [] X.env)).any (·.1) = false := by rfl) : DP X (.Call (.Name "int" p) [e] [] pos) ds L P :=
  dp_callTy call_int1 kc_int hm (by decide +kernel) (da_cons (DP.imp h fun x L1 h1 => da_nil h1) hs1) hg (by decide) (by decide) hs1 hpl
/-- tuple(x) -/
def tupK : KC := fun xs L P => match xs with
  | [.lst xs] => P (.tup xs) L
  | [.tup xs] => P (.tup xs) L
  | [.adr a] => ∃ xs, ML L a (.lst xs) ∧ P (.tup xs) L
  | _ => False
theorem kc_tup : KRC K (fun xs H Q => ∃ p ys, xs = [V.ref p] ∧ ((SqL K H p ys ∧ ∀ l, H l = none → Q (.ref l) (upd H l (.tup ys))) ∨ (SqT K H p ys ∧ Q (.ref p) H))) tupK := by
  intro B H L xs vs Q P hl ixs hk q
  unfold tupK at hk
  split at hk
  · obtain ⟨v, rfl, a, us, rfl, ha, ia⟩ := ixs.one_inv
    exact ⟨_, us, rfl, .inl ⟨SqL.of (hl.sub _ _ ha), fun l hn => Fin.tup q hl hk ia hn⟩⟩
  · obtain ⟨v, rfl, a, us, rfl, ha, ia⟩ := ixs.one_inv
    exact ⟨_, us, rfl, .inr ⟨SqT.of (hl.sub _ _ ha), Fin.here q hl hk ⟨a, us, rfl, ha, ia⟩⟩⟩
  · obtain ⟨v, rfl, i⟩ := ixs.one_inv
    obtain rfl : v = _ := i
    obtain ⟨xs, hm, p⟩ := hk
    obtain ⟨us, ha, ia⟩ := hl.lst hm
    exact ⟨_, us, rfl, .inl ⟨SqL.of ha, fun l hn => Fin.tup q hl p ia hn⟩⟩
  · exact hk.elim
theorem dp_tuple (hm : X.mg "tuple" = none) (h : DP X e ds L fun x L1 => tupK [x] L1 P) (hg : Gl X "tuple" := by rfl) (hs1 : starEach [e] X.env = (false, eval e X.env) :: starEach [] X.env := by rfl) (hpl : (backTo pos (starEach [] X.env)).any (·.1) = false := by rfl) : DP X (.Call (.Name "tuple" p) [e] [] pos) ds L P :=
  dp_callTy call_tuple_of kc_tup hm (by decide +kernel) (da_cons (DP.imp h fun x L1 h1 => da_nil h1) hs1) hg (by decide) (by decide) hs1 hpl
/-- list(x): a list that stays, or one that will change -/
def lstcK : KC := fun xs L P => match xs with
  | [.lst xs] => P (.lst xs) L
  | [.tup xs] => P (.lst xs) L
  | [.adr a] => ∃ xs, ML L a (.lst xs) ∧ P (.lst xs) L
  | _ => False
def lstcMK : KC := fun xs L P => match xs with
  | [.lst xs] => ∀ a, P (.adr a) ((a, .lst xs) :: L)
  | [.tup xs] => ∀ a, P (.adr a) ((a, .lst xs) :: L)
  | _ => False
abbrev rListOf (K : PySem.W.Frag) : List V → Hp → VK → Prop := fun xs H Q => ∃ p ys, xs = [V.ref p] ∧ (SqL K H p ys ∨ SqT K H p ys) ∧ ∀ l, H l = none → Q (.ref l) (upd H l (.lst ys))
theorem kc_lst : KRC K (rListOf K) lstcK := by
  intro B H L xs vs Q P hl ixs hk q
  unfold lstcK at hk
  split at hk
  · obtain ⟨v, rfl, a, us, rfl, ha, ia⟩ := ixs.one_inv
    exact ⟨_, us, rfl, .inl (SqL.of (hl.sub _ _ ha)), fun l hn => Fin.lst q hl hk ia hn⟩
  · obtain ⟨v, rfl, a, us, rfl, ha, ia⟩ := ixs.one_inv
    exact ⟨_, us, rfl, .inr (SqT.of (hl.sub _ _ ha)), fun l hn => Fin.lst q hl hk ia hn⟩
  · obtain ⟨v, rfl, i⟩ := ixs.one_inv
    obtain rfl : v = _ := i
    obtain ⟨xs, hm, p⟩ := hk
    obtain ⟨us, ha, ia⟩ := hl.lst hm
    exact ⟨_, us, rfl, .inl (SqL.of ha), fun l hn => Fin.lst q hl p ia hn⟩
  · exact hk.elim
theorem kc_lstM : KRC K (rListOf K) lstcMK := by
  intro B H L xs vs Q P hl ixs hk q
  unfold lstcMK at hk
  split at hk
  · obtain ⟨v, rfl, a, us, rfl, ha, ia⟩ := ixs.one_inv
    exact ⟨_, us, rfl, .inl (SqL.of (hl.sub _ _ ha)), fun l hn => Fin.lstM q hl hk ia hn⟩
  · obtain ⟨v, rfl, a, us, rfl, ha, ia⟩ := ixs.one_inv
    exact ⟨_, us, rfl, .inr (SqT.of (hl.sub _ _ ha)), fun l hn => Fin.lstM q hl hk ia hn⟩
  · exact hk.elim
theorem dp_list (hm : X.mg "list" = none) (h : DP X e ds L fun x L1 => lstcK [x] L1 P) (hg : Gl X "list" := by rfl) (hs1 : starEach [e] X.env = (false, eval e X.env) :: starEach [] X.env := by rfl) (hpl : (backTo pos (starEach [] X.env)).any (·.1) = false := by rfl) : DP X (.Call (.Name "list" p) [e] [] pos) ds L P :=
  dp_callTy call_list_of kc_lst hm (by decide +kernel) (da_cons (DP.imp h fun x L1 h1 => da_nil h1) hs1) hg (by decide) (by decide) hs1 hpl
theorem dp_listM (hm : X.mg "list" = none) (h : DP X e ds L fun x L1 => lstcMK [x] L1 P) (hg : Gl X "list" := by rfl) (hs1 : starEach [e] X.env = (false, eval e X.env) :: starEach [] X.env := by rfl) (hpl : (backTo pos (starEach [] X.env)).any (·.1) = false := by rfl) : DP X (.Call (.Name "list" p) [e] [] pos) ds L P :=
  dp_callTy call_list_of kc_lstM hm (by decide +kernel) (da_cons (DP.imp h fun x L1 h1 => da_nil h1) hs1) hg (by decide) (by decide) hs1 hpl
/-- isinstance(x, T) -/
def tyD : Dt → Option String
  | .non => some "NoneType"
  | .bl _ => some "bool"
  | .int _ => some "int"
  | .str _ => some "str"
  | .tup _ => some "tuple"
  | .lst _ => some "list"
  | _ => none
def isiK : KC := fun xs L P => match xs with
  | [x, .ty n] => ∃ t b, tyD x = some t ∧ kitB t n = some b ∧ P (.bl b) L
  | _ => False
theorem kc_isi : KRC K (rIsi K) isiK := by
  intro B H L xs vs Q P hl ixs hk q
  unfold isiK at hk
  split at hk
  · rename_i x n
    obtain ⟨v, v', rfl, i, i'⟩ := ixs.two_inv
    obtain rfl : v' = _ := i'
    obtain ⟨t, b, h1, h2, p⟩ := hk
    refine ⟨v, _, .type t, .type n, b, rfl, .ty n, ?_, kit_ty h2, Fin.here q hl p rfl⟩
    cases x <;> cases h1
    · obtain rfl : v = _ := i; exact .base .non
    · obtain rfl : v = _ := i; exact .base (.bl _)
    · obtain rfl : v = _ := i; exact .base (.int _)
    · obtain rfl : v = _ := i; exact .base (.str _)
    · obtain ⟨a, us, rfl, ha, ia⟩ := i; exact .base (.tup (hl.sub _ _ ha))
    · obtain ⟨a, us, rfl, ha, ia⟩ := i; exact .base (.lst (hl.sub _ _ ha))
  · exact hk.elim
theorem dp_isi {n : String} {T : Str} {p2 : Pos} (hm : X.mg "isinstance" = none) (hT : X.mg T = none) (hv : bootBuiltins T = some (.type n)) (h : DP X e ds L fun x L1 => isiK [x, .ty n] L1 P) (hT2 : T ≠ "__name__" := by decide) (hT3 : (T == ("__debug__" : Str)) = false := by decide)
    (hg : Gl X "isinstance" := by rfl) (hgT : Gl X T := by rfl) (hs1 : starEach [e, .Name T p2] X.env = (false, eval e X.env) :: starEach [.Name T p2] X.env := by rfl) (hs2 : starEach [.Name T p2] X.env = (false, eval (.Name T p2) X.env) :: starEach [] X.env := by rfl) (hpl : (backTo pos (starEach [.Name T p2] X.env)).any (·.1) = false := by rfl) : DP X (.Call (.Name "isinstance" p) [e, .Name T p2] [] pos) ds L P :=
  dp_callB call_isi kc_isi hm (by decide +kernel) (da_cons (DP.imp h fun x L1 h1 => da_cons (dp_bltn (da_nil h1) hT hv hgT hT2 hT3) hs2) hs1) hg (by decide) (by decide) hs1 hpl
/-- abs -/
def absK : KC := fun xs L P => match xs with
  | [.int i] => P (.int (if i < 0 then -i else i)) L
  | _ => False
theorem kc_abs : KRC K (fun xs H Q => ∃ i, xs = [.int i] ∧ Q (.int (if i < 0 then -i else i)) H) absK := by
  intro B H L xs vs Q P hl ixs hk q
  unfold absK at hk
  split at hk
  · obtain ⟨v, rfl, i⟩ := ixs.one_inv
    obtain rfl : v = _ := i
    exact ⟨_, rfl, Fin.here q hl hk rfl⟩
  · exact hk.elim
theorem dp_abs (hm : X.mg "abs" = none) (h : DP X e ds L fun x L1 => absK [x] L1 P) (hg : Gl X "abs" := by rfl) (hs1 : starEach [e] X.env = (false, eval e X.env) :: starEach [] X.env := by rfl) (hpl : (backTo pos (starEach [] X.env)).any (·.1) = false := by rfl) : DP X (.Call (.Name "abs" p) [e] [] pos) ds L P :=
  dp_callB call_abs kc_abs hm (by decide +kernel) (da_cons (DP.imp h fun x L1 h1 => da_nil h1) hs1) hg (by decide) (by decide) hs1 hpl
/-- min(a, b), max(a, b) of ints -/
def mm2K (f : Int → Int → Int) : KC := fun xs L P => match xs with
  | [.int i, .int j] => P (.int (f i j)) L
  | _ => False
theorem kc_min2 : KRC K (fun xs H Q => ∃ i j, xs = [.int i, .int j] ∧ Q (.int (if j < i then j else i)) H) (mm2K fun i j => if j < i then j else i) := by
  intro B H L xs vs Q P hl ixs hk q
  unfold mm2K at hk
  split at hk
  · obtain ⟨v, v', rfl, i, i'⟩ := ixs.two_inv
    obtain rfl : v = _ := i
    obtain rfl : v' = _ := i'
    exact ⟨_, _, rfl, Fin.here q hl hk rfl⟩
  · exact hk.elim
theorem dp_min2 (hm : X.mg "min" = none) (h : DA X [e, e2] ds L fun xs L1 => mm2K (fun i j => if j < i then j else i) xs L1 P) (hc : X.calm = true := by rfl) (hg : Gl X "min" := by rfl) (hs1 : starEach [e, e2] X.env = (false, eval e X.env) :: starEach [e2] X.env := by rfl) (hpl : (backTo pos (starEach [e2] X.env)).any (·.1) = false := by rfl) : DP X (.Call (.Name "min" p) [e, e2] [] pos) ds L P :=
  dp_callB (call_min2 hc) kc_min2 hm (by decide +kernel) h hg (by decide) (by decide) hs1 hpl
end

/-! ### methods of built-ins -/
abbrev KM := Dt → List Dt → MS → DK → Prop
def KRM (K : PySem.W.Frag) (r : V → List V → Hp → VK → Prop) (k : KM) : Prop := ∀ B H L x v xs vs (Q : VK) (P : DK), Hs K B L H → Is K B x v → IsL K B xs vs → k x xs L P → Fin K B P Q → r v vs H Q
def tyM (T : String) (x : Dt) (L : MS) : Prop := match x with
  | .str _ => T = "str"
  | .lst _ => T = "list"
  | .adr a => (T = "list" ∧ ∃ xs, ML L a (.lst xs)) ∨ (T = "dict" ∧ ∃ ks xs, ML L a (.dct ks xs))
  | _ => False
theorem tyM_is {K : PySem.W.Frag} {B H : Hp} {L : MS} {T : String} {x : Dt} {v : V} (hl : Hs K B L H) (i : Is K B x v) (h : tyM T x L) : tyV K T v H := by
  cases x <;> try exact False.elim h
  · obtain rfl : v = _ := i
    exact h
  · obtain ⟨a, us, rfl, ha, ia⟩ := i
    exact .inl ⟨h, us, SqL.of (hl.sub _ _ ha)⟩
  · obtain rfl : v = _ := i
    rcases h with ⟨e, xs, hm⟩ | ⟨e, ks, xs, hm⟩
    · obtain ⟨us, ha, _⟩ := hl.lst hm
      exact .inl ⟨e, us, SqL.of ha⟩
    · obtain ⟨_, o, ho, us, eo, _⟩ := hl.own _ _ hm
      exact .inr (.inr (.inl ⟨e, .inr ⟨_, by rw [ho, eo]⟩⟩))
section
variable {X : Cx} {o e : Expr} {es : List Expr} {ds : DS} {L : MS} {P : DK} {apos cpos : Pos} {name : Str} {T id : String} {r : V → List V → Hp → VK → Prop} {k : KM}
theorem dp_bm0 (pa : PlainAttrs T) (slot : Slot T name id) (hty : typeOf (.builtin id) = pure (.type "method_descriptor")) (hm : MtR X id r) (hk : KRM X.K r k) (h : DP X o ds L fun x L1 => tyM T x L1 ∧ k x [] L1 P)
    (hbase : attributeBase o name X.env (eval o X.env) = eval o X.env := by rfl) (hline : (apos.endLine == cpos.line) = true := by rfl) : DP X (.Call (.Attribute o name apos) [] [] cpos) ds L P := .mk fun σ H B hs hl Q q =>
  PE.to (pe_bm0 pa slot hty hm pe_w hbase hline) (h.run σ H B hs hl _ fun x L1 v B1 H1 ⟨ht, p⟩ e1 hl1 ix => ⟨tyM_is hl1 ix ht, hk B1 H1 L1 x v [] [] Q P hl1 ix rfl p fun d L' z B2 H2 p2 e2 => q d L' z B2 H2 p2 (e1.trans e2)⟩)
theorem dp_bm (pa : PlainAttrs T) (slot : Slot T name id) (hty : typeOf (.builtin id) = pure (.type "method_descriptor")) (hm : MtR X id r) (hk : KRM X.K r k) (h : DP X o ds L fun x L1 => tyM T x L1 ∧ DA X (e :: es) ds L1 fun xs L2 => k x xs L2 P)
    (hbase : attributeBase o name X.env (eval o X.env) = eval o X.env := by rfl)
    (hfew : ((backTo cpos (starEach (e :: es) X.env)).all (fun x => !x.1) && (backToKw cpos (keywordEach [] X.env)).all (fun x => x.1.isSome)
      && decide ((e :: es).length + ([] : List Keyword).length + (if ([] : List Keyword).isEmpty then 0 else 1) < 30)) = true := by rfl)
    (hline : (apos.endLine == cpos.line) = true := by rfl) (hs' : starEach (e :: es) X.env = (false, eval e X.env) :: starEach es X.env := by rfl) (hplain : (backTo cpos (starEach es X.env)).any (·.1) = false := by rfl) :
    DP X (.Call (.Attribute o name apos) (e :: es) [] cpos) ds L P := .mk fun σ H B hs hl Q q =>
  PE.to (pe_bm pa slot hty hm pe_w pa_w hbase hfew hline hs' hplain) (h.run σ H B hs hl _ fun x L1 v B1 H1 ⟨ht, ha⟩ e1 hl1 ix => ⟨tyM_is hl1 ix ht, ha.run σ H1 B1 (hs.mono e1) hl1 _ fun xs L2 vs B2 H2 p e2 hl2 ixs =>
    hk B2 H2 L2 x v xs vs Q P hl2 (ix.mono e2) ixs p fun d L' z B3 H3 p3 e3 => q d L' z B3 H3 p3 ((e1.trans e2).trans e3)⟩)
end
section
variable {X : Cx} {K : PySem.W.Frag} {o e : Expr} {ds : DS} {L : MS} {P : DK} {apos cpos : Pos}
/-- xs.append(e) -/
def appK : KM := fun x xs L P => match x, xs with
  | .adr a, [d] => ∃ ys, ML L a (.lst ys) ∧ ys.length < sizeLine ∧ ∃ L2, MSt L a (.lst (ys ++ [d])) L2 ∧ P .non L2
  | _, _ => False
theorem km_append : KRM K rAppend appK := by
  intro B H L x v xs vs Q P hl ix ixs hk q
  unfold appK at hk
  split at hk
  · obtain ⟨u, rfl, iu⟩ := ixs.one_inv
    obtain rfl : v = _ := ix
    obtain ⟨ys, hm, hz, L2, hst, p⟩ := hk
    obtain ⟨us, ha, ia⟩ := hl.lst hm
    exact ⟨_, us, u, rfl, rfl, ha, by rw [ia.length]; exact hz, q .non L2 _ B _ p (Same.refl B) (hl.put hst ⟨_, rfl, ia.append (IsL.one iu)⟩) rfl⟩
  · exact hk.elim
theorem dp_append (h : DP X o ds L fun x L1 => tyM "list" x L1 ∧ DP X e ds L1 fun d L2 => appK x [d] L2 P)
    (hbase : attributeBase o "append" X.env (eval o X.env) = eval o X.env := by rfl)
    (hfew : ((backTo cpos (starEach [e] X.env)).all (fun x => !x.1) && (backToKw cpos (keywordEach [] X.env)).all (fun x => x.1.isSome)
      && decide ([e].length + ([] : List Keyword).length + (if ([] : List Keyword).isEmpty then 0 else 1) < 30)) = true := by rfl)
    (hline : (apos.endLine == cpos.line) = true := by rfl) (hs1 : starEach [e] X.env = (false, eval e X.env) :: starEach [] X.env := by rfl) (hplain : (backTo cpos (starEach [] X.env)).any (·.1) = false := by rfl) : DP X (.Call (.Attribute o "append" apos) [e] [] cpos) ds L P :=
  dp_bm PySem.F.plainAttrs_list PySem.F.slot_list_append PySem.F.type_list_append mt_append km_append (DP.imp h fun x L1 ⟨ht, h1⟩ => ⟨ht, da_cons (DP.imp h1 fun d L2 h2 => da_nil h2) hs1⟩) hbase hfew hline hs1 hplain
/-- sep.join(xs) -/
def joinK : KM := fun x xs L P => match x, xs with
  | .str a, [.lst ys] => ∃ ts : List (List Nat), ys = ts.map Dt.str ∧ (ts.map (·.length)).sum + ts.length * a.length ≤ 16777216 ∧ P (.str (TL.joinL a ts)) L
  | .str a, [.tup ys] => ∃ ts : List (List Nat), ys = ts.map Dt.str ∧ (ts.map (·.length)).sum + ts.length * a.length ≤ 16777216 ∧ P (.str (TL.joinL a ts)) L
  | _, _ => False
abbrev txts (ts : List (List Nat)) : List Str := ts.map fun l => (⟨l.toArray⟩ : Str)
theorem txts_tl (ts : List (List Nat)) : (txts ts).map TL.tl = ts := by
  unfold txts
  rw [List.map_map]
  conv => rhs; rw [← List.map_id ts]
  exact List.map_congr_left fun l _ => rfl
theorem txts_len (ts : List (List Nat)) : (txts ts).map (·.length) = ts.map (·.length) := by
  unfold txts
  rw [List.map_map]
  exact List.map_congr_left fun l _ => txt_len l
theorem join_txts (a : List Nat) (ts : List (List Nat)) : Txt.join ⟨a.toArray⟩ (txts ts) = ⟨(TL.joinL a ts).toArray⟩ := by
  rw [TL.join_eq]
  refine TL.ext_tl ?_
  rw [TL.tl_join, txts_tl]
theorem km_join : KRM K (fun x xs H Q => ∃ a p, ∃ ys : List Str, x = .str a ∧ xs = [.ref p] ∧ (SqL K H p (ys.map V.str) ∨ SqT K H p (ys.map V.str)) ∧
    (ys.map (·.length)).sum + ys.length * a.length ≤ 16777216 ∧ Q (.str (Txt.join a ys)) H) joinK := by
  intro B H L x v xs vs Q P hl ix ixs hk q
  unfold joinK at hk
  split at hk
  · obtain ⟨u, rfl, a, us, rfl, ha, ia⟩ := ixs.one_inv
    obtain rfl : v = _ := ix
    obtain ⟨ts, rfl, hz, p⟩ := hk
    have e := ia.strs
    subst e
    refine ⟨_, a, txts ts, rfl, rfl, .inl (SqL.of (hl.sub _ _ ha)), ?_, ?_⟩
    · rw [txts_len, txt_len, List.length_map]
      exact hz
    · rw [join_txts]
      exact Fin.here q hl p rfl
  · obtain ⟨u, rfl, a, us, rfl, ha, ia⟩ := ixs.one_inv
    obtain rfl : v = _ := ix
    obtain ⟨ts, rfl, hz, p⟩ := hk
    have e := ia.strs
    subst e
    refine ⟨_, a, txts ts, rfl, rfl, .inr (SqT.of (hl.sub _ _ ha)), ?_, ?_⟩
    · rw [txts_len, txt_len, List.length_map]
      exact hz
    · rw [join_txts]
      exact Fin.here q hl p rfl
  · exact hk.elim
theorem dp_join (h : DP X o ds L fun x L1 => tyM "str" x L1 ∧ DP X e ds L1 fun d L2 => joinK x [d] L2 P)
    (hbase : attributeBase o "join" X.env (eval o X.env) = eval o X.env := by rfl)
    (hfew : ((backTo cpos (starEach [e] X.env)).all (fun x => !x.1) && (backToKw cpos (keywordEach [] X.env)).all (fun x => x.1.isSome)
      && decide ([e].length + ([] : List Keyword).length + (if ([] : List Keyword).isEmpty then 0 else 1) < 30)) = true := by rfl)
    (hline : (apos.endLine == cpos.line) = true := by rfl) (hs1 : starEach [e] X.env = (false, eval e X.env) :: starEach [] X.env := by rfl) (hplain : (backTo cpos (starEach [] X.env)).any (·.1) = false := by rfl) : DP X (.Call (.Attribute o "join" apos) [e] [] cpos) ds L P :=
  dp_bm PySem.F.plainAttrs_str PySem.F.slot_str_join PySem.F.type_str_join mt_join km_join (DP.imp h fun x L1 ⟨ht, h1⟩ => ⟨ht, da_cons (DP.imp h1 fun d L2 h2 => da_nil h2) hs1⟩) hbase hfew hline hs1 hplain
/-- s.split(sep) -/
def splitK : KM := fun x xs L P => match x, xs with
  | .str a, [.str b] => b ≠ [] ∧ (b.all (· < 256)) = true ∧ a.length + 2 ≤ sizeLine ∧ P (.lst ((TL.spl b 0 [] a).map Dt.str)) L
  | _, _ => False
theorem km_split : KRM K (fun x xs H Q => ∃ a b, x = .str a ∧ xs = [.str b] ∧ (b.length == 0) = false ∧ a.length + 2 ≤ sizeLine ∧ rNewStrs (Txt.split a b) H Q) splitK := by
  intro B H L x v xs vs Q P hl ix ixs hk q
  unfold splitK at hk
  split at hk
  · rename_i a b
    obtain ⟨u, rfl, iu⟩ := ixs.one_inv
    obtain rfl : v = _ := ix
    obtain rfl : u = _ := iu
    obtain ⟨h1, h2, h3, p⟩ := hk
    refine ⟨_, _, rfl, rfl, ?_, by rw [txt_len]; exact h3, fun l hn => ?_⟩
    · rw [txt_len]
      cases b with
      | nil => exact absurd rfl h1
      | cons c r => rfl
    · have e : (Txt.split (⟨a.toArray⟩ : Str) ⟨b.toArray⟩) = txts (TL.spl b 0 [] a) := by
        refine TL.map_tl_inj ?_
        rw [TL.split_spl _ _ h1 (TL.kind_ok (by simpa using h2)), txts_tl]
      rw [e]
      exact Fin.lst q hl p IsL.of_strs hn
  · exact hk.elim
theorem dp_split (h : DP X o ds L fun x L1 => tyM "str" x L1 ∧ DP X e ds L1 fun d L2 => splitK x [d] L2 P)
    (hbase : attributeBase o "split" X.env (eval o X.env) = eval o X.env := by rfl)
    (hfew : ((backTo cpos (starEach [e] X.env)).all (fun x => !x.1) && (backToKw cpos (keywordEach [] X.env)).all (fun x => x.1.isSome)
      && decide ([e].length + ([] : List Keyword).length + (if ([] : List Keyword).isEmpty then 0 else 1) < 30)) = true := by rfl)
    (hline : (apos.endLine == cpos.line) = true := by rfl) (hs1 : starEach [e] X.env = (false, eval e X.env) :: starEach [] X.env := by rfl) (hplain : (backTo cpos (starEach [] X.env)).any (·.1) = false := by rfl) : DP X (.Call (.Attribute o "split" apos) [e] [] cpos) ds L P :=
  dp_bm PySem.F.plainAttrs_str PySem.F.slot_str_split PySem.F.type_str_split mt_split km_split (DP.imp h fun x L1 ⟨ht, h1⟩ => ⟨ht, da_cons (DP.imp h1 fun d L2 h2 => da_nil h2) hs1⟩) hbase hfew hline hs1 hplain
end

theorem DTs.imp {X : Cx} {es : List Expr} {ds : DS} {L : MS} {P P' : Bool → MS → Prop} (h : DTs X es ds L P') (k : ∀ d L, P' d L → P d L) : DTs X es ds L P := .mk fun σ H B hs hl Q q => h.run σ H B hs hl Q fun d L' B2 H2 p => q d L' B2 H2 (k d L' p)
/-- a place in what may change: f m is L with m there -/
inductive Spot (a : Addr) : (MO → MS) → Prop where
  | hd {L : MS} : Spot a (fun m => (a, m) :: L)
  | tl {p : Addr × MO} {f : MO → MS} : Spot a f → Spot a (fun m => p :: f m)
theorem Spot.ml {a : Addr} {f : MO → MS} (h : Spot a f) (m : MO) : ML (f m) a m := by
  induction h with
  | hd => exact ML.hd
  | tl _ ih => exact ih.tl
theorem Spot.st {a : Addr} {f : MO → MS} (h : Spot a f) (m m' : MO) : MSt (f m) a m' (f m') := by
  induction h with
  | hd => exact .hd
  | tl _ ih => exact ih.tl
/-- o[i] = .., of a list that may change -/
def setK (x y d : Dt) (L : MS) (P : MS → Prop) : Prop := match x, y with
  | .adr a, .int k => ∃ xs, ML L a (.lst xs) ∧ ∃ j, ixN xs.length k = some j ∧ ∃ L2, MSt L a (.lst (xs.set j d)) L2 ∧ P L2
  | _, _ => False
theorem dg_item {X : Cx} {o i : Expr} {pos : Pos} {d : Dt} {ds : DS} {L : MS} {P : DS → MS → Prop} (h : DP X o ds L fun x L1 => DP X i ds L1 fun y L2 => setK x y d L2 fun L3 => P ds L3)
    (ha : ∀ v, assign (.Subscript o i pos) X.env v = (do
      let ov ← holding [v] (eval o X.env)
      let iv ← holding [v, ov] (eval i X.env)
      standAt pos
      holding [v, ov, iv] (setItem ov iv v)
      release [v, ov, iv] []) := by intro _; rfl) : DG X (.Subscript o i pos) d ds L P := .mk fun σ H B v hs hl iv Q q =>
  PG.to (pg_sub pe_w pe_w set_list ha) (h.run σ H B hs hl _ fun x L1 u B1 H1 hb e1 hl1 ix => hb.run σ H1 B1 (hs.mono e1) hl1 _ fun y L2 t B2 H2 hk e2 hl2 iy => by
    have ix2 := ix.mono e2
    have hk : setK x y d L2 (fun L3 => P ds L3) := hk
    unfold setK at hk
    split at hk
    · obtain rfl : u = _ := ix2
      obtain rfl : t = _ := iy
      obtain ⟨xs, hm, j, hj, L3, hst, p⟩ := hk
      obtain ⟨us, ha, ia⟩ := hl2.lst hm
      exact ⟨_, us, _, j, rfl, rfl, ha, by rw [ia.length]; exact hj, q ds L3 σ B2 _ p (e1.trans e2) ((hs.mono e1).mono e2) (hl2.put hst ⟨_, rfl, ia.set j ((iv.mono e1).mono e2)⟩)⟩
    · exact hk.elim)
theorem ds_par3 {X : Cx} {ds : DS} {L : MS} {D : DEnds} {pos : Pos} {i j l : Nat} {x y z : Str} {a b c : Expr} {px py pz pt : Pos} {kt k2 pt2} {ds' : Dt → Dt → Dt → DS} (hset : ∀ d d' d'', ((ds.set i (some d)).set j (some d')).set l (some d'') = ds' d d' d'')
    (h : DA X [a, b, c] ds L fun xs L1 => ∃ d d' d'', xs = [d, d', d''] ∧ D.nx (ds' d d' d'') L1) (hN : X.N.Nodup) (hij : i ≠ j) (hil : i ≠ l) (hjl : j ≠ l) (hi : X.N[i]? = some x := by rfl) (hj : X.N[j]? = some y := by rfl) (hl' : X.N[l]? = some z := by rfl)
    (hx : X.env.scope.names.lookup x = some .local := by rfl) (hy : X.env.scope.names.lookup y = some .local := by rfl) (hz : X.env.scope.names.lookup z = some .local := by rfl) (hc : X.calm = true := by rfl)
    (hw : swappedStores [.Tuple [.Name x px, .Name y py, .Name z pz] kt pt] (.Tuple [a, b, c] k2 pt2) X.env = pure (some [x, y, z]) := by kernel_rfl)
    (hs' : swapsWithSole [.Tuple [.Name x px, .Name y py, .Name z pz] kt pt] (.Tuple [a, b, c] k2 pt2) pos.line X.env = pure false := by kernel_rfl) :
    DSt X (.Assign [.Tuple [.Name x px, .Name y py, .Name z pz] kt pt] (.Tuple [a, b, c] k2 pt2) pos) ds L D := .mk fun σ H B E hs hl m =>
  PS.to (ps_par3 hc hN hi hj hl' hij hil hjl hx hy hz pa_w hw hs') (h.run σ H B hs hl _ fun xs L1 vs B1 H1 ⟨d, d', d'', ex, p⟩ e1 hl1 ixs => by
    subst ex
    obtain ⟨v, _, rfl, i1, ixs⟩ := ixs
    obtain ⟨u, t, rfl, i2, i3⟩ := ixs.two_inv
    refine ⟨v, u, t, rfl, m.nx (ds' d d' d'') L1 _ B1 H1 p e1 ?_ hl1⟩
    rw [← hset d d' d'']
    exact (((hs.mono e1).set i i1).set j i2).set l i3)
theorem cutL_to {α : Type} (xs : List α) (k : Nat) : cutL xs none (some (k : Int)) = xs.take k := by
  unfold cutL
  rw [HT.sIx_none, HT.sIx_nat, List.drop_zero, Nat.sub_zero]
  by_cases h : k ≤ xs.length
  · rw [Nat.min_eq_left h]
  · rw [Nat.min_eq_right (by omega), List.take_of_length_le (Nat.le_refl _), List.take_of_length_le (by omega)]
/-! ### what a for walks -/
section
variable {X : Cx} {tg e a b : Expr} {ds : DS} {L : MS} {P : List Dt → MS → Prop} {pos p : Pos}
theorem yields_list {K : PySem.W.Frag} {B : Hp} {a : Addr} {xs : List Dt} {vs : List V} (ha : SqL K B a vs) (h : IsL K B xs vs) : Yields K B (Itl K a) xs := fun i B' H' L' e hl => ⟨fun d q => by
  obtain ⟨v, e1, e2⟩ := h.get q
  have e3 : SqL K H' a vs := (e.trans hl.sub).seq ha
  refine ⟨⟨vs, v, e3, e1⟩, fun u H2 hy => ?_⟩
  obtain ⟨rfl, hy⟩ := hy
  have e4 := hy vs e3
  rw [e1] at e4
  obtain rfl := Option.some.inj e4
  exact ⟨B', Same.refl _, hl, e2.mono e⟩, fun hi => ⟨vs, (e.trans hl.sub).seq ha, by rw [h.length]; exact hi⟩⟩
theorem seqT {K : PySem.W.Frag} {H H' : Hp} {a : Addr} {xs : List V} (e : Same H H') (h : SqT K H a xs) : SqT K H' a xs := by
  rcases h with (h | ⟨o, h⟩) | h
  · exact .inl (.inl (e _ _ h))
  · exact .inl (.inr ⟨o, e _ _ h⟩)
  · exact .inr h
theorem yields_tup {K : PySem.W.Frag} {B : Hp} {a : Addr} {xs : List Dt} {vs : List V} (ha : SqT K B a vs) (h : IsL K B xs vs) : Yields K B (Itt K a) xs := fun i B' H' L' e hl => ⟨fun d q => by
  obtain ⟨v, e1, e2⟩ := h.get q
  have e3 : SqT K H' a vs := seqT (e.trans hl.sub) ha
  refine ⟨⟨vs, v, e3, e1⟩, fun u H2 hy => ?_⟩
  obtain ⟨rfl, hy⟩ := hy
  have e4 := hy vs e3
  rw [e1] at e4
  obtain rfl := Option.some.inj e4
  exact ⟨B', Same.refl _, hl, e2.mono e⟩, fun hi => ⟨vs, seqT (e.trans hl.sub) ha, by rw [h.length]; exact hi⟩⟩
def walkL : Dt → (List Dt → Prop) → Prop := fun x P => match x with
  | .lst xs => P xs
  | .frl xs => P xs
  | _ => False
theorem di_list (h : DP X e ds L fun x L1 => walkL x fun xs => P xs L1) : DI X tg e ds L P := .mk fun σ H B hs hl R q => by
  refine PI.to (pi_list pe_w) (h.run σ H B hs hl _ fun x L1 v B1 H1 p e1 hl1 ix => ?_)
  cases x <;> try exact False.elim p
  · obtain ⟨a, us, rfl, ha, ia⟩ := ix
    exact ⟨a, rfl, ⟨us, SqL.of (hl1.sub _ _ ha)⟩, q _ L1 _ B1 H1 p e1 hl1 (yields_list (SqL.of ha) ia)⟩
  · obtain ⟨a, us, rfl, ha, ia⟩ := ix
    exact ⟨a, rfl, ⟨us, hl1.sub.seq ha⟩, q _ L1 _ B1 H1 p e1 hl1 (yields_list ha ia)⟩
theorem di_tup (h : DP X e ds L fun x L1 => ∃ xs, x = .tup xs ∧ P xs L1) : DI X tg e ds L P := .mk fun σ H B hs hl R q => by
  refine PI.to (pi_tup pe_w) (h.run σ H B hs hl _ fun x L1 v B1 H1 hp e1 hl1 ix => ?_)
  obtain ⟨xs, rfl, p⟩ := hp
  obtain ⟨a, us, rfl, ha, ia⟩ := ix
  exact ⟨a, rfl, ⟨us, SqT.of (hl1.sub _ _ ha)⟩, q _ L1 _ B1 H1 p e1 hl1 (yields_tup (SqT.of ha) ia)⟩
/-- lo, lo + 1, .. -/
def rng (lo : Int) (n : Nat) : List Dt := (List.range n).map fun i => Dt.int (lo + (i : Nat))
theorem rng_len (lo : Int) (n : Nat) : (rng lo n).length = n := by simp [rng]
theorem rng_get {lo : Int} {n i : Nat} {d : Dt} (h : (rng lo n)[i]? = some d) : i < n ∧ d = .int (lo + (i : Nat)) := by
  unfold rng at h
  rw [List.getElem?_map] at h
  by_cases hi : i < n
  · rw [List.getElem?_range hi] at h
    exact ⟨hi, (Option.some.inj h).symm⟩
  · rw [List.getElem?_eq_none (by simpa using hi)] at h
    cases h
theorem yields_rng {K : PySem.W.Frag} {B : Hp} (lo : Int) (n : Nat) : Yields K B (Itr lo n) (rng lo n) := fun i B' H' L' e hl => ⟨fun d q => by
  obtain ⟨hi, rfl⟩ := rng_get q
  refine ⟨hi, fun u H2 hy => ?_⟩
  obtain ⟨rfl, rfl⟩ := hy
  exact ⟨B', Same.refl _, hl, rfl⟩, fun hi => by rw [rng_len] at hi; exact hi⟩
theorem di_range1 (hm : X.mg "range" = none) (h : DP X a ds L fun x L1 => ∃ j : Int, x = .int j ∧ -(2 ^ 62) ≤ j ∧ j < 2 ^ 62 ∧ P (rng 0 j.toNat) L1) (hg : Gl X "range" := by rfl) (hs' : starEach [a] X.env = [(false, eval a X.env)] := by rfl) :
    DI X tg (.Call (.Name "range" p) [a] [] pos) ds L P := .mk fun σ H B hs hl R q => by
  refine PI.to (pi_range1 hg hm (pa_cons pe_w pa_nil hs') hs') (h.run σ H B hs hl _ fun x L1 v B1 H1 hp e1 hl1 ix => ?_)
  obtain ⟨j, rfl, h1, h2, p⟩ := hp
  obtain rfl : v = _ := ix
  exact ⟨j, rfl, h1, h2, q _ L1 _ B1 H1 p e1 hl1 (yields_rng 0 _)⟩
theorem di_range2 (hm : X.mg "range" = none) (h : DP X a ds L fun x L1 => DP X b ds L1 fun y L2 => ∃ i j : Int, x = .int i ∧ y = .int j ∧ (-(2 ^ 62) ≤ i ∧ i < 2 ^ 62 ∧ -(2 ^ 62) ≤ j ∧ j < 2 ^ 62) ∧ P (rng i (j - i).toNat) L2) (hg : Gl X "range" := by rfl)
    (hs' : starEach [a, b] X.env = [(false, eval a X.env), (false, eval b X.env)] := by rfl) (hs2 : starEach [b] X.env = [(false, eval b X.env)] := by rfl) :
    DI X tg (.Call (.Name "range" p) [a, b] [] pos) ds L P := .mk fun σ H B hs hl R q => by
  refine PI.to (pi_range2 hg hm (pa_cons pe_w (pa_cons pe_w pa_nil hs2) (by rw [hs', hs2])) hs' hs2) (h.run σ H B hs hl _ fun x L1 v B1 H1 hb e1 hl1 ix => hb.run σ H1 B1 (hs.mono e1) hl1 _ fun y L2 u B2 H2 hp e2 hl2 iy => ?_)
  obtain ⟨i, j, rfl, rfl, h1, p⟩ := hp
  obtain rfl : v = _ := ix
  obtain rfl : u = _ := iy
  exact ⟨i, j, rfl, h1, q _ L2 _ B2 H2 p (e1.trans e2) hl2 (yields_rng i _)⟩
/-- a text, sign by sign -/
def sgn (l : List Nat) : List Dt := l.map fun c => Dt.str [c]
theorem sgn_get {l : List Nat} {i : Nat} {d : Dt} (h : (sgn l)[i]? = some d) : ∃ c, l[i]? = some c ∧ d = .str [c] := by
  unfold sgn at h
  rw [List.getElem?_map] at h
  cases e : l[i]? with
  | none => rw [e] at h; cases h
  | some c => rw [e] at h; exact ⟨c, rfl, (Option.some.inj h).symm⟩
theorem yields_str {K : PySem.W.Frag} {B : Hp} (l : List Nat) : Yields K B (Its ⟨l.toArray⟩) (sgn l) := fun i B' H' L' e hl => ⟨fun d q => by
  obtain ⟨c, hc, rfl⟩ := sgn_get q
  refine ⟨show i < (l.toArray).size by rw [List.size_toArray]; exact (List.getElem?_eq_some_iff.mp hc).1, fun u H2 hy => ?_⟩
  obtain ⟨rfl, c', hc', rfl⟩ := hy
  have e2 : c' = c := by
    have q2 : (l.toArray)[i]? = some c := by simpa using hc
    have q3 : (l.toArray)[i]? = some c' := hc'
    rw [q2] at q3
    exact (Option.some.inj q3).symm
  subst e2
  exact ⟨B', Same.refl _, hl, rfl⟩, fun hi => show (l.toArray).size ≤ i by rw [List.size_toArray]; simpa [sgn] using hi⟩
theorem di_str (h : DP X e ds L fun x L1 => ∃ l, x = .str l ∧ P (sgn l) L1) : DI X tg e ds L P := .mk fun σ H B hs hl R q => by
  refine PI.to (pi_str pe_w) (h.run σ H B hs hl _ fun x L1 v B1 H1 hp e1 hl1 ix => ?_)
  obtain ⟨l, rfl, p⟩ := hp
  obtain rfl : v = _ := ix
  exact ⟨_, rfl, q _ L1 _ B1 H1 p e1 hl1 (yields_str l)⟩
/-- enumerate of a tuple, of a text -/
def enm (xs : List Dt) : List Dt := xs.mapIdx fun i x => Dt.tup [.int (i : Nat), x]
theorem enm_len (xs : List Dt) : (enm xs).length = xs.length := by simp [enm]
theorem enm_get {xs : List Dt} {i : Nat} {d : Dt} (h : (enm xs)[i]? = some d) : ∃ x, xs[i]? = some x ∧ d = .tup [.int (i : Nat), x] := by
  unfold enm at h
  rw [List.getElem?_mapIdx] at h
  cases e : xs[i]? with
  | none => rw [e] at h; cases h
  | some c => rw [e] at h; exact ⟨c, rfl, (Option.some.inj h).symm⟩
theorem yields_enumT {K : PySem.W.Frag} {B : Hp} {a : Addr} {xs : List Dt} {vs : List V} (ha : SqT K B a vs) (h : IsL K B xs vs) : Yields K B (IteT K a) (enm xs) := fun i B' H' L' e hl => ⟨fun d q => by
  obtain ⟨x, hx, rfl⟩ := enm_get q
  obtain ⟨v, e1, e2⟩ := h.get hx
  have e3 : SqT K H' a vs := seqT (e.trans hl.sub) ha
  refine ⟨⟨vs, v, e3, e1⟩, fun u H2 hy => ?_⟩
  obtain ⟨T, y, rfl, hT, rfl, hy⟩ := hy
  have e4 := hy vs e3
  rw [e1] at e4
  obtain rfl := Option.some.inj e4
  obtain ⟨sb, h2⟩ := hl.new (o := .tup [.int (i : Nat), v]) hT
  exact ⟨_, sb, h2, T, _, rfl, upd_same, ⟨_, _, rfl, rfl, _, _, rfl, (e2.mono e).mono sb, rfl⟩⟩, fun hi => ⟨vs, seqT (e.trans hl.sub) ha, by rw [h.length, ← enm_len]; exact hi⟩⟩
theorem yields_enumS {K : PySem.W.Frag} {B : Hp} (l : List Nat) : Yields K B (IteS ⟨l.toArray⟩) (enm (sgn l)) := fun i B' H' L' e hl => ⟨fun d q => by
  obtain ⟨x, hx, rfl⟩ := enm_get q
  obtain ⟨c, hc, rfl⟩ := sgn_get hx
  refine ⟨show i < (l.toArray).size by rw [List.size_toArray]; exact (List.getElem?_eq_some_iff.mp hc).1, fun u H2 hy => ?_⟩
  obtain ⟨T, c', rfl, hT, rfl, hc'⟩ := hy
  have e2 : c' = c := by
    have q2 : (l.toArray)[i]? = some c := by simpa using hc
    have q3 : (l.toArray)[i]? = some c' := hc'
    rw [q2] at q3
    exact (Option.some.inj q3).symm
  subst e2
  obtain ⟨sb, h2⟩ := hl.new (o := .tup [.int (i : Nat), .str ⟨#[c']⟩]) hT
  exact ⟨_, sb, h2, T, _, rfl, upd_same, ⟨_, _, rfl, rfl, _, _, rfl, rfl, rfl⟩⟩, fun hi => show (l.toArray).size ≤ i by rw [List.size_toArray]; simpa [enm_len, sgn] using hi⟩
theorem di_enumT {elts : List Expr} {kk : Nat} {tpos : Pos} (hm : X.mg "enumerate" = none) (h : DP X e ds L fun x L1 => ∃ xs, x = .tup xs ∧ P (enm xs) L1) (hg : Gl X "enumerate" := by rfl) (hs' : starEach [e] X.env = [(false, eval e X.env)] := by rfl) :
    DI X (.Tuple elts kk tpos) (.Call (.Name "enumerate" p) [e] [] pos) ds L P := .mk fun σ H B hs hl R q => by
  refine PI.to (pi_enumT hg hm (pa_cons pe_w pa_nil hs') hs') (h.run σ H B hs hl _ fun x L1 v B1 H1 hp e1 hl1 ix => ?_)
  obtain ⟨xs, rfl, p⟩ := hp
  obtain ⟨a, us, rfl, ha, ia⟩ := ix
  exact ⟨a, us, rfl, SqT.of (hl1.sub _ _ ha), q _ L1 _ B1 H1 p e1 hl1 (yields_enumT (SqT.of ha) ia)⟩
theorem di_enumS {elts : List Expr} {kk : Nat} {tpos : Pos} (hm : X.mg "enumerate" = none) (h : DP X e ds L fun x L1 => ∃ l, x = .str l ∧ P (enm (sgn l)) L1) (hg : Gl X "enumerate" := by rfl) (hs' : starEach [e] X.env = [(false, eval e X.env)] := by rfl) :
    DI X (.Tuple elts kk tpos) (.Call (.Name "enumerate" p) [e] [] pos) ds L P := .mk fun σ H B hs hl R q => by
  refine PI.to (pi_enumS hg hm (pa_cons pe_w pa_nil hs') hs') (h.run σ H B hs hl _ fun x L1 v B1 H1 hp e1 hl1 ix => ?_)
  obtain ⟨l, rfl, p⟩ := hp
  obtain rfl : v = _ := ix
  exact ⟨_, rfl, q _ L1 _ B1 H1 p e1 hl1 (yields_enumS l)⟩
end

/-! ### comprehensions -/
section
variable {X : Cx}
/-- the data of the slots that the block keeps -/
def wipeD (ds : DS) : List Nat → DS
  | [] => ds
  | v :: vs => (wipeD ds vs).set v none
theorem sl_wipe {K : PySem.W.Frag} {B : Hp} {ds : DS} {σ : L2.St} (h : Sl K B ds σ) : ∀ vs, Sl K B (wipeD ds vs) (wipe σ vs)
  | [] => h
  | v :: vs => by
    have ih := sl_wipe h vs
    refine ⟨by show (List.set _ _ _).length = (List.set _ _ _).length; rw [List.length_set, List.length_set, ih.1], fun i d q => ?_⟩
    have q : ((wipeD ds vs).set v none)[i]? = some (some d) := q
    by_cases hi : v = i
    · subst hi
      by_cases hv : v < (wipeD ds vs).length
      · rw [List.getElem?_set_self hv] at q; cases q
      · rw [List.getElem?_eq_none (by simpa using hv)] at q; cases q
    · rw [List.getElem?_set_ne hi] at q
      obtain ⟨u, e1, e2⟩ := ih.2 i d q
      exact ⟨u, by show ((wipe σ vs).set v none)[i]? = _; rw [List.getElem?_set_ne hi]; exact e1, e2⟩
/-- the block's contexts -/
@[reducible] def bX (X : Cx) (scope : Scope) (s : Shared) (H : Hp) (C : Addr) (cl : List (Str × Addr)) (fp : List Addr) : Cx := X.blk s H scope (compEnvC scope cl C X.env) fp
/-- what a comprehension asks: W: how the changing objects stand by the turn, ys so far -/
def DLc (X : Cx) (elt tg iter : Expr) (ifs : List Expr) (scope : Scope) (ds : DS) (L : MS) (i : Nat) (P : DK) : Prop :=
  DI X tg iter ds L fun xs L1 => ∃ W : Nat → List Dt → MS → Prop, W 0 [] L1 ∧ xs.length ≤ 100000 ∧ (∀ n d ys L2 T, xs[n]? = some d → W n ys L2 → ys.length ≤ n → ∀ s H C cl fp, ∃ ds', SetAt ds i d ds' ∧
      DTs (bX X scope s H C cl fp) ifs ds' (T :: L2) fun c L4 =>
        two c (∀ s H C cl fp, DP (bX X scope s H C cl fp) elt ds' L4 fun y L5 => ∃ L6, L5 = T :: L6 ∧ W (n + 1) (ys ++ [y]) L6) (∃ L6, L4 = T :: L6 ∧ W (n + 1) ys L6)) ∧ ∀ ys L2, W xs.length ys L2 → P (.lst ys) L2
def teB (X : Cx) (scope : Scope) (elt : Expr) : TE := fun σ H Q => ∀ s H0 C cl fp, EW (bX X scope s H0 C cl fp) elt σ H Q
def ttB (X : Cx) (scope : Scope) (ifs : List Expr) : TT := fun σ H Q => ∀ s H0 C cl fp, TSW (bX X scope s H0 C cl fp) ifs σ H Q
theorem lc_read {elt tg iter : Expr} {ifs : List Expr} {scope : Scope} {ds : DS} {L : MS} {P : DK} {i : Nat} {σ : L2.St} {H B : Hp} {Q : VK} (hs0 : Sl X.K B ds σ) (hl0 : Hs X.K B L H) (h : DLc X elt tg iter ifs scope ds L i P) (q : Fin X.K B P Q) :
    tLc (IW X tg iter) (gName i) (ttB X scope ifs) (teB X scope elt) [i] σ H Q := by
  refine h.run σ H B hs0 hl0 _ fun xs L1 J B1 H1 ⟨W, w0, hz, hstep, hend⟩ e1 hl1 hy D hD => ?_
  refine ⟨fun n m H' => n + m = xs.length ∧ ∃ ys L2 B', W n ys L2 ∧ ys.length ≤ n ∧ Same B1 B' ∧ Hs X.K B' ((D, .lst ys) :: L2) H', ⟨xs.length, Nat.zero_add _, [], L1, B1, w0, Nat.le_refl _, Same.refl _, hl1.newM hD ⟨[], rfl, rfl⟩⟩, ?_⟩
  rintro n m H' ⟨hn, ys, L2, B', w, hys, e2, hl2⟩
  obtain ⟨y1, y2⟩ := hy n B' H' _ e2 hl2
  by_cases hi : n < xs.length
  · have hx : xs[n]? = some xs[n] := List.getElem?_eq_getElem hi
    obtain ⟨g1, g2⟩ := y1 _ hx
    refine .inr ⟨g1, fun H3 => ∃ ys L2 B', W (n + 1) ys L2 ∧ ys.length ≤ n + 1 ∧ Same B1 B' ∧ Hs X.K B' ((D, .lst ys) :: L2) H3, fun H3 hN => ⟨m - 1, by omega, by omega, hN⟩, fun v H2 hv => ?_⟩
    obtain ⟨B2, e3, hl3, iv⟩ := g2 v H2 hv
    have eB : Same B1 B2 := e2.trans e3
    have sl2 : ∀ ds', SetAt ds i xs[n] ds' → Sl X.K B2 ds' ((wipe σ [i]).set i (some v)) := fun ds' hset => by
      have q1 := (sl_wipe (hs0.mono (e1.trans eB)) [i]).set i iv
      have e5 : (wipeD ds [i]).set i (some xs[n]) = ds' := by
        rw [← hset]
        show (ds.set i none).set i (some xs[n]) = _
        rw [List.set_set]
      rw [e5] at q1
      exact q1
    show wipe ((wipe σ [i]).set i (some v)) [i] = wipe σ [i] ∧ ttB X scope ifs ((wipe σ [i]).set i (some v)) H2 _
    refine ⟨?_, fun s H0 C cl fp => ?_⟩
    · show (((σ.set i none).set i (some v)).set i none) = σ.set i none
      rw [List.set_set, List.set_set]
    · obtain ⟨ds', hset, ht⟩ := hstep n xs[n] ys L2 (D, .lst ys) hx w hys s H0 C cl fp
      refine ht.run _ H2 B2 (sl2 ds' hset) hl3 _ fun c L4 B3 H3 p3 e5 hl4 => ?_
      cases c with
      | true =>
        show teB X scope elt _ H3 _
        intro s' H0' C' cl' fp'
        refine (p3.1 rfl s' H0' C' cl' fp').run _ H3 B3 ((sl2 ds' hset).mono e5) hl4 _ fun y L5 u B4 H4 ⟨L6, e6, w6⟩ e7 hl5 iy => ?_
        subst e6
        obtain ⟨vs, hD', ivs⟩ := hl5.lst ML.hd
        refine ⟨vs, hD', ?_, ys ++ [y], L6, B4, w6, by rw [List.length_append]; exact Nat.succ_le_succ hys, (eB.trans e5).trans e7, hl5.put .hd ⟨_, rfl, ivs.append (IsL.one iy)⟩⟩
        rw [ivs.length, sizeLine_eq]
        omega
      | false =>
        obtain ⟨L6, rfl, w6⟩ := p3.2 rfl
        exact ⟨ys, L6, B3, w6, by omega, eB.trans e5, hl4⟩
  · have ei : n = xs.length := by omega
    refine .inl ⟨y2 (by omega), ?_⟩
    subst ei
    obtain ⟨vs, hD', ivs⟩ := hl2.lst ML.hd
    obtain ⟨sb, hl5⟩ := hl2.freeze MDel.hd hD'
    exact q (.lst ys) L2 _ _ H' (hend ys L2 w) ((e1.trans e2).trans sb) hl5 ⟨D, vs, rfl, upd_same, ivs.mono sb⟩
theorem dp_lc {elt tg iter : Expr} {ifs : List Expr} {scope : Scope} {ds : DS} {L : MS} {P : DK} {pos : Pos} {i : Nat} (own : List (Str × Nat)) (ok : BlkOk X.N X.env.scope scope own) (hN : X.N.Nodup)
    (hg : ∀ (s : Shared) (H : Hp) (C : Addr) (cl : List (Str × Addr)) (fp : List Addr), PG (bX X scope s H C cl fp) tg (gName i)) (h : DLc X elt tg iter ifs scope ds L i P)
    (ho : own.map (·.2) = [i] := by rfl) (hc : X.calm = true := by rfl) (hs : ∀ x, foldedSetIterable iter X.env x = pure x := by intro _; rfl) : DP X (.ListComp elt [⟨tg, iter, ifs, 0⟩] scope pos) ds L P := .mk fun σ H B hs0 hl0 Q q => by
  refine PE.to (pe_lc (tt := ttB X scope ifs) (te := teB X scope elt) hc hN pi_w ok hg (fun s H C cl fp => ⟨fun pins s1 σ H Q I h => h s _ C cl fp pins s1 I⟩) (fun s H C cl fp => ⟨fun pins s1 σ H Q I h => h s _ C cl fp pins s1 I⟩) hs) ?_
  rw [ho]
  exact lc_read hs0 hl0 h q
/-- name = [..] -/
theorem ds_setLc {elt tg iter : Expr} {ifs : List Expr} {scope : Scope} {ds : DS} {L : MS} {D : DEnds} {pos spos py : Pos} {i j : Nat} {y : Str} {ds' : Dt → DS} (hset : ∀ d, SetAt ds j d (ds' d)) (own : List (Str × Nat)) (ok : BlkOk X.N X.env.scope scope own) (hN : X.N.Nodup)
    (hg : ∀ (s : Shared) (H : Hp) (C : Addr) (cl : List (Str × Addr)) (fp : List Addr), PG (bX X scope s H C cl fp) tg (gName i))
    (hsw : swapsWith (.ListComp elt [⟨tg, iter, ifs, 0⟩] scope pos) (some (.Name y py)) spos.line X.env = pure true) (h : DLc X elt tg iter ifs scope ds L i fun d L1 => D.nx (ds' d) L1)
    (hy : X.N[j]? = some y := by rfl) (hyl : X.env.scope.names.lookup y = some .local := by rfl) (ho : own.map (·.2) = [i] := by rfl) (hc : X.calm = true := by rfl) (hs : ∀ x, foldedSetIterable iter X.env x = pure x := by intro _; rfl) :
    DSt X (.Assign [.Name y py] (.ListComp elt [⟨tg, iter, ifs, 0⟩] scope pos) spos) ds L D := .mk fun σ H B E hs0 hl0 m => by
  refine PS.to (ps_setLc (i := j) (tt := ttB X scope ifs) (te := teB X scope elt) hc hN hy hyl hsw pi_w ok hg (fun s H C cl fp => ⟨fun pins s1 σ H Q I h => h s _ C cl fp pins s1 I⟩) (fun s H C cl fp => ⟨fun pins s1 σ H Q I h => h s _ C cl fp pins s1 I⟩) hs) ?_
  rw [ho]
  refine lc_read hs0 hl0 h fun d L' v B2 H2 p e hl iv => ?_
  refine m.nx (ds' d) L' _ B2 H2 p e ?_ hl
  rw [← hset d]
  exact (hs0.mono e).set j iv
/-- .. where nothing changes: from xs the values g of those that f lets through -/
theorem DLc.pure {elt tg iter : Expr} {ifs : List Expr} {scope : Scope} {ds : DS} {L : MS} {i : Nat} {P : DK} (h : DI X tg iter ds L fun xs L1 => ∃ (f : Dt → Bool) (g : Dt → Dt), xs.length ≤ 100000 ∧ (∀ d T, d ∈ xs → ∀ s H C cl fp, ∃ ds', SetAt ds i d ds' ∧
      DTs (bX X scope s H C cl fp) ifs ds' (T :: L1) fun c L4 => L4 = T :: L1 ∧ c = f d ∧ (c = true → ∀ s H C cl fp, DP (bX X scope s H C cl fp) elt ds' L4 fun y L5 => L5 = L4 ∧ y = g d)) ∧ P (.lst ((xs.filter f).map g)) L1) : DLc X elt tg iter ifs scope ds L i P := .mk fun σ H B hs hl R q =>
  h.run σ H B hs hl R fun xs L' J B2 H2 ⟨f, g, hz, ht, p⟩ => q xs L' J B2 H2 ⟨fun n ys L2 => L2 = L' ∧ ys = ((xs.take n).filter f).map g, ⟨rfl, rfl⟩, hz, fun n d ys L2 T hx ⟨e1, e2⟩ _ s H C cl fp => by
    subst e1 e2
    obtain ⟨ds', hset, h1⟩ := ht d T (List.mem_of_getElem? hx) s H C cl fp
    refine ⟨ds', hset, DTs.imp h1 fun c L4 ⟨e3, e4, h2⟩ => ⟨fun hc s H C cl fp => DP.imp (h2 hc s H C cl fp) fun y L5 ⟨e5, e6⟩ => ⟨L2, e5.trans e3, rfl, ?_⟩, fun hc => ⟨L2, e3, rfl, ?_⟩⟩⟩
    · rw [List.take_add_one, hx, List.filter_append, List.map_append, e6]
      rw [hc] at e4
      simp [← e4]
    · rw [List.take_add_one, hx, List.filter_append, List.map_append]
      rw [hc] at e4
      simp [← e4], fun ys L2 ⟨e1, e2⟩ => by
    rw [e1, e2, List.take_length]
    exact p⟩
end
end Z
namespace Z
open PySem PySem.Spec PyProof.Rows L2
/-! ### places -/
theorem g0 {d : Dt} {l : DS} : Get (some d :: l) 0 d := rfl
theorem s0 {a0 : Option Dt} {d : Dt} {l : DS} : SetAt (a0 :: l) 0 d (some d :: l) := rfl
theorem g1 {a0 : Option Dt} {d : Dt} {l : DS} : Get (a0 :: some d :: l) 1 d := rfl
theorem s1 {a0 a1 : Option Dt} {d : Dt} {l : DS} : SetAt (a0 :: a1 :: l) 1 d (a0 :: some d :: l) := rfl
theorem g2 {a0 a1 : Option Dt} {d : Dt} {l : DS} : Get (a0 :: a1 :: some d :: l) 2 d := rfl
theorem s2 {a0 a1 a2 : Option Dt} {d : Dt} {l : DS} : SetAt (a0 :: a1 :: a2 :: l) 2 d (a0 :: a1 :: some d :: l) := rfl
theorem g3 {a0 a1 a2 : Option Dt} {d : Dt} {l : DS} : Get (a0 :: a1 :: a2 :: some d :: l) 3 d := rfl
theorem s3 {a0 a1 a2 a3 : Option Dt} {d : Dt} {l : DS} : SetAt (a0 :: a1 :: a2 :: a3 :: l) 3 d (a0 :: a1 :: a2 :: some d :: l) := rfl
theorem g4 {a0 a1 a2 a3 : Option Dt} {d : Dt} {l : DS} : Get (a0 :: a1 :: a2 :: a3 :: some d :: l) 4 d := rfl
theorem s4 {a0 a1 a2 a3 a4 : Option Dt} {d : Dt} {l : DS} : SetAt (a0 :: a1 :: a2 :: a3 :: a4 :: l) 4 d (a0 :: a1 :: a2 :: a3 :: some d :: l) := rfl
theorem g5 {a0 a1 a2 a3 a4 : Option Dt} {d : Dt} {l : DS} : Get (a0 :: a1 :: a2 :: a3 :: a4 :: some d :: l) 5 d := rfl
theorem s5 {a0 a1 a2 a3 a4 a5 : Option Dt} {d : Dt} {l : DS} : SetAt (a0 :: a1 :: a2 :: a3 :: a4 :: a5 :: l) 5 d (a0 :: a1 :: a2 :: a3 :: a4 :: some d :: l) := rfl
theorem g6 {a0 a1 a2 a3 a4 a5 : Option Dt} {d : Dt} {l : DS} : Get (a0 :: a1 :: a2 :: a3 :: a4 :: a5 :: some d :: l) 6 d := rfl
theorem s6 {a0 a1 a2 a3 a4 a5 a6 : Option Dt} {d : Dt} {l : DS} : SetAt (a0 :: a1 :: a2 :: a3 :: a4 :: a5 :: a6 :: l) 6 d (a0 :: a1 :: a2 :: a3 :: a4 :: a5 :: some d :: l) := rfl
theorem g7 {a0 a1 a2 a3 a4 a5 a6 : Option Dt} {d : Dt} {l : DS} : Get (a0 :: a1 :: a2 :: a3 :: a4 :: a5 :: a6 :: some d :: l) 7 d := rfl
theorem s7 {a0 a1 a2 a3 a4 a5 a6 a7 : Option Dt} {d : Dt} {l : DS} : SetAt (a0 :: a1 :: a2 :: a3 :: a4 :: a5 :: a6 :: a7 :: l) 7 d (a0 :: a1 :: a2 :: a3 :: a4 :: a5 :: a6 :: some d :: l) := rfl
theorem g8 {a0 a1 a2 a3 a4 a5 a6 a7 : Option Dt} {d : Dt} {l : DS} : Get (a0 :: a1 :: a2 :: a3 :: a4 :: a5 :: a6 :: a7 :: some d :: l) 8 d := rfl
theorem s8 {a0 a1 a2 a3 a4 a5 a6 a7 a8 : Option Dt} {d : Dt} {l : DS} : SetAt (a0 :: a1 :: a2 :: a3 :: a4 :: a5 :: a6 :: a7 :: a8 :: l) 8 d (a0 :: a1 :: a2 :: a3 :: a4 :: a5 :: a6 :: a7 :: some d :: l) := rfl
theorem g9 {a0 a1 a2 a3 a4 a5 a6 a7 a8 : Option Dt} {d : Dt} {l : DS} : Get (a0 :: a1 :: a2 :: a3 :: a4 :: a5 :: a6 :: a7 :: a8 :: some d :: l) 9 d := rfl
theorem s9 {a0 a1 a2 a3 a4 a5 a6 a7 a8 a9 : Option Dt} {d : Dt} {l : DS} : SetAt (a0 :: a1 :: a2 :: a3 :: a4 :: a5 :: a6 :: a7 :: a8 :: a9 :: l) 9 d (a0 :: a1 :: a2 :: a3 :: a4 :: a5 :: a6 :: a7 :: a8 :: some d :: l) := rfl
theorem g10 {a0 a1 a2 a3 a4 a5 a6 a7 a8 a9 : Option Dt} {d : Dt} {l : DS} : Get (a0 :: a1 :: a2 :: a3 :: a4 :: a5 :: a6 :: a7 :: a8 :: a9 :: some d :: l) 10 d := rfl
theorem s10 {a0 a1 a2 a3 a4 a5 a6 a7 a8 a9 a10 : Option Dt} {d : Dt} {l : DS} : SetAt (a0 :: a1 :: a2 :: a3 :: a4 :: a5 :: a6 :: a7 :: a8 :: a9 :: a10 :: l) 10 d (a0 :: a1 :: a2 :: a3 :: a4 :: a5 :: a6 :: a7 :: a8 :: a9 :: some d :: l) := rfl
theorem g11 {a0 a1 a2 a3 a4 a5 a6 a7 a8 a9 a10 : Option Dt} {d : Dt} {l : DS} : Get (a0 :: a1 :: a2 :: a3 :: a4 :: a5 :: a6 :: a7 :: a8 :: a9 :: a10 :: some d :: l) 11 d := rfl
theorem s11 {a0 a1 a2 a3 a4 a5 a6 a7 a8 a9 a10 a11 : Option Dt} {d : Dt} {l : DS} : SetAt (a0 :: a1 :: a2 :: a3 :: a4 :: a5 :: a6 :: a7 :: a8 :: a9 :: a10 :: a11 :: l) 11 d (a0 :: a1 :: a2 :: a3 :: a4 :: a5 :: a6 :: a7 :: a8 :: a9 :: a10 :: some d :: l) := rfl
theorem g12 {a0 a1 a2 a3 a4 a5 a6 a7 a8 a9 a10 a11 : Option Dt} {d : Dt} {l : DS} : Get (a0 :: a1 :: a2 :: a3 :: a4 :: a5 :: a6 :: a7 :: a8 :: a9 :: a10 :: a11 :: some d :: l) 12 d := rfl
theorem s12 {a0 a1 a2 a3 a4 a5 a6 a7 a8 a9 a10 a11 a12 : Option Dt} {d : Dt} {l : DS} : SetAt (a0 :: a1 :: a2 :: a3 :: a4 :: a5 :: a6 :: a7 :: a8 :: a9 :: a10 :: a11 :: a12 :: l) 12 d (a0 :: a1 :: a2 :: a3 :: a4 :: a5 :: a6 :: a7 :: a8 :: a9 :: a10 :: a11 :: some d :: l) := rfl
theorem g13 {a0 a1 a2 a3 a4 a5 a6 a7 a8 a9 a10 a11 a12 : Option Dt} {d : Dt} {l : DS} : Get (a0 :: a1 :: a2 :: a3 :: a4 :: a5 :: a6 :: a7 :: a8 :: a9 :: a10 :: a11 :: a12 :: some d :: l) 13 d := rfl
theorem s13 {a0 a1 a2 a3 a4 a5 a6 a7 a8 a9 a10 a11 a12 a13 : Option Dt} {d : Dt} {l : DS} : SetAt (a0 :: a1 :: a2 :: a3 :: a4 :: a5 :: a6 :: a7 :: a8 :: a9 :: a10 :: a11 :: a12 :: a13 :: l) 13 d (a0 :: a1 :: a2 :: a3 :: a4 :: a5 :: a6 :: a7 :: a8 :: a9 :: a10 :: a11 :: a12 :: some d :: l) := rfl
theorem g14 {a0 a1 a2 a3 a4 a5 a6 a7 a8 a9 a10 a11 a12 a13 : Option Dt} {d : Dt} {l : DS} : Get (a0 :: a1 :: a2 :: a3 :: a4 :: a5 :: a6 :: a7 :: a8 :: a9 :: a10 :: a11 :: a12 :: a13 :: some d :: l) 14 d := rfl
theorem s14 {a0 a1 a2 a3 a4 a5 a6 a7 a8 a9 a10 a11 a12 a13 a14 : Option Dt} {d : Dt} {l : DS} : SetAt (a0 :: a1 :: a2 :: a3 :: a4 :: a5 :: a6 :: a7 :: a8 :: a9 :: a10 :: a11 :: a12 :: a13 :: a14 :: l) 14 d (a0 :: a1 :: a2 :: a3 :: a4 :: a5 :: a6 :: a7 :: a8 :: a9 :: a10 :: a11 :: a12 :: a13 :: some d :: l) := rfl
theorem g15 {a0 a1 a2 a3 a4 a5 a6 a7 a8 a9 a10 a11 a12 a13 a14 : Option Dt} {d : Dt} {l : DS} : Get (a0 :: a1 :: a2 :: a3 :: a4 :: a5 :: a6 :: a7 :: a8 :: a9 :: a10 :: a11 :: a12 :: a13 :: a14 :: some d :: l) 15 d := rfl
theorem s15 {a0 a1 a2 a3 a4 a5 a6 a7 a8 a9 a10 a11 a12 a13 a14 a15 : Option Dt} {d : Dt} {l : DS} : SetAt (a0 :: a1 :: a2 :: a3 :: a4 :: a5 :: a6 :: a7 :: a8 :: a9 :: a10 :: a11 :: a12 :: a13 :: a14 :: a15 :: l) 15 d (a0 :: a1 :: a2 :: a3 :: a4 :: a5 :: a6 :: a7 :: a8 :: a9 :: a10 :: a11 :: a12 :: a13 :: a14 :: some d :: l) := rfl
theorem g16 {a0 a1 a2 a3 a4 a5 a6 a7 a8 a9 a10 a11 a12 a13 a14 a15 : Option Dt} {d : Dt} {l : DS} : Get (a0 :: a1 :: a2 :: a3 :: a4 :: a5 :: a6 :: a7 :: a8 :: a9 :: a10 :: a11 :: a12 :: a13 :: a14 :: a15 :: some d :: l) 16 d := rfl
theorem s16 {a0 a1 a2 a3 a4 a5 a6 a7 a8 a9 a10 a11 a12 a13 a14 a15 a16 : Option Dt} {d : Dt} {l : DS} : SetAt (a0 :: a1 :: a2 :: a3 :: a4 :: a5 :: a6 :: a7 :: a8 :: a9 :: a10 :: a11 :: a12 :: a13 :: a14 :: a15 :: a16 :: l) 16 d (a0 :: a1 :: a2 :: a3 :: a4 :: a5 :: a6 :: a7 :: a8 :: a9 :: a10 :: a11 :: a12 :: a13 :: a14 :: a15 :: some d :: l) := rfl
theorem g17 {a0 a1 a2 a3 a4 a5 a6 a7 a8 a9 a10 a11 a12 a13 a14 a15 a16 : Option Dt} {d : Dt} {l : DS} : Get (a0 :: a1 :: a2 :: a3 :: a4 :: a5 :: a6 :: a7 :: a8 :: a9 :: a10 :: a11 :: a12 :: a13 :: a14 :: a15 :: a16 :: some d :: l) 17 d := rfl
theorem s17 {a0 a1 a2 a3 a4 a5 a6 a7 a8 a9 a10 a11 a12 a13 a14 a15 a16 a17 : Option Dt} {d : Dt} {l : DS} : SetAt (a0 :: a1 :: a2 :: a3 :: a4 :: a5 :: a6 :: a7 :: a8 :: a9 :: a10 :: a11 :: a12 :: a13 :: a14 :: a15 :: a16 :: a17 :: l) 17 d (a0 :: a1 :: a2 :: a3 :: a4 :: a5 :: a6 :: a7 :: a8 :: a9 :: a10 :: a11 :: a12 :: a13 :: a14 :: a15 :: a16 :: some d :: l) := rfl
theorem g18 {a0 a1 a2 a3 a4 a5 a6 a7 a8 a9 a10 a11 a12 a13 a14 a15 a16 a17 : Option Dt} {d : Dt} {l : DS} : Get (a0 :: a1 :: a2 :: a3 :: a4 :: a5 :: a6 :: a7 :: a8 :: a9 :: a10 :: a11 :: a12 :: a13 :: a14 :: a15 :: a16 :: a17 :: some d :: l) 18 d := rfl
theorem s18 {a0 a1 a2 a3 a4 a5 a6 a7 a8 a9 a10 a11 a12 a13 a14 a15 a16 a17 a18 : Option Dt} {d : Dt} {l : DS} : SetAt (a0 :: a1 :: a2 :: a3 :: a4 :: a5 :: a6 :: a7 :: a8 :: a9 :: a10 :: a11 :: a12 :: a13 :: a14 :: a15 :: a16 :: a17 :: a18 :: l) 18 d (a0 :: a1 :: a2 :: a3 :: a4 :: a5 :: a6 :: a7 :: a8 :: a9 :: a10 :: a11 :: a12 :: a13 :: a14 :: a15 :: a16 :: a17 :: some d :: l) := rfl
theorem g19 {a0 a1 a2 a3 a4 a5 a6 a7 a8 a9 a10 a11 a12 a13 a14 a15 a16 a17 a18 : Option Dt} {d : Dt} {l : DS} : Get (a0 :: a1 :: a2 :: a3 :: a4 :: a5 :: a6 :: a7 :: a8 :: a9 :: a10 :: a11 :: a12 :: a13 :: a14 :: a15 :: a16 :: a17 :: a18 :: some d :: l) 19 d := rfl
theorem s19 {a0 a1 a2 a3 a4 a5 a6 a7 a8 a9 a10 a11 a12 a13 a14 a15 a16 a17 a18 a19 : Option Dt} {d : Dt} {l : DS} : SetAt (a0 :: a1 :: a2 :: a3 :: a4 :: a5 :: a6 :: a7 :: a8 :: a9 :: a10 :: a11 :: a12 :: a13 :: a14 :: a15 :: a16 :: a17 :: a18 :: a19 :: l) 19 d (a0 :: a1 :: a2 :: a3 :: a4 :: a5 :: a6 :: a7 :: a8 :: a9 :: a10 :: a11 :: a12 :: a13 :: a14 :: a15 :: a16 :: a17 :: a18 :: some d :: l) := rfl
theorem g20 {a0 a1 a2 a3 a4 a5 a6 a7 a8 a9 a10 a11 a12 a13 a14 a15 a16 a17 a18 a19 : Option Dt} {d : Dt} {l : DS} : Get (a0 :: a1 :: a2 :: a3 :: a4 :: a5 :: a6 :: a7 :: a8 :: a9 :: a10 :: a11 :: a12 :: a13 :: a14 :: a15 :: a16 :: a17 :: a18 :: a19 :: some d :: l) 20 d := rfl
theorem s20 {a0 a1 a2 a3 a4 a5 a6 a7 a8 a9 a10 a11 a12 a13 a14 a15 a16 a17 a18 a19 a20 : Option Dt} {d : Dt} {l : DS} : SetAt (a0 :: a1 :: a2 :: a3 :: a4 :: a5 :: a6 :: a7 :: a8 :: a9 :: a10 :: a11 :: a12 :: a13 :: a14 :: a15 :: a16 :: a17 :: a18 :: a19 :: a20 :: l) 20 d (a0 :: a1 :: a2 :: a3 :: a4 :: a5 :: a6 :: a7 :: a8 :: a9 :: a10 :: a11 :: a12 :: a13 :: a14 :: a15 :: a16 :: a17 :: a18 :: a19 :: some d :: l) := rfl
theorem g21 {a0 a1 a2 a3 a4 a5 a6 a7 a8 a9 a10 a11 a12 a13 a14 a15 a16 a17 a18 a19 a20 : Option Dt} {d : Dt} {l : DS} : Get (a0 :: a1 :: a2 :: a3 :: a4 :: a5 :: a6 :: a7 :: a8 :: a9 :: a10 :: a11 :: a12 :: a13 :: a14 :: a15 :: a16 :: a17 :: a18 :: a19 :: a20 :: some d :: l) 21 d := rfl
theorem s21 {a0 a1 a2 a3 a4 a5 a6 a7 a8 a9 a10 a11 a12 a13 a14 a15 a16 a17 a18 a19 a20 a21 : Option Dt} {d : Dt} {l : DS} : SetAt (a0 :: a1 :: a2 :: a3 :: a4 :: a5 :: a6 :: a7 :: a8 :: a9 :: a10 :: a11 :: a12 :: a13 :: a14 :: a15 :: a16 :: a17 :: a18 :: a19 :: a20 :: a21 :: l) 21 d (a0 :: a1 :: a2 :: a3 :: a4 :: a5 :: a6 :: a7 :: a8 :: a9 :: a10 :: a11 :: a12 :: a13 :: a14 :: a15 :: a16 :: a17 :: a18 :: a19 :: a20 :: some d :: l) := rfl
theorem g22 {a0 a1 a2 a3 a4 a5 a6 a7 a8 a9 a10 a11 a12 a13 a14 a15 a16 a17 a18 a19 a20 a21 : Option Dt} {d : Dt} {l : DS} : Get (a0 :: a1 :: a2 :: a3 :: a4 :: a5 :: a6 :: a7 :: a8 :: a9 :: a10 :: a11 :: a12 :: a13 :: a14 :: a15 :: a16 :: a17 :: a18 :: a19 :: a20 :: a21 :: some d :: l) 22 d := rfl
theorem s22 {a0 a1 a2 a3 a4 a5 a6 a7 a8 a9 a10 a11 a12 a13 a14 a15 a16 a17 a18 a19 a20 a21 a22 : Option Dt} {d : Dt} {l : DS} : SetAt (a0 :: a1 :: a2 :: a3 :: a4 :: a5 :: a6 :: a7 :: a8 :: a9 :: a10 :: a11 :: a12 :: a13 :: a14 :: a15 :: a16 :: a17 :: a18 :: a19 :: a20 :: a21 :: a22 :: l) 22 d (a0 :: a1 :: a2 :: a3 :: a4 :: a5 :: a6 :: a7 :: a8 :: a9 :: a10 :: a11 :: a12 :: a13 :: a14 :: a15 :: a16 :: a17 :: a18 :: a19 :: a20 :: a21 :: some d :: l) := rfl
theorem g23 {a0 a1 a2 a3 a4 a5 a6 a7 a8 a9 a10 a11 a12 a13 a14 a15 a16 a17 a18 a19 a20 a21 a22 : Option Dt} {d : Dt} {l : DS} : Get (a0 :: a1 :: a2 :: a3 :: a4 :: a5 :: a6 :: a7 :: a8 :: a9 :: a10 :: a11 :: a12 :: a13 :: a14 :: a15 :: a16 :: a17 :: a18 :: a19 :: a20 :: a21 :: a22 :: some d :: l) 23 d := rfl
theorem s23 {a0 a1 a2 a3 a4 a5 a6 a7 a8 a9 a10 a11 a12 a13 a14 a15 a16 a17 a18 a19 a20 a21 a22 a23 : Option Dt} {d : Dt} {l : DS} : SetAt (a0 :: a1 :: a2 :: a3 :: a4 :: a5 :: a6 :: a7 :: a8 :: a9 :: a10 :: a11 :: a12 :: a13 :: a14 :: a15 :: a16 :: a17 :: a18 :: a19 :: a20 :: a21 :: a22 :: a23 :: l) 23 d (a0 :: a1 :: a2 :: a3 :: a4 :: a5 :: a6 :: a7 :: a8 :: a9 :: a10 :: a11 :: a12 :: a13 :: a14 :: a15 :: a16 :: a17 :: a18 :: a19 :: a20 :: a21 :: a22 :: some d :: l) := rfl
theorem g24 {a0 a1 a2 a3 a4 a5 a6 a7 a8 a9 a10 a11 a12 a13 a14 a15 a16 a17 a18 a19 a20 a21 a22 a23 : Option Dt} {d : Dt} {l : DS} : Get (a0 :: a1 :: a2 :: a3 :: a4 :: a5 :: a6 :: a7 :: a8 :: a9 :: a10 :: a11 :: a12 :: a13 :: a14 :: a15 :: a16 :: a17 :: a18 :: a19 :: a20 :: a21 :: a22 :: a23 :: some d :: l) 24 d := rfl
theorem s24 {a0 a1 a2 a3 a4 a5 a6 a7 a8 a9 a10 a11 a12 a13 a14 a15 a16 a17 a18 a19 a20 a21 a22 a23 a24 : Option Dt} {d : Dt} {l : DS} : SetAt (a0 :: a1 :: a2 :: a3 :: a4 :: a5 :: a6 :: a7 :: a8 :: a9 :: a10 :: a11 :: a12 :: a13 :: a14 :: a15 :: a16 :: a17 :: a18 :: a19 :: a20 :: a21 :: a22 :: a23 :: a24 :: l) 24 d (a0 :: a1 :: a2 :: a3 :: a4 :: a5 :: a6 :: a7 :: a8 :: a9 :: a10 :: a11 :: a12 :: a13 :: a14 :: a15 :: a16 :: a17 :: a18 :: a19 :: a20 :: a21 :: a22 :: a23 :: some d :: l) := rfl
theorem g25 {a0 a1 a2 a3 a4 a5 a6 a7 a8 a9 a10 a11 a12 a13 a14 a15 a16 a17 a18 a19 a20 a21 a22 a23 a24 : Option Dt} {d : Dt} {l : DS} : Get (a0 :: a1 :: a2 :: a3 :: a4 :: a5 :: a6 :: a7 :: a8 :: a9 :: a10 :: a11 :: a12 :: a13 :: a14 :: a15 :: a16 :: a17 :: a18 :: a19 :: a20 :: a21 :: a22 :: a23 :: a24 :: some d :: l) 25 d := rfl
theorem s25 {a0 a1 a2 a3 a4 a5 a6 a7 a8 a9 a10 a11 a12 a13 a14 a15 a16 a17 a18 a19 a20 a21 a22 a23 a24 a25 : Option Dt} {d : Dt} {l : DS} : SetAt (a0 :: a1 :: a2 :: a3 :: a4 :: a5 :: a6 :: a7 :: a8 :: a9 :: a10 :: a11 :: a12 :: a13 :: a14 :: a15 :: a16 :: a17 :: a18 :: a19 :: a20 :: a21 :: a22 :: a23 :: a24 :: a25 :: l) 25 d (a0 :: a1 :: a2 :: a3 :: a4 :: a5 :: a6 :: a7 :: a8 :: a9 :: a10 :: a11 :: a12 :: a13 :: a14 :: a15 :: a16 :: a17 :: a18 :: a19 :: a20 :: a21 :: a22 :: a23 :: a24 :: some d :: l) := rfl
theorem g26 {a0 a1 a2 a3 a4 a5 a6 a7 a8 a9 a10 a11 a12 a13 a14 a15 a16 a17 a18 a19 a20 a21 a22 a23 a24 a25 : Option Dt} {d : Dt} {l : DS} : Get (a0 :: a1 :: a2 :: a3 :: a4 :: a5 :: a6 :: a7 :: a8 :: a9 :: a10 :: a11 :: a12 :: a13 :: a14 :: a15 :: a16 :: a17 :: a18 :: a19 :: a20 :: a21 :: a22 :: a23 :: a24 :: a25 :: some d :: l) 26 d := rfl
theorem s26 {a0 a1 a2 a3 a4 a5 a6 a7 a8 a9 a10 a11 a12 a13 a14 a15 a16 a17 a18 a19 a20 a21 a22 a23 a24 a25 a26 : Option Dt} {d : Dt} {l : DS} : SetAt (a0 :: a1 :: a2 :: a3 :: a4 :: a5 :: a6 :: a7 :: a8 :: a9 :: a10 :: a11 :: a12 :: a13 :: a14 :: a15 :: a16 :: a17 :: a18 :: a19 :: a20 :: a21 :: a22 :: a23 :: a24 :: a25 :: a26 :: l) 26 d (a0 :: a1 :: a2 :: a3 :: a4 :: a5 :: a6 :: a7 :: a8 :: a9 :: a10 :: a11 :: a12 :: a13 :: a14 :: a15 :: a16 :: a17 :: a18 :: a19 :: a20 :: a21 :: a22 :: a23 :: a24 :: a25 :: some d :: l) := rfl
theorem g27 {a0 a1 a2 a3 a4 a5 a6 a7 a8 a9 a10 a11 a12 a13 a14 a15 a16 a17 a18 a19 a20 a21 a22 a23 a24 a25 a26 : Option Dt} {d : Dt} {l : DS} : Get (a0 :: a1 :: a2 :: a3 :: a4 :: a5 :: a6 :: a7 :: a8 :: a9 :: a10 :: a11 :: a12 :: a13 :: a14 :: a15 :: a16 :: a17 :: a18 :: a19 :: a20 :: a21 :: a22 :: a23 :: a24 :: a25 :: a26 :: some d :: l) 27 d := rfl
theorem s27 {a0 a1 a2 a3 a4 a5 a6 a7 a8 a9 a10 a11 a12 a13 a14 a15 a16 a17 a18 a19 a20 a21 a22 a23 a24 a25 a26 a27 : Option Dt} {d : Dt} {l : DS} : SetAt (a0 :: a1 :: a2 :: a3 :: a4 :: a5 :: a6 :: a7 :: a8 :: a9 :: a10 :: a11 :: a12 :: a13 :: a14 :: a15 :: a16 :: a17 :: a18 :: a19 :: a20 :: a21 :: a22 :: a23 :: a24 :: a25 :: a26 :: a27 :: l) 27 d (a0 :: a1 :: a2 :: a3 :: a4 :: a5 :: a6 :: a7 :: a8 :: a9 :: a10 :: a11 :: a12 :: a13 :: a14 :: a15 :: a16 :: a17 :: a18 :: a19 :: a20 :: a21 :: a22 :: a23 :: a24 :: a25 :: a26 :: some d :: l) := rfl
end Z
namespace Z
open PySem PySem.Spec PyProof.Rows L2
/-! ### == of data at any depth, no bools within -/
mutual
def pd : Dt → PyData
  | .non => .none
  | .bl b => .bool b
  | .int i => .int i
  | .str l => .str ⟨l.toArray⟩
  | .tup xs => .tuple (pdL xs)
  | .lst xs => .list (pdL xs)
  | .frl xs => .list (pdL xs)
  | .dct _ _ => .none
  | .ty _ => .none
  | .adr _ => .none
def pdL : List Dt → List PyData
  | [] => []
  | d :: ds => pd d :: pdL ds
end
/-- d may be compared: ints, texts, None, lists and tuples of such, n deep -/
def okE : Nat → Dt → Prop
  | _, .non => True
  | _, .int _ => True
  | _, .str l => ∀ c ∈ l, c < 0x110000
  | n + 1, .tup xs => ∀ x ∈ xs, okE n x
  | n + 1, .lst xs => ∀ x ∈ xs, okE n x
  | _, _ => False
def OkE (d : Dt) : Prop := ∃ n, n ≤ 60 ∧ okE n d
theorem pdL_map (xs : List Dt) : pdL xs = xs.map pd := by
  induction xs with
  | nil => rfl
  | cons x r ih => rw [pdL, ih]; rfl
theorem okE_tup {n : Nat} {xs : List Dt} (h : okE n (.tup xs)) : ∃ k, n = k + 1 ∧ ∀ x ∈ xs, okE k x := by
  cases n with
  | zero => exact h.elim
  | succ k => exact ⟨k, rfl, h⟩
theorem okE_lst {n : Nat} {xs : List Dt} (h : okE n (.lst xs)) : ∃ k, n = k + 1 ∧ ∀ x ∈ xs, okE k x := by
  cases n with
  | zero => exact h.elim
  | succ k => exact ⟨k, rfl, h⟩
mutual
theorem okE_lay : ∀ {n : Nat} {d : Dt}, okE n d → (pd d).canLay0 = true ∧ (pd d).depth ≤ n
  | n, .non, _ => ⟨by rw [pd, PyData.canLay0], by rw [pd, PyData.depth]; exact Nat.zero_le _⟩
  | n, .int _, _ => ⟨by rw [pd, PyData.canLay0], by rw [pd, PyData.depth]; exact Nat.zero_le _⟩
  | n, .str l, h => by
    have h : ∀ c ∈ l, c < 0x110000 := by cases n <;> exact h
    refine ⟨?_, by rw [pd, PyData.depth]; exact Nat.zero_le _⟩
    rw [pd, PyData.canLay0]
    show (l.toArray).all (· < 0x110000) = true
    simpa using h
  | n, .tup xs, h => by
    obtain ⟨k, rfl, h⟩ := okE_tup h
    obtain ⟨h1, h2⟩ := okE_layL h
    exact ⟨by rw [pd, PyData.canLay0]; exact h1, by rw [pd, PyData.depth]; omega⟩
  | n, .lst xs, h => by
    obtain ⟨k, rfl, h⟩ := okE_lst h
    obtain ⟨h1, h2⟩ := okE_layL h
    exact ⟨by rw [pd, PyData.canLay0]; exact h1, by rw [pd, PyData.depth]; omega⟩
  | n, .bl _, h => by cases n <;> exact h.elim
  | n, .frl _, h => by cases n <;> exact h.elim
  | n, .dct _ _, h => by cases n <;> exact h.elim
  | n, .ty _, h => by cases n <;> exact h.elim
  | n, .adr _, h => by cases n <;> exact h.elim
theorem okE_layL : ∀ {n : Nat} {xs : List Dt}, (∀ x ∈ xs, okE n x) → PyData.canLayAll0 (pdL xs) = true ∧ PyData.depthAll (pdL xs) ≤ n
  | n, [], _ => ⟨by rw [pdL, PyData.canLayAll0], by rw [pdL, PyData.depthAll]; exact Nat.zero_le _⟩
  | n, x :: xs, h => by
    obtain ⟨h1, h2⟩ := okE_lay (h x List.mem_cons_self)
    obtain ⟨h3, h4⟩ := okE_layL fun y hy => h y (List.mem_cons_of_mem _ hy)
    refine ⟨by rw [pdL, PyData.canLayAll0, h1, h3]; rfl, ?_⟩
    rw [pdL, PyData.depthAll]
    omega
end
theorem OkE.shaped {d : Dt} (h : OkE d) : SeqAt.shaped (pd d) = true := by
  obtain ⟨n, hn, h⟩ := h
  obtain ⟨h1, h2⟩ := okE_lay h
  unfold SeqAt.shaped
  rw [h1, decide_eq_true (show (pd d).depth ≤ 64 by omega)]
  rfl
section
variable {K : PySem.W.Frag} {B H : Hp}
mutual
theorem okE_dp (e : Same B H) : ∀ {n : Nat} {d : Dt} {v : V}, okE n d → Is K B d v → Dp K H v (pd d)
  | n, .non, v, _, i => by obtain rfl : v = _ := i; rw [pd]; exact .non
  | n, .int _, v, _, i => by obtain rfl : v = _ := i; rw [pd]; exact .int _
  | n, .str l, v, _, i => by obtain rfl : v = _ := i; rw [pd]; exact .str _
  | n, .tup xs, v, h, i => by
    obtain ⟨k, rfl, h⟩ := okE_tup h
    obtain ⟨a, vs, rfl, ha, ia⟩ := i
    rw [pd]
    exact .tup (SqT.of (e _ _ ha)) (okE_dpL e h ia)
  | n, .lst xs, v, h, i => by
    obtain ⟨k, rfl, h⟩ := okE_lst h
    obtain ⟨a, vs, rfl, ha, ia⟩ := i
    rw [pd]
    exact .lst (SqL.of (e _ _ ha)) (okE_dpL e h ia)
  | n, .bl _, _, h, _ => by cases n <;> exact h.elim
  | n, .frl _, _, h, _ => by cases n <;> exact h.elim
  | n, .dct _ _, _, h, _ => by cases n <;> exact h.elim
  | n, .ty _, _, h, _ => by cases n <;> exact h.elim
  | n, .adr _, _, h, _ => by cases n <;> exact h.elim
theorem okE_dpL (e : Same B H) : ∀ {n : Nat} {xs : List Dt} {vs : List V}, (∀ x ∈ xs, okE n x) → IsL K B xs vs → DpAll K H vs (pdL xs)
  | n, [], vs, _, i => by
    have i : vs = [] := i
    subst i
    rw [pdL]
    exact .nil
  | n, x :: xs, vs, h, i => by
    obtain ⟨v, r, rfl, i1, i2⟩ := i
    rw [pdL]
    exact .cons (okE_dp e (h x List.mem_cons_self) i1) (okE_dpL e (fun y hy => h y (List.mem_cons_of_mem _ hy)) i2)
end
end
theorem OkE.dp {K : PySem.W.Frag} {B H : Hp} {d : Dt} {v : V} (h : OkE d) (e : Same B H) (i : Is K B d v) : Dp K H v (pd d) := by
  obtain ⟨n, _, h⟩ := h
  exact okE_dp e h i
mutual
theorem eqv_iff : ∀ {n m : Nat} {d e : Dt}, okE n d → okE m e → (PyData.eqv (pd d) (pd e) = true ↔ d = e)
  | n, m, d, .bl _, _, h => by cases m <;> exact h.elim
  | n, m, d, .frl _, _, h => by cases m <;> exact h.elim
  | n, m, d, .dct _ _, _, h => by cases m <;> exact h.elim
  | n, m, d, .ty _, _, h => by cases m <;> exact h.elim
  | n, m, d, .adr _, _, h => by cases m <;> exact h.elim
  | n, _, .bl _, _, h, _ => by cases n <;> exact h.elim
  | n, _, .frl _, _, h, _ => by cases n <;> exact h.elim
  | n, _, .dct _ _, _, h, _ => by cases n <;> exact h.elim
  | n, _, .ty _, _, h, _ => by cases n <;> exact h.elim
  | n, _, .adr _, _, h, _ => by cases n <;> exact h.elim
  | _, _, .non, .non, _, _ => by simp [pd, PyData.eqv]
  | _, _, .non, .int _, _, _ => by simp [pd, PyData.eqv]
  | _, _, .non, .str _, _, _ => by simp [pd, PyData.eqv]
  | _, _, .non, .tup _, _, _ => by simp [pd, PyData.eqv]
  | _, _, .non, .lst _, _, _ => by simp [pd, PyData.eqv]
  | _, _, .int _, .non, _, _ => by simp [pd, PyData.eqv]
  | _, _, .int _, .int _, _, _ => by simp [pd, PyData.eqv]
  | _, _, .int _, .str _, _, _ => by simp [pd, PyData.eqv]
  | _, _, .int _, .tup _, _, _ => by simp [pd, PyData.eqv]
  | _, _, .int _, .lst _, _, _ => by simp [pd, PyData.eqv]
  | _, _, .str _, .non, _, _ => by simp [pd, PyData.eqv]
  | _, _, .str _, .int _, _, _ => by simp [pd, PyData.eqv]
  | _, _, .str a, .str b, _, _ => by simp [pd, PyData.eqv]
  | _, _, .str _, .tup _, _, _ => by simp [pd, PyData.eqv]
  | _, _, .str _, .lst _, _, _ => by simp [pd, PyData.eqv]
  | _, _, .tup _, .non, _, _ => by simp [pd, PyData.eqv]
  | _, _, .tup _, .int _, _, _ => by simp [pd, PyData.eqv]
  | _, _, .tup _, .str _, _, _ => by simp [pd, PyData.eqv]
  | n, m, .tup a, .tup b, h, h' => by
    obtain ⟨k, rfl, h⟩ := okE_tup h
    obtain ⟨j, rfl, h'⟩ := okE_tup h'
    rw [pd, pd, PyData.eqv, eqvL_iff h h']
    simp
  | _, _, .tup _, .lst _, _, _ => by simp [pd, PyData.eqv]
  | _, _, .lst _, .non, _, _ => by simp [pd, PyData.eqv]
  | _, _, .lst _, .int _, _, _ => by simp [pd, PyData.eqv]
  | _, _, .lst _, .str _, _, _ => by simp [pd, PyData.eqv]
  | _, _, .lst _, .tup _, _, _ => by simp [pd, PyData.eqv]
  | n, m, .lst a, .lst b, h, h' => by
    obtain ⟨k, rfl, h⟩ := okE_lst h
    obtain ⟨j, rfl, h'⟩ := okE_lst h'
    rw [pd, pd, PyData.eqv, eqvL_iff h h']
    simp
theorem eqvL_iff : ∀ {n m : Nat} {xs ys : List Dt}, (∀ x ∈ xs, okE n x) → (∀ x ∈ ys, okE m x) → (PyData.eqvAll (pdL xs) (pdL ys) = true ↔ xs = ys)
  | _, _, [], [], _, _ => by simp [pdL, PyData.eqvAll]
  | _, _, [], _ :: _, _, _ => by simp [pdL, PyData.eqvAll]
  | _, _, _ :: _, [], _, _ => by simp [pdL, PyData.eqvAll]
  | n, m, x :: xs, y :: ys, h, h' => by
    rw [pdL, pdL, PyData.eqvAll, Bool.and_eq_true, eqv_iff (h x List.mem_cons_self) (h' y List.mem_cons_self), eqvL_iff (fun z hz => h z (List.mem_cons_of_mem _ hz)) (fun z hz => h' z (List.mem_cons_of_mem _ hz))]
    simp
end
theorem OkE.eqv {d e : Dt} (h : OkE d) (h' : OkE e) : PyData.eqv (pd d) (pd e) = true ↔ d = e := by
  obtain ⟨_, _, h⟩ := h
  obtain ⟨_, _, h'⟩ := h'
  exact eqv_iff h h'
def eqDK (g : Bool → Bool) : K2 := fun x y L P => OkE x ∧ OkE y ∧ ∀ b, (b = true ↔ x = y) → P (.bl (g b)) L
section
variable {X : Cx} {K : PySem.W.Frag} {a b : Expr} {ds : DS} {L : MS} {P : DK} {PB : Bool → MS → Prop} {pos : Pos} {k : Nat}
theorem kr_eqD : KR2 K (rEqD K) (eqDK id) := by
  intro B H L x y v u Q P hl ix iy hk q
  obtain ⟨h1, h2, p⟩ := hk
  exact ⟨_, _, h1.dp hl.sub ix, h2.dp hl.sub iy, h1.shaped, h2.shaped, Fin.here q hl (p _ (h1.eqv h2)) rfl⟩
theorem kr_neD : KR2 K (rNeD K) (eqDK not) := by
  intro B H L x y v u Q P hl ix iy hk q
  obtain ⟨h1, h2, p⟩ := hk
  exact ⟨_, _, h1.dp hl.sub ix, h2.dp hl.sub iy, h1.shaped, h2.shaped, Fin.here q hl (p _ (h1.eqv h2)) rfl⟩
theorem dt_eqD (hr : Room k X.A) (h : DP X a ds L fun x L1 => DP X b ds L1 fun y L2 => eqDK id x y L2 fun d L3 => ∃ c, d = .bl c ∧ PB c L3) : DT X (.Compare a [.Eq] [b] pos) ds L PB := dt_cmp (op_eqD hr.units) kr_eqD h
theorem dt_neD (hr : Room k X.A) (h : DP X a ds L fun x L1 => DP X b ds L1 fun y L2 => eqDK not x y L2 fun d L3 => ∃ c, d = .bl c ∧ PB c L3) : DT X (.Compare a [.NotEq] [b] pos) ds L PB := dt_cmp (op_neD hr.units) kr_neD h
theorem dp_eqD (hr : Room k X.A) (h : DP X a ds L fun x L1 => DP X b ds L1 fun y L2 => eqDK id x y L2 P) : DP X (.Compare a [.Eq] [b] pos) ds L P := dp_cmp (op_eqD hr.units) kr_eqD h
theorem dp_neD (hr : Room k X.A) (h : DP X a ds L fun x L1 => DP X b ds L1 fun y L2 => eqDK not x y L2 P) : DP X (.Compare a [.NotEq] [b] pos) ds L P := dp_cmp (op_neD hr.units) kr_neD h
end
end Z
namespace Z
open PySem PySem.Spec PyProof.Rows L2
/-! ### the end -/
theorem fun_at {K : PySem.W.Frag} {h : Heap} {mg : Str → Option Value} {x : Str} {st : Stmt} {f : Addr} {oc : Value} {od an : Option Addr} {osl : Array (Option Value)} {kV doc pm cdv ct : Value} (X : K.In h) (G : h.Ns mainGlobals mg)
    (a : PySem.W.nsIn K mainGlobals x = some (some (.ref f))) (l : K.lookup f = some ⟨oc, od, .func (PySem.W.fnOf x x (defArgs st) (defBody st) (defScope st) .none kV doc pm an cdv ct), osl⟩)
    (c : PySem.W.codeIn K cdv x = true) (k : PySem.W.keepIn K (.ref f) = true) : FunAt K mg x st := ⟨f, _, fun_mk l c k, PySem.W.mg_of X G a⟩
theorem const_at {α : Type} {K : PySem.W.Frag} {h : Heap} {mg : Str → Option Value} {x : Str} {v : Value} {g : α → Value} (X : K.In h) (G : h.Ns mainGlobals mg) (a : PySem.W.nsIn K mainGlobals x = some (some v)) (e : ∃ t, v = g t) : ∃ t, mg x = some (g t) := by
  obtain ⟨t, rfl⟩ := e
  exact ⟨t, PySem.W.mg_of X G a⟩
def clsS (st : Stmt) (i : Nat) : Stmt := match st with
  | .ClassDef _ _ _ b .. => b.getD i (.Pass ⟨0, 0, 0, 0⟩)
  | _ => .Pass ⟨0, 0, 0, 0⟩
def R_law : Rel := fun ds L P => ∃ ns : List Int, ds = [.frl (ns.map .int)] ∧ ns.length ≤ 63 ∧ ∀ L', P (.bl true) L'
def law_sp (K : PySem.W.Frag) : Sp := spP K R_law
theorem law_end {Pr : Program} {w : World} {K : PySem.W.Frag} {mg : Str → Option Value} {k : Nat} {fa : Addr} {x y : Str} {st : Stmt} (hfa : mg x = some (.ref fa)) (F : FunAt K mg x st) (C : ∀ base : Heap, K.In base → base.Ns mainGlobals mg → Cal Pr w K mg base x k [y] R_law)
    (hb : ∀ (kV doc pm : Value) (an : Option Addr) (cdv ct : Value) (v : Value), bindArgs (PySem.W.fnOf x x (defArgs st) (defBody st) (defScope st) .none kV doc pm an cdv ct) ⟨[v], []⟩ = pure [(y, v)]) :
    ∃ fd : FuncData, (∀ (s : Shared) (v : Value), BindsTo s fd ⟨[v], []⟩ [(y, v)]) ∧ ∀ base : Heap, K.In base → base.Ns mainGlobals mg → FnOk Pr w K mg base CX0 k fa fd [y] (law_sp K) := by
  obtain ⟨f, fd, F, hm⟩ := F.ex
  have e : f = fa := by
    have := hm.symm.trans hfa
    cases this
    rfl
  subst e
  refine ⟨fd, fun s v => ?_, fun base X G => ?_⟩
  · obtain ⟨oc, od, kV, doc, pm, an, cdv, ct, osl, rfl, _, _⟩ := F.ex
    exact .of_eq (hb kV doc pm an cdv ct v)
  · obtain ⟨f', fd', h1, h2, _, _, oc, od, osl, h5⟩ := (C base X G).ex
    have e : f' = f := by
      have := h2.symm.trans hm
      cases this
      rfl
    subst e
    obtain ⟨oc', od', osl', h6⟩ := F.look
    have e : fd' = fd := by
      have := h5.symm.trans h6
      cases this
      rfl
    subst e
    exact h1
theorem law_start {K : PySem.W.Frag} {H : Hp} {a : Addr} {ns : List Int} (hl : ns.length ≤ 63) (hS : SqL K H a (ns.map V.int)) : law_sp K [.ref a] H (fun v _ => v = .bl true) fun _ _ _ => False := by
  refine ⟨H, [.frl (ns.map .int)], [], fun d _ => d = .bl true, ⟨_, _, rfl, ⟨a, _, rfl, hS, .of_ints⟩, rfl⟩, ⟨Same.refl _, fun _ _ h => by simp at h, by simp⟩, ⟨ns, rfl, hl, fun _ => rfl⟩, ?_⟩
  intro d L' v B' H' p e hl' i
  subst p
  exact i
end Z
namespace G
open PySem PySem.Spec PyProof.Rows L2 Z
def topS (i : Nat) : Stmt := PySem.Challenge.pw_trayring_k31_whole_written_and_read.main.body.getD i (.Pass ⟨0, 0, 0, 0⟩)
abbrev s_TrayError : Stmt := topS 1
abbrev s_BadTray : Stmt := topS 2
abbrev s_BadTray____init__ : Stmt := clsS s_BadTray 0
abbrev s_need_tray : Stmt := topS 7
abbrev s_written : Stmt := topS 9
abbrev s_read : Stmt := topS 10
abbrev s__law_dice : Stmt := topS 12
abbrev s__law_next : Stmt := topS 13
abbrev s__law_like : Stmt := topS 14
abbrev s__law_tray : Stmt := topS 15
abbrev s_law : Stmt := topS 16
/-! dice -/
def dice (ns : List Int) (p x r : Int) : MO := .lst [.frl (ns.map .int), .int p, .int x, .int r]
theorem sc_dice : FnScope ["_law_script", "_law_mixed", "_law_cell"] ["_law_script"] (defScope s__law_dice) := ⟨rfl, rfl, rfl, by decide +kernel, rfl, by decide +kernel, by decide +kernel⟩
def R_dice : Rel := fun ds L P => ∃ ns : List Int, ds = [.frl (ns.map .int)] ∧ ∀ a x, P (.adr a) ((a, dice ns 0 x 0) :: L)
section
variable {Pr : Program} {w : World} {K : PySem.W.Frag} {mg : Str → Option Value} {base : Heap}
theorem c_dice (F : FunAt K mg "_law_dice" s__law_dice) (n_len : mg "len" = none) (n_int : mg "int" = none) : Cal Pr w K mg base "_law_dice" 1 ["_law_script"] R_dice := by
  refine cal_of F sc_dice (fun _ _ _ h => by obtain ⟨_, rfl, _⟩ := h; rfl) (fun _ _ _ _ _ _ us hl => match us, hl with | [_], _ => rfl) fun f cdv A outer s H E hr ds L P h => ?_
  obtain ⟨ns, rfl, h⟩ := h
  have nd := sc_dice.nd
  show DSs _ _ [some (.frl (ns.map .int)), none, none] L _
  refine dss_cons (ds_set (i := 1) (fun _ => s1) (dp_int ?_) nd)
  refine dss_cons (ds_for (di_list (dp_var g0 ⟨fun i ds' L' => L' = L ∧ ∃ m : Int, ds' = [some (.frl (ns.map .int)), some (.int m), none], ⟨_, Fg.refl _, rfl, 0, rfl⟩, fun i d ds' L' hx hW => ?_, fun ds' L' hW => ?_⟩)) .never)
  · obtain ⟨rfl, m, rfl⟩ := hW
    rw [List.getElem?_map] at hx
    obtain ⟨n, _, rfl⟩ := Option.map_eq_some_iff.mp hx
    refine dg_name s2 ?_ nd
    refine dss_one (ds_set (i := 1) (fun _ => s1) ?_ nd)
    refine dp_mod <| dp_add <| dp_add <| dp_mul <| dp_var g1 <| dp_int ⟨.inl (.inr (by decide)), ?_⟩
    refine dp_mul <| dp_mod <| dp_var g2 <| dp_int ⟨by decide, ?_⟩
    refine dp_int ⟨.inl (.inr (by decide)), ?_⟩
    refine dp_int <| dp_int ⟨by decide, ?_⟩
    exact ⟨_, .keep (.keep (.drop .nil)), rfl, _, rfl⟩
  · obtain ⟨rfl, m, rfl⟩ := hW
    refine dss_one (ds_ret ?_)
    refine dp_lstM <| da_cons <| dp_var g0 <| da_cons <| dp_int <| da_cons ?_
    refine dp_mul <| dp_var g1 <| dp_intc n_int <| dp_gt <| dp_len n_len <| dp_var g0 <| dp_int ?_
    refine ⟨.inl (.inr ?_), ?_⟩
    · split <;> decide
    · exact da_cons <| dp_int <| da_nil ⟨szOk, fun a => h a _⟩
end
/-! next -/
def Dice (m : MO) : Prop := ∃ ns p x r, 0 ≤ p ∧ m = dice ns p x r
theorem sc_next : FnScope ["_law_dice_here", "_law_many", "_law_found", "_law_cell"] ["_law_dice_here", "_law_many"] (defScope s__law_next) := ⟨rfl, rfl, rfl, by decide +kernel, rfl, by decide +kernel, by decide +kernel⟩
def R_next : Rel := fun ds L P => ∃ a n f m0, ds = [.adr a, .int n] ∧ Spot a f ∧ L = f m0 ∧ Dice m0 ∧ 0 < n ∧ n.natAbs.log2 < 9000 ∧ ∀ v m1, 0 ≤ v → v < n → Dice m1 → P (.int v) (f m1)
section
variable {Pr : Program} {w : World} {K : PySem.W.Frag} {mg : Str → Option Value} {base : Heap}
theorem c_next (F : FunAt K mg "_law_next" s__law_next) (n_len : mg "len" = none) : Cal Pr w K mg base "_law_next" 1 ["_law_dice_here", "_law_many"] R_next := by
  refine cal_of F sc_next (fun _ _ _ h => by obtain ⟨_, _, _, _, rfl, _⟩ := h; rfl) (fun _ _ _ _ _ _ us hl => match us, hl with | [_, _], _ => rfl) fun f cdv A outer s H E hr ds L P h => ?_
  obtain ⟨a, n, f, _, rfl, hf, rfl, ⟨ns, p, x, r, hp, rfl⟩, h0, hn, h⟩ := h
  have nd := sc_next.nd
  show DSs _ _ [some (.adr a), some (.int n), none, none] _ _
  refine dss_cons (ds_if (dt_gt (dp_ix <| dp_var g0 <| dp_int ⟨_, hf.ml _, _, rfl, dp_int ⟨_, rfl, fun hc => ?_, fun hc => ?_⟩⟩)))
  · have hr0 : 0 < r := of_decide_eq_true hc
    refine dss_cons (ds_set (i := 2) (fun _ => s2) (dp_mod <| dp_ix <| dp_var g0 <| dp_int ⟨_, hf.ml _, _, rfl, dp_var g1 ⟨h0, ?_⟩⟩) nd)
    refine dss_cons (ds_asg (dp_fdiv <| dp_ix <| dp_var g0 <| dp_int ⟨_, hf.ml _, _, rfl, dp_var g1 ⟨⟨h0, hn⟩, dg_item <| dp_var g0 <| dp_int ⟨_, hf.ml _, _, rfl, _, hf.st _ _, ?_⟩⟩⟩))
    refine dss_one (ds_ret <| dp_var g2 ?_)
    exact h _ _ (Int.emod_nonneg _ (by omega)) (Int.emod_lt_of_pos _ h0) ⟨ns, p, x, _, hp, rfl⟩
  · refine dss_nil ?_
    refine dss_cons (ds_asg (dp_add <| dp_ix <| dp_var g0 <| dp_int ⟨_, hf.ml _, _, rfl, dp_int <| dg_item <| dp_var g0 <| dp_int ⟨_, hf.ml _, _, rfl, _, hf.st _ _, ?_⟩⟩))
    refine dss_cons (ds_if (dt_le (dp_ix <| dp_var g0 <| dp_int ⟨_, hf.ml _, _, rfl, dp_len n_len <| dp_ix <| dp_var g0 <| dp_int ⟨_, hf.ml _, _, rfl, _, rfl, fun hc => ?_, fun hc => ?_⟩⟩)))
    · have hc : p + 1 ≤ ((ns.map Dt.int).length : Int) := of_decide_eq_true hc
      rw [List.length_map] at hc
      have hj : p.toNat < ns.length := by omega
      have hat : atI (ns.map Dt.int) (p + 1 - 1) = some (.int ns[p.toNat]) := by
        have e : p + 1 - 1 = ((p.toNat : Nat) : Int) := by omega
        rw [e]
        refine atI_nat ?_
        rw [List.getElem?_map, List.getElem?_eq_getElem hj]
        rfl
      refine dss_cons (ds_set (i := 3) (fun _ => s3) (dp_ix <| dp_ix <| dp_var g0 <| dp_int ⟨_, hf.ml _, _, rfl, dp_sub <| dp_ix <| dp_var g0 <| dp_int ⟨_, hf.ml _, _, rfl, dp_int ⟨_, hat, ?_⟩⟩⟩) nd)
      refine dss_cons (ds_asg (dp_if <| dt_ge <| dp_var g3 <| dp_pow <| dp_int <| dp_int ⟨⟨by decide, by decide, by decide⟩, _, rfl, fun _ => ?_, fun _ => ?_⟩))
      · refine dp_fdiv <| dp_var g3 <| dp_var g1 ⟨⟨h0, hn⟩, dg_item <| dp_var g0 <| dp_int ⟨_, hf.ml _, _, rfl, _, hf.st _ _, ?_⟩⟩
        refine dss_one (ds_ret <| dp_mod <| dp_var g3 <| dp_var g1 ⟨h0, ?_⟩)
        exact h _ _ (Int.emod_nonneg _ (by omega)) (Int.emod_lt_of_pos _ h0) ⟨ns, p + 1, x, _, by omega, rfl⟩
      · refine dp_int <| dg_item <| dp_var g0 <| dp_int ⟨_, hf.ml _, _, rfl, _, hf.st _ _, ?_⟩
        refine dss_one (ds_ret <| dp_mod <| dp_var g3 <| dp_var g1 ⟨h0, ?_⟩)
        exact h _ _ (Int.emod_nonneg _ (by omega)) (Int.emod_lt_of_pos _ h0) ⟨ns, p + 1, x, _, by omega, rfl⟩
    · refine dss_nil ?_
      refine dss_cons (ds_asg (dp_mod <| dp_mul <| dp_ix <| dp_var g0 <| dp_int ⟨_, hf.ml _, _, rfl, dp_int ⟨.inl (.inr (by decide)), dp_int ⟨by decide, dg_item <| dp_var g0 <| dp_int ⟨_, hf.ml _, _, rfl, _, hf.st _ _, ?_⟩⟩⟩⟩))
      refine dss_one (ds_ret <| dp_mod <| dp_fdiv <| dp_ix <| dp_var g0 <| dp_int ⟨_, hf.ml _, _, rfl, dp_int ⟨⟨by decide, by decide⟩, dp_var g1 ⟨h0, ?_⟩⟩⟩)
      exact h _ _ (Int.emod_nonneg _ (by omega)) (Int.emod_lt_of_pos _ h0) ⟨ns, p + 1, _, _, by omega, rfl⟩
end
/-! trays -/
def Sg (c : Nat) : Prop := c = 46 ∨ (97 ≤ c ∧ c ≤ 122)
structure Tray (s : Nat) (rows : List (List Nat)) : Prop where
  lo : 1 ≤ rows.length
  hi : rows.length ≤ s
  wd : ∃ w, 1 ≤ w ∧ w ≤ s ∧ ∀ r ∈ rows, r.length = w
  sg : ∀ r ∈ rows, ∀ c ∈ r, Sg c
abbrev trayD (rows : List (List Nat)) : Dt := .tup (rows.map .str)
def letters : List Nat := [97, 98, 99, 100, 101, 102, 103, 104, 105, 106, 107, 108, 109, 110, 111, 112, 113, 114, 115, 116, 117, 118, 119, 120, 121, 122]
theorem letters_eq : (Str.ofString "abcdefghijklmnopqrstuvwxyz").cps.toList = letters := by decide +kernel
theorem letters_ok : ∀ c ∈ letters, 97 ≤ c ∧ c ≤ 122 := by decide
theorem dot_eq : (Str.ofString ".").cps.toList = [46] := by decide +kernel
theorem Tray.mono {s t : Nat} {rows : List (List Nat)} (h : Tray s rows) (hs : s ≤ t) : Tray t rows := ⟨h.lo, Nat.le_trans h.hi hs, by
  obtain ⟨w, h1, h2, h3⟩ := h.wd
  exact ⟨w, h1, by omega, h3⟩, h.sg⟩
theorem Sg.mem {c : Nat} (h : Sg c) (hd : c ≠ 46) : c ∈ letters := by
  have h : 97 ≤ c ∧ c ≤ 122 := by
    rcases h with h | h
    · exact absurd h hd
    · exact h
  have e : ∀ d : Nat, d < 26 → 97 + d ∈ letters := by decide
  have := e (c - 97) (by omega)
  have e2 : 97 + (c - 97) = c := by omega
  rwa [e2] at this
theorem sc_tray : FnScope ["_law_d", "_law_size", "_law_height", "_law_width", "_law_marks", "_law_dense", "_law_found", "_law_row", "_law_text", "_law_k", "_law_mark"] ["_law_d", "_law_size"] (defScope s__law_tray) := ⟨rfl, rfl, rfl, by decide +kernel, rfl, by decide +kernel, by decide +kernel⟩
def R_tray : Rel := fun ds L P => ∃ a n f m0, ds = [.adr a, .int (n : Nat)] ∧ Spot a f ∧ L = f m0 ∧ Dice m0 ∧ 1 ≤ n ∧ n ≤ 12 ∧ ∀ rows m1, Tray n rows → Dice m1 → P (trayD rows) (f m1)
theorem pick4 {v : Int} (h0 : 0 ≤ v) (h1 : v < 4) : ∃ k : Nat, 1 ≤ k ∧ k ≤ 26 ∧ atI [Dt.int 1, .int 2, .int 4, .int 26] v = some (.int k) := by
  have h : v = 0 ∨ v = 1 ∨ v = 2 ∨ v = 3 := by omega
  rcases h with rfl | rfl | rfl | rfl
  · exact ⟨1, by decide, by decide, rfl⟩
  · exact ⟨2, by decide, by decide, rfl⟩
  · exact ⟨4, by decide, by decide, rfl⟩
  · exact ⟨26, by decide, by decide, rfl⟩
theorem at_in {α : Type} {xs : List α} {v : Int} (h0 : 0 ≤ v) (h1 : v < (xs.length : Int)) : ∃ x, x ∈ xs ∧ atI xs v = some x := by
  have hj : v.toNat < xs.length := by omega
  refine ⟨xs[v.toNat], List.getElem_mem hj, ?_⟩
  have e : v = ((v.toNat : Nat) : Int) := by omega
  have q := atI_nat (List.getElem?_eq_getElem hj)
  rw [← e] at q
  exact q
section
variable {Pr : Program} {w : World} {K : PySem.W.Frag} {mg : Str → Option Value} {base : Heap}
theorem c_tray (F : FunAt K mg "_law_tray" s__law_tray) (C__law_next : Cal Pr w K mg base "_law_next" 1 ["_law_dice_here", "_law_many"] R_next) (n_len : mg "len" = none) (n_range : mg "range" = none) (n_tuple : mg "tuple" = none) : Cal Pr w K mg base "_law_tray" 2 ["_law_d", "_law_size"] R_tray := by
  refine cal_of F sc_tray (fun _ _ _ h => by obtain ⟨_, _, _, _, rfl, _⟩ := h; rfl) (fun _ _ _ _ _ _ us hl => match us, hl with | [_, _], _ => rfl) fun fa cdv A outer s H E hr ds L P h => ?_
  obtain ⟨a, n, f, m0, rfl, hf, rfl, hd0, hn1, hn2, h⟩ := h
  have nd := sc_tray.nd
  show DSs _ _ [some (.adr a), some (.int n), none, none, none, none, none, none, none, none, none] _ _
  -- height, width
  refine dss_cons (ds_par (i := 2) (j := 3) (ds' := fun d d' => [some (.adr a), some (.int n), some d, some d', none, none, none, none, none, none, none]) (fun _ _ => rfl) ?_ nd (by decide))
  refine da_cons <| dp_add <| dp_int <| dp_call C__law_next hr (by decide) <| da_cons <| dp_var g0 <| da_cons <| dp_var g1 <| da_nil ⟨a, n, f, m0, rfl, hf, rfl, hd0, by omega, ?_, fun v1 m1 h10 h11 hd1 => ?_⟩
  · exact Nat.lt_of_le_of_lt (Nat.log2_le_self _) (by omega)
  refine da_cons <| dp_add <| dp_int <| dp_call C__law_next hr (by decide) <| da_cons <| dp_var g0 <| da_cons <| dp_var g1 <| da_nil ⟨a, n, f, m1, rfl, hf, rfl, hd1, by omega, ?_, fun v2 m2 h20 h21 hd2 => da_nil ⟨_, _, rfl, ?_⟩⟩
  · exact Nat.lt_of_le_of_lt (Nat.log2_le_self _) (by omega)
  -- marks, dense, found
  refine dss_cons (ds_par3 (i := 4) (j := 5) (l := 6) (ds' := fun d d' d'' => [some (.adr a), some (.int n), some (.int (1 + v1)), some (.int (1 + v2)), some d, some d', some d'', none, none, none, none]) (fun _ _ _ => rfl) ?_ nd (by decide) (by decide) (by decide))
  refine da_cons <| dp_slice <| dp_txt letters_eq ?_
  refine dp_ix <| dp_lst <| da_cons <| dp_int <| da_cons <| dp_int <| da_cons <| dp_int <| da_cons <| dp_int <| da_nil ⟨szOk, ?_⟩
  refine dp_call C__law_next hr (by decide) <| da_cons <| dp_var g0 <| da_cons <| dp_int <| da_nil ⟨a, 4, f, m2, rfl, hf, rfl, hd2, by decide, by decide, fun v3 m3 h30 h31 hd3 => ?_⟩
  obtain ⟨k, hk1, hk2, hk⟩ := pick4 h30 h31
  refine ⟨_, hk, _, rfl, szOk, ?_⟩
  rw [cutL_to]
  have hmk : ∀ c ∈ letters.take k, 97 ≤ c ∧ c ≤ 122 := fun c hc => letters_ok c (List.mem_of_mem_take hc)
  have hml : (letters.take k).length = k := by
    rw [List.length_take]
    show min k 26 = k
    omega
  generalize letters.take k = marks at hmk hml ⊢
  refine da_cons <| dp_add <| dp_int <| dp_call C__law_next hr (by decide) <| da_cons <| dp_var g0 <| da_cons <| dp_int <| da_nil ⟨a, 4, f, m3, rfl, hf, rfl, hd3, by decide, by decide, fun v4 m4 h40 h41 hd4 => ?_⟩
  refine da_cons <| dp_lstM <| da_nil ⟨szOk, fun q => da_nil ⟨_, _, _, rfl, ?_⟩⟩
  -- the rows
  refine dss_cons (ds_for (di_range1 n_range <| dp_var g2 ⟨_, rfl, by omega, by omega, fun i ds' L' => ∃ rows m5, L' = (q, .lst (rows.map .str)) :: f m5 ∧ Dice m5 ∧ rows.length = i ∧ (∀ r ∈ rows, (r.length : Int) = 1 + v2 ∧ ∀ c ∈ r, Sg c) ∧
    ds' = [some (.adr a), some (.int n), some (.int (1 + v1)), some (.int (1 + v2)), some (.str marks), some (.int (1 + v4)), some (.adr q), none, none, none, none], ⟨_, Fg.refl _, [], m4, rfl, hd4, rfl, by simp, rfl⟩, fun i d ds' L' hx hW => ?_, fun ds' L' hW => ?_⟩) .never)
  · obtain ⟨rows, m5, rfl, hd5, hrl, hrs, rfl⟩ := hW
    obtain ⟨hi, rfl⟩ := rng_get hx
    refine dg_name s7 ?_ nd
    refine dss_cons (ds_set (i := 8) (fun _ => s8) (dp_txt (l := []) (by decide +kernel) ?_) nd)
    refine dss_cons (ds_for (di_range1 n_range <| dp_var g3 ⟨_, rfl, by omega, by omega, fun j ds' L' => ∃ t m6, L' = (q, .lst (rows.map .str)) :: f m6 ∧ Dice m6 ∧ t.length = j ∧ (∀ c ∈ t, Sg c) ∧
      ds' = [some (.adr a), some (.int n), some (.int (1 + v1)), some (.int (1 + v2)), some (.str marks), some (.int (1 + v4)), some (.adr q), none, some (.str t), none, none], ⟨_, .keep <| .keep <| .keep <| .keep <| .keep <| .keep <| .keep <| .drop <| .keep <| .drop <| .drop .nil, [], m5, rfl, hd5, rfl, by simp, rfl⟩, fun j d ds' L' hx hW => ?_, fun ds' L' hW => ?_⟩) .never)
    · obtain ⟨t, m6, rfl, hd6, htl, hts, rfl⟩ := hW
      obtain ⟨hj, rfl⟩ := rng_get hx
      refine dg_name s9 ?_ nd
      refine dss_cons (ds_set (i := 10) (fun _ => s10) ?_ nd)
      refine dp_ix <| dp_var g4 <| dp_call C__law_next hr (by decide) <| da_cons <| dp_var g0 <| da_cons <| dp_len n_len <| dp_var g4 ⟨Nat.le_trans (show marks.length ≤ 26 by omega) szOk, da_nil ⟨a, marks.length, fun m => (q, .lst (rows.map .str)) :: f m, m6, rfl, .tl hf, rfl, hd6, by omega, ?_, fun v5 m7 h50 h51 hd7 => ?_⟩⟩
      · exact Nat.lt_of_le_of_lt (Nat.log2_le_self _) (by omega)
      obtain ⟨c, hc, hat⟩ := at_in h50 h51
      refine ⟨Nat.le_trans (show marks.length ≤ 26 by omega) szOk, c, hat, ?_⟩
      refine dss_one (ds_set (i := 8) (fun _ => s8) ?_ nd)
      refine dp_add <| dp_var g8 <| dp_if <| dt_lt <| dp_call C__law_next hr (by decide) <| da_cons <| dp_var g0 <| da_cons <| dp_int <| da_nil ⟨a, 5, fun m => (q, .lst (rows.map .str)) :: f m, m7, rfl, .tl hf, rfl, hd7, by decide, by decide, fun v6 m8 h60 h61 hd8 => dp_var g5 ⟨_, rfl, fun _ => ?_, fun _ => ?_⟩⟩
      · refine dp_var g10 ⟨Nat.le_trans (show t.length + 1 ≤ 100 by omega) szOk, _, .keep <| .keep <| .keep <| .keep <| .keep <| .keep <| .keep <| .drop <| .keep <| .drop <| .drop .nil, t ++ [c], m8, rfl, hd8, by simp [htl], fun c' hc' => ?_, rfl⟩
        rcases List.mem_append.mp hc' with hc' | hc'
        · exact hts c' hc'
        · obtain rfl := List.mem_singleton.mp hc'
          exact .inr (hmk _ hc)
      · refine dp_txt dot_eq ⟨Nat.le_trans (show t.length + 1 ≤ 100 by omega) szOk, _, .keep <| .keep <| .keep <| .keep <| .keep <| .keep <| .keep <| .drop <| .keep <| .drop <| .drop .nil, t ++ [46], m8, rfl, hd8, by simp [htl], fun c' hc' => ?_, rfl⟩
        rcases List.mem_append.mp hc' with hc' | hc'
        · exact hts c' hc'
        · obtain rfl := List.mem_singleton.mp hc'
          exact .inl rfl
    · obtain ⟨t, m6, rfl, hd6, htl, hts, rfl⟩ := hW
      refine dss_one (ds_expr <| dp_append <| dp_var g6 ⟨.inl ⟨rfl, _, .hd⟩, dp_var g8 ⟨_, .hd, ?_, _, .hd, ?_⟩⟩)
      · rw [List.length_map, sizeLine_eq]
        omega
      · refine ⟨_, .keep <| .keep <| .keep <| .keep <| .keep <| .keep <| .keep <| .drop <| .drop <| .drop <| .drop .nil, rows ++ [t], m6, by simp, hd6, by simp [hrl], fun r hr => ?_, rfl⟩
        rcases List.mem_append.mp hr with hr | hr
        · exact hrs r hr
        · obtain rfl := List.mem_singleton.mp hr
          refine ⟨?_, hts⟩
          rw [rng_len] at htl
          omega
  · obtain ⟨rows, m5, rfl, hd5, hrl, hrs, rfl⟩ := hW
    rw [rng_len] at hrl
    refine dss_one (ds_ret <| dp_tuple n_tuple <| dp_freeze g6 .hd ?_)
    exact h rows m5 ⟨by omega, by omega, ⟨(1 + v2).toNat, by omega, by omega, fun r hr => by have := (hrs r hr).1; omega⟩, fun r hr => (hrs r hr).2⟩ hd5
end
/-! like -/
theorem sc_like : FnScope ["_law_found", "_law_due", "_law_k"] ["_law_found", "_law_due"] (defScope s__law_like) := ⟨rfl, rfl, rfl, by decide +kernel, rfl, by decide +kernel, by decide +kernel⟩
def okL : Nat → Dt → Prop
  | _, .non => True
  | _, .bl _ => True
  | _, .int _ => True
  | _, .str _ => True
  | n + 1, .tup xs => xs.length ≤ 100000 ∧ ∀ x ∈ xs, okL n x
  | n + 1, .lst xs => xs.length ≤ 100000 ∧ ∀ x ∈ xs, okL n x
  | _, _ => False
def R_like (n : Nat) : Rel := fun ds L P => ∃ d, ds = [d, d] ∧ okL n d ∧ P (.bl true) L
def isT (s : String) : Dt → Bool
  | .bl _ => s == "bool" || s == "int"
  | .int _ => s == "int"
  | .str _ => s == "str"
  | .tup _ => s == "tuple"
  | .lst _ => s == "list"
  | _ => false
theorem okL_ty {n : Nat} {d : Dt} (h : okL n d) : ∃ t, tyD d = some t ∧ kitB t "tuple" = some (isT "tuple" d) ∧ kitB t "list" = some (isT "list" d) ∧ kitB t "bool" = some (isT "bool" d) ∧ kitB t "int" = some (isT "int" d) ∧ kitB t "str" = some (isT "str" d) := by
  cases d with
  | non => exact ⟨_, rfl, by kernel_rfl, by kernel_rfl, by kernel_rfl, by kernel_rfl, by kernel_rfl⟩
  | bl b => exact ⟨_, rfl, by kernel_rfl, by kernel_rfl, by kernel_rfl, by kernel_rfl, by kernel_rfl⟩
  | int b => exact ⟨_, rfl, by kernel_rfl, by kernel_rfl, by kernel_rfl, by kernel_rfl, by kernel_rfl⟩
  | str b => exact ⟨_, rfl, by kernel_rfl, by kernel_rfl, by kernel_rfl, by kernel_rfl, by kernel_rfl⟩
  | tup b => exact ⟨_, rfl, by kernel_rfl, by kernel_rfl, by kernel_rfl, by kernel_rfl, by kernel_rfl⟩
  | lst b => exact ⟨_, rfl, by kernel_rfl, by kernel_rfl, by kernel_rfl, by kernel_rfl, by kernel_rfl⟩
  | frl b => cases n <;> exact h.elim
  | dct a b => cases n <;> exact h.elim
  | ty b => cases n <;> exact h.elim
  | adr b => cases n <;> exact h.elim
theorem okL_seq {n : Nat} {d : Dt} (h : okL n d) (hs : (isT "tuple" d || isT "list" d) = true) : ∃ k xs, n = k + 1 ∧ (d = .tup xs ∨ d = .lst xs) ∧ xs.length ≤ 100000 ∧ ∀ x ∈ xs, okL k x := by
  cases d with
  | tup xs => cases n with
    | zero => exact h.elim
    | succ k => exact ⟨k, xs, rfl, .inl rfl, h.1, h.2⟩
  | lst xs => cases n with
    | zero => exact h.elim
    | succ k => exact ⟨k, xs, rfl, .inr rfl, h.1, h.2⟩
  | _ => exact absurd hs (by simp [isT])
theorem lenK_seq {d : Dt} {xs : List Dt} {L : MS} {P : DK} (h : d = .tup xs ∨ d = .lst xs) (p : P (.int xs.length) L) : lenK [d] L P := by rcases h with rfl | rfl <;> exact p
theorem ixK_seq {d x : Dt} {i : Int} {xs : List Dt} {L : MS} {P : DK} (h : d = .tup xs ∨ d = .lst xs) (e : atI xs i = some x) (p : P x L) : ixK d (.int i) L P := by rcases h with rfl | rfl <;> exact ⟨x, e, p⟩
theorem scK_same {n : Nat} {d : Dt} {L : MS} {P : DK} (h : okL n d) (hs : (isT "tuple" d || isT "list" d) = false) (p : P (.bl true) L) : scK id d d L P := by
  cases d with
  | non => exact p
  | bl b => show P (.bl (id (decide (b = b)))) L; rw [decide_eq_true rfl]; exact p
  | int b => show P (.bl (id (decide (b = b)))) L; rw [decide_eq_true rfl]; exact p
  | str b => show P (.bl (id (decide (b = b)))) L; rw [decide_eq_true rfl]; exact p
  | tup b => exact absurd hs (by simp [isT])
  | lst b => exact absurd hs (by simp [isT])
  | frl b => cases n <;> exact h.elim
  | dct a b => cases n <;> exact h.elim
  | ty b => cases n <;> exact h.elim
  | adr b => cases n <;> exact h.elim
theorem ne_self (b : Bool) : (!decide (b = b)) = false := by simp
section
variable {Pr : Program} {w : World} {K : PySem.W.Frag} {mg : Str → Option Value} {base : Heap}
theorem c_like (F : FunAt K mg "_law_like" s__law_like) (n_isinstance : mg "isinstance" = none) (n_tuple : mg "tuple" = none) (n_list : mg "list" = none) (n_bool : mg "bool" = none) (n_int : mg "int" = none) (n_str : mg "str" = none) (n_len : mg "len" = none) (n_range : mg "range" = none) :
    ∀ n, Cal Pr w K mg base "_law_like" (n + 1) ["_law_found", "_law_due"] (R_like n) := by
  have step : ∀ n, (∀ k, n = k + 1 → Cal Pr w K mg base "_law_like" n ["_law_found", "_law_due"] (R_like k)) → Cal Pr w K mg base "_law_like" (n + 1) ["_law_found", "_law_due"] (R_like n) := by
    intro n ih
    refine cal_of F sc_like (fun _ _ _ h => by obtain ⟨_, rfl, _⟩ := h; rfl) (fun _ _ _ _ _ _ us hl => match us, hl with | [_, _], _ => rfl) fun fa cdv A outer s H E hr ds L P h => ?_
    obtain ⟨d, rfl, hd, h⟩ := h
    have nd := sc_like.nd
    obtain ⟨t, ht, k1, k2, k3, k4, k5⟩ := okL_ty hd
    have bt : bootBuiltins "tuple" = some (.type "tuple") := by decide +kernel
    have bl : bootBuiltins "list" = some (.type "list") := by decide +kernel
    have bb : bootBuiltins "bool" = some (.type "bool") := by decide +kernel
    have bi : bootBuiltins "int" = some (.type "int") := by decide +kernel
    have bs : bootBuiltins "str" = some (.type "str") := by decide +kernel
    show DSs _ _ [some d, some d, none] L _
    have scal : (isT "tuple" d || isT "list" d) = false → DSs (fX Pr w K mg base ["_law_found", "_law_due", "_law_k"] "_law_like" (defScope s__law_like) fa cdv A outer s H E) ((defBody s__law_like).drop 1) [some d, some d, none] L ⟨fun _ L' => P .non L', P, fun _ _ => False, fun _ _ => False⟩ := by
      intro hs
      refine dss_cons (ds_if (dt_ne <| dp_isi n_isinstance n_bool bb <| dp_var g0 ⟨t, _, ht, k3, dp_isi n_isinstance n_bool bb <| dp_var g1 ⟨t, _, ht, k3, _, rfl, fun hc => ?_, fun _ => dss_nil ?_⟩⟩))
      · simp at hc
      refine dss_cons (ds_if (dt_bool <| dtw_or <| dt_ne <| dp_isi n_isinstance n_int bi <| dp_var g0 ⟨t, _, ht, k4, dp_isi n_isinstance n_int bi <| dp_var g1 ⟨t, _, ht, k4, _, rfl, fun hc => ?_, fun _ => dtw_or1 <| dt_ne <| dp_isi n_isinstance n_str bs <| dp_var g0 ⟨t, _, ht, k5, dp_isi n_isinstance n_str bs <| dp_var g1 ⟨t, _, ht, k5, _, rfl, fun hc => ?_, fun _ => dss_nil ?_⟩⟩⟩⟩))
      · simp at hc
      · simp at hc
      exact dss_one (ds_ret <| dp_eq <| dp_var g0 <| dp_var g1 <| scK_same hd hs h)
    have seq : (isT "tuple" d || isT "list" d) = true → True := fun _ => trivial
    refine dss_cons (ds_if (dt_bool <| dtw_or <| dt_val <| dp_isi n_isinstance n_tuple bt <| dp_var g1 ⟨t, _, ht, k1, _, rfl, fun hc => twoT ?_, fun hc => dtw_or1 <| dt_val <| dp_isi n_isinstance n_list bl <| dp_var g1 ⟨t, _, ht, k2, _, rfl, fun hc2 => ?_, fun hc2 => dss_nil <| scal (by rw [hc, hc2]; rfl)⟩⟩))
    all_goals
      obtain ⟨k, xs, rfl, hx, hz, hall⟩ := okL_seq hd (by first | rw [hc]; rfl | rw [hc, hc2]; rfl)
      refine dss_cons (ds_if (dt_ne <| dp_isi n_isinstance n_tuple bt <| dp_var g0 ⟨t, _, ht, k1, dp_isi n_isinstance n_tuple bt <| dp_var g1 ⟨t, _, ht, k1, _, rfl, fun hc => ?_, fun _ => dss_nil ?_⟩⟩))
      · simp at hc
      refine dss_cons (ds_if (dt_bool <| dtw_or <| dt_ne <| dp_isi n_isinstance n_list bl <| dp_var g0 ⟨t, _, ht, k2, dp_isi n_isinstance n_list bl <| dp_var g1 ⟨t, _, ht, k2, _, rfl, fun hc => ?_, fun _ => dtw_or1 <| dt_ne <| dp_len n_len <| dp_var g0 <| lenK_seq hx <| dp_len n_len <| dp_var g1 <| lenK_seq hx ⟨_, rfl, fun hc => ?_, fun _ => dss_nil ?_⟩⟩⟩))
      · simp at hc
      · simp at hc
      refine dss_one (ds_ret <| dp_eqD hr <| dp_lc [("_law_k", 2)] (blkOk_by (by kernel_rfl)) nd (fun _ _ _ _ _ => pg_name nd rfl (Or.inl rfl)) <| DLc.pure <| di_range1 n_range <| dp_len n_len <| dp_var g1 <| lenK_seq hx ⟨_, rfl, by omega, by omega, fun _ => false, id, by rw [rng_len]; omega, fun i T hi s H C cl fp => ⟨_, s2, dts_one <| dt_not <| dt_val ?_⟩, ?_⟩)
      · obtain ⟨j, hj⟩ := List.getElem?_of_mem hi
        obtain ⟨hj, rfl⟩ := rng_get hj
        have hj : j < xs.length := by omega
        have hat : atI xs (0 + (j : Nat)) = some xs[j] := by
          rw [Int.zero_add]
          exact atI_nat (List.getElem?_eq_getElem hj)
        refine dp_call (ih k rfl) hr (Nat.le_refl _) <| da_cons <| dp_ix <| dp_var g0 <| dp_var g2 <| ixK_seq hx hat <| da_cons <| dp_ix <| dp_var g1 <| dp_var g2 <| ixK_seq hx hat <| da_nil ⟨_, rfl, hall _ (List.getElem_mem hj), _, rfl, rfl, rfl, fun z => absurd z (by decide)⟩
      · refine dp_lst <| da_nil ⟨szOk, ⟨1, by decide, ?_⟩, ⟨1, by decide, ?_⟩, fun b hb => ?_⟩
        · intro x hx
          simp at hx
        · intro x hx
          simp at hx
        · have e : b = true := hb.mpr (by simp)
          rw [e]
          exact h
  intro n
  induction n with
  | zero => exact step 0 fun k e => by omega
  | succ n ih =>
    refine step (n + 1) fun k e => ?_
    have e : n = k := by omega
    subst e
    exact ih
end
theorem sc_need_tray : FnScope ["tray", "row", "text", "column", "sign"] ["tray"] (defScope s_need_tray) := ⟨rfl, rfl, rfl, by decide +kernel, rfl, by decide +kernel, by decide +kernel⟩
def R_need_tray : Rel := fun ds L P => ∃ rows, ds = [trayD rows] ∧ Tray 12 rows ∧ P .non L
section
variable {Pr : Program} {w : World} {K : PySem.W.Frag} {mg : Str → Option Value} {base : Heap}
theorem c_need_tray (F : FunAt K mg "need_tray" s_need_tray) (n_len : mg "len" = none) (n_enumerate : mg "enumerate" = none) (v_MOST_SIZE : ∃ t, mg "MOST_SIZE" = some (.int 12 t)) (v_EMPTY : ∃ t, mg "EMPTY" = some (.str (Str.ofString ".") t)) (v_LETTERS : ∃ t, mg "LETTERS" = some (.str (Str.ofString "abcdefghijklmnopqrstuvwxyz") t)) :
    Cal Pr w K mg base "need_tray" 1 ["tray"] R_need_tray := by
  refine cal_of F sc_need_tray (fun _ _ _ h => by obtain ⟨_, rfl, _⟩ := h; rfl) (fun _ _ _ _ _ _ us hl => match us, hl with | [_], _ => rfl) fun fa cdv A outer s H E hr ds L P h => ?_
  obtain ⟨rows, rfl, ht, h⟩ := h
  have nd := sc_need_tray.nd
  obtain ⟨tM, vM⟩ := v_MOST_SIZE
  obtain ⟨tE, vE⟩ := v_EMPTY
  obtain ⟨tL, vL⟩ := v_LETTERS
  obtain ⟨wd, hw1, hw2, hw⟩ := ht.wd
  have hlo := ht.lo
  have hhi := ht.hi
  have M12 : ∀ {X : Cx} {ds : DS} {L : MS} {P : DK} {pos : Pos}, X.mg = mg → Gl X "MOST_SIZE" → P (.int 12) L → DP X (.Name "MOST_SIZE" pos) ds L P := fun hm hg p => dp_glob (v := .int 12) p (by rw [hm]; exact vM) ⟨_, rfl⟩ (fun _ => rfl) hg
  have ME : ∀ {X : Cx} {ds : DS} {L : MS} {P : DK} {pos : Pos}, X.mg = mg → Gl X "EMPTY" → P (.str [46]) L → DP X (.Name "EMPTY" pos) ds L P := fun hm hg p => dp_glob (v := .str (Str.ofString ".")) p (by rw [hm]; exact vE) ⟨_, rfl⟩ (fun _ => by show V.str _ = V.str _; rw [← dot_eq]) hg
  have ML' : ∀ {X : Cx} {ds : DS} {L : MS} {P : DK} {pos : Pos}, X.mg = mg → Gl X "LETTERS" → P (.str letters) L → DP X (.Name "LETTERS" pos) ds L P := fun hm hg p => dp_glob (v := .str (Str.ofString "abcdefghijklmnopqrstuvwxyz")) p (by rw [hm]; exact vL) ⟨_, rfl⟩ (fun _ => by show V.str _ = V.str _; rw [← letters_eq]) hg
  show DSs _ _ [some (trayD rows), none, none, none, none] L _
  refine dss_cons (ds_if <| dt_eq <| dp_len n_len <| dp_var g0 <| dp_int ⟨_, rfl, fun hc => ?_, fun _ => dss_nil ?_⟩)
  · have hc := of_decide_eq_true hc
    rw [List.length_map] at hc
    omega
  refine dss_one (ds_for (di_enumT n_enumerate <| dp_var g0 ⟨_, rfl, fun i ds' L' => L' = L ∧ ds' = [some (trayD rows), none, none, none, none], ⟨_, Fg.refl _, rfl, rfl⟩, fun i d ds' L' hx hW => ?_, fun ds' L' hW => ?_⟩) .never)
  · obtain ⟨rfl, rfl⟩ := hW
    obtain ⟨x, hx2, rfl⟩ := enm_get hx
    rw [List.getElem?_map] at hx2
    obtain ⟨r, hr', rfl⟩ := Option.map_eq_some_iff.mp hx2
    have hil := (List.getElem?_eq_some_iff.mp hr').1
    have hrm := List.mem_of_getElem? hr'
    have hrl := hw r hrm
    have h0 : atI (rows.map Dt.str) 0 = some (.str rows[0]) := by
      have q := atI_nat (xs := rows.map Dt.str) (j := 0) (v := .str rows[0]) (by rw [List.getElem?_map, List.getElem?_eq_getElem (by omega)]; rfl)
      exact q
    have h0l := hw rows[0] (List.getElem_mem _)
    refine dg_tup <| dgs_cons <| dg_name s1 (dgs_cons <| dg_name s2 (dgs_nil ?_) nd) nd
    refine dss_cons (ds_if <| dt_bool <| dtw_or <| dt_eq <| dp_var g1 <| M12 rfl rfl ⟨_, rfl, fun hc => ?_, fun _ => dtw_or <| dt_ne <| dp_len n_len <| dp_var g2 ⟨Nat.le_trans (show r.length ≤ 12 by omega) szOk, dp_len n_len <| dp_ix <| dp_var g0 <| dp_int ⟨_, h0, Nat.le_trans (show rows[0].length ≤ 12 by omega) szOk, _, rfl, fun hc => ?_, fun _ =>
      dtw_or1 <| dt_not <| dt_chain_le <| dp_int <| dp_len n_len <| dp_var g2 ⟨Nat.le_trans (show r.length ≤ 12 by omega) szOk, _, _, rfl, rfl, fun _ => M12 rfl rfl ⟨_, rfl, fun hc => ?_, fun _ => dss_nil ?_⟩, fun hc => ?_⟩⟩⟩⟩)
    · have hc := of_decide_eq_true hc
      omega
    · have hc : (!decide ((r.length : Int) = (rows[0].length : Int))) = true := hc
      rw [hrl, h0l] at hc
      simp at hc
    · have hc : (!decide ((r.length : Int) ≤ 12)) = true := hc
      rw [decide_eq_true (show (r.length : Int) ≤ 12 by omega)] at hc
      cases hc
    · refine dss_one (ds_for (di_enumS n_enumerate <| dp_var g2 ⟨_, rfl, fun j ds' L'' => L'' = L' ∧ ds' = [some (trayD rows), some (.int i), some (.str r), none, none], ⟨_, Fg.refl _, rfl, rfl⟩, fun j d ds' L'' hx hW => ?_, fun ds' L'' hW => ?_⟩) .never)
      · obtain ⟨rfl, rfl⟩ := hW
        obtain ⟨x, hx2, rfl⟩ := enm_get hx
        obtain ⟨c, hc, rfl⟩ := sgn_get hx2
        have hcs := ht.sg r hrm c (List.mem_of_getElem? hc)
        refine dg_tup <| dgs_cons <| dg_name s3 (dgs_cons <| dg_name s4 (dgs_nil ?_) nd) nd
        refine dss_one (ds_if <| dt_bool <| dtw_and <| dt_ne <| dp_var g4 <| ME rfl rfl ⟨_, rfl, fun hc1 => dtw_and1 <| dt_notInS <| dp_var g4 <| ML' rfl rfl ⟨_, rfl, fun hc2 => ?_, fun _ => dss_nil ?_⟩, fun _ => twoF <| dss_nil ?_⟩)
        · have hne : c ≠ 46 := fun z => by
            have hc1 : (!decide ([c] = [46])) = true := hc1
            rw [z] at hc1
            simp at hc1
          have hc2 : (!decide (c ∈ letters)) = true := hc2
          rw [decide_eq_true (hcs.mem hne)] at hc2
          cases hc2
        · exact ⟨_, .keep <| .keep <| .keep <| .drop <| .drop .nil, rfl, rfl⟩
        · exact ⟨_, .keep <| .keep <| .keep <| .drop <| .drop .nil, rfl, rfl⟩
      · obtain ⟨rfl, rfl⟩ := hW
        exact ⟨_, .keep <| .drop <| .drop <| .drop <| .drop .nil, rfl, rfl⟩
    · have hc := of_decide_eq_false hc
      omega
  · obtain ⟨rfl, rfl⟩ := hW
    exact h
end
theorem sc_written : FnScope ["tray"] ["tray"] (defScope s_written) := ⟨rfl, rfl, rfl, by decide +kernel, rfl, by decide +kernel, by decide +kernel⟩
def R_written : Rel := fun ds L P => ∃ rows, ds = [trayD rows] ∧ Tray 12 rows ∧ P (.str (TL.joinL [10] rows)) L
theorem lf_eq : (Str.ofString "\n").cps.toList = [10] := by decide +kernel
theorem sum_le {w : Nat} : ∀ {rows : List (List Nat)}, (∀ r ∈ rows, r.length = w) → (rows.map (·.length)).sum = rows.length * w
  | [], _ => by simp
  | r :: rows, h => by
    rw [List.map_cons, List.sum_cons, sum_le fun x hx => h x (List.mem_cons_of_mem _ hx), h r List.mem_cons_self, List.length_cons, Nat.succ_mul]
    omega
theorem Tray.sum {rows : List (List Nat)} (h : Tray 12 rows) : (rows.map (·.length)).sum ≤ 144 := by
  obtain ⟨w, h1, h2, h3⟩ := h.wd
  rw [sum_le h3]
  exact Nat.mul_le_mul h.hi h2
section
variable {Pr : Program} {w : World} {K : PySem.W.Frag} {mg : Str → Option Value} {base : Heap}
theorem c_written (F : FunAt K mg "written" s_written) (C_need_tray : Cal Pr w K mg base "need_tray" 1 ["tray"] R_need_tray) : Cal Pr w K mg base "written" 2 ["tray"] R_written := by
  refine cal_of F sc_written (fun _ _ _ h => by obtain ⟨_, rfl, _⟩ := h; rfl) (fun _ _ _ _ _ _ us hl => match us, hl with | [_], _ => rfl) fun fa cdv A outer s H E hr ds L P h => ?_
  obtain ⟨rows, rfl, ht, h⟩ := h
  have nd := sc_written.nd
  show DSs _ _ [some (trayD rows)] L _
  refine dss_cons (ds_expr <| dp_call C_need_tray hr (by decide) <| da_cons <| dp_var g0 <| da_nil ⟨rows, rfl, ht, ?_⟩)
  refine dss_one (ds_ret <| dp_join <| dp_txt lf_eq ⟨rfl, dp_var g0 ⟨rows, rfl, ?_, h⟩⟩)
  have := ht.sum
  have := ht.hi
  show (rows.map (·.length)).sum + rows.length * 1 ≤ 16777216
  omega
end
theorem sc_read : FnScope ["text", "tray"] ["text"] (defScope s_read) := ⟨rfl, rfl, rfl, by decide +kernel, rfl, by decide +kernel, by decide +kernel⟩
def R_read : Rel := fun ds L P => ∃ rows, ds = [.str (TL.joinL [10] rows)] ∧ Tray 12 rows ∧ P (trayD rows) L
theorem joinL_len (S : List Nat) : ∀ rows : List (List Nat), (TL.joinL S rows).length ≤ (rows.map (·.length)).sum + rows.length * S.length
  | [] => by simp [TL.joinL]
  | [p] => by simp [TL.joinL]
  | p :: q :: r => by
    have ih := joinL_len S (q :: r)
    rw [TL.joinL, List.length_append, List.length_append, List.map_cons, List.sum_cons, List.length_cons, Nat.succ_mul]
    omega
theorem split_joinL {rows : List (List Nat)} (h : Tray 12 rows) : TL.spl [10] 0 [] (TL.joinL [10] rows) = rows := by
  refine TL.spl_join (fun z => ?_) fun p hp hc => ?_
  · have := h.lo
    rw [z] at this
    exact absurd this (by decide)
  · have := h.sg p hp 10 hc
    rcases this with h | h <;> omega
section
variable {Pr : Program} {w : World} {K : PySem.W.Frag} {mg : Str → Option Value} {base : Heap}
theorem c_read (F : FunAt K mg "read" s_read) (C_need_tray : Cal Pr w K mg base "need_tray" 1 ["tray"] R_need_tray) (n_tuple : mg "tuple" = none) : Cal Pr w K mg base "read" 2 ["text"] R_read := by
  refine cal_of F sc_read (fun _ _ _ h => by obtain ⟨_, rfl, _⟩ := h; rfl) (fun _ _ _ _ _ _ us hl => match us, hl with | [_], _ => rfl) fun fa cdv A outer s H E hr ds L P h => ?_
  obtain ⟨rows, rfl, ht, h⟩ := h
  have nd := sc_read.nd
  show DSs _ _ [some (.str (TL.joinL [10] rows)), none] L _
  have hl : (TL.joinL [10] rows).length + 2 ≤ sizeLine := by
    have h1 := joinL_len [10] rows
    have h2 := ht.sum
    have h3 := ht.hi
    have h4 : rows.length * [10].length = rows.length := Nat.mul_one _
    rw [sizeLine_eq]
    omega
  refine dss_cons (ds_set (i := 1) (fun _ => s1) (dp_tuple n_tuple <| dp_split <| dp_var g0 ⟨rfl, dp_txt lf_eq ⟨by decide, by decide, hl, ?_⟩⟩) nd)
  rw [split_joinL ht]
  refine dss_cons (ds_expr <| dp_call C_need_tray hr (by decide) <| da_cons <| dp_var g1 <| da_nil ⟨rows, rfl, ht, ?_⟩)
  exact dss_one (ds_ret <| dp_var g1 h)
end
theorem sc_law : FnScope ["_law_script", "_law_d", "_law_turn", "_law_tray_here", "_law_text"] ["_law_script"] (defScope s_law) := ⟨rfl, rfl, rfl, by decide +kernel, rfl, by decide +kernel, by decide +kernel⟩
section
variable {Pr : Program} {w : World} {K : PySem.W.Frag} {mg : Str → Option Value} {base : Heap}
theorem c_law (F : FunAt K mg "law" s_law) (C__law_dice : Cal Pr w K mg base "_law_dice" 1 ["_law_script"] R_dice) (C__law_tray : Cal Pr w K mg base "_law_tray" 2 ["_law_d", "_law_size"] R_tray) (C_written : Cal Pr w K mg base "written" 2 ["tray"] R_written)
    (C_read : Cal Pr w K mg base "read" 2 ["text"] R_read) (C__law_like : Cal Pr w K mg base "_law_like" 2 ["_law_found", "_law_due"] (R_like 1)) (n_range : mg "range" = none) : Cal Pr w K mg base "law" 3 ["_law_script"] R_law := by
  refine cal_of F sc_law (fun _ _ _ h => by obtain ⟨_, rfl, _⟩ := h; rfl) (fun _ _ _ _ _ _ us hl => match us, hl with | [_], _ => rfl) fun fa cdv A outer s H E hr ds L P h => ?_
  obtain ⟨ns, rfl, _, h⟩ := h
  have nd := sc_law.nd
  show DSs _ _ [some (.frl (ns.map .int)), none, none, none, none] L _
  refine dss_cons (ds_set (i := 1) (fun _ => s1) (dp_call C__law_dice hr (by decide) <| da_cons <| dp_var g0 <| da_nil ⟨ns, rfl, fun a x => ?_⟩) nd)
  refine dss_cons (ds_for (di_range1 n_range <| dp_int ⟨_, rfl, by decide, by decide, fun i ds' L' => ∃ m, L' = (a, m) :: L ∧ Dice m ∧ ds' = [some (.frl (ns.map .int)), some (.adr a), none, none, none], ⟨_, Fg.refl _, _, rfl, ⟨ns, 0, x, 0, by decide, rfl⟩, rfl⟩, fun i d ds' L' hx hW => ?_, fun ds' L' hW => ?_⟩) .never)
  · obtain ⟨m, rfl, hd, rfl⟩ := hW
    refine dg_name s2 ?_ nd
    refine dss_cons (ds_set (i := 3) (fun _ => s3) (dp_call C__law_tray hr (by decide) <| da_cons <| dp_var g1 <| da_cons <| dp_int <| da_nil ⟨a, 12, _, m, rfl, .hd, rfl, hd, by decide, by decide, fun rows m1 ht hd1 => ?_⟩) nd)
    refine dss_cons (ds_set (i := 4) (fun _ => s4) (dp_call C_written hr (by decide) <| da_cons <| dp_var g3 <| da_nil ⟨rows, rfl, ht, ?_⟩) nd)
    have hl : okL 1 (trayD rows) := ⟨by rw [List.length_map]; have := ht.hi; omega, fun x hx => by
      obtain ⟨r, _, rfl⟩ := List.mem_map.mp hx
      trivial⟩
    refine dss_one (ds_if <| dt_bool <| dtw_or <| dt_not <| dt_val <| dp_call C__law_like hr (by decide) <| da_cons <| dp_call C_read hr (by decide) <| da_cons <| dp_var g4 <| da_nil ⟨rows, rfl, ht, da_cons <| dp_var g3 <| da_nil ⟨_, rfl, hl, _, rfl, twoF <|
      dtw_or1 <| dt_ne <| dp_call C_written hr (by decide) <| da_cons <| dp_call C_read hr (by decide) <| da_cons <| dp_var g4 <| da_nil ⟨rows, rfl, ht, da_nil ⟨rows, rfl, ht, dp_var g4 ⟨_, rfl, fun hc => ?_, fun _ => dss_nil ?_⟩⟩⟩⟩⟩)
    · have hc : (!decide (TL.joinL [10] rows = TL.joinL [10] rows)) = true := hc
      simp at hc
    · exact ⟨_, .keep <| .keep <| .drop <| .drop <| .drop .nil, m1, rfl, hd1, rfl⟩
  · obtain ⟨m, rfl, hd, rfl⟩ := hW
    exact dss_one (ds_ret <| dp_bl (h _))
end
section
variable {w : World} {K : PySem.W.Frag} {h : Heap} {mg : Str → Option Value} {fa : Addr}
theorem all_mk (KX : K.In h) (NS : h.Ns mainGlobals mg) (hfa : mg "law" = some (.ref fa)) (F__law_dice : FunAt K mg "_law_dice" s__law_dice) (n_len : mg "len" = none) (n_int : mg "int" = none) (F__law_next : FunAt K mg "_law_next" s__law_next) (F__law_tray : FunAt K mg "_law_tray" s__law_tray) (n_range : mg "range" = none) (n_tuple : mg "tuple" = none) (F__law_like : FunAt K mg "_law_like" s__law_like) (n_isinstance : mg "isinstance" = none) (n_list : mg "list" = none) (n_bool : mg "bool" = none) (n_str : mg "str" = none) (F_need_tray : FunAt K mg "need_tray" s_need_tray) (n_enumerate : mg "enumerate" = none) (v_MOST_SIZE : ∃ t, mg "MOST_SIZE" = some (.int 12 t)) (v_EMPTY : ∃ t, mg "EMPTY" = some (.str (Str.ofString ".") t)) (v_LETTERS : ∃ t, mg "LETTERS" = some (.str (Str.ofString "abcdefghijklmnopqrstuvwxyz") t)) (F_written : FunAt K mg "written" s_written) (F_read : FunAt K mg "read" s_read) (F_law : FunAt K mg "law" s_law) :
    ∃ fd : FuncData, (∀ (s : Shared) (v : Value), BindsTo s fd ⟨[v], []⟩ [("_law_script", v)]) ∧ ∀ base : Heap, K.In base → base.Ns mainGlobals mg → FnOk PySem.Challenge.pw_trayring_k31_whole_written_and_read w K mg base CX0 3 fa fd ["_law_script"] (law_sp K) := by
  refine law_end hfa F_law (fun base _ _ => ?_) (fun _ _ _ _ _ _ _ => rfl)
  have H__law_dice := c_dice (Pr := PySem.Challenge.pw_trayring_k31_whole_written_and_read) (w := w) (base := base) F__law_dice n_len n_int
  have H__law_next := c_next (Pr := PySem.Challenge.pw_trayring_k31_whole_written_and_read) (w := w) (base := base) F__law_next n_len
  have H__law_tray := c_tray (Pr := PySem.Challenge.pw_trayring_k31_whole_written_and_read) (w := w) (base := base) F__law_tray (by first | exact H__law_next | exact H__law_next _ | exact fun _ => H__law_next | exact H__law_next.mono (by decide) | exact (H__law_next _).mono (by decide)) n_len n_range n_tuple
  have H__law_like := c_like (Pr := PySem.Challenge.pw_trayring_k31_whole_written_and_read) (w := w) (base := base) F__law_like n_isinstance n_tuple n_list n_bool n_int n_str n_len n_range
  have H_need_tray := c_need_tray (Pr := PySem.Challenge.pw_trayring_k31_whole_written_and_read) (w := w) (base := base) F_need_tray n_len n_enumerate v_MOST_SIZE v_EMPTY v_LETTERS
  have H_written := c_written (Pr := PySem.Challenge.pw_trayring_k31_whole_written_and_read) (w := w) (base := base) F_written (by first | exact H_need_tray | exact H_need_tray _ | exact fun _ => H_need_tray | exact H_need_tray.mono (by decide) | exact (H_need_tray _).mono (by decide))
  have H_read := c_read (Pr := PySem.Challenge.pw_trayring_k31_whole_written_and_read) (w := w) (base := base) F_read (by first | exact H_need_tray | exact H_need_tray _ | exact fun _ => H_need_tray | exact H_need_tray.mono (by decide) | exact (H_need_tray _).mono (by decide)) n_tuple
  exact c_law (Pr := PySem.Challenge.pw_trayring_k31_whole_written_and_read) (w := w) (base := base) F_law (by first | exact H__law_dice | exact H__law_dice _ | exact fun _ => H__law_dice | exact H__law_dice.mono (by decide) | exact (H__law_dice _).mono (by decide)) (by first | exact H__law_tray | exact H__law_tray _ | exact fun _ => H__law_tray | exact H__law_tray.mono (by decide) | exact (H__law_tray _).mono (by decide)) (by first | exact H_written | exact H_written _ | exact fun _ => H_written | exact H_written.mono (by decide) | exact (H_written _).mono (by decide)) (by first | exact H_read | exact H_read _ | exact fun _ => H_read | exact H_read.mono (by decide) | exact (H_read _).mono (by decide)) (by first | exact H__law_like | exact H__law_like _ | exact fun _ => H__law_like | exact H__law_like.mono (by decide) | exact (H__law_like _).mono (by decide)) n_range
end
end G
open PySem PySem.W PyProof.Rows
set_option maxHeartbeats 0 in
theorem PySem.Challenge.cw_trayring_k31_whole_written_and_read_holds : PySem.Challenge.rw_trayring_k31_whole_written_and_read.Holds := by
  w_on; o_law; k_head; (case hw => w_witness2)
  k_fill
  refine L2.walk_of (l := PySem.Challenge.rw_trayring_k31_whole_written_and_read) (n := 63) (k := 3) (x := "_law_script") (CX := fun _ => L2.CX0) (sp := fun w => Z.law_sp _) rfl (by decide) rfl ⟨rfl, by decide, by decide⟩ (fun w h Y => PySem.W.kIn_of Y) ?F (fun _ _ _ _ hl _ hS => Z.law_start hl hS) (fun _ _ _ _ _ h => h)
  case F =>
    intro w mg fa h KX NS hmg
    refine' G.all_mk KX NS hmg ?F__law_dice ?n_len ?n_int ?F__law_next ?F__law_tray ?n_range ?n_tuple ?F__law_like ?n_isinstance ?n_list ?n_bool ?n_str ?F_need_tray ?n_enumerate ?v_MOST_SIZE ?v_EMPTY ?v_LETTERS ?F_written ?F_read ?F_law
    (case F__law_dice => refine' Z.fun_at KX NS ?a ?l ?c ?k; (case a => k_is); (case l => k_is); (case c => k_is); (case k => k_is))
    (case n_len => refine' PySem.W.mg_none_of KX NS ?a; (case a => k_is))
    (case n_int => refine' PySem.W.mg_none_of KX NS ?a; (case a => k_is))
    (case F__law_next => refine' Z.fun_at KX NS ?a ?l ?c ?k; (case a => k_is); (case l => k_is); (case c => k_is); (case k => k_is))
    (case F__law_tray => refine' Z.fun_at KX NS ?a ?l ?c ?k; (case a => k_is); (case l => k_is); (case c => k_is); (case k => k_is))
    (case n_range => refine' PySem.W.mg_none_of KX NS ?a; (case a => k_is))
    (case n_tuple => refine' PySem.W.mg_none_of KX NS ?a; (case a => k_is))
    (case F__law_like => refine' Z.fun_at KX NS ?a ?l ?c ?k; (case a => k_is); (case l => k_is); (case c => k_is); (case k => k_is))
    (case n_isinstance => refine' PySem.W.mg_none_of KX NS ?a; (case a => k_is))
    (case n_list => refine' PySem.W.mg_none_of KX NS ?a; (case a => k_is))
    (case n_bool => refine' PySem.W.mg_none_of KX NS ?a; (case a => k_is))
    (case n_str => refine' PySem.W.mg_none_of KX NS ?a; (case a => k_is))
    (case F_need_tray => refine' Z.fun_at KX NS ?a ?l ?c ?k; (case a => k_is); (case l => k_is); (case c => k_is); (case k => k_is))
    (case n_enumerate => refine' PySem.W.mg_none_of KX NS ?a; (case a => k_is))
    (case v_MOST_SIZE => refine' Z.const_at KX NS ?a ?e; (case a => k_is); (case e => exact ⟨_, rfl⟩))
    (case v_EMPTY => refine' Z.const_at KX NS ?a ?e; (case a => k_is); (case e => exact ⟨_, rfl⟩))
    (case v_LETTERS => refine' Z.const_at KX NS ?a ?e; (case a => k_is); (case e => exact ⟨_, rfl⟩))
    (case F_written => refine' Z.fun_at KX NS ?a ?l ?c ?k; (case a => k_is); (case l => k_is); (case c => k_is); (case k => k_is))
    (case F_read => refine' Z.fun_at KX NS ?a ?l ?c ?k; (case a => k_is); (case l => k_is); (case c => k_is); (case k => k_is))
    (case F_law => refine' Z.fun_at KX NS ?a ?l ?c ?k; (case a => k_is); (case l => k_is); (case c => k_is); (case k => k_is))
