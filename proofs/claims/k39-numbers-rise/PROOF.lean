import PyProof.Rows.All
import Wide.All
import OpenK.AllK
import Wide.FinOn
import HandS.ForMost
import HandS.Wide
import HandS.Lambda
import KE.GoesEnum
import HandS.TupAny
import HandS.IsInst
import HandS.Style
import HandS.Deep
import HandS.DictComp
import HandS.DictTup
import HandS.Zip
import KE.KDictWalk
import HandS.Defaults
import HandS.Iter
import HandS.Text
import HandS.SortInts
import HandS.SortKw
import HandS.SortRule
import PyProof.Rows.SortShellAny
import PyProof.TupleOfSeq
import PyProof.CollectStr
import KE.DataMinMax
import KE.KDictCopyH
import KE.KDictOf
import HandS.SortOrd
import KE.KDictSum
import PyProof.EqAt
import PyProof.EqKinds
import PyProof.TupleCall
import HandS.Strs
import HandS.List
import HandS.Replace
import HandS.Conv
import HandS.Call
import PyProof.StrBlock2
import HandS.SetFor
import HandS.ReplaceLit
import HandS.ReplaceList
import PyProof.ToksMono
import HandS.TupMul
import HandS.TupLen
import HandS.WordsExc
import HandS.ExcOwn
import HandS.ExcIs
import HandS.EndOwn
import HandS.EndTab
import HandS.NestedK
import PyProof.JoinWalk
import PyProof.CollectIter
import PyProof.EnumMake
import KE.KDictKeyed
import KE.KeyNested
import KE.KExcIs
import OpenK.KCls
import HandS.ExcInit
import HandS.ExcField
import KE.KDflt
import HandS.Sort
import HandS.TupLe
import PyProof.FString5
import HandS.More
import PySem.Challenge.RW_trayring_k39_whole_numbers_rise
set_option Elab.async false
set_option linter.all false
set_option maxRecDepth 100000
set_option maxHeartbeats 4000000
namespace Z
open PySem PySem.Spec PyProof.Rows L2

/-! ### data: what a value is, without addresses -/
inductive Dt where
  | non | bl (b : Bool) | int (i : Int) | str (l : List Nat) | tup (xs : List Dt) | lst (xs : List Dt) | frl (xs : List Dt) | frt (xs : List Dt)
  | dct (ks : List (List Key)) (xs : List Dt) | ty (n : String) | adr (a : Addr)

mutual
/-- in the frozen heap B the value is d -/
def Is (K : PySem.W.Frag) (B : Hp) : Dt → V → Prop
  | .non, v => v = V.non
  | .bl b, v => v = V.bl b
  | .int i, v => v = V.int i
  | .str l, v => v = V.str ⟨l.toArray⟩
  | .tup ds, v => ∃ a vs, v = V.ref a ∧ B a = some (.tup vs) ∧ IsL K B ds vs
  | .lst ds, v => ∃ a vs, v = V.ref a ∧ B a = some (.lst vs) ∧ IsL K B ds vs
  | .frl ds, v => ∃ a vs, v = V.ref a ∧ SqL K B a vs ∧ IsL K B ds vs
  | .frt ds, v => ∃ a o vs, v = V.ref a ∧ B a = some (.frz o (.tup vs)) ∧ o.dict = none ∧ o.cls = .type "tuple" ∧ IsL K B ds vs
  | .dct ks ds, v => ∃ a o vs, v = V.ref a ∧ B a = some (.frz o (.dT (ks.zip vs))) ∧ ks.length = ds.length ∧ IsL K B ds vs
  | .ty n, v => v = V.ty n
  | .adr a, v => v = V.ref a
def IsL (K : PySem.W.Frag) (B : Hp) : List Dt → List V → Prop
  | [], vs => vs = []
  | d :: ds, vs => ∃ v r, vs = v :: r ∧ Is K B d v ∧ IsL K B ds r
end

section
variable {K : PySem.W.Frag} {B B' : Hp}
mutual
theorem Is.mono (e : Same B B') : ∀ {d : Dt} {v : V}, Is K B d v → Is K B' d v
  | .non, _, h => h
  | .bl _, _, h => h
  | .int _, _, h => h
  | .str _, _, h => h
  | .tup ds, v, ⟨a, vs, h1, h2, h3⟩ => ⟨a, vs, h1, e _ _ h2, IsL.mono e h3⟩
  | .lst ds, v, ⟨a, vs, h1, h2, h3⟩ => ⟨a, vs, h1, e _ _ h2, IsL.mono e h3⟩
  | .frl ds, v, ⟨a, vs, h1, h2, h3⟩ => ⟨a, vs, h1, e.seq h2, IsL.mono e h3⟩
  | .frt ds, v, ⟨a, o, vs, h1, h2, h3, h4, h5⟩ => ⟨a, o, vs, h1, e _ _ h2, h3, h4, IsL.mono e h5⟩
  | .dct ks ds, v, ⟨a, o, vs, h1, h2, h3, h4⟩ => ⟨a, o, vs, h1, e _ _ h2, h3, IsL.mono e h4⟩
  | .ty _, _, h => h
  | .adr _, _, h => h
theorem IsL.mono (e : Same B B') : ∀ {ds : List Dt} {vs : List V}, IsL K B ds vs → IsL K B' ds vs
  | [], _, h => h
  | d :: ds, vs, ⟨v, r, h1, h2, h3⟩ => ⟨v, r, h1, Is.mono e h2, IsL.mono e h3⟩
end
theorem IsL.length : ∀ {ds : List Dt} {vs : List V}, IsL K B ds vs → vs.length = ds.length
  | [], _, h => by
    have h : _ = [] := h
    rw [h]
    rfl
  | d :: ds, vs, ⟨v, r, h1, _, h3⟩ => by rw [h1, List.length_cons, List.length_cons, IsL.length h3]
theorem IsL.get : ∀ {ds : List Dt} {vs : List V} {i : Nat} {d : Dt}, IsL K B ds vs → ds[i]? = some d → ∃ v, vs[i]? = some v ∧ Is K B d v
  | [], _, _, _, _, e => by simp at e
  | x :: ds, vs, 0, d, ⟨v, r, h1, h2, _⟩, e => by
    simp at e
    subst e
    subst h1
    exact ⟨v, rfl, h2⟩
  | x :: ds, vs, i + 1, d, ⟨v, r, h1, _, h3⟩, e => by
    subst h1
    obtain ⟨u, e1, e2⟩ := IsL.get (i := i) h3 (by simpa using e)
    exact ⟨u, by simpa using e1, e2⟩
theorem IsL.append : ∀ {ds es : List Dt} {vs us : List V}, IsL K B ds vs → IsL K B es us → IsL K B (ds ++ es) (vs ++ us)
  | [], _, _, _, h, h' => by
    have h : _ = [] := h
    subst h
    exact h'
  | d :: ds, es, vs, us, ⟨v, r, h1, h2, h3⟩, h' => by
    subst h1
    exact ⟨v, r ++ us, rfl, h2, IsL.append h3 h'⟩
theorem IsL.one {d : Dt} {v : V} (h : Is K B d v) : IsL K B [d] [v] := ⟨v, [], rfl, h, rfl⟩
theorem IsL.set : ∀ {ds : List Dt} {vs : List V} {d : Dt} {v : V} (i : Nat), IsL K B ds vs → Is K B d v → IsL K B (ds.set i d) (vs.set i v)
  | [], vs, _, _, _, h, _ => by
    have h : _ = [] := h
    subst h
    exact rfl
  | x :: ds, _, d, v, 0, ⟨_, r, rfl, _, h3⟩, h => ⟨v, r, rfl, h, h3⟩
  | x :: ds, _, d, v, i + 1, ⟨u, r, rfl, h2, h3⟩, h => ⟨u, r.set i v, rfl, h2, IsL.set i h3 h⟩
theorem IsL.drop : ∀ {ds : List Dt} {vs : List V} (n : Nat), IsL K B ds vs → IsL K B (ds.drop n) (vs.drop n)
  | _, _, 0, h => h
  | [], vs, n + 1, h => by
    have h : _ = [] := h
    subst h
    exact rfl
  | d :: ds, _, n + 1, ⟨_, _, rfl, _, h3⟩ => IsL.drop n h3
theorem IsL.take : ∀ {ds : List Dt} {vs : List V} (n : Nat), IsL K B ds vs → IsL K B (ds.take n) (vs.take n)
  | _, _, 0, h => rfl
  | [], vs, n + 1, h => by
    have h : _ = [] := h
    subst h
    exact rfl
  | d :: ds, _, n + 1, ⟨v, r, rfl, h2, h3⟩ => ⟨v, r.take n, rfl, h2, IsL.take n h3⟩
theorem IsL.reverse : ∀ {ds : List Dt} {vs : List V}, IsL K B ds vs → IsL K B ds.reverse vs.reverse
  | [], vs, h => by
    have h : _ = [] := h
    subst h
    exact rfl
  | d :: ds, _, ⟨v, r, rfl, h2, h3⟩ => by
    rw [List.reverse_cons, List.reverse_cons]
    exact IsL.append (IsL.reverse h3) (IsL.one h2)
theorem IsL.ints : ∀ {ns : List Int} {vs : List V}, IsL K B (ns.map Dt.int) vs → vs = ns.map V.int
  | [], _, h => h
  | n :: ns, _, ⟨_, _, rfl, h2, h3⟩ => by
    have h2 : _ = V.int n := h2
    rw [h2, IsL.ints h3]
    rfl
theorem IsL.of_ints : ∀ {ns : List Int}, IsL K B (ns.map Dt.int) (ns.map V.int)
  | [] => rfl
  | n :: ns => ⟨V.int n, _, rfl, rfl, IsL.of_ints⟩
theorem IsL.strs : ∀ {ns : List (List Nat)} {vs : List V}, IsL K B (ns.map Dt.str) vs → vs = (ns.map fun l => (⟨l.toArray⟩ : Str)).map V.str
  | [], _, h => h
  | n :: ns, _, ⟨_, _, rfl, h2, h3⟩ => by
    have h2 : _ = V.str ⟨n.toArray⟩ := h2
    rw [h2, IsL.strs h3]
    rfl
theorem IsL.of_strs : ∀ {ns : List (List Nat)}, IsL K B (ns.map Dt.str) ((ns.map fun l => (⟨l.toArray⟩ : Str)).map V.str)
  | [] => rfl
  | n :: ns => ⟨_, _, rfl, rfl, IsL.of_strs⟩
end

/-! ### the slots -/
abbrev DS := List (Option Dt)
def Sl (K : PySem.W.Frag) (B : Hp) (ds : DS) (σ : L2.St) : Prop := σ.length = ds.length ∧ ∀ (i : Nat) (d : Dt), ds[i]? = some (some d) → ∃ v, σ[i]? = some (some v) ∧ Is K B d v
section
variable {K : PySem.W.Frag} {B B' : Hp} {ds : DS} {σ : L2.St}
theorem Sl.mono (e : Same B B') (h : Sl K B ds σ) : Sl K B' ds σ := ⟨h.1, fun i d q => by
  obtain ⟨v, e1, e2⟩ := h.2 i d q
  exact ⟨v, e1, e2.mono e⟩⟩
theorem Sl.set {d : Dt} {v : V} (i : Nat) (h : Sl K B ds σ) (hd : Is K B d v) : Sl K B (ds.set i (some d)) (σ.set i (some v)) := by
  refine ⟨by rw [List.length_set, List.length_set, h.1], fun j x q => ?_⟩
  by_cases hj : i = j
  · subst hj
    by_cases hl : i < ds.length
    · rw [List.getElem?_set_self hl] at q
      cases q
      exact ⟨v, by rw [List.getElem?_set_self (by rw [h.1]; exact hl)], hd⟩
    · rw [List.getElem?_eq_none (by rw [List.length_set]; omega)] at q
      cases q
  · rw [List.getElem?_set_ne hj] at q
    obtain ⟨u, e1, e2⟩ := h.2 j x q
    exact ⟨u, by rw [List.getElem?_set_ne hj]; exact e1, e2⟩
/-- ds2 knows less than ds -/
def Fg (ds ds2 : DS) : Prop := ds.length = ds2.length ∧ ∀ (i : Nat) (d : Dt), ds2[i]? = some (some d) → ds[i]? = some (some d)
theorem Fg.refl (ds : DS) : Fg ds ds := ⟨rfl, fun _ _ h => h⟩
theorem Fg.nil : Fg [] [] := Fg.refl []
theorem Fg.keep {o : Option Dt} {l l2 : DS} (h : Fg l l2) : Fg (o :: l) (o :: l2) := ⟨by rw [List.length_cons, List.length_cons, h.1], fun i d e => by
  cases i with
  | zero => exact e
  | succ i => exact h.2 i d e⟩
theorem Fg.drop {o : Option Dt} {l l2 : DS} (h : Fg l l2) : Fg (o :: l) (none :: l2) := ⟨by rw [List.length_cons, List.length_cons, h.1], fun i d e => by
  cases i with
  | zero => simp at e
  | succ i => exact h.2 i d e⟩
theorem Sl.fg {ds2 : DS} (h : Sl K B ds σ) (f : Fg ds ds2) : Sl K B ds2 σ := ⟨h.1.trans f.1, fun i d e => h.2 i d (f.2 i d e)⟩
end

/-! ### what may change: the objects of L, one apart from another -/
inductive MO where
  | lst (xs : List Dt) | dct (ks : List (List Key)) (xs : List Dt) | ins (C : Addr) (ns : List Str) (xs : List Dt)
  /-- a table of code objects of the name q; what was frozen ahead -/
  | tab (q : Str) (B0 : Hp)
  /-- a dict with texts for keys -/
  | sct (ns : List Str) (xs : List Dt)
  /-- the fields of an exception -/
  | xd (ns : List Str) (xs : List Dt)
  /-- any other object, by what it shows to the frozen heap -/
  | gen (R : Hp → HO → Prop) (hm : ∀ B B' o, Same B B' → R B o → R B' o) (hx : ∀ B o, R B o → (∃ φ, o = .ext φ) ∧ ∀ c q, o ≠ LamX.CodeO c q)
abbrev MS := List (Addr × MO)
def Rep (K : PySem.W.Frag) (B : Hp) : MO → HO → Prop
  | .lst ds, o => ∃ vs, o = .lst vs ∧ IsL K B ds vs
  | .dct ks ds, o => ∃ vs, o = .dT (ks.zip vs) ∧ ks.length = ds.length ∧ IsL K B ds vs
  | .ins C ns ds, o => ∃ dx vs, o = .ins C dx (ns.zip vs) ∧ ns.length = ds.length ∧ IsL K B ds vs
  | .tab q B0, o => (∃ ps : Array Value, o = .tbl ps ∧ TriplesOk ps.toList ∧ ∀ (pos : Pos) (cv : Value), codeAmong pos ps.toList = some cv → ∃ c, cv = .ref c ∧ B c = some (LamX.CodeO c q)) ∧ Same B0 B
  | .sct ns ds, o => ∃ vs, o = .dK ((ns.map Sum.inr).zip vs) ∧ ns.length = ds.length ∧ IsL K B ds vs
  | .xd ns ds, o => ∃ vs, o = .xd (ns.zip vs) ∧ ns.length = ds.length ∧ IsL K B ds vs
  | .gen R _ _, o => R B o
structure Hs (K : PySem.W.Frag) (B : Hp) (L : MS) (H : Hp) : Prop where
  sub : Same B H
  own : ∀ a m, (a, m) ∈ L → B a = none ∧ ∃ o, H a = some o ∧ Rep K B m o
  nd : (L.map (·.1)).Nodup
  nt : ∀ b ps, B b ≠ some (.tbl ps)
section
variable {K : PySem.W.Frag} {B B' H : Hp} {L : MS}
theorem nt_upd {B : Hp} (h : ∀ b ps, B b ≠ some (.tbl ps)) {p : Addr} {o : HO} (hn : ∀ ps, o ≠ .tbl ps) : ∀ b ps, upd B p o b ≠ some (.tbl ps) := fun b ps e => by
  by_cases q : b = p
  · subst q
    rw [upd_same] at e
    exact hn ps (Option.some.inj e)
  · rw [upd_ne q] at e
    exact h b ps e
theorem Rep.mono (e : Same B B') {m : MO} {o : HO} (h : Rep K B m o) : Rep K B' m o := by
  cases m with
  | lst ds => obtain ⟨vs, h1, h2⟩ := h; exact ⟨vs, h1, h2.mono e⟩
  | dct ks ds => obtain ⟨vs, h1, h2, h3⟩ := h; exact ⟨vs, h1, h2, h3.mono e⟩
  | ins C ns ds => obtain ⟨dx, vs, h1, h2, h3⟩ := h; exact ⟨dx, vs, h1, h2, h3.mono e⟩
  | tab q B0 =>
    obtain ⟨⟨ps, h1, h2, h3⟩, h4⟩ := h
    exact ⟨⟨ps, h1, h2, fun pos cv hc => by
      obtain ⟨c, e1, e2⟩ := h3 pos cv hc
      exact ⟨c, e1, e _ _ e2⟩⟩, h4.trans e⟩
  | sct ns ds => obtain ⟨vs, h1, h2, h3⟩ := h; exact ⟨vs, h1, h2, h3.mono e⟩
  | xd ns ds => obtain ⟨vs, h1, h2, h3⟩ := h; exact ⟨vs, h1, h2, h3.mono e⟩
  | gen R hm hx => exact hm _ _ _ e h
/-- a new frozen object -/
theorem Hs.new {p : Addr} {o : HO} (h : Hs K B L H) (hp : H p = none) (hn : ∀ ps, o ≠ .tbl ps := by intro _ h; cases h) : Same B (upd B p o) ∧ Hs K (upd B p o) L (upd H p o) := by
  have hb : B p = none := h.sub.free hp
  have sb : Same B (upd B p o) := fun b x e => by rw [upd_ne (ne_of_none e hb)]; exact e
  refine ⟨sb, ⟨fun b x e => ?_, fun a m ha => ?_, h.nd, nt_upd h.nt hn⟩⟩
  · by_cases hbp : b = p
    · subst hbp
      rw [upd_same] at e ⊢
      exact e
    · rw [upd_ne hbp] at e ⊢
      exact h.sub b x e
  · obtain ⟨h1, u, h2, h3⟩ := h.own a m ha
    have ne : a ≠ p := ne_of_none h2 hp
    exact ⟨by rw [upd_ne ne]; exact h1, u, by rw [upd_ne ne]; exact h2, h3.mono sb⟩
/-- a new object that may change -/
theorem Hs.newM {p : Addr} {o : HO} {m : MO} (h : Hs K B L H) (hp : H p = none) (r : Rep K B m o) : Hs K B ((p, m) :: L) (upd H p o) := by
  have hb : B p = none := h.sub.free hp
  refine ⟨fun b x e => ?_, fun a x ha => ?_, ?_, h.nt⟩
  · rw [upd_ne (ne_of_none e hb)]
    exact h.sub b x e
  · rcases List.mem_cons.mp ha with e | ha
    · cases e
      exact ⟨hb, o, upd_same, r⟩
    · obtain ⟨h1, u, h2, h3⟩ := h.own a x ha
      have ne : a ≠ p := ne_of_none h2 hp
      exact ⟨h1, u, by rw [upd_ne ne]; exact h2, h3⟩
  · rw [List.map_cons]
    refine List.nodup_cons.mpr ⟨fun hm => ?_, h.nd⟩
    obtain ⟨⟨a, x⟩, hq, e⟩ := List.mem_map.mp hm
    obtain ⟨_, u, h2, _⟩ := h.own a x hq
    have e : a = p := e
    rw [e, hp] at h2
    cases h2
end
/-- at a stands m -/
abbrev ML (L : MS) (a : Addr) (m : MO) : Prop := (a, m) ∈ L
/-- L2 is L with m at a -/
inductive MSt : MS → Addr → MO → MS → Prop where
  | hd {a : Addr} {m m' : MO} {L : MS} : MSt ((a, m) :: L) a m' ((a, m') :: L)
  | tl {p : Addr × MO} {a : Addr} {m' : MO} {L L2 : MS} : MSt L a m' L2 → MSt (p :: L) a m' (p :: L2)
theorem ML.hd {a : Addr} {m : MO} {L : MS} : ML ((a, m) :: L) a m := List.mem_cons_self
theorem ML.tl {p : Addr × MO} {a : Addr} {m : MO} {L : MS} (h : ML L a m) : ML (p :: L) a m := List.mem_cons_of_mem _ h
theorem MSt.mem {L L2 : MS} {a : Addr} {m : MO} (h : MSt L a m L2) : ∃ m0, ML L a m0 := by
  induction h with
  | hd => exact ⟨_, ML.hd⟩
  | tl _ ih => obtain ⟨m0, q⟩ := ih; exact ⟨m0, q.tl⟩
theorem MSt.keys {L L2 : MS} {a : Addr} {m : MO} (h : MSt L a m L2) : L2.map (·.1) = L.map (·.1) := by
  induction h with
  | hd => rfl
  | tl _ ih => rw [List.map_cons, List.map_cons, ih]
theorem MSt.cases {L L2 : MS} {a : Addr} {m : MO} (h : MSt L a m L2) : ∀ b x, (b, x) ∈ L2 → (b = a ∧ x = m) ∨ (b, x) ∈ L := by
  induction h with
  | hd =>
    intro b x hb
    rcases List.mem_cons.mp hb with e | hb
    · cases e; exact .inl ⟨rfl, rfl⟩
    · exact .inr (List.mem_cons_of_mem _ hb)
  | tl _ ih =>
    intro b x hb
    rcases List.mem_cons.mp hb with e | hb
    · rw [e]; exact .inr List.mem_cons_self
    · rcases ih b x hb with q | q
      · exact .inl q
      · exact .inr (List.mem_cons_of_mem _ q)
theorem MSt.there {L L2 : MS} {a : Addr} {m : MO} (h : MSt L a m L2) : ML L2 a m := by
  induction h with
  | hd => exact ML.hd
  | tl _ ih => exact ih.tl
theorem MSt.make {L : MS} {a : Addr} {m m' : MO} : ML L a m → ∃ L2, MSt L a m' L2 := by
  induction L with
  | nil => intro h; cases h
  | cons p L ih =>
    intro h
    rcases List.mem_cons.mp h with e | h
    · subst e; exact ⟨_, .hd⟩
    · obtain ⟨L2, q⟩ := ih h; exact ⟨_, q.tl⟩
theorem one_val {α β : Type} {a : α} {x y : β} : ∀ {l : List (α × β)}, (l.map (·.1)).Nodup → (a, x) ∈ l → (a, y) ∈ l → x = y
  | [], _, h, _ => by cases h
  | p :: l, nd, h, h' => by
    rw [List.map_cons] at nd
    obtain ⟨n1, n2⟩ := List.nodup_cons.mp nd
    rcases List.mem_cons.mp h with e | h
    · rcases List.mem_cons.mp h' with e' | h'
      · rw [← e] at e'
        exact (Prod.mk.inj e').2.symm
      · exact absurd (List.mem_map.mpr ⟨_, h', by rw [← e]⟩) n1
    · rcases List.mem_cons.mp h' with e' | h'
      · exact absurd (List.mem_map.mpr ⟨_, h, by rw [← e']⟩) n1
      · exact one_val n2 h h'
section
variable {K : PySem.W.Frag} {B B' H : Hp} {L L2 : MS}
/-- an object of L is changed -/
theorem Hs.put {a : Addr} {m : MO} {o : HO} (h : Hs K B L H) (s : MSt L a m L2) (r : Rep K B m o) : Hs K B L2 (upd H a o) := by
  obtain ⟨m0, hm⟩ := s.mem
  obtain ⟨hb, u, hu, _⟩ := h.own a m0 hm
  refine ⟨fun b x e => ?_, fun b x hq => ?_, by rw [s.keys]; exact h.nd, h.nt⟩
  · rw [upd_ne (ne_of_none e hb)]
    exact h.sub b x e
  · by_cases hba : b = a
    · subst hba
      have e : x = m := by
        have nd : (L2.map (·.1)).Nodup := by rw [s.keys]; exact h.nd
        exact one_val nd hq s.there
      subst e
      exact ⟨hb, o, upd_same, r⟩
    · rcases s.cases b x hq with ⟨e, _⟩ | q
      · exact absurd e hba
      · obtain ⟨h1, v, h2, h3⟩ := h.own b x q
        exact ⟨h1, v, by rw [upd_ne hba]; exact h2, h3⟩
/-- L2 is L without a -/
inductive MDel : MS → Addr → MO → MS → Prop where
  | hd {a : Addr} {m : MO} {L : MS} : MDel ((a, m) :: L) a m L
  | tl {p : Addr × MO} {a : Addr} {m : MO} {L L2 : MS} : MDel L a m L2 → MDel (p :: L) a m (p :: L2)
theorem MDel.mem {a : Addr} {m : MO} (h : MDel L a m L2) : ML L a m := by
  induction h with
  | hd => exact ML.hd
  | tl _ ih => exact ih.tl
theorem MDel.sub {a : Addr} {m : MO} (h : MDel L a m L2) : ∀ p, p ∈ L2 → p ∈ L := by
  induction h with
  | hd => exact fun p hp => List.mem_cons_of_mem _ hp
  | tl _ ih =>
    intro p hp
    rcases List.mem_cons.mp hp with e | hp
    · rw [e]; exact List.mem_cons_self
    · exact List.mem_cons_of_mem _ (ih p hp)
theorem MDel.nd {a : Addr} {m : MO} (h : MDel L a m L2) (nd : (L.map (·.1)).Nodup) : (L2.map (·.1)).Nodup ∧ a ∉ L2.map (·.1) := by
  induction h with
  | hd =>
    rw [List.map_cons] at nd
    exact ⟨(List.nodup_cons.mp nd).2, (List.nodup_cons.mp nd).1⟩
  | @tl p a m L L2 hd ih =>
    rw [List.map_cons] at nd
    obtain ⟨n1, n2⟩ := List.nodup_cons.mp nd
    obtain ⟨i1, i2⟩ := ih n2
    rw [List.map_cons]
    refine ⟨List.nodup_cons.mpr ⟨fun hm => n1 ?_, i1⟩, fun hm => ?_⟩
    · obtain ⟨q, hq, e⟩ := List.mem_map.mp hm
      exact List.mem_map.mpr ⟨q, hd.sub q hq, e⟩
    · rcases List.mem_cons.mp hm with e | hm
      · exact n1 (List.mem_map.mpr ⟨(a, m), hd.mem, e⟩)
      · exact i2 hm
/-- a list of L is frozen -/
theorem Hs.freeze {a : Addr} {m : MO} {o : HO} (h : Hs K B L H) (s : MDel L a m L2) (ho : H a = some o) (hn : ∀ ps, o ≠ .tbl ps := by intro _ h; cases h) : Same B (upd B a o) ∧ Hs K (upd B a o) L2 H := by
  obtain ⟨hb, _⟩ := h.own a m s.mem
  have sb : Same B (upd B a o) := fun b x e => by rw [upd_ne (ne_of_none e hb)]; exact e
  obtain ⟨n1, n2⟩ := s.nd h.nd
  refine ⟨sb, ⟨fun b x e => ?_, fun b x hq => ?_, n1, nt_upd h.nt hn⟩⟩
  · by_cases hba : b = a
    · subst hba
      rw [upd_same] at e
      rw [ho]
      exact e
    · rw [upd_ne hba] at e
      exact h.sub b x e
  · have ne : b ≠ a := fun e => n2 (List.mem_map.mpr ⟨(b, x), hq, e⟩)
    obtain ⟨h1, u, h2, h3⟩ := h.own b x (s.sub _ hq)
    exact ⟨by rw [upd_ne ne]; exact h1, u, h2, h3.mono sb⟩
theorem Hs.lst {a : Addr} {xs : List Dt} (h : Hs K B L H) (m : ML L a (.lst xs)) : ∃ vs, H a = some (.lst vs) ∧ IsL K B xs vs := by
  obtain ⟨_, o, h2, vs, e, h3⟩ := h.own a _ m
  exact ⟨vs, by rw [h2, e], h3⟩
end
end Z
namespace Z
open PySem PySem.Spec PyProof.Rows L2

/-! ### the weakest readings -/
section
variable (X : Cx)
def EW (e : Expr) : TE := fun σ H Q => ∀ (pins : List (Addr × Obj)) (s : Shared), Inv X pins σ H s → wpAny (model X.prog X.w) X.A (eval e X.env) (EP X pins σ Q) X.xe s
def TW (e : Expr) : TT := fun σ H Q => ∀ (pins : List (Addr × Obj)) (s : Shared), Inv X pins σ H s → wpAny (model X.prog X.w) X.A (isTrue e X.env (eval e X.env)) (TP X pins σ Q) X.xe s
def TWW (e : Expr) : TT := fun σ H Q => ∀ (whole : Sem Value) (pins : List (Addr × Obj)) (s : Shared), Inv X pins σ H s → wpAny (model X.prog X.w) X.A (isTrue e X.env whole) (TP X pins σ Q) X.xe s
def TSW (ifs : List Expr) : TT := fun σ H Q => ∀ (pins : List (Addr × Obj)) (s : Shared), Inv X pins σ H s →
    wpAny (model X.prog X.w) X.A (forIn ifs true fun c r => if r = true then do let ok ← isTrue c X.env (eval c X.env); pure (ForInStep.yield ok) else pure (ForInStep.yield r)) (TP X pins σ Q) X.xe s
def AW (es : List Expr) : TA := fun σ H Q => ∀ (pos : Pos) (pins : List (Addr × Obj)) (s : Shared), Inv X pins σ H s → wpAny (model X.prog X.w) X.A (spliced (backTo pos (starEach es X.env))) (AP X pins σ Q) X.xe s
def SW (st : Stmt) : TS := fun D σ H => ∀ (pins : List (Addr × Obj)) (s : Shared), Inv X pins σ H s → wpAny (model X.prog X.w) X.A (exec st X.env) (SP X pins D) X.xe s
def SSW (sts : List Stmt) : TS := fun D σ H => ∀ (pins : List (Addr × Obj)) (s : Shared), Inv X pins σ H s → wpAny (model X.prog X.w) X.A (execs sts X.env) (SP X pins D) X.xe s
def GW (tg : Expr) : TG := fun v σ H Q => ∀ (pins : List (Addr × Obj)) (s : Shared) (u : Value), Inv X pins σ H s → RelV v u →
    wpAny (model X.prog X.w) X.A (assign tg X.env u) (fun _ s' => ∃ σ' H', Inv X pins σ' H' s' ∧ Q σ' H') X.xe s
def IW (tg iter : Expr) : TI := fun σ H R => ∀ (pins : List (Addr × Obj)) (s : Shared), Inv X pins σ H s →
    wpAny (model X.prog X.w) X.A (eval iter X.env) (fun v s1 => wpAny (model X.prog X.w) X.A (pyIter v) (PIE X pins σ tg R) X.xe s1) X.xe s
end
section
variable {X : Cx} {e : Expr} {es : List Expr} {st : Stmt} {sts : List Stmt}
theorem pe_w : PE X e (EW X e) := ⟨fun pins s _ _ _ I h => h pins s I⟩
theorem pt_w : PT X e (TW X e) := ⟨fun pins s _ _ _ I h => h pins s I⟩
theorem pw_w : PW X e (TWW X e) := ⟨fun wh pins s _ _ _ I h => h wh pins s I⟩
theorem pts_w : PTs X es (TSW X es) := ⟨fun pins s _ _ _ I h => h pins s I⟩
theorem pa_w : PA X es (AW X es) := ⟨fun pos pins s _ _ _ I h => h pos pins s I⟩
theorem ps_w : PS X st (SW X st) := ⟨fun pins s _ _ _ I h => h pins s I⟩
theorem pss_w : PSs X sts (SSW X sts) := ⟨fun pins s _ _ _ I h => h pins s I⟩
theorem pg_w : PG X e (GW X e) := ⟨fun pins s _ _ _ u _ I r h => h pins s u I r⟩
theorem pi_w {tg : Expr} : PI X tg e (IW X tg e) := ⟨fun pins s _ _ _ I h => h pins s I⟩
theorem PE.to {t : TE} (h : PE X e t) {σ : L2.St} {H : Hp} {Q : VK} (q : t σ H Q) : EW X e σ H Q := fun pins s I => h.run pins s σ H Q I q
theorem PT.to {t : TT} (h : PT X e t) {σ : L2.St} {H : Hp} {Q : Bool → Hp → Prop} (q : t σ H Q) : TW X e σ H Q := fun pins s I => h.run pins s σ H Q I q
theorem PW.to {t : TT} (h : PW X e t) {σ : L2.St} {H : Hp} {Q : Bool → Hp → Prop} (q : t σ H Q) : TWW X e σ H Q := fun wh pins s I => h.run wh pins s σ H Q I q
theorem PTs.to {t : TT} (h : PTs X es t) {σ : L2.St} {H : Hp} {Q : Bool → Hp → Prop} (q : t σ H Q) : TSW X es σ H Q := fun pins s I => h.run pins s σ H Q I q
theorem PA.to {t : TA} (h : PA X es t) {σ : L2.St} {H : Hp} {Q : List V → Hp → Prop} (q : t σ H Q) : AW X es σ H Q := fun pos pins s I => h.run pos pins s σ H Q I q
theorem PS.to {t : TS} (h : PS X st t) {D : Ends} {σ : L2.St} {H : Hp} (q : t D σ H) : SW X st D σ H := fun pins s I => h.run pins s σ H D I q
theorem PSs.to {t : TS} (h : PSs X sts t) {D : Ends} {σ : L2.St} {H : Hp} (q : t D σ H) : SSW X sts D σ H := fun pins s I => h.run pins s σ H D I q
theorem PG.to {t : TG} (h : PG X e t) {v : V} {σ : L2.St} {H : Hp} {Q : L2.St → Hp → Prop} (q : t v σ H Q) : GW X e v σ H Q := fun pins s u I r => h.run pins s σ H v u Q I r q
theorem PI.to {tg : Expr} {t : TI} (h : PI X tg e t) {σ : L2.St} {H : Hp} {R : It → Hp → Prop} (q : t σ H R) : IW X tg e σ H R := fun pins s I => h.run pins s σ H R I q
end

/-! ### what comes of an expression, by data -/
abbrev DK := Dt → MS → Prop
structure DP (X : Cx) (e : Expr) (ds : DS) (L : MS) (P : DK) : Prop where
  run : ∀ σ H B, Sl X.K B ds σ → Hs X.K B L H → ∀ Q : VK,
  (∀ d L' v B2 H2, P d L' → Same B B2 → Hs X.K B2 L' H2 → Is X.K B2 d v → Q v H2) → EW X e σ H Q
structure DT (X : Cx) (e : Expr) (ds : DS) (L : MS) (P : Bool → MS → Prop) : Prop where
  run : ∀ σ H B, Sl X.K B ds σ → Hs X.K B L H → ∀ Q : Bool → Hp → Prop,
  (∀ b L' B2 H2, P b L' → Same B B2 → Hs X.K B2 L' H2 → Q b H2) → TW X e σ H Q
structure DTW (X : Cx) (e : Expr) (ds : DS) (L : MS) (P : Bool → MS → Prop) : Prop where
  run : ∀ σ H B, Sl X.K B ds σ → Hs X.K B L H → ∀ Q : Bool → Hp → Prop,
  (∀ b L' B2 H2, P b L' → Same B B2 → Hs X.K B2 L' H2 → Q b H2) → TWW X e σ H Q
structure DTs (X : Cx) (es : List Expr) (ds : DS) (L : MS) (P : Bool → MS → Prop) : Prop where
  run : ∀ σ H B, Sl X.K B ds σ → Hs X.K B L H → ∀ Q : Bool → Hp → Prop,
  (∀ b L' B2 H2, P b L' → Same B B2 → Hs X.K B2 L' H2 → Q b H2) → TSW X es σ H Q
structure DA (X : Cx) (es : List Expr) (ds : DS) (L : MS) (P : List Dt → MS → Prop) : Prop where
  run : ∀ σ H B, Sl X.K B ds σ → Hs X.K B L H → ∀ Q : List V → Hp → Prop,
  (∀ xs L' vs B2 H2, P xs L' → Same B B2 → Hs X.K B2 L' H2 → IsL X.K B2 xs vs → Q vs H2) → AW X es σ H Q
/-- what is wanted behind a statement -/
structure DEnds where
  nx : DS → MS → Prop
  rt : DK
  bk : DS → MS → Prop := fun _ _ => False
  ct : DS → MS → Prop := fun _ _ => False
structure Meets (K : PySem.W.Frag) (B : Hp) (D : DEnds) (E : Ends) : Prop where
  nx : ∀ ds L σ B2 H2, D.nx ds L → Same B B2 → Sl K B2 ds σ → Hs K B2 L H2 → E.nx σ H2
  rt : ∀ d L v B2 H2, D.rt d L → Same B B2 → Hs K B2 L H2 → Is K B2 d v → E.rt v H2
  bk : ∀ ds L σ B2 H2, D.bk ds L → Same B B2 → Sl K B2 ds σ → Hs K B2 L H2 → E.bk σ H2
  ct : ∀ ds L σ B2 H2, D.ct ds L → Same B B2 → Sl K B2 ds σ → Hs K B2 L H2 → E.ct σ H2
theorem Meets.mono {K : PySem.W.Frag} {B B' : Hp} {D : DEnds} {E : Ends} (m : Meets K B D E) (e : Same B B') : Meets K B' D E :=
  ⟨fun ds L σ B2 H2 a b => m.nx ds L σ B2 H2 a (e.trans b), fun d L v B2 H2 a b => m.rt d L v B2 H2 a (e.trans b), fun ds L σ B2 H2 a b => m.bk ds L σ B2 H2 a (e.trans b), fun ds L σ B2 H2 a b => m.ct ds L σ B2 H2 a (e.trans b)⟩
structure DSt (X : Cx) (st : Stmt) (ds : DS) (L : MS) (D : DEnds) : Prop where
  run : ∀ σ H B (E : Ends), Sl X.K B ds σ → Hs X.K B L H → Meets X.K B D E → SW X st E σ H
structure DSs (X : Cx) (sts : List Stmt) (ds : DS) (L : MS) (D : DEnds) : Prop where
  run : ∀ σ H B (E : Ends), Sl X.K B ds σ → Hs X.K B L H → Meets X.K B D E → SSW X sts E σ H

section
variable {X : Cx} {e a b : Expr} {es rest : List Expr} {ds : DS} {L : MS} {P : DK} {pos : Pos}
theorem DP.imp {P' : DK} (h : DP X e ds L P') (k : ∀ d L, P' d L → P d L) : DP X e ds L P := .mk fun σ H B hs hl Q q => h.run σ H B hs hl Q fun d L' v B2 H2 p => q d L' v B2 H2 (k d L' p)
theorem DT.imp {P P' : Bool → MS → Prop} (h : DT X e ds L P') (k : ∀ d L, P' d L → P d L) : DT X e ds L P := .mk fun σ H B hs hl Q q => h.run σ H B hs hl Q fun d L' B2 H2 p => q d L' B2 H2 (k d L' p)
theorem DP.fg {ds2 : DS} (f : Fg ds ds2) (h : DP X e ds2 L P) : DP X e ds L P := .mk fun σ H B hs hl Q q => h.run σ H B (hs.fg f) hl Q q

/-! ### names and constants -/
def Get (ds : DS) (i : Nat) (d : Dt) : Prop := ds[i]? = some (some d)
def SetAt (ds : DS) (i : Nat) (d : Dt) (ds' : DS) : Prop := ds.set i (some d) = ds'
theorem dp_var {x : Str} {i : Nat} {d : Dt} (hg : Get ds i d) (p : P d L) (hN : X.N[i]? = some x := by rfl) (hv : Vis X.env.scope x := by first | exact Or.inl rfl | exact Or.inr (Or.inl rfl) | exact Or.inr (Or.inr rfl))
    (hd : (x == ("__debug__" : Str)) = false := by decide) (hcd : (x == ("__classdict__" : Str)) = false := by decide) : DP X (.Name x pos) ds L P := .mk fun σ H B hs hl Q q => by
  obtain ⟨v, e1, e2⟩ := hs.2 i d hg
  exact PE.to (pe_var hN hv hd hcd) ⟨v, e1, q d L v B H p (Same.refl B) hl e2⟩
theorem dp_int {i : Int} {j : Nat} (p : P (.int i) L) : DP X (.Constant (.int i) j pos) ds L P := .mk fun σ H B hs hl Q q => PE.to pe_int (q _ L _ B H p (Same.refl B) hl rfl)
theorem dp_bl {i : Bool} {j : Nat} (p : P (.bl i) L) : DP X (.Constant (.bool i) j pos) ds L P := .mk fun σ H B hs hl Q q => PE.to pe_bl (q _ L _ B H p (Same.refl B) hl rfl)
theorem dp_non {j : Nat} (p : P .non L) : DP X (.Constant .none j pos) ds L P := .mk fun σ H B hs hl Q q => PE.to pe_non (q _ L _ B H p (Same.refl B) hl rfl)
theorem dp_str {x : Str} {j : Nat} (p : P (.str x.cps.toList) L) : DP X (.Constant (.str x) j pos) ds L P := .mk fun σ H B hs hl Q q => PE.to pe_str (q _ L _ B H p (Same.refl B) hl (by show V.str x = V.str ⟨x.cps.toList.toArray⟩; rfl))
theorem dp_txt {x : Str} {j : Nat} {l : List Nat} (e : x.cps.toList = l) (p : P (.str l) L) : DP X (.Constant (.str x) j pos) ds L P := dp_str (by rw [e]; exact p)
theorem dp_glob {x : Str} {v : V} {u : Value} {d : Dt} (p : P d L) (hm : X.mg x = some u) (r : RelV v u) (hd : ∀ B, Is X.K B d v) (hg : Gl X x := by rfl) (h : (x == ("__debug__" : Str)) = false := by decide) : DP X (.Name x pos) ds L P := .mk fun σ H B hs hl Q q =>
  PE.to (pe_glob hg hm r h) (q _ L _ B H p (Same.refl B) hl (hd B))
theorem dp_bltn {x : Str} {n : String} (p : P (.ty n) L) (hm : X.mg x = none) (hv : bootBuiltins x = some (.type n)) (hg : Gl X x := by rfl) (hn : x ≠ "__name__" := by decide) (h : (x == ("__debug__" : Str)) = false := by decide) : DP X (.Name x pos) ds L P := .mk fun σ H B hs hl Q q =>
  PE.to (pe_bltn (v := .ty n) hg hm hv rfl hn h) (q _ L _ B H p (Same.refl B) hl rfl)

/-! ### operators by values -/
abbrev K2 := Dt → Dt → MS → DK → Prop
def KR2 (K : PySem.W.Frag) (r : R2) (k : K2) : Prop := ∀ B H L x y v u (Q : VK) (P : DK), Hs K B L H → Is K B x v → Is K B y u → k x y L P →
  (∀ d L' z B2 H2, P d L' → Same B B2 → Hs K B2 L' H2 → Is K B2 d z → Q z H2) → r v u H Q
theorem dp_op2 {r : R2} {k : K2} {f : Value → Value → Sem Value} {e : Expr} (pe : PE X e (tOp r (EW X a) (EW X b))) (hk : KR2 X.K r k) (h : DP X a ds L fun x L1 => DP X b ds L1 fun y L2 => k x y L2 P) : DP X e ds L P := .mk fun σ H B hs hl Q q =>
  PE.to pe (h.run σ H B hs hl _ fun x L1 v B1 H1 hb e1 hl1 ix => hb.run σ H1 B1 (hs.mono e1) hl1 _ fun y L2 u B2 H2 hp e2 hl2 iy =>
    hk B2 H2 L2 x y v u Q P hl2 (ix.mono e2) iy hp fun d L' z B3 H3 p e3 => q d L' z B3 H3 p ((e1.trans e2).trans e3))
theorem dp_bin {op : Operator} {r : R2} {k : K2} (ho : OpR X (binaryOp op) r) (hk : KR2 X.K r k) (h : DP X a ds L fun x L1 => DP X b ds L1 fun y L2 => k x y L2 P) : DP X (.BinOp a op b pos) ds L P :=
  dp_op2 (f := binaryOp op) (pe_op ho pe_w pe_w) hk h
theorem dp_cmp {op : CmpOp} {r : R2} {k : K2} (ho : OpR X (compareOp op) r) (hk : KR2 X.K r k) (h : DP X a ds L fun x L1 => DP X b ds L1 fun y L2 => k x y L2 P) (hm : behindInMarks op b = false := by first | exact nomark _ | rfl) : DP X (.Compare a [op] [b] pos) ds L P :=
  dp_op2 (f := compareOp op) (pe_cmpR ho pe_w pe_w hm) hk h
/-- a comparison as a test -/
theorem dt_cmp {op : CmpOp} {r : R2} {k : K2} {P : Bool → MS → Prop} (ho : OpR X (compareOp op) r) (hk : KR2 X.K r k) (h : DP X a ds L fun x L1 => DP X b ds L1 fun y L2 => k x y L2 fun d L3 => ∃ c, d = .bl c ∧ P c L3) (hm : behindInMarks op b = false := by first | exact nomark _ | rfl) : DT X (.Compare a [op] [b] pos) ds L P := .mk fun σ H B hs hl Q q =>
  PT.to (pt_cmpR ho pe_w pe_w hm) (h.run σ H B hs hl _ fun x L1 v B1 H1 hb e1 hl1 ix => hb.run σ H1 B1 (hs.mono e1) hl1 _ fun y L2 u B2 H2 hp e2 hl2 iy =>
    hk B2 H2 L2 x y v u _ _ hl2 (ix.mono e2) iy hp fun d L' z B3 H3 ⟨c, ed, p⟩ e3 hl3 iz => by
      subst ed
      exact ⟨c, iz, q c L' B3 H3 p ((e1.trans e2).trans e3) hl3⟩)
/-- an expression whose value is a bool, as a test -/
theorem dt_val {P : Bool → MS → Prop} (h : DP X e ds L fun d L1 => ∃ c, d = .bl c ∧ P c L1) (he : ∀ whole, isTrue e X.env whole = (do let v ← whole; standAt e.pos; holding [v] (truthy v)) := by intro _; rfl) : DT X e ds L P := .mk fun σ H B hs hl Q q =>
  PT.to (pt_val pe_w he) (h.run σ H B hs hl _ fun d L' z B3 H3 ⟨c, ed, p⟩ e3 hl3 iz => by
    subst ed
    exact ⟨c, iz, q c L' B3 H3 p e3 hl3⟩)
/-! ### tests -/
section
variable {P : Bool → MS → Prop}
abbrev two (c : Bool) (A B : Prop) : Prop := (c = true → A) ∧ (c = false → B)
theorem twoT {A B : Prop} (h : A) : two true A B := ⟨fun _ => h, fun z => nomatch z⟩
theorem twoF {A B : Prop} (h : B) : two false A B := ⟨fun z => (nomatch z), fun _ => h⟩
theorem twoY {c : Bool} {A B : Prop} (hc : c = true) (h : A) : two c A B := ⟨fun _ => h, fun z => absurd (hc.symm.trans z) (by decide)⟩
theorem twoN {c : Bool} {A B : Prop} (hc : c = false) (h : B) : two c A B := ⟨fun z => absurd (z.symm.trans hc) (by decide), fun _ => h⟩
theorem dt_bool (h : DTW X e ds L P) : DT X e ds L P := .mk fun σ H B hs hl Q q pins s I => h.run σ H B hs hl Q q _ pins s I
theorem dtw_and1 (h : DT X a ds L P) : DTW X (.BoolOp .And [a] pos) ds L P := .mk fun σ H B hs hl Q q => PW.to (pw_and1 pt_w) (h.run σ H B hs hl Q q)
theorem dtw_or1 (h : DT X a ds L P) : DTW X (.BoolOp .Or [a] pos) ds L P := .mk fun σ H B hs hl Q q => PW.to (pw_or1 pt_w) (h.run σ H B hs hl Q q)
theorem dtw_and (h : DT X a ds L fun c L1 => two c (DTW X (.BoolOp .And (b :: rest) pos) ds L1 P) (P false L1)) : DTW X (.BoolOp .And (a :: b :: rest) pos) ds L P := .mk fun σ H B hs hl Q q =>
  PW.to (pw_and pt_w pw_w) (h.run σ H B hs hl _ fun c L1 B1 H1 p e1 hl1 => by
    cases c with
    | true => exact (p.1 rfl).run σ H1 B1 (hs.mono e1) hl1 Q fun c L2 B2 H2 p2 e2 => q c L2 B2 H2 p2 (e1.trans e2)
    | false => exact q false L1 B1 H1 (p.2 rfl) e1 hl1)
theorem dtw_or (h : DT X a ds L fun c L1 => two c (P true L1) (DTW X (.BoolOp .Or (b :: rest) pos) ds L1 P)) : DTW X (.BoolOp .Or (a :: b :: rest) pos) ds L P := .mk fun σ H B hs hl Q q =>
  PW.to (pw_or pt_w pw_w) (h.run σ H B hs hl _ fun c L1 B1 H1 p e1 hl1 => by
    cases c with
    | false => exact (p.2 rfl).run σ H1 B1 (hs.mono e1) hl1 Q fun c L2 B2 H2 p2 e2 => q c L2 B2 H2 p2 (e1.trans e2)
    | true => exact q true L1 B1 H1 (p.1 rfl) e1 hl1)
theorem dt_not (h : DT X a ds L fun c L1 => P (!c) L1) : DT X (.UnaryOp .Not a pos) ds L P := .mk fun σ H B hs hl Q q =>
  PT.to (pt_not pt_w) (h.run σ H B hs hl _ fun c L1 B1 H1 p e1 hl1 => q (!c) L1 B1 H1 p e1 hl1)
theorem dts_nil (p : P true L) : DTs X [] ds L P := .mk fun σ H B hs hl Q q => PTs.to pts_nil (q true L B H p (Same.refl B) hl)
theorem dts_one (h : DT X a ds L P) : DTs X [a] ds L P := .mk fun σ H B hs hl Q q => PTs.to (pts_one pt_w) (h.run σ H B hs hl Q q)
end
/-- and, or, not as values -/
theorem dp_one {op} (h : DP X a ds L P) : DP X (.BoolOp op [a] pos) ds L P := .mk fun σ H B hs hl Q q => PE.to (pe_one pe_w) (h.run σ H B hs hl Q q)
theorem dp_and (h : DP X a ds L fun x L1 => ∃ c, x = .bl c ∧ two c (DP X (.BoolOp .And (b :: rest) pos) ds L1 P) (P (.bl false) L1)) : DP X (.BoolOp .And (a :: b :: rest) pos) ds L P := .mk fun σ H B hs hl Q q =>
  PE.to (pe_and pe_w pe_w) (h.run σ H B hs hl _ fun x L1 v B1 H1 ⟨c, ex, p⟩ e1 hl1 iv => by
    subst ex
    refine ⟨c, iv, ?_⟩
    cases c with
    | true => exact (p.1 rfl).run σ H1 B1 (hs.mono e1) hl1 Q fun d L2 z B2 H2 p2 e2 => q d L2 z B2 H2 p2 (e1.trans e2)
    | false => exact q (.bl false) L1 _ B1 H1 (p.2 rfl) e1 hl1 rfl)
theorem dp_or (h : DP X a ds L fun x L1 => ∃ c, x = .bl c ∧ two c (P (.bl true) L1) (DP X (.BoolOp .Or (b :: rest) pos) ds L1 P)) : DP X (.BoolOp .Or (a :: b :: rest) pos) ds L P := .mk fun σ H B hs hl Q q =>
  PE.to (pe_or pe_w pe_w) (h.run σ H B hs hl _ fun x L1 v B1 H1 ⟨c, ex, p⟩ e1 hl1 iv => by
    subst ex
    refine ⟨c, iv, ?_⟩
    cases c with
    | false => exact (p.2 rfl).run σ H1 B1 (hs.mono e1) hl1 Q fun d L2 z B2 H2 p2 e2 => q d L2 z B2 H2 p2 (e1.trans e2)
    | true => exact q (.bl true) L1 _ B1 H1 (p.1 rfl) e1 hl1 rfl)
theorem dp_not (h : DP X a ds L fun x L1 => ∃ c, x = .bl c ∧ P (.bl (!c)) L1) : DP X (.UnaryOp .Not a pos) ds L P := .mk fun σ H B hs hl Q q =>
  PE.to (pe_not pe_w) (h.run σ H B hs hl _ fun x L1 v B1 H1 ⟨c, ex, p⟩ e1 hl1 iv => by
    subst ex
    exact ⟨c, iv, q (.bl (!c)) L1 _ B1 H1 p e1 hl1 rfl⟩)
theorem dp_if {c : Expr} (h : DT X c ds L fun t L1 => two t (DP X a ds L1 P) (DP X b ds L1 P)) : DP X (.IfExp c a b pos) ds L P := .mk fun σ H B hs hl Q q =>
  PE.to (pe_ifExp pt_w pe_w pe_w) (h.run σ H B hs hl _ fun t L1 B1 H1 p e1 hl1 => by
    cases t with
    | true => exact (p.1 rfl).run σ H1 B1 (hs.mono e1) hl1 Q fun d L2 z B2 H2 p2 e2 => q d L2 z B2 H2 p2 (e1.trans e2)
    | false => exact (p.2 rfl).run σ H1 B1 (hs.mono e1) hl1 Q fun d L2 z B2 H2 p2 e2 => q d L2 z B2 H2 p2 (e1.trans e2))
/-! ### argument lists, displays -/
theorem da_nil {P : List Dt → MS → Prop} (p : P [] L) : DA X [] ds L P := .mk fun σ H B hs hl Q q => PA.to pa_nil (q [] L [] B H p (Same.refl B) hl rfl)
theorem da_cons {P : List Dt → MS → Prop} (h : DP X e ds L fun x L1 => DA X es ds L1 fun xs L2 => P (x :: xs) L2) (hs' : starEach (e :: es) X.env = (false, eval e X.env) :: starEach es X.env := by rfl) : DA X (e :: es) ds L P := .mk fun σ H B hs hl Q q =>
  PA.to (pa_cons pe_w pa_w hs') (h.run σ H B hs hl _ fun x L1 v B1 H1 ha e1 hl1 ix => ha.run σ H1 B1 (hs.mono e1) hl1 _ fun xs L2 vs B2 H2 p e2 hl2 ixs =>
    q (x :: xs) L2 (v :: vs) B2 H2 p (e1.trans e2) hl2 ⟨v, vs, rfl, ix.mono e2, ixs⟩)
theorem dp_tup {x1} (h : DA X es ds L fun xs L1 => xs.length ≤ sizeLine ∧ P (.tup xs) L1) : DP X (.Tuple es x1 pos) ds L P := .mk fun σ H B hs hl Q q =>
  PE.to (pe_tup pa_w) (h.run σ H B hs hl _ fun xs L1 vs B1 H1 p e1 hl1 ixs => ⟨by rw [ixs.length]; exact p.1, fun a ha => by
    obtain ⟨sb, h2⟩ := hl1.new (o := .tup vs) ha
    exact q (.tup xs) L1 _ _ _ p.2 (e1.trans sb) h2 ⟨a, vs, rfl, upd_same, ixs.mono sb⟩⟩)
/-- a list that stays as it is -/
theorem dp_lst (h : DA X es ds L fun xs L1 => xs.length ≤ sizeLine ∧ P (.lst xs) L1) : DP X (.List es pos) ds L P := .mk fun σ H B hs hl Q q =>
  PE.to (pe_lst pa_w) (h.run σ H B hs hl _ fun xs L1 vs B1 H1 p e1 hl1 ixs => ⟨by rw [ixs.length]; exact p.1, fun a ha => by
    obtain ⟨sb, h2⟩ := hl1.new (o := .lst vs) ha
    exact q (.lst xs) L1 _ _ _ p.2 (e1.trans sb) h2 ⟨a, vs, rfl, upd_same, ixs.mono sb⟩⟩)
/-- a list that will change -/
theorem dp_lstM (h : DA X es ds L fun xs L1 => xs.length ≤ sizeLine ∧ ∀ a, P (.adr a) ((a, .lst xs) :: L1)) : DP X (.List es pos) ds L P := .mk fun σ H B hs hl Q q =>
  PE.to (pe_lst pa_w) (h.run σ H B hs hl _ fun xs L1 vs B1 H1 p e1 hl1 ixs => ⟨by rw [ixs.length]; exact p.1, fun a ha =>
    q (.adr a) _ _ B1 _ (p.2 a) e1 (hl1.newM ha ⟨vs, rfl, ixs⟩) rfl⟩)
/-- a name that holds a list that may change: it's frozen from here on -/
theorem dp_freeze {x : Str} {i : Nat} {a : Addr} {xs : List Dt} {L1 : MS} (hg : Get ds i (.adr a)) (hd : MDel L a (.lst xs) L1) (p : P (.lst xs) L1) (hN : X.N[i]? = some x := by rfl) (hv : Vis X.env.scope x := by first | exact Or.inl rfl | exact Or.inr (Or.inl rfl) | exact Or.inr (Or.inr rfl))
    (h0 : (x == ("__debug__" : Str)) = false := by decide) (hcd : (x == ("__classdict__" : Str)) = false := by decide) : DP X (.Name x pos) ds L P := .mk fun σ H B hs hl Q q => by
  obtain ⟨v, e1, e2⟩ := hs.2 i _ hg
  obtain ⟨vs, hv1, hv2⟩ := hl.lst hd.mem
  obtain ⟨sb, hl2⟩ := hl.freeze hd hv1
  exact PE.to (pe_var hN hv h0 hcd) ⟨v, e1, q _ _ v _ H p sb hl2 ⟨a, vs, e2, upd_same, hv2.mono sb⟩⟩
end

/-! ### statements -/
section
variable {X : Cx} {e a b : Expr} {st : Stmt} {rest sts : List Stmt} {ds : DS} {L : MS} {D : DEnds} {pos : Pos}
theorem dss_nil (h : D.nx ds L) : DSs X [] ds L D := .mk fun σ H B E hs hl m => PSs.to pss_nil (m.nx ds L σ B H h (Same.refl B) hs hl)
theorem dss_cons (h : DSt X st ds L { D with nx := fun ds' L' => DSs X rest ds' L' D }) : DSs X (st :: rest) ds L D := .mk fun σ H B E hs hl m =>
  PSs.to (pss_cons ps_w pss_w) (h.run σ H B { E with nx := SSW X rest E } hs hl ⟨fun ds' L' σ' B2 H2 h2 e2 hs2 hl2 => h2.run σ' H2 B2 E hs2 hl2 (m.mono e2), m.rt, m.bk, m.ct⟩)
theorem dss_one (h : DSt X st ds L D) : DSs X [st] ds L D := .mk fun σ H B E hs hl m => PSs.to (pss_one ps_w) (h.run σ H B E hs hl m)
theorem dss_fg {ds2 : DS} (f : Fg ds ds2) (h : DSs X sts ds2 L D) : DSs X sts ds L D := .mk fun σ H B E hs hl m => h.run σ H B E (hs.fg f) hl m
theorem dst_fg {ds2 : DS} (f : Fg ds ds2) (h : DSt X st ds2 L D) : DSt X st ds L D := .mk fun σ H B E hs hl m => h.run σ H B E (hs.fg f) hl m
theorem ds_never (h : False) : DSt X st ds L D := h.elim
theorem dss_never (h : False) : DSs X sts ds L D := h.elim
theorem ds_pass (h : D.nx ds L) : DSt X (.Pass pos) ds L D := .mk fun σ H B E hs hl m => PS.to ps_pass (m.nx ds L σ B H h (Same.refl B) hs hl)
theorem ds_break (h : D.bk ds L) : DSt X (.Break pos) ds L D := .mk fun σ H B E hs hl m => PS.to ps_break (m.bk ds L σ B H h (Same.refl B) hs hl)
theorem ds_continue (h : D.ct ds L) : DSt X (.Continue pos) ds L D := .mk fun σ H B E hs hl m => PS.to ps_continue (m.ct ds L σ B H h (Same.refl B) hs hl)
theorem ds_expr (h : DP X e ds L fun _ L1 => D.nx ds L1) (hw : swapsWith e none pos.line X.env = pure false := by rfl) : DSt X (.Expr e pos) ds L D := .mk fun σ H B E hs hl m =>
  PS.to (ps_expr pe_w hw) (h.run σ H B hs hl _ fun d L1 v B1 H1 p e1 hl1 _ => m.nx ds L1 σ B1 H1 p e1 (hs.mono e1) hl1)
theorem ds_ret (h : DP X e ds L D.rt) : DSt X (.Return (some e) pos) ds L D := .mk fun σ H B E hs hl m =>
  PS.to (ps_ret pe_w) (h.run σ H B hs hl _ fun d L1 v B1 H1 p e1 hl1 iv => m.rt d L1 v B1 H1 p e1 hl1 iv)
theorem ds_retN (h : D.rt .non L) : DSt X (.Return none pos) ds L D := .mk fun σ H B E hs hl m => PS.to ps_retN (m.rt .non L _ B H h (Same.refl B) hl rfl)
theorem ds_if {c : Expr} {s1 s2 : List Stmt} (h : DT X c ds L fun t L1 => two t (DSs X s1 ds L1 D) (DSs X s2 ds L1 D)) : DSt X (.If c s1 s2 pos) ds L D := .mk fun σ H B E hs hl m =>
  PS.to (ps_if pt_w pss_w pss_w) (h.run σ H B hs hl _ fun t L1 B1 H1 p e1 hl1 => by
    cases t with
    | true => exact (p.1 rfl).run σ H1 B1 E (hs.mono e1) hl1 (m.mono e1)
    | false => exact (p.2 rfl).run σ H1 B1 E (hs.mono e1) hl1 (m.mono e1))
/-- name = e -/
theorem ds_set {i : Nat} {x : Str} {pos' : Pos} {ds' : Dt → DS} (hset : ∀ d, SetAt ds i d (ds' d)) (h : DP X e ds L fun d L1 => D.nx (ds' d) L1) (hN : X.N.Nodup) (hi : X.N[i]? = some x := by rfl) (hx : Loc X.env.scope x := by first | exact .inl rfl | exact .inr rfl)
    (hw : swapsWith e (some (.Name x pos')) pos.line X.env = pure false := by rfl) (hf : X.fn x = true ∨ X.env.scope.names.lookup x = some .local := by first | exact .inl rfl | exact .inr rfl) : DSt X (.Assign [.Name x pos'] e pos) ds L D := .mk fun σ H B E hs hl m =>
  PS.to (ps_set hN hi hx pe_w hw hf) (h.run σ H B hs hl _ fun d L1 v B1 H1 p e1 hl1 iv => m.nx (ds' d) L1 _ B1 H1 p e1 (by
    rw [← hset d]
    exact (hs.mono e1).set i iv) hl1)
end

/-! ### targets, loops -/
section
variable {X : Cx} {tg iter e : Expr} {sts : List Stmt} {ds : DS} {L : MS} {D : DEnds} {pos : Pos}
/-- a target takes d -/
structure DG (X : Cx) (tg : Expr) (d : Dt) (ds : DS) (L : MS) (P : DS → MS → Prop) : Prop where
  run : ∀ σ H B v, Sl X.K B ds σ → Hs X.K B L H → Is X.K B d v → ∀ Q : L2.St → Hp → Prop,
  (∀ ds' L' σ' B2 H2, P ds' L' → Same B B2 → Sl X.K B2 ds' σ' → Hs X.K B2 L' H2 → Q σ' H2) → GW X tg v σ H Q
theorem dg_name {x : Str} {i : Nat} {d : Dt} {ds' : DS} {P : DS → MS → Prop} (hset : SetAt ds i d ds') (p : P ds' L) (hN : X.N.Nodup) (hi : X.N[i]? = some x := by rfl) (hx : Loc X.env.scope x := by first | exact .inl rfl | exact .inr rfl)
    (hf : X.fn x = true ∨ X.env.scope.names.lookup x = some .local := by first | exact .inl rfl | exact .inr rfl) : DG X (.Name x pos) d ds L P := .mk fun σ H B v hs hl iv Q q =>
  PG.to (pg_name hN hi hx hf) (q ds' L _ B H p (Same.refl B) (by
    rw [← hset]
    exact hs.set i iv) hl)
/-- several targets -/
structure DGs (X : Cx) (ts : List Expr) (xs : List Dt) (ds : DS) (L : MS) (P : DS → MS → Prop) : Prop where
  run : ∀ σ H B vs, Sl X.K B ds σ → Hs X.K B L H → IsL X.K B xs vs → ∀ Q : L2.St → Hp → Prop,
  (∀ ds' L' σ' B2 H2, P ds' L' → Same B B2 → Sl X.K B2 ds' σ' → Hs X.K B2 L' H2 → Q σ' H2) →
  ∀ (pins : List (Addr × Obj)) (s : Shared) (us : List Value), Inv X pins σ H s → Vals vs us → wpAny (model X.prog X.w) X.A (assignInOrder ((assignEach ts X.env).map (·.2)) us) (fun _ s' => ∃ σ' H', Inv X pins σ' H' s' ∧ Q σ' H') X.xe s
theorem dgs_nil {P : DS → MS → Prop} (p : P ds L) : DGs X [] [] ds L P := .mk fun σ H B vs hs hl iv Q q pins s us I r =>
  pgs_nil.run pins s σ H vs us Q I r ⟨iv, q ds L σ B H p (Same.refl B) hs hl⟩
theorem dgs_cons {es : List Expr} {x : Dt} {xs : List Dt} {P : DS → MS → Prop} (h : DG X e x ds L fun ds1 L1 => DGs X es xs ds1 L1 P) (hst : (assignEach (e :: es) X.env).map (·.2) = assign e X.env :: (assignEach es X.env).map (·.2) := by rfl) : DGs X (e :: es) (x :: xs) ds L P := .mk fun σ H B vs hs hl iv Q q pins s us I r => by
  obtain ⟨v, rs, rfl, i1, i2⟩ := iv
  cases r with
  | cons r rr =>
    rw [hst]
    refine assignInOrder_cons (thn (h.run σ H B v hs hl i1 (fun σ1 H1 => ∃ ds1 L1 B1, DGs X es xs ds1 L1 P ∧ Same B B1 ∧ Sl X.K B1 ds1 σ1 ∧ Hs X.K B1 L1 H1) (fun ds1 L1 σ1 B1 H1 p e1 hs1 hl1 => ⟨ds1, L1, B1, p, e1, hs1, hl1⟩) pins s _ I r) fun _ s1 h1 => ?_)
    obtain ⟨σ1, H1, I1, ds1, L1, B1, p, e1, hs1, hl1⟩ := h1
    exact p.run σ1 H1 B1 rs hs1 hl1 (i2.mono e1) Q (fun ds2 L2 σ2 B2 H2 p2 e2 => q ds2 L2 σ2 B2 H2 p2 (e1.trans e2)) pins s1 _ I1 rr
theorem dg_tup {es : List Expr} {k : Nat} {xs : List Dt} {P : DS → MS → Prop} (h : DGs X es xs ds L P) (hl' : (assignEach es X.env).length = xs.length := by rfl) (hc : X.calm = true := by rfl) (hst : (assignEach es X.env).findIdx? (·.1) = none := by rfl) : DG X (.Tuple es k pos) (.tup xs) ds L P := .mk fun σ H B v hs hl iv Q q => by
  obtain ⟨a, vs, rfl, ha, iv⟩ := iv
  refine PG.to (pg_tup (t := fun vs' σ H Q => ∀ (pins : List (Addr × Obj)) (s : Shared) (us : List Value), Inv X pins σ H s → Vals vs' us → wpAny (model X.prog X.w) X.A (assignInOrder ((assignEach es X.env).map (·.2)) us) (fun _ s' => ∃ σ' H', Inv X pins σ' H' s' ∧ Q σ' H') X.xe s) hc ⟨fun pins s σ H vs us Q I r h => h pins s us I r⟩ rfl hst) ?_
  exact ⟨a, vs, rfl, SqT.of (hl.sub _ _ ha), by rw [iv.length, hl'], h.run σ H B vs hs hl iv Q q⟩
/-- any = e -/
theorem ds_asg (h : DP X e ds L fun d L1 => DG X tg d ds L1 D.nx) (hw : swapsWithSole [tg] e pos.line X.env = pure false := by rfl) (hw2 : swappedStores [tg] e X.env = pure none := by rfl)
    (h1 : (assignEach [tg] X.env).map (·.2) = [assign tg X.env] := by rfl) : DSt X (.Assign [tg] e pos) ds L D := .mk fun σ H B E hs hl m =>
  PS.to (ps_asg pe_w pg_w hw hw2 h1) (h.run σ H B hs hl _ fun d L1 v B1 H1 p e1 hl1 iv => p.run σ H1 B1 v (hs.mono e1) hl1 iv _ fun ds2 L2 σ2 B2 H2 q e2 hs2 hl2 => m.nx ds2 L2 σ2 B2 H2 q (e1.trans e2) hs2 hl2)
/-- a, b = x, y -/
theorem ds_par {i j : Nat} {x y : Str} {a b : Expr} {px py pt : Pos} {kt k2 pt2} {ds' : Dt → Dt → DS} (hset : ∀ d d', (ds.set i (some d)).set j (some d') = ds' d d') (h : DA X [a, b] ds L fun xs L1 => ∃ d d', xs = [d, d'] ∧ D.nx (ds' d d') L1)
    (hN : X.N.Nodup) (hij : i ≠ j) (hi : X.N[i]? = some x := by rfl) (hj : X.N[j]? = some y := by rfl) (hx : X.env.scope.names.lookup x = some .local := by rfl) (hy : X.env.scope.names.lookup y = some .local := by rfl) (hc : X.calm = true := by rfl)
    (hw : swappedStores [.Tuple [.Name x px, .Name y py] kt pt] (.Tuple [a, b] k2 pt2) X.env = pure (some [x, y]) := by kernel_rfl)
    (hs' : swapsWithSole [.Tuple [.Name x px, .Name y py] kt pt] (.Tuple [a, b] k2 pt2) pos.line X.env = pure false := by kernel_rfl) :
    DSt X (.Assign [.Tuple [.Name x px, .Name y py] kt pt] (.Tuple [a, b] k2 pt2) pos) ds L D := .mk fun σ H B E hs hl m =>
  PS.to (ps_par hc hN hi hj hij hx hy pa_w hw hs') (h.run σ H B hs hl _ fun xs L1 vs B1 H1 ⟨d, d', ex, p⟩ e1 hl1 ixs => by
    subst ex
    obtain ⟨v, _, rfl, i1, u, _, rfl, i2, h0⟩ := ixs
    have h0 : _ = [] := h0
    subst h0
    refine ⟨v, u, rfl, m.nx (ds' d d') L1 _ B1 H1 p e1 ?_ hl1⟩
    rw [← hset d d']
    exact ((hs.mono e1).set i i1).set j i2)

/-- J yields the items xs, whatever else happens to what isn't frozen in B -/
def Yields (K : PySem.W.Frag) (B : Hp) (J : It) (xs : List Dt) : Prop := ∀ i B' H' L', Same B B' → Hs K B' L' H' →
  (∀ d, xs[i]? = some d → J.go i H' ∧ ∀ v H2, J.yld i H' v H2 → ∃ B2, Same B' B2 ∧ Hs K B2 L' H2 ∧ Is K B2 d v) ∧ (xs.length ≤ i → J.stop i H')
theorem Yields.mono {K : PySem.W.Frag} {B B1 : Hp} {J : It} {xs : List Dt} (h : Yields K B J xs) (e : Same B B1) : Yields K B1 J xs := fun i B' H' L' e' => h i B' H' L' (e.trans e')
structure DI (X : Cx) (tg iter : Expr) (ds : DS) (L : MS) (P : List Dt → MS → Prop) : Prop where
  run : ∀ σ H B, Sl X.K B ds σ → Hs X.K B L H → ∀ R : It → Hp → Prop,
  (∀ xs L' J B2 H2, P xs L' → Same B B2 → Hs X.K B2 L' H2 → Yields X.K B2 J xs → R J H2) → IW X tg iter σ H R
theorem ds_for (h : DI X tg iter ds L fun xs L1 => ∃ W : Nat → DS → MS → Prop, (∃ ds0, Fg ds ds0 ∧ W 0 ds0 L1) ∧ (∀ i d ds' L', xs[i]? = some d → W i ds' L' → DG X tg d ds' L' fun ds2 L2 =>
      DSs X sts ds2 L2 ⟨fun ds3 L3 => ∃ ds4, Fg ds3 ds4 ∧ W (i + 1) ds4 L3, D.rt, D.nx, fun ds3 L3 => ∃ ds4, Fg ds3 ds4 ∧ W (i + 1) ds4 L3⟩) ∧ ∀ ds' L', W xs.length ds' L' → D.nx ds' L')
    (hp : PassesOwn (model X.prog X.w) X.A X.env X.xe) (hc : X.calm = true := by rfl) (hf : ∀ x, foldedSetIterable iter X.env x = pure x := by intro _; rfl) : DSt X (.For tg iter sts [] pos) ds L D := .mk fun σ H B E hs hl m => by
  refine PS.to (ps_for hp hc pi_w pg_w pss_w hf) (h.run σ H B hs hl _ fun xs L1 J B1 H1 ⟨W, ⟨ds0, f0, h0⟩, hstep, hend⟩ e1 hl1 hy => ?_)
  refine ⟨fun i n σ' H' => i + n = xs.length ∧ ∃ ds' L' B', W i ds' L' ∧ Same B1 B' ∧ Sl X.K B' ds' σ' ∧ Hs X.K B' L' H', ⟨xs.length, Nat.zero_add _, ds0, L1, B1, h0, Same.refl B1, (hs.mono e1).fg f0, hl1⟩, ?_⟩
  rintro i n σ' H' ⟨hn, ds', L', B', w, e2, hs2, hl2⟩
  obtain ⟨y1, y2⟩ := hy i B' H' L' e2 hl2
  by_cases hi : i < xs.length
  · have hx : xs[i]? = some xs[i] := List.getElem?_eq_getElem hi
    obtain ⟨g1, g2⟩ := y1 _ hx
    refine .inr ⟨g1, fun σ3 H3 => ∃ ds3 L3 B3, (∃ ds4, Fg ds3 ds4 ∧ W (i + 1) ds4 L3) ∧ Same B1 B3 ∧ Sl X.K B3 ds3 σ3 ∧ Hs X.K B3 L3 H3, fun σ3 H3 hN => ?_, fun v H2 hv => ?_⟩
    · obtain ⟨ds3, L3, B3, ⟨ds4, f4, w4⟩, e3, hs3, hl3⟩ := hN
      exact ⟨n - 1, by omega, by omega, ds4, L3, B3, w4, e3, hs3.fg f4, hl3⟩
    · obtain ⟨B2, e3, hl3, iv⟩ := g2 v H2 hv
      refine (hstep i _ ds' L' hx w).run σ' H2 B2 v (hs2.mono e3) hl3 iv _ fun ds5 L5 σ5 B5 H5 p e5 hs5 hl5 => ?_
      have eB : Same B1 B5 := (e2.trans e3).trans e5
      refine p.run σ5 H5 B5 _ hs5 hl5 ⟨fun ds6 L6 σ6 B6 H6 w6 e6 hs6 hl6 => ⟨ds6, L6, B6, w6, eB.trans e6, hs6, hl6⟩, ?_, ?_, fun ds6 L6 σ6 B6 H6 w6 e6 hs6 hl6 => ⟨ds6, L6, B6, w6, eB.trans e6, hs6, hl6⟩⟩
      · exact fun d6 L6 v6 B6 H6 p6 e6 => m.rt d6 L6 v6 B6 H6 p6 ((e1.trans eB).trans e6)
      · exact fun ds6 L6 σ6 B6 H6 p6 e6 => m.nx ds6 L6 σ6 B6 H6 p6 ((e1.trans eB).trans e6)
  · have ei : i = xs.length := by omega
    refine .inl ⟨y2 (by omega), ?_⟩
    subst ei
    exact m.nx ds' L' σ' B' H' (hend ds' L' w) (e1.trans e2) hs2 hl2
/-- while -/
theorem ds_while {c : Expr} (W : Nat → DS → MS → Prop) (n0 : Nat) (h0 : ∃ ds0, Fg ds ds0 ∧ W n0 ds0 L) (hstep : ∀ n ds' L', W n ds' L' → DT X c ds' L' fun t L1 => two t
      (DSs X sts ds' L1 ⟨fun ds3 L3 => ∃ m ds4, m < n ∧ Fg ds3 ds4 ∧ W m ds4 L3, D.rt, D.nx, fun ds3 L3 => ∃ m ds4, m < n ∧ Fg ds3 ds4 ∧ W m ds4 L3⟩) (D.nx ds' L1))
    (hp : PassesOwn (model X.prog X.w) X.A X.env X.xe) : DSt X (.While c sts [] pos) ds L D := .mk fun σ H B E hs hl m => by
  obtain ⟨ds0, f0, h0⟩ := h0
  refine PS.to (ps_while hp pt_w pss_w) ?_
  refine ⟨fun n σ' H' => ∃ ds' L' B', W n ds' L' ∧ Same B B' ∧ Sl X.K B' ds' σ' ∧ Hs X.K B' L' H', ⟨n0, ds0, L, B, h0, Same.refl B, hs.fg f0, hl⟩, ?_⟩
  rintro n σ' H' ⟨ds', L', B', w, e2, hs2, hl2⟩
  refine (hstep n ds' L' w).run σ' H' B' hs2 hl2 _ fun t L1 B1 H1 p e1 hl1 => ?_
  cases t with
  | true =>
    refine ⟨fun σ3 H3 => ∃ ds3 L3 B3, (∃ m ds4, m < n ∧ Fg ds3 ds4 ∧ W m ds4 L3) ∧ Same B B3 ∧ Sl X.K B3 ds3 σ3 ∧ Hs X.K B3 L3 H3, fun σ3 H3 hN => ?_, ?_⟩
    · obtain ⟨ds3, L3, B3, ⟨k, ds4, hk, f4, w4⟩, e3, hs3, hl3⟩ := hN
      exact ⟨k, hk, ds4, L3, B3, w4, e3, hs3.fg f4, hl3⟩
    · have eB : Same B B1 := e2.trans e1
      refine (p.1 rfl).run σ' H1 B1 _ (hs2.mono e1) hl1 ⟨fun ds6 L6 σ6 B6 H6 w6 e6 hs6 hl6 => ⟨ds6, L6, B6, w6, eB.trans e6, hs6, hl6⟩, ?_, ?_, fun ds6 L6 σ6 B6 H6 w6 e6 hs6 hl6 => ⟨ds6, L6, B6, w6, eB.trans e6, hs6, hl6⟩⟩
      · exact fun d6 L6 v6 B6 H6 p6 e6 => m.rt d6 L6 v6 B6 H6 p6 (eB.trans e6)
      · exact fun ds6 L6 σ6 B6 H6 p6 e6 => m.nx ds6 L6 σ6 B6 H6 p6 (eB.trans e6)
  | false => exact m.nx ds' L1 σ' B1 H1 (p.2 rfl) (e2.trans e1) (hs2.mono e1) hl1
end
end Z
namespace PySem
open Sem (wp)
open Builtin Builtin.Str
set_option maxHeartbeats 1000000 in
theorem meets_enumerate_newB1 {v : Value} {o : Obj} {H : Heap → Prop} (B : Begins v o H) :
    Meets (Builtin.«enumerate.__new__» ⟨[.type "enumerate", v], []⟩) (fun _ R s => H s.heap ∧
      R (.ok (.ret (.ref (s.heap.push o).objs.size))) { s with heap := (s.heap.push o).push { cls := .type "enumerate", data := .fields #[.none, .bool false, .ref s.heap.objs.size, rawInt 0, .none, .none] } }) :=
  .of_wp fun prog w A R s h => by
    obtain ⟨hp, g, d, tk, os⟩ := s; obtain ⟨h1, h⟩ := h
    have hsub := sub_enumerate
    have q1 : ∀ {A' : Around} {E : Value → Shared → Prop} {Q : Value → Shared → Prop}, Q (.ref hp.objs.size) ⟨hp.push o, g, d, tk, os⟩ → wpAny (model prog w) A' (pyIter v) Q E ⟨hp, g, d, tk, os⟩ :=
      fun q => B.iter prog w _ _ ⟨hp, g, d, tk, os⟩ _ h1 q
    wp_walk using q1
    refine wpAny_stack_any fun st => wpAny_pure ?_
    split
    · rename_i c _ _ _ _ _
      cases (c == Value.type "enumerate")
      · wp_walk using q1
        exact ⟨_, rfl, h⟩
      · wp_walk using q1
        exact ⟨_, rfl, h⟩
    · wp_walk using q1
      exact ⟨_, rfl, h⟩
section
variable {prog : Program} {w : World} {A : Around} {E : Value → Shared → Prop} {s : Shared}
/-- enumerate(v): its two new cells -/
theorem enum_begins1 {v : Value} {o : Obj} {H : Heap → Prop} {Q : Value → Shared → Prop} (B : Begins v o H) (h1 : H s.heap)
    (h : ∀ h', IsEnum h' (s.heap.objs.size + 1) s.heap.objs.size 0 .none → h'.get? s.heap.objs.size = some o → h'.objs.size = s.heap.objs.size + 2 →
      (∀ b o, s.heap.get? b = some o → h'.get? b = some o) → Q (.ref (s.heap.objs.size + 1)) { s with heap := h' }) :
    wpAny (model prog w) A (call (.type "enumerate") [v]) Q E s := by
  refine callType_new F.called_enumerate (by decide) (F.typeCall_enumerate_1 _) (F.newCall_enumerate_1 _) (fun obj => F.args_object_init_2 obj _) F.entry_enumerate_new
    (meets_enumerate_newB1 B) ⟨h1, ?_⟩
  have hz : (s.heap.push o).objs.size = s.heap.objs.size + 1 := Heap.size_push ..
  show _ ∧ _
  rw [hz]
  have he : IsEnum ((s.heap.push o).push { cls := .type "enumerate", data := .fields #[.none, .bool false, .ref s.heap.objs.size, rawInt 0, .none, .none] }) (s.heap.objs.size + 1) s.heap.objs.size 0 .none := by
    have := Heap.get?_push_size (s.heap.push o) (o := { cls := .type "enumerate", data := .fields #[.none, .bool false, .ref s.heap.objs.size, rawInt 0, .none, .none] }) rfl
    rw [hz] at this; exact this
  refine ⟨⟨_, he, rfl⟩, h _ he (Heap.get?_push_of_some _ (Heap.get?_push_size _ B.free)) (by rw [Heap.size_push, hz]) fun b o x => Heap.get?_push_of_some _ (Heap.get?_push_of_some _ x)⟩
end
section
variable {prog : Program} {w : World} {A : Around} {E : Value → Shared → Prop} {s : Shared}
theorem wpAny_pyNext_enum_endX {e it : Addr} {i : Int} {old : Value} {Q : Option Value → Shared → Prop} (he : IsEnum s.heap e it i old)
    (hd : ∀ (Q : Value → Shared → Prop) (E : Value → Shared → Prop), (∀ h' e, Heap.ExtBut it s.heap h' → (∃ o, h'.get? e = some o ∧ o.cls = .type "StopIteration") → E (.ref e) { s with heap := h' }) → wpAny (model prog w) A.in1 (Builtin.SmallTypes.nextOf (.ref it)) Q E s)
    (hQ : ∀ h', Heap.ExtBut it s.heap h' → Q none { s with heap := h' }) : wpAny (model prog w) A (pyNext (.ref e)) Q E s := by
  have hT : s.TypeIs (.ref e) "enumerate" := ⟨_, he, rfl⟩
  unfold pyNext
  refine wpAny_bind (wpAny_attempt (wpAny_callSpecial?_slot (name := Str.ofString "__next__") hT F.slot_enumerate_next
    (wpAny_call_entry F.slot_enumerate_next hT F.entry_enumerate_next ?_ (F.args_enumerate_next_1 _))))
  show wpAny _ _ (field (.ref e) 2 >>= _) _ _ _
  refine wpAny_bind (wpAny_field he rfl (x := .ref it) rfl ?_)
  refine wpAny_bind (hd _ _ fun h' x he' hx' => ?_)
  obtain ⟨o, ho, hc⟩ := hx'
  refine wpAny_bind (wpAny_isInstance (T := "StopIteration") (b := true) ⟨o, ho, hc⟩ isSubtype_stop ?_)
  exact wpAny_pure (hQ _ he')
end
end PySem
namespace L2
open PySem PySem.Spec PyProof.Rows
/-- the tuple at a, each item in a new pair with its turn -/
def IteT (K : PySem.W.Frag) (a : Addr) : It :=
  ⟨fun i H => ∃ xs x, SqT K H a xs ∧ xs[i]? = some x, fun i H v H' => ∃ T x, v = .ref T ∧ H T = none ∧ H' = upd H T (.tup [.int (i : Nat), x]) ∧ ∀ xs, SqT K H a xs → xs[i]? = some x, fun i H => ∃ xs, SqT K H a xs ∧ xs.length ≤ i⟩
theorem SqT.rd {K : PySem.W.Frag} {X : Cx} {pins : List (Addr × Obj)} {σ : St} {H : Hp} {s : Shared} {a e : Addr} {xs : List V} (I : Inv X pins σ H s) (h : SqT X.K H a xs) (hb : X.base.get? e = none) (hn : H e = none) : e ≠ a := by
  rcases h with (h | ⟨o, h⟩) | ⟨o, its, n, hk, _⟩
  · exact fun z => by rw [← z, hn] at h; cases h
  · exact fun z => by rw [← z, hn] at h; cases h
  · intro z
    have q : X.base.get? a = some o := I.ok.mod.kin a o hk
    rw [← z, hb] at q
    cases q
theorem Fp.base {X : Cx} {pins : List (Addr × Obj)} {σ : St} {H : Hp} {s : Shared} {b : Addr} (I : Inv X pins σ H s) (h : FpOk X pins H b) : X.base.get? b = none := by
  obtain ⟨_, _, _, h4, _⟩ := h
  cases q : X.base.get? b with
  | none => rfl
  | some o =>
    rcases h4 with h4 | h4
    · exact absurd h4 (I.ok.noex b o q)
    · exact absurd (Nat.lt_of_lt_of_le (Heap.lt_size (I.ok.bs b o q).1) h4) (Nat.lt_irrefl _)
theorem turn_enumT {P : Program} {w : World} {K : PySem.W.Frag} {elts : List Expr} {kk : Nat} {tpos : Pos} (a e it : Addr) :
    Turn P w K (.Tuple elts kk tpos) (IteT K a) [e, it] e (fun i h => (∃ old, IsEnum h e it ((i : Nat) : Int) old) ∧ h.IsTupleIter it a i ∧ e ≠ it) where
  mem := by simp
  obj := fun i h st b hb => by
    obtain ⟨⟨old, he⟩, ⟨o, ho, hc, hd⟩, _⟩ := st
    have e' : b = e ∨ b = it := by simpa using hb
    rcases e' with z | z
    · rw [z]; exact ⟨_, he, fun v q => nomatch q⟩
    · rw [z]; exact ⟨o, ho, fun v q => by rw [hd] at q; cases q⟩
  keep := fun i h h' st k => let ⟨⟨old, he⟩, hi, hne⟩ := st; ⟨⟨old, k e (by simp) _ he⟩, hi.at fun o q => k it (by simp) o q, hne⟩
  item := by
    intro X hP hw hK hc i pins s σ H E I hf st hg
    subst hP hw hK
    obtain ⟨⟨old, he⟩, hit, hne⟩ := st
    obtain ⟨xs, x, hq, hx⟩ := hg
    obtain ⟨its, rv, p, hz⟩ := I.tuple hq
    obtain ⟨u, hu, ru⟩ := rv.get hx
    have hel : e < s.heap.objs.size := Heap.lt_size he
    have hil : it < s.heap.objs.size := by obtain ⟨_, q, _⟩ := hit; exact Heap.lt_size q
    have nea : e ≠ a := SqT.rd (K := X.K) I hq (Fp.base I (hf e (by simp))) (hf e (by simp)).1
    have nia : it ≠ a := SqT.rd (K := X.K) I hq (Fp.base I (hf it (by simp))) (hf it (by simp)).1
    have Dr := Draws.tuple (prog := X.prog) (w := X.w) (A := X.A.in1) (I.ok.hd hc) it a (Ne.symm nia) its.toArray
    refine wpAny_pyNext_enum_itemC Dr he ⟨hit, p⟩ (show i < its.toArray.size by simp; exact (List.getElem?_eq_some_iff.mp hu).1) hne (by simp [hne, nea]) fun y h' tk hy ho hst' hT hsz hk => ?_
    have ey : y = u := by
      have q : its.toArray[i]? = some u := by simpa using hu
      rw [q] at hy
      exact (Option.some.inj hy).symm
    subst ey
    obtain ⟨hit', _⟩ := hst'
    refine ⟨_, rfl, wpAny_letOwnedTupleGo_enum (s := { s with heap := h', toks := tk + 1 }) ho fun h'' he' sb => ?_⟩
    have hT2 : h''.get? s.heap.objs.size = some { cls := .type "tuple", data := .seq #[.int i tk, y] } := (sb.2 _ (Nat.ne_of_gt hel)).trans hT
    have new : ObjOk X.prog X.w (upd H s.heap.objs.size (.tup [.int (i : Nat), x])) h'' s.heap.objs.size (.tup [.int (i : Nat), x]) :=
      ⟨by show 2 ≤ sizeLine; decide, [.int i tk, y], .cons ⟨_, rfl⟩ (.cons ru .nil), ⟨_, hT2, rfl, _, rfl⟩⟩
    have I1 : Inv X pins σ (upd H s.heap.objs.size (.tup [.int (i : Nat), x])) { s with heap := h'', toks := tk + 1 } :=
      I.turnedNew (ch := [e, it]) (fun b ob hb q => (sb.2 b (fun z => hb (by simp [z]))).trans (hk b ob (fun z => hb (by simp [z])) (fun z => hb (by simp [z])) q)) hf (Nat.le_refl _) new
    refine ⟨.ref s.heap.objs.size, _, I1, rfl, ⟨_, x, rfl, I.hok.fresh (Nat.le_refl _), rfl, fun ys hy => by rw [I.tuple_inj hy hq]; exact hx⟩, ⟨⟨y, ?_⟩, hit'.at fun o q => (sb.2 it (Ne.symm hne)).trans q, hne⟩, fun b hb => ?_⟩
    · have e1 : ((i + 1 : Nat) : Int) = (i : Int) + 1 := by omega
      rw [e1]; exact he'
    · have hb' : b < s.heap.objs.size := by
        have e' : b = e ∨ b = it := by simpa using hb
        rcases e' with z | z
        · rw [z]; exact hel
        · rw [z]; exact hil
      rw [upd_ne (Nat.ne_of_lt hb')]
      exact (hf b hb).1
  done := by
    intro X hP hw hK hc i pins s σ H E I hf st hg
    subst hP hw hK
    obtain ⟨⟨old, he⟩, hit, hne⟩ := st
    obtain ⟨xs, hq, hx⟩ := hg
    obtain ⟨its, rv, p, hz⟩ := I.tuple hq
    obtain ⟨f0, f1, f2, f3, f4, f5⟩ := hf it (by simp)
    have nia : it ≠ a := SqT.rd (K := X.K) I hq (Fp.base I (hf it (by simp))) f0
    have hl := rv.length
    refine wpAny_pyNext_enum_endX he (fun Q E hE => wpAny_nextOf_tuple_end (I.ok.hd hc) hit p (by simp; omega) hE) fun h' eb => ⟨rfl, I.turned (t' := s.toks) (fun b o hb q => eb b o hb q) f0 f1 f3 f4 f5⟩
  self := fun A i s Q E st h => let ⟨⟨_, he⟩, _⟩ := st; wpAny_pyIter_enum he h
/-- a text, each sign in a new pair with its turn -/
def IteS (x : Str) : It :=
  ⟨fun i _ => i < x.cps.size, fun i H v H' => ∃ T c, v = .ref T ∧ H T = none ∧ H' = upd H T (.tup [.int (i : Nat), .str ⟨#[c]⟩]) ∧ x.cps[i]? = some c, fun i _ => x.cps.size ≤ i⟩
theorem turn_enumS {P : Program} {w : World} {K : PySem.W.Frag} {elts : List Expr} {kk : Nat} {tpos : Pos} (x : Str) (t : Tok) (e it : Addr) :
    Turn P w K (.Tuple elts kk tpos) (IteS x) [e, it] e (fun i h => i ≤ x.cps.size ∧ (∃ old, IsEnum h e it ((i : Nat) : Int) old) ∧ h.IsStrIter it (strIterType x) x t i ∧ e ≠ it) where
  mem := by simp
  obj := fun i h st b hb => by
    obtain ⟨_, ⟨old, he⟩, ⟨o, ho, hc, hd⟩, _⟩ := st
    have e' : b = e ∨ b = it := by simpa using hb
    rcases e' with z | z
    · rw [z]; exact ⟨_, he, fun v q => nomatch q⟩
    · rw [z]; exact ⟨o, ho, fun v q => by rw [hd] at q; cases q⟩
  keep := fun i h h' st k => by
    obtain ⟨hi, ⟨old, he⟩, ⟨o, ho, hc, hd⟩, hne⟩ := st
    exact ⟨hi, ⟨old, k e (by simp) _ he⟩, ⟨o, k it (by simp) o ho, hc, hd⟩, hne⟩
  item := by
    intro X hP hw hK hc i pins s σ H E I hf st hg
    subst hP hw hK
    obtain ⟨_, ⟨old, he⟩, hit, hne⟩ := st
    have hg : i < x.cps.size := hg
    have hel : e < s.heap.objs.size := Heap.lt_size he
    have hil : it < s.heap.objs.size := by obtain ⟨_, q, _⟩ := hit; exact Heap.lt_size q
    have Dr := Draws.text (prog := X.prog) (w := X.w) (A := X.A.in1) (I.ok.hd hc) it x t
    refine wpAny_pyNext_enum_itemC Dr he hit hg hne (by simp [hne]) fun y h' tk hy ho hit' hT hsz hk => ?_
    obtain ⟨c, u, hcx, rfl⟩ := hy
    refine ⟨_, rfl, wpAny_letOwnedTupleGo_enum (s := { s with heap := h', toks := tk + 1 }) ho fun h'' he' sb => ?_⟩
    have hT2 : h''.get? s.heap.objs.size = some { cls := .type "tuple", data := .seq #[.int i tk, .str ⟨#[c]⟩ u] } := (sb.2 _ (Nat.ne_of_gt hel)).trans hT
    have new : ObjOk X.prog X.w (upd H s.heap.objs.size (.tup [.int (i : Nat), .str ⟨#[c]⟩])) h'' s.heap.objs.size (.tup [.int (i : Nat), .str ⟨#[c]⟩]) :=
      ⟨by show 2 ≤ sizeLine; decide, [.int i tk, .str ⟨#[c]⟩ u], .cons ⟨_, rfl⟩ (.cons ⟨_, rfl⟩ .nil), ⟨_, hT2, rfl, _, rfl⟩⟩
    have I1 : Inv X pins σ (upd H s.heap.objs.size (.tup [.int (i : Nat), .str ⟨#[c]⟩])) { s with heap := h'', toks := tk + 1 } :=
      I.turnedNew (ch := [e, it]) (fun b ob hb q => (sb.2 b (fun z => hb (by simp [z]))).trans (hk b ob (fun z => hb (by simp [z])) (fun z => hb (by simp [z])) q)) hf (Nat.le_refl _) new
    obtain ⟨o1, ho1, hc1, hd1⟩ := hit'
    refine ⟨.ref s.heap.objs.size, _, I1, rfl, ⟨_, c, rfl, I.hok.fresh (Nat.le_refl _), rfl, hcx⟩, ⟨hg, ⟨.str ⟨#[c]⟩ u, ?_⟩, ⟨o1, (sb.2 it (Ne.symm hne)).trans ho1, hc1, hd1⟩, hne⟩, fun b hb => ?_⟩
    · have e1 : ((i + 1 : Nat) : Int) = (i : Int) + 1 := by omega
      rw [e1]; exact he'
    · have hb' : b < s.heap.objs.size := by
        have e' : b = e ∨ b = it := by simpa using hb
        rcases e' with z | z
        · rw [z]; exact hel
        · rw [z]; exact hil
      rw [upd_ne (Nat.ne_of_lt hb')]
      exact (hf b hb).1
  done := by
    intro X hP hw hK hc i pins s σ H E I hf st hg
    subst hP hw hK
    obtain ⟨hi, ⟨old, he⟩, hit, hne⟩ := st
    have hg : x.cps.size ≤ i := hg
    have ei : i = x.cps.size := by omega
    subst ei
    obtain ⟨f0, f1, f2, f3, f4, f5⟩ := hf it (by simp)
    have Dr := Draws.text (prog := X.prog) (w := X.w) (A := X.A.in1) (I.ok.hd hc) it x t
    exact wpAny_pyNext_enum_endX he (fun Q E hE => Dr.done s Q E hit hE) fun h' eb => ⟨rfl, I.turned (t' := s.toks) (fun b o hb q => eb b o hb q) f0 f1 f3 f4 f5⟩
  self := fun A i s Q E st h => let ⟨_, ⟨_, he⟩, _⟩ := st; wpAny_pyIter_enum he h
def iEnumT (K : PySem.W.Frag) (ta : TA) : TI := fun σ H R => ta σ H fun vs H1 => ∃ a xs, vs = [.ref a] ∧ SqT K H1 a xs ∧ R (IteT K a) H1
def iEnumS (ta : TA) : TI := fun σ H R => ta σ H fun vs H1 => ∃ x, vs = [.str x] ∧ R (IteS x) H1
theorem pi_enumT {X : Cx} {e : Expr} {ta : TA} {p pos tpos : Pos} {elts : List Expr} {kk : Nat} (hg : Gl X "enumerate") (hm : X.mg "enumerate" = none) (ha : PA X [e] ta) (hs : starEach [e] X.env = [(false, eval e X.env)] := by rfl) :
    PI X (.Tuple elts kk tpos) (.Call (.Name "enumerate" p) [e] [] pos) (iEnumT X.K ta) := by
  refine ⟨fun pins s σ H R I h => ?_⟩
  refine Call_ (ld_blt I hg hm boot_enumerate (PyProof.Rows.callWith_type1 (thn (ha.run pos pins s σ H _ I h) fun us s1 ⟨vs, H1, I1, r1, q1⟩ => ?_) hs rfl))
  obtain ⟨a, xs, ex, hq, q⟩ := q1
  subst ex
  cases r1 with
  | cons r rr =>
    cases rr
    cases r
    obtain ⟨its, rv, p', hz⟩ := I1.tuple hq
    refine enum_begins1 (begins_tuple a its.toArray) p' fun h' he hit hsz hk => wpAny_pyIter_enum he ?_
    have I2 : Inv X pins σ H1 { s1 with heap := h' } := I1.kept (t' := s1.toks) hk
    refine ⟨s1.heap.objs.size + 1, [s1.heap.objs.size + 1, s1.heap.objs.size], _, _, H1, rfl, I2, turn_enumT a (s1.heap.objs.size + 1) s1.heap.objs.size, ⟨⟨.none, he⟩, ⟨_, hit, rfl, rfl⟩, Nat.succ_ne_self _⟩, fun b hb => ?_, q⟩
    have e' : b = s1.heap.objs.size + 1 ∨ b = s1.heap.objs.size := by simpa using hb
    have hle : s1.heap.objs.size ≤ b := by
      rcases e' with z | z
      · rw [z]; exact Nat.le_add_right _ _
      · rw [z]; exact Nat.le_refl _
    exact I1.fpOk hle (I1.hok.fresh hle)
theorem pi_enumS {X : Cx} {e : Expr} {ta : TA} {p pos tpos : Pos} {elts : List Expr} {kk : Nat} (hg : Gl X "enumerate") (hm : X.mg "enumerate" = none) (ha : PA X [e] ta) (hs : starEach [e] X.env = [(false, eval e X.env)] := by rfl) :
    PI X (.Tuple elts kk tpos) (.Call (.Name "enumerate" p) [e] [] pos) (iEnumS ta) := by
  refine ⟨fun pins s σ H R I h => ?_⟩
  refine Call_ (ld_blt I hg hm boot_enumerate (PyProof.Rows.callWith_type1 (thn (ha.run pos pins s σ H _ I h) fun us s1 ⟨vs, H1, I1, r1, q1⟩ => ?_) hs rfl))
  obtain ⟨x, ex, q⟩ := q1
  subst ex
  cases r1 with
  | cons r rr =>
    cases rr
    obtain ⟨t, rfl⟩ := r
    refine enum_begins1 (begins_text x t) trivial fun h' he hit hsz hk => wpAny_pyIter_enum he ?_
    have I2 : Inv X pins σ H1 { s1 with heap := h' } := I1.kept (t' := s1.toks) hk
    refine ⟨s1.heap.objs.size + 1, [s1.heap.objs.size + 1, s1.heap.objs.size], _, _, H1, rfl, I2, turn_enumS x t (s1.heap.objs.size + 1) s1.heap.objs.size, ⟨Nat.zero_le _, ⟨.none, he⟩, ⟨_, hit, rfl, rfl⟩, Nat.succ_ne_self _⟩, fun b hb => ?_, q⟩
    have e' : b = s1.heap.objs.size + 1 ∨ b = s1.heap.objs.size := by simpa using hb
    have hle : s1.heap.objs.size ≤ b := by
      rcases e' with z | z
      · rw [z]; exact Nat.le_add_right _ _
      · rw [z]; exact Nat.le_refl _
    exact I1.fpOk hle (I1.hok.fresh hle)
end L2
namespace Z
open PySem PySem.Spec PyProof.Rows L2

theorem txt_len (l : List Nat) : (⟨l.toArray⟩ : Str).length = l.length := List.size_toArray ..
theorem txt_app (a b : List Nat) : (⟨a.toArray⟩ : Str) ++ ⟨b.toArray⟩ = ⟨(a ++ b).toArray⟩ := by
  show (⟨a.toArray ++ b.toArray⟩ : Str) = _
  simp
theorem txt_inj {a b : List Nat} : (⟨a.toArray⟩ : Str) = ⟨b.toArray⟩ ↔ a = b := by
  constructor
  · intro e
    have e : a.toArray = b.toArray := Str.mk.inj e
    simpa using congrArg Array.toList e
  · intro e
    rw [e]
theorem txt_cps (l : List Nat) : (⟨l.toArray⟩ : Str).cps.toList = l := rfl

/-! ### an operator by values: how its cases are shown -/
section
variable {K : PySem.W.Frag} {B H : Hp} {L : MS} {Q : VK} {P : DK}
/-- what a rule's reading is shown for -/
abbrev Fin (K : PySem.W.Frag) (B : Hp) (P : DK) (Q : VK) : Prop := ∀ d L' z B2 H2, P d L' → Same B B2 → Hs K B2 L' H2 → Is K B2 d z → Q z H2
theorem Fin.here {d : Dt} {z : V} (q : Fin K B P Q) (hl : Hs K B L H) (p : P d L) (i : Is K B d z) : Q z H := q d L z B H p (Same.refl B) hl i
theorem Fin.tup {xs : List Dt} {vs : List V} (q : Fin K B P Q) (hl : Hs K B L H) (p : P (.tup xs) L) (i : IsL K B xs vs) {a : Addr} (ha : H a = none) : Q (.ref a) (upd H a (.tup vs)) := by
  obtain ⟨sb, h2⟩ := hl.new (o := .tup vs) ha
  exact q (.tup xs) L _ _ _ p sb h2 ⟨a, vs, rfl, upd_same, i.mono sb⟩
theorem Fin.lst {xs : List Dt} {vs : List V} (q : Fin K B P Q) (hl : Hs K B L H) (p : P (.lst xs) L) (i : IsL K B xs vs) {a : Addr} (ha : H a = none) : Q (.ref a) (upd H a (.lst vs)) := by
  obtain ⟨sb, h2⟩ := hl.new (o := .lst vs) ha
  exact q (.lst xs) L _ _ _ p sb h2 ⟨a, vs, rfl, upd_same, i.mono sb⟩
theorem Fin.lstM {xs : List Dt} {vs : List V} (q : Fin K B P Q) (hl : Hs K B L H) (p : ∀ a, P (.adr a) ((a, .lst xs) :: L)) (i : IsL K B xs vs) {a : Addr} (ha : H a = none) : Q (.ref a) (upd H a (.lst vs)) :=
  q (.adr a) _ _ B _ (p a) (Same.refl B) (hl.newM ha ⟨vs, rfl, i⟩) rfl
end
theorem IsL.nil_iff {K : PySem.W.Frag} {B : Hp} {ds : List Dt} {vs : List V} (h : IsL K B ds vs) : vs = [] ↔ ds = [] := by
  have e := h.length
  cases ds <;> cases vs <;> simp_all

/-! ### + -/
def addK : K2 := fun x y L P => match x, y with
  | .int i, .int j => P (.int (i + j)) L
  | .str a, .str b => a.length + b.length ≤ sizeLine ∧ P (.str (a ++ b)) L
  | .tup a, .tup b => a.length + b.length ≤ sizeLine ∧ P (.tup (a ++ b)) L
  | .lst a, .lst b => a.length + b.length ≤ sizeLine ∧ P (.lst (a ++ b)) L
  | _, _ => False
section
variable {X : Cx} {K : PySem.W.Frag}
def rPlus (K : PySem.W.Frag) : R2 := fun x y H Q => rI0 (fun i j => .int (i + j)) x y H Q ∨ (∃ i j, x = .str i ∧ y = .str j ∧ i.length + j.length ≤ sizeLine ∧ Q (.str (i ++ j)) H) ∨ rCatA K x y H Q ∨ rCat x y H Q
theorem op_plus : OpR X (binaryOp .Add) (rPlus X.K) := op_add.or (op_add_str.or (op_catA.or op_cat))
theorem kr_plus : KR2 K (rPlus K) addK := by
  intro B H L x y v u Q P hl ix iy hk q
  cases x <;> cases y <;> try exact False.elim hk
  · exact .inl ⟨_, _, ix, iy, Fin.here q hl hk rfl⟩
  · refine .inr (.inl ⟨_, _, ix, iy, ?_, ?_⟩)
    · rw [txt_len, txt_len]
      exact hk.1
    · rw [txt_app]
      exact Fin.here q hl hk.2 rfl
  · obtain ⟨a, vs, rfl, ha, ia⟩ := ix
    obtain ⟨b, us, rfl, hb, ib⟩ := iy
    obtain ⟨hz, p⟩ := hk
    refine .inr (.inr (.inl ⟨a, b, vs, us, rfl, rfl, SqT.of (hl.sub _ _ ha), SqT.of (hl.sub _ _ hb), by rw [ia.length, ib.length]; exact hz, fun e => ?_, fun _ e => ?_, fun _ _ c hc => ?_⟩))
    · rw [ia.nil_iff.mp e] at p
      exact Fin.here q hl p ⟨b, us, rfl, hb, ib⟩
    · rw [ib.nil_iff.mp e, List.append_nil] at p
      exact Fin.here q hl p ⟨a, vs, rfl, ha, ia⟩
    · exact Fin.tup q hl p (ia.append ib) hc
  · obtain ⟨a, vs, rfl, ha, ia⟩ := ix
    obtain ⟨b, us, rfl, hb, ib⟩ := iy
    obtain ⟨hz, p⟩ := hk
    exact .inr (.inr (.inr ⟨a, b, vs, us, rfl, rfl, hl.sub _ _ ha, hl.sub _ _ hb, by rw [ia.length, ib.length]; exact hz, fun c hc => Fin.lst q hl p (ia.append ib) hc⟩))

/-! ### ints -/
def intK (C : Int → Int → Prop) (g : Int → Int → Dt) : K2 := fun x y L P => match x, y with
  | .int i, .int j => C i j ∧ P (g i j) L
  | _, _ => False
def intK0 (g : Int → Int → Dt) : K2 := fun x y L P => match x, y with
  | .int i, .int j => P (g i j) L
  | _, _ => False
theorem kr_int {C : Int → Int → Prop} {g : Int → Int → V} {g' : Int → Int → Dt} (hg : ∀ i j B, Is K B (g' i j) (g i j)) : KR2 K (rI C g) (intK C g') := by
  intro B H L x y v u Q P hl ix iy hk q
  cases x <;> cases y <;> try exact False.elim hk
  exact ⟨_, _, ix, iy, hk.1, Fin.here q hl hk.2 (hg _ _ _)⟩
theorem kr_int0 {g : Int → Int → V} {g' : Int → Int → Dt} (hg : ∀ i j B, Is K B (g' i j) (g i j)) : KR2 K (rI0 g) (intK0 g') := by
  intro B H L x y v u Q P hl ix iy hk q
  cases x <;> cases y <;> try exact False.elim hk
  exact ⟨_, _, ix, iy, Fin.here q hl hk (hg _ _ _)⟩
theorem KR2.of {r : R2} {k k' : K2} (h : KR2 K r k) (e : ∀ x y L P, k' x y L P → k x y L P) : KR2 K r k' := fun B H L x y v u Q P hl ix iy hk q => h B H L x y v u Q P hl ix iy (e x y L P hk) q
theorem szOk {n : Nat} (h : Nat.ble n sizeLine = true := by rfl) : n ≤ sizeLine := Nat.le_of_ble_eq_true h
def CMulA (i j : Int) : Prop := CMul i j ∨ CMulW i j
def subK : K2 := fun x y L P => match x, y with
  | .int i, .int j => P (.int (i - j)) L
  | _, _ => False
def mulK : K2 := fun x y L P => match x, y with
  | .int i, .int j => CMulA i j ∧ P (.int (i * j)) L
  | _, _ => False
def fdivK : K2 := fun x y L P => match x, y with
  | .int i, .int j => CDivW i j ∧ P (.int (i / j)) L
  | _, _ => False
def modK : K2 := fun x y L P => match x, y with
  | .int i, .int j => 0 < j ∧ P (.int (i % j)) L
  | _, _ => False
def powK : K2 := fun x y L P => match x, y with
  | .int i, .int j => CPow i j ∧ P (.int (i ^ j.toNat)) L
  | _, _ => False
def ltK : K2 := fun x y L P => match x, y with
  | .int i, .int j => P (.bl (decide (i < j))) L
  | _, _ => False
def leK : K2 := fun x y L P => match x, y with
  | .int i, .int j => P (.bl (decide (i ≤ j))) L
  | _, _ => False
def gtK : K2 := fun x y L P => match x, y with
  | .int i, .int j => P (.bl (decide (j < i))) L
  | _, _ => False
def geK : K2 := fun x y L P => match x, y with
  | .int i, .int j => P (.bl (decide (j ≤ i))) L
  | _, _ => False
variable {a b : Expr} {ds : DS} {L : MS} {P : DK} {pos : Pos} {PB : Bool → MS → Prop}
theorem dp_add (h : DP X a ds L fun x L1 => DP X b ds L1 fun y L2 => addK x y L2 P) : DP X (.BinOp a .Add b pos) ds L P := dp_bin op_plus kr_plus h
theorem dp_sub (h : DP X a ds L fun x L1 => DP X b ds L1 fun y L2 => subK x y L2 P) : DP X (.BinOp a .Sub b pos) ds L P := dp_bin op_sub (KR2.of (k := intK0 (fun i j => .int (i - j))) (kr_int0 (by intros; rfl)) (fun x y L P h => by cases x <;> cases y <;> first | exact h | exact h.elim)) h
theorem op_mulA : OpR X (binaryOp .Mult) (rI CMulA fun i j => .int (i * j)) := by
  intro pins s σ H x y v u Q I rx ry h
  obtain ⟨i, j, e1, e2, c, q⟩ := h
  rcases c with c | c
  · exact op_mul pins s σ H x y v u Q I rx ry ⟨i, j, e1, e2, c, q⟩
  · exact op_mulW pins s σ H x y v u Q I rx ry ⟨i, j, e1, e2, c, q⟩
theorem dp_mul (h : DP X a ds L fun x L1 => DP X b ds L1 fun y L2 => mulK x y L2 P) : DP X (.BinOp a .Mult b pos) ds L P := dp_bin op_mulA (KR2.of (k := intK CMulA (fun i j => .int (i * j))) (kr_int (by intros; rfl)) (fun x y L P h => by cases x <;> cases y <;> first | exact h | exact h.elim)) h
theorem dp_fdiv (h : DP X a ds L fun x L1 => DP X b ds L1 fun y L2 => fdivK x y L2 P) : DP X (.BinOp a .FloorDiv b pos) ds L P := dp_bin op_fdivW (KR2.of (k := intK CDivW (fun i j => .int (i / j))) (kr_int (by intros; rfl)) (fun x y L P h => by cases x <;> cases y <;> first | exact h | exact h.elim)) h
theorem dp_mod (h : DP X a ds L fun x L1 => DP X b ds L1 fun y L2 => modK x y L2 P) : DP X (.BinOp a .Mod b pos) ds L P := dp_bin op_mod (KR2.of (k := intK (fun _ j => 0 < j) (fun i j => .int (i % j))) (kr_int (by intros; rfl)) (fun x y L P h => by cases x <;> cases y <;> first | exact h | exact h.elim)) h
theorem dp_pow (h : DP X a ds L fun x L1 => DP X b ds L1 fun y L2 => powK x y L2 P) : DP X (.BinOp a .Pow b pos) ds L P := dp_bin op_pow (KR2.of (k := intK CPow (fun i j => .int (i ^ j.toNat))) (kr_int (by intros; rfl)) (fun x y L P h => by cases x <;> cases y <;> first | exact h | exact h.elim)) h
/-- a list so many times -/
def repK : K2 := fun x y L P => match x, y with
  | .lst xs, .int k => -(2 ^ 63) ≤ k ∧ k < 2 ^ 63 ∧ xs.length * k.toNat ≤ sizeLine ∧ P (.lst (List.replicate k.toNat xs).flatten) L
  | _, _ => False
theorem IsL.rep {B : Hp} {xs : List Dt} {vs : List V} (h : IsL K B xs vs) : ∀ k : Nat, IsL K B (List.replicate k xs).flatten (List.replicate k vs).flatten
  | 0 => rfl
  | k + 1 => by
    rw [List.replicate_succ, List.replicate_succ, List.flatten_cons, List.flatten_cons]
    exact h.append (IsL.rep h k)
theorem kr_rep : KR2 K rRep repK := by
  intro B H L x y v u Q P hl ix iy hk q
  cases x <;> cases y <;> try exact False.elim hk
  obtain ⟨a, vs, rfl, ha, ia⟩ := ix
  obtain ⟨h1, h2, h3, p⟩ := hk
  exact ⟨a, _, vs, rfl, iy, hl.sub _ _ ha, h1, h2, by rw [ia.length]; exact h3, fun c hc => Fin.lst q hl p (ia.rep _) hc⟩
theorem dp_rep (h : DP X a ds L fun x L1 => DP X b ds L1 fun y L2 => repK x y L2 P) : DP X (.BinOp a .Mult b pos) ds L P := dp_bin op_rep kr_rep h
/-- comparisons of ints -/
theorem dt_lt (h : DP X a ds L fun x L1 => DP X b ds L1 fun y L2 => ltK x y L2 fun d L3 => ∃ c, d = .bl c ∧ PB c L3) : DT X (.Compare a [.Lt] [b] pos) ds L PB := dt_cmp op_lt (KR2.of (k := intK0 (fun i j => .bl (decide (i < j)))) (kr_int0 (by intros; rfl)) (fun x y L P h => by cases x <;> cases y <;> first | exact h | exact h.elim)) h
theorem dt_le (h : DP X a ds L fun x L1 => DP X b ds L1 fun y L2 => leK x y L2 fun d L3 => ∃ c, d = .bl c ∧ PB c L3) : DT X (.Compare a [.LtE] [b] pos) ds L PB := dt_cmp op_le (KR2.of (k := intK0 (fun i j => .bl (decide (i ≤ j)))) (kr_int0 (by intros; rfl)) (fun x y L P h => by cases x <;> cases y <;> first | exact h | exact h.elim)) h
theorem dt_gt (h : DP X a ds L fun x L1 => DP X b ds L1 fun y L2 => gtK x y L2 fun d L3 => ∃ c, d = .bl c ∧ PB c L3) : DT X (.Compare a [.Gt] [b] pos) ds L PB := dt_cmp op_gt (KR2.of (k := intK0 (fun i j => .bl (decide (j < i)))) (kr_int0 (by intros; rfl)) (fun x y L P h => by cases x <;> cases y <;> first | exact h | exact h.elim)) h
theorem dt_ge (h : DP X a ds L fun x L1 => DP X b ds L1 fun y L2 => geK x y L2 fun d L3 => ∃ c, d = .bl c ∧ PB c L3) : DT X (.Compare a [.GtE] [b] pos) ds L PB := dt_cmp op_ge (KR2.of (k := intK0 (fun i j => .bl (decide (j ≤ i)))) (kr_int0 (by intros; rfl)) (fun x y L P h => by cases x <;> cases y <;> first | exact h | exact h.elim)) h
theorem dp_lt (h : DP X a ds L fun x L1 => DP X b ds L1 fun y L2 => ltK x y L2 P) : DP X (.Compare a [.Lt] [b] pos) ds L P := dp_cmp op_lt (KR2.of (k := intK0 (fun i j => .bl (decide (i < j)))) (kr_int0 (by intros; rfl)) (fun x y L P h => by cases x <;> cases y <;> first | exact h | exact h.elim)) h
theorem dp_le (h : DP X a ds L fun x L1 => DP X b ds L1 fun y L2 => leK x y L2 P) : DP X (.Compare a [.LtE] [b] pos) ds L P := dp_cmp op_le (KR2.of (k := intK0 (fun i j => .bl (decide (i ≤ j)))) (kr_int0 (by intros; rfl)) (fun x y L P h => by cases x <;> cases y <;> first | exact h | exact h.elim)) h
theorem dp_gt (h : DP X a ds L fun x L1 => DP X b ds L1 fun y L2 => gtK x y L2 P) : DP X (.Compare a [.Gt] [b] pos) ds L P := dp_cmp op_gt (KR2.of (k := intK0 (fun i j => .bl (decide (j < i)))) (kr_int0 (by intros; rfl)) (fun x y L P h => by cases x <;> cases y <;> first | exact h | exact h.elim)) h
theorem dp_ge (h : DP X a ds L fun x L1 => DP X b ds L1 fun y L2 => geK x y L2 P) : DP X (.Compare a [.GtE] [b] pos) ds L P := dp_cmp op_ge (KR2.of (k := intK0 (fun i j => .bl (decide (j ≤ i)))) (kr_int0 (by intros; rfl)) (fun x y L P h => by cases x <;> cases y <;> first | exact h | exact h.elim)) h
/-- a <= b <= c of ints, as a test -/
theorem dt_chain_le {c : Expr} (h : DP X a ds L fun x L1 => DP X b ds L1 fun y L2 => ∃ i j, x = .int i ∧ y = .int j ∧ two (decide (i ≤ j)) (DP X c ds L2 fun z L3 => ∃ k, z = .int k ∧ PB (decide (j ≤ k)) L3) (PB false L2)) (hm : lastMarks [CmpOp.LtE, CmpOp.LtE] [b, c] = false := by with_unfolding_all rfl) : DT X (.Compare a [.LtE, .LtE] [b, c] pos) ds L PB := .mk fun σ H B hs hl Q q =>
  PT.to (pt_chain op_le op_le pe_w pe_w pe_w hm) (h.run σ H B hs hl _ fun x L1 v B1 H1 hb e1 hl1 ix => hb.run σ H1 B1 (hs.mono e1) hl1 _ fun y L2 u B2 H2 hp e2 hl2 iy => by
    obtain ⟨i, j, rfl, rfl, p⟩ := hp
    refine ⟨i, j, ix.mono e2, iy, decide (i ≤ j), rfl, ?_⟩
    cases e : decide (i ≤ j) with
    | true =>
      rw [e] at p
      refine (p.1 rfl).run σ H2 B2 ((hs.mono e1).mono e2) hl2 _ fun z L3 w B3 H3 hp3 e3 hl3 iz => ?_
      obtain ⟨k, rfl, p3⟩ := hp3
      exact ⟨j, k, by rw [show u = V.int j from iy], iz, _, rfl, q _ L3 B3 H3 p3 ((e1.trans e2).trans e3) hl3⟩
    | false =>
      rw [e] at p
      exact ⟨false, rfl, q _ L2 B2 H2 (p.2 rfl) (e1.trans e2) hl2⟩)

/-! ### == of ints, texts, bools, None -/
def scK (g : Bool → Bool) : K2 := fun x y L P => match x, y with
  | .int i, .int j => P (.bl (g (decide (i = j)))) L
  | .str a, .str b => P (.bl (g (decide (a = b)))) L
  | .bl a, .bl b => P (.bl (g (decide (a = b)))) L
  | .non, .non => P (.bl (g true)) L
  | _, _ => False
theorem kr_eq : KR2 K rEq (scK id) := by
  intro B H L x y v u Q P hl ix iy hk q
  cases x <;> cases y <;> try exact False.elim hk
  · obtain rfl : v = _ := ix
    obtain rfl : u = _ := iy
    exact ⟨rfl, Fin.here q hl hk rfl⟩
  · obtain rfl : v = _ := ix
    obtain rfl : u = _ := iy
    refine ⟨rfl, Fin.here q hl hk ?_⟩
    show V.bl _ = V.bl _
    rw [dec_bl, ← Bool.beq_eq_decide_eq]
    rfl
  · obtain rfl : v = _ := ix
    obtain rfl : u = _ := iy
    refine ⟨rfl, Fin.here q hl hk ?_⟩
    show V.bl _ = V.bl _
    rw [dec_int]
    rfl
  · obtain rfl : v = _ := ix
    obtain rfl : u = _ := iy
    refine ⟨rfl, Fin.here q hl hk ?_⟩
    show V.bl _ = V.bl (decide _)
    congr 1
    exact decide_eq_decide.mpr ⟨fun e => txt_inj.mp (V.str.inj e), fun e => by rw [e]⟩
theorem kr_ne : KR2 K rNe (scK not) := by
  intro B H L x y v u Q P hl ix iy hk q
  cases x <;> cases y <;> try exact False.elim hk
  · obtain rfl : v = _ := ix
    obtain rfl : u = _ := iy
    exact ⟨rfl, Fin.here q hl hk rfl⟩
  · obtain rfl : v = _ := ix
    obtain rfl : u = _ := iy
    refine ⟨rfl, Fin.here q hl hk ?_⟩
    show V.bl _ = V.bl _
    rw [dec_bl, ← Bool.beq_eq_decide_eq]
  · obtain rfl : v = _ := ix
    obtain rfl : u = _ := iy
    refine ⟨rfl, Fin.here q hl hk ?_⟩
    show V.bl _ = V.bl _
    rw [dec_int]
    rfl
  · obtain rfl : v = _ := ix
    obtain rfl : u = _ := iy
    refine ⟨rfl, Fin.here q hl hk ?_⟩
    show V.bl _ = V.bl (!decide _)
    congr 2
    exact decide_eq_decide.mpr ⟨fun e => txt_inj.mp (V.str.inj e), fun e => by rw [e]⟩
theorem dt_eq (h : DP X a ds L fun x L1 => DP X b ds L1 fun y L2 => scK id x y L2 fun d L3 => ∃ c, d = .bl c ∧ PB c L3) : DT X (.Compare a [.Eq] [b] pos) ds L PB := dt_cmp op_eq kr_eq h
theorem dt_ne (h : DP X a ds L fun x L1 => DP X b ds L1 fun y L2 => scK not x y L2 fun d L3 => ∃ c, d = .bl c ∧ PB c L3) : DT X (.Compare a [.NotEq] [b] pos) ds L PB := dt_cmp op_ne kr_ne h
theorem dp_eq (h : DP X a ds L fun x L1 => DP X b ds L1 fun y L2 => scK id x y L2 P) : DP X (.Compare a [.Eq] [b] pos) ds L P := dp_cmp op_eq kr_eq h
theorem dp_ne (h : DP X a ds L fun x L1 => DP X b ds L1 fun y L2 => scK not x y L2 P) : DP X (.Compare a [.NotEq] [b] pos) ds L P := dp_cmp op_ne kr_ne h

/-! ### is None -/
def isNon : Dt → Bool
  | .non => true
  | _ => false
theorem dt_isN {k : Nat} {p2 : Pos} (h : DP X a ds L fun x L1 => PB (isNon x) L1) : DT X (.Compare a [.Is] [.Constant .none k p2] pos) ds L PB := .mk fun σ H B hs hl Q q =>
  PT.to (pt_cmp (pc_isN pe_w) (nomark _)) (h.run σ H B hs hl _ fun x L1 v B1 H1 p e1 hl1 ix => ⟨_, rfl, by
    have e : decide (v = V.non) = isNon x := by
      cases x <;> first
        | (obtain rfl : v = _ := ix; rfl)
        | (obtain ⟨_, _, rfl, _⟩ := ix; rfl)
        | (obtain ⟨_, _, _, rfl, _⟩ := ix; rfl)
    rw [e]
    exact q _ L1 B1 H1 p e1 hl1⟩)
theorem dt_notN {k : Nat} {p2 : Pos} (h : DP X a ds L fun x L1 => PB (!isNon x) L1) : DT X (.Compare a [.IsNot] [.Constant .none k p2] pos) ds L PB := .mk fun σ H B hs hl Q q =>
  PT.to (pt_cmp (pc_notN pe_w) (nomark _)) (h.run σ H B hs hl _ fun x L1 v B1 H1 p e1 hl1 ix => ⟨_, rfl, by
    have e : (!decide (v = V.non)) = !isNon x := by
      cases x <;> first
        | (obtain rfl : v = _ := ix; rfl)
        | (obtain ⟨_, _, rfl, _⟩ := ix; rfl)
        | (obtain ⟨_, _, _, rfl, _⟩ := ix; rfl)
    rw [e]
    exact q _ L1 B1 H1 p e1 hl1⟩)

/-! ### one sign in a text -/
def inSK (g : Bool → Bool) : K2 := fun x y L P => match x, y with
  | .str [c], .str l => P (.bl (g (decide (c ∈ l)))) L
  | _, _ => False
theorem kr_inS : KR2 K (fun x y H Q => ∃ (c : Nat) (z : Str), x = .str ⟨#[c]⟩ ∧ y = .str z ∧ Q (.bl (decide (c ∈ z.cps.toList))) H) (inSK id) := by
  intro B H L x y v u Q P hl ix iy hk q
  unfold inSK at hk
  split at hk
  · exact ⟨_, _, ix, iy, Fin.here q hl hk rfl⟩
  · exact hk.elim
theorem kr_notInS : KR2 K (fun x y H Q => ∃ (c : Nat) (z : Str), x = .str ⟨#[c]⟩ ∧ y = .str z ∧ Q (.bl (!decide (c ∈ z.cps.toList))) H) (inSK not) := by
  intro B H L x y v u Q P hl ix iy hk q
  unfold inSK at hk
  split at hk
  · exact ⟨_, _, ix, iy, Fin.here q hl hk rfl⟩
  · exact hk.elim
theorem dt_inS (h : DP X a ds L fun x L1 => DP X b ds L1 fun y L2 => inSK id x y L2 fun d L3 => ∃ c, d = .bl c ∧ PB c L3) (hm : behindInMarks .In b = false := by rfl) : DT X (.Compare a [.In] [b] pos) ds L PB := dt_cmp op_in_sign kr_inS h hm
theorem dt_notInS (h : DP X a ds L fun x L1 => DP X b ds L1 fun y L2 => inSK not x y L2 fun d L3 => ∃ c, d = .bl c ∧ PB c L3) (hm : behindInMarks .NotIn b = false := by rfl) : DT X (.Compare a [.NotIn] [b] pos) ds L PB := dt_cmp op_notIn_sign kr_notInS h hm

/-! ### subscripts -/
theorem atI_is {K : PySem.W.Frag} {B : Hp} {xs : List Dt} {vs : List V} {i : Int} {d : Dt} (h : IsL K B xs vs) (e : atI xs i = some d) : ∃ v, atI vs i = some v ∧ Is K B d v := by
  unfold atI at e ⊢
  rw [h.length]
  cases hn : ixN xs.length i with
  | none => rw [hn] at e; cases e
  | some j =>
    rw [hn] at e
    exact h.get e
def ixK : K2 := fun x y L P => match x, y with
  | .lst xs, .int i => ∃ d, atI xs i = some d ∧ P d L
  | .frl xs, .int i => ∃ d, atI xs i = some d ∧ P d L
  | .tup xs, .int i => ∃ d, atI xs i = some d ∧ P d L
  | .str l, .int i => l.length ≤ sizeLine ∧ ∃ c, atI l i = some c ∧ P (.str [c]) L
  | .adr a, .int i => ∃ xs, ML L a (.lst xs) ∧ ∃ d, atI xs i = some d ∧ P d L
  | _, _ => False
theorem kr_ix : KR2 K (rIx K) ixK := by
  intro B H L x y v u Q P hl ix iy hk q
  cases x <;> cases y <;> try exact False.elim hk
  · obtain ⟨hz, c, e, p⟩ := hk
    exact .inr (.inr ⟨_, _, c, ix, iy, by rw [txt_len]; exact hz, e, Fin.here q hl p rfl⟩)
  · obtain ⟨a, vs, rfl, ha, ia⟩ := ix
    obtain ⟨d, e, p⟩ := hk
    obtain ⟨w, e2, iw⟩ := atI_is ia e
    exact .inr (.inl ⟨a, vs, _, w, rfl, iy, SqT.of (hl.sub _ _ ha), e2, Fin.here q hl p iw⟩)
  · obtain ⟨a, vs, rfl, ha, ia⟩ := ix
    obtain ⟨d, e, p⟩ := hk
    obtain ⟨w, e2, iw⟩ := atI_is ia e
    exact .inl ⟨a, vs, _, w, rfl, iy, SqL.of (hl.sub _ _ ha), e2, Fin.here q hl p iw⟩
  · obtain ⟨a, vs, rfl, ha, ia⟩ := ix
    obtain ⟨d, e, p⟩ := hk
    obtain ⟨w, e2, iw⟩ := atI_is ia e
    exact .inl ⟨a, vs, _, w, rfl, iy, hl.sub.seq ha, e2, Fin.here q hl p iw⟩
  · obtain ⟨xs, hm, d, e, p⟩ := hk
    obtain ⟨vs, ha, ia⟩ := hl.lst hm
    obtain ⟨w, e2, iw⟩ := atI_is ia e
    exact .inl ⟨_, vs, _, w, ix, iy, SqL.of ha, e2, Fin.here q hl p iw⟩
theorem dp_ix (h : DP X a ds L fun x L1 => DP X b ds L1 fun y L2 => ixK x y L2 P) (hs : PlainIx b := by intro _ _; rfl) : DP X (.Subscript a b pos) ds L P := dp_op2 (f := getItem) (pe_ix ix_seq pe_w pe_w hs) kr_ix h

/-! ### slices -/
def cutL {α : Type} (xs : List α) (lo hi : Option Int) : List α := (xs.drop (HT.sIx xs.length 0 lo)).take (HT.sIx xs.length xs.length hi - HT.sIx xs.length 0 lo)
theorem cut_is {B : Hp} {xs : List Dt} {vs : List V} (h : IsL K B xs vs) (lo hi : Option Int) : IsL K B (cutL xs lo hi) (cutV vs lo hi) := by
  unfold cutL cutV
  rw [h.length]
  exact (h.drop _).take _
def DO (X : Cx) (e : Option Expr) (ds : DS) (L : MS) (P : Option Int → MS → Prop) : Prop := match e with
  | none => P none L
  | some e => DP X e ds L fun x L1 => ∃ i, x = .int i ∧ P (some i) L1
def slK : Dt → Option Int → Option Int → MS → DK → Prop := fun x lo hi L P => match x with
  | .lst xs => P (.lst (cutL xs lo hi)) L
  | .tup xs => P (.tup (cutL xs lo hi)) L
  | .str l => l.length ≤ sizeLine ∧ P (.str (cutL l lo hi)) L
  | .adr a => ∃ xs, ML L a (.lst xs) ∧ P (.lst (cutL xs lo hi)) L
  | _ => False
theorem cutL_all {α : Type} (xs : List α) (lo hi : Option Int) (h : HT.sIx xs.length 0 lo = 0 ∧ HT.sIx xs.length xs.length hi = xs.length) : cutL xs lo hi = xs := by
  unfold cutL
  rw [h.1, h.2]
  simp
theorem dp_slice {e : Expr} {lo hi : Option Expr} {p2 : Pos} (h : DP X e ds L fun x L1 => DO X lo ds L1 fun l L2 => DO X hi ds L2 fun u L3 => slK x l u L3 P) : DP X (.Subscript e (.Slice lo hi none p2) pos) ds L P := .mk fun σ H B hs hl Q q => by
  have po : ∀ e : Option Expr, PO X e (match e with | none => tNoPart | some e => tPart (EW X e)) := fun e => match e with
    | none => po_none
    | some e => po_some pe_w
  have dof : ∀ (e : Option Expr) (P1 : Option Int → MS → Prop) (σ : L2.St) (H : Hp) (B : Hp) (L : MS) (Q1 : Option Int → Hp → Prop), Sl X.K B ds σ → Hs X.K B L H → DO X e ds L P1 →
      (∀ o L' B2 H2, P1 o L' → Same B B2 → Hs X.K B2 L' H2 → Q1 o H2) → (match e with | none => tNoPart | some e => tPart (EW X e)) σ H Q1 := fun e P1 σ H B L Q1 hs hl h q => match e, h with
    | none, h => q none L B H h (Same.refl B) hl
    | some e, h => h.run σ H B hs hl _ fun x L1 v B1 H1 ⟨i, ex, p⟩ e1 hl1 ix => by
      subst ex
      exact ⟨i, ix, q (some i) L1 B1 H1 p e1 hl1⟩
  refine PE.to (pe_slice (sl_list.or (sl_tupA.or sl_str)) pe_w (po lo) (po hi)) ?_
  refine h.run σ H B hs hl _ fun x L1 v B1 H1 h1 e1 hl1 ix => ?_
  refine dof lo _ σ H1 B1 L1 _ (hs.mono e1) hl1 h1 fun l L2 B2 H2 h2 e2 hl2 => ?_
  refine dof hi _ σ H2 B2 L2 _ ((hs.mono e1).mono e2) hl2 h2 fun u L3 B3 H3 h3 e3 hl3 => ?_
  have ix3 := (ix.mono e2).mono e3
  have q3 : Fin X.K B3 P Q := fun d L' z B4 H4 p e4 => q d L' z B4 H4 p (((e1.trans e2).trans e3).trans e4)
  cases x <;> try exact False.elim h3
  · exact .inr (.inr ⟨_, ix3, by rw [txt_len]; exact h3.1, Fin.here q3 hl3 h3.2 (by
      show V.str _ = V.str _
      rfl)⟩)
  · obtain ⟨a, vs, rfl, ha, ia⟩ := ix3
    refine .inr (.inl ⟨a, vs, rfl, SqT.of (hl3.sub _ _ ha), fun hw => ?_, fun _ c hc => Fin.tup q3 hl3 h3 (cut_is ia l u) hc⟩)
    have hw' := hw
    rw [ia.length] at hw'
    have h3' : P (.tup (cutL _ l u)) L3 := h3
    rw [cutL_all _ _ _ hw'] at h3'
    exact Fin.here q3 hl3 h3' ⟨a, vs, rfl, ha, ia⟩
  · obtain ⟨a, vs, rfl, ha, ia⟩ := ix3
    exact .inl ⟨a, vs, rfl, SqL.of (hl3.sub _ _ ha), fun c hc => Fin.lst q3 hl3 h3 (cut_is ia l u) hc⟩
  · obtain ⟨xs, hm, p⟩ := h3
    obtain ⟨vs, ha, ia⟩ := hl3.lst hm
    exact .inl ⟨_, vs, ix3, SqL.of ha, fun c hc => Fin.lst q3 hl3 p (cut_is ia l u) hc⟩
end
end Z
namespace Z
open PySem PySem.Spec PyProof.Rows L2

/-! ### contracts -/
abbrev Rel := List Dt → MS → DK → Prop
def spP (K : PySem.W.Frag) (R : Rel) : Sp := fun vs H Q _ => ∃ B ds L P, IsL K B ds vs ∧ Hs K B L H ∧ R ds L P ∧ Fin K B P Q
structure Cal (Pr : Program) (w : World) (K : PySem.W.Frag) (mg : Str → Option Value) (base : Heap) (x : Str) (k : Nat) (ps : List Str) (R : Rel) : Prop where
  ex : ∃ (f : Addr) (fd : FuncData), FnOk Pr w K mg base CX0 k f fd ps (spP K R) ∧ mg x = some (.ref f) ∧ PySem.W.keepIn K (.ref f) = true ∧ Binds K fd ps [] ∧ ∃ oc od osl, K.lookup f = some ⟨oc, od, .func fd, osl⟩
theorem _root_.L2.Fun.look {K : PySem.W.Frag} {x q : Str} {st : Stmt} {f : Addr} {fd : FuncData} (F : Fun K x q st f fd) : ∃ oc od osl, K.lookup f = some ⟨oc, od, .func fd, osl⟩ := by
  obtain ⟨oc, od, kV, doc, pm, an, cdv, ct, osl, _, lk, _⟩ := F.ex
  exact ⟨oc, od, osl, lk⟩
structure FunAt (K : PySem.W.Frag) (mg : Str → Option Value) (x : Str) (st : Stmt) : Prop where
  ex : ∃ (f : Addr) (fd : FuncData), Fun K x x st f fd ∧ mg x = some (.ref f)
/-- the names' data at the entry -/
def startD (N : List Str) (ds : List Dt) : DS := ds.map some ++ List.replicate (N.length - ds.length) none
theorem sl_start {K : PySem.W.Frag} {B : Hp} {N : List Str} {ds : List Dt} {vs : List V} (h : IsL K B ds vs) : Sl K B (startD N ds) (L2.start N vs) := by
  have hl := h.length
  unfold startD L2.start
  refine ⟨by simp [hl], fun i d q => ?_⟩
  by_cases hi : i < ds.length
  · rw [List.getElem?_append_left (by simpa using hi), List.getElem?_map] at q
    cases e : ds[i]? with
    | none => rw [e] at q; cases q
    | some x =>
      rw [e] at q
      cases q
      obtain ⟨v, e1, e2⟩ := h.get e
      exact ⟨v, by rw [List.getElem?_append_left (by simpa [hl] using hi), List.getElem?_map, e1]; rfl, e2⟩
  · rw [List.getElem?_append_right (by simpa using hi), List.getElem?_replicate] at q
    split at q <;> cases q
/-- the context of a def's body that lets no exception out -/
@[reducible] def fX (Pr : Program) (w : World) (K : PySem.W.Frag) (mg : Str → Option Value) (base : Heap) (N : List Str) (x : Str) (sc : Scope) (f : Addr) (cdv : Value) (A : Around) (outer : List Env) (s : Shared) (H : Hp) (E : XK) : Cx :=
  (cxOf CX0 Pr w K mg base N x sc f cdv A outer s H E).nox
section
variable {Pr : Program} {w : World} {K : PySem.W.Frag} {mg : Str → Option Value} {base : Heap}
theorem cal_of {x : Str} {st : Stmt} {N ps : List Str} {k : Nat} {R : Rel} (F : FunAt K mg x st) (S : FnScope N ps (defScope st)) (hlen : ∀ ds L P, R ds L P → ds.length = ps.length)
    (hb : ∀ (kV doc pm : Value) (an : Option Addr) (cdv ct : Value) (us : List Value), us.length = ps.length → bindArgs (PySem.W.fnOf x x (defArgs st) (defBody st) (defScope st) .none kV doc pm an cdv ct) ⟨us, []⟩ = pure (ps.zip us))
    (body : ∀ (f : Addr) (cdv : Value) (A : Around) (outer : List Env) (s : Shared) (H : Hp) (E : XK), Room k (fX Pr w K mg base N x (defScope st) f cdv A outer s H E).A → ∀ ds L P, R ds L P →
      DSs (fX Pr w K mg base N x (defScope st) f cdv A outer s H E) (defBody st) (startD N ds) L ⟨fun _ L' => P .non L', P, fun _ _ => False, fun _ _ => False⟩) : Cal Pr w K mg base x (k + 1) ps R := by
  obtain ⟨f, fd, F, hm⟩ := F.ex
  refine ⟨f, fd, ?_, hm, F.kp, F.binds hb, F.look⟩
  refine F.ok S (fun vs H Q E h => ?_) fun cdv A outer s H vs Q E hr h => ?_
  · obtain ⟨B, ds, L, P, i, _, r, _⟩ := h
    rw [i.length]
    exact hlen _ _ _ r
  · obtain ⟨B, ds, L, P, i, hl, r, q⟩ := h
    refine ⟨_, pss_w, (body f cdv A outer s H E hr ds L P r).run (L2.start N vs) H B _ (sl_start i) hl ⟨?_, ?_, ?_, ?_⟩⟩
    · exact fun ds L σ B2 H2 p e _ hl2 => q .non L _ B2 H2 p e hl2 rfl
    · exact fun d L v B2 H2 p e hl2 iv => q d L v B2 H2 p e hl2 iv
    · exact fun _ _ _ _ _ p => p.elim
    · exact fun _ _ _ _ _ p => p.elim
theorem Cal.mono {x : Str} {j k : Nat} {ps : List Str} {R : Rel} (C : Cal Pr w K mg base x j ps R) (h : j ≤ k) : Cal Pr w K mg base x k ps R := by
  obtain ⟨f, fd, h1, h2, h3, h4, h5⟩ := C.ex
  exact ⟨f, fd, h1.mono h, h2, h3, h4, h5⟩
theorem Cal.imp {x : Str} {k : Nat} {ps : List Str} {R R' : Rel} (C : Cal Pr w K mg base x k ps R) (h : ∀ ds L P, R' ds L P → R ds L P) : Cal Pr w K mg base x k ps R' := by
  obtain ⟨f, fd, h1, h2, h3, h4, h5⟩ := C.ex
  exact ⟨f, fd, h1.imp fun vs H Q E ⟨B, ds, L, P, i, hl, r, q⟩ => ⟨B, ds, L, P, i, hl, h _ _ _ r, q⟩, h2, h3, h4, h5⟩
end
section
variable {X : Cx} {x : Str} {k j : Nat} {ps : List Str} {R : Rel} {e : Expr} {es : List Expr} {ds : DS} {L : MS} {P : DK} {pos p : Pos}
theorem dp_call (C : Cal X.prog X.w X.K X.mg X.base x k ps R) (hr : Room j X.A) (hk : k ≤ j) (h : DA X (e :: es) ds L fun xs L1 => R xs L1 P) (hg : Gl X x := by rfl) (hdb : (x == ("__debug__" : Str)) = false := by decide)
    (he : starEach (e :: es) X.env = (false, eval e X.env) :: starEach es X.env := by rfl) (hpl : (backTo pos (starEach es X.env)).any (·.1) = false := by rfl) : DP X (.Call (.Name x p) (e :: es) [] pos) ds L P := .mk fun σ H B hs hl Q q => by
  obtain ⟨f, fd, F, hm, hkp, hb, _⟩ := C.ex
  refine PE.to (pe_call F (hr.mono hk) hg hm hkp hb .nil pass0 pa_w hdb he hpl) (h.run σ H B hs hl _ fun xs L1 vs B1 H1 r e1 hl1 ixs => ?_)
  show spP X.K R (vs ++ []) H1 Q E0
  rw [List.append_nil]
  exact ⟨B1, xs, L1, P, ixs, hl1, r, fun d L' z B2 H2 p2 e2 => q d L' z B2 H2 p2 (e1.trans e2)⟩
theorem dp_call0 (C : Cal X.prog X.w X.K X.mg X.base x k ps R) (hr : Room j X.A) (hk : k ≤ j) (h : R [] L P) (hg : Gl X x := by rfl) (hdb : (x == ("__debug__" : Str)) = false := by decide) : DP X (.Call (.Name x p) [] [] pos) ds L P := .mk fun σ H B hs hl Q q => by
  obtain ⟨f, fd, F, hm, hkp, hb, _⟩ := C.ex
  exact PE.to (pe_call0 F (hr.mono hk) hg hm hkp hb .nil pass0 hdb) ⟨B, [], L, P, rfl, hl, h, q⟩
end

/-! ### built-ins by name -/
abbrev KC := List Dt → MS → DK → Prop
def KRC (K : PySem.W.Frag) (r : List V → Hp → VK → Prop) (k : KC) : Prop := ∀ B H L xs vs (Q : VK) (P : DK), Hs K B L H → IsL K B xs vs → k xs L P → Fin K B P Q → r vs H Q
section
variable {X : Cx} {x : Str} {e : Expr} {es : List Expr} {ds : DS} {L : MS} {P : DK} {pos p : Pos} {id T : String} {r : List V → Hp → VK → Prop} {k : KC}
theorem dp_callB (hc : CallR X (.builtin id) r) (hk : KRC X.K r k) (hm : X.mg x = none) (hv : bootBuiltins x = some (.builtin id)) (h : DA X (e :: es) ds L fun xs L1 => k xs L1 P) (hg : Gl X x := by rfl) (hn : x ≠ "__name__" := by decide)
    (hdb : (x == ("__debug__" : Str)) = false := by decide) (he : starEach (e :: es) X.env = (false, eval e X.env) :: starEach es X.env := by rfl) (hpl : (backTo pos (starEach es X.env)).any (·.1) = false := by rfl) : DP X (.Call (.Name x p) (e :: es) [] pos) ds L P := .mk fun σ H B hs hl Q q =>
  PE.to (pe_callB hc hg hm hv pa_w hn hdb he hpl) (h.run σ H B hs hl _ fun xs L1 vs B1 H1 p1 e1 hl1 ixs => hk B1 H1 L1 xs vs Q P hl1 ixs p1 fun d L' z B2 H2 p2 e2 => q d L' z B2 H2 p2 (e1.trans e2))
theorem dp_callTy (hc : CallR X (.type T) r) (hk : KRC X.K r k) (hm : X.mg x = none) (hv : bootBuiltins x = some (.type T)) (h : DA X (e :: es) ds L fun xs L1 => k xs L1 P) (hg : Gl X x := by rfl) (hn : x ≠ "__name__" := by decide)
    (hdb : (x == ("__debug__" : Str)) = false := by decide) (he : starEach (e :: es) X.env = (false, eval e X.env) :: starEach es X.env := by rfl) (hpl : (backTo pos (starEach es X.env)).any (·.1) = false := by rfl) : DP X (.Call (.Name x p) (e :: es) [] pos) ds L P := .mk fun σ H B hs hl Q q =>
  PE.to (pe_callTy hc hg hm hv pa_w hn hdb he hpl) (h.run σ H B hs hl _ fun xs L1 vs B1 H1 p1 e1 hl1 ixs => hk B1 H1 L1 xs vs Q P hl1 ixs p1 fun d L' z B2 H2 p2 e2 => q d L' z B2 H2 p2 (e1.trans e2))
end
theorem IsL.one_inv {K : PySem.W.Frag} {B : Hp} {d : Dt} {vs : List V} (h : IsL K B [d] vs) : ∃ v, vs = [v] ∧ Is K B d v := by
  obtain ⟨v, r, rfl, i, h0⟩ := h
  have h0 : r = [] := h0
  subst h0
  exact ⟨v, rfl, i⟩
theorem IsL.two_inv {K : PySem.W.Frag} {B : Hp} {d d' : Dt} {vs : List V} (h : IsL K B [d, d'] vs) : ∃ v v', vs = [v, v'] ∧ Is K B d v ∧ Is K B d' v' := by
  obtain ⟨v, r, rfl, i, h0⟩ := h
  obtain ⟨v', rfl, i'⟩ := IsL.one_inv h0
  exact ⟨v, v', rfl, i, i'⟩
section
variable {X : Cx} {K : PySem.W.Frag} {e e2 : Expr} {es : List Expr} {ds : DS} {L : MS} {P : DK} {pos p : Pos}
/-- len -/
def lenK : KC := fun xs L P => match xs with
  | [.str l] => l.length ≤ sizeLine ∧ P (.int l.length) L
  | [.lst xs] => P (.int xs.length) L
  | [.frl xs] => P (.int xs.length) L
  | [.tup xs] => P (.int xs.length) L
  | [.adr a] => ∃ xs, ML L a (.lst xs) ∧ P (.int xs.length) L
  | _ => False
theorem kc_len : KRC K (fun xs H Q => ∃ x n, xs = [x] ∧ LenV K x H n ∧ Q (.int n) H) lenK := by
  intro B H L xs vs Q P hl ixs hk q
  unfold lenK at hk
  split at hk
  · obtain ⟨v, rfl, i⟩ := ixs.one_inv
    obtain rfl : v = _ := i
    exact ⟨_, _, rfl, ⟨by rw [txt_len]; exact hk.1, rfl⟩, by rw [txt_len]; exact Fin.here q hl hk.2 rfl⟩
  · obtain ⟨v, rfl, a, us, rfl, ha, ia⟩ := ixs.one_inv
    exact ⟨_, us.length, rfl, .inl ⟨us, SqL.of (hl.sub _ _ ha), rfl⟩, by rw [ia.length]; exact Fin.here q hl hk rfl⟩
  · obtain ⟨v, rfl, a, us, rfl, ha, ia⟩ := ixs.one_inv
    exact ⟨_, us.length, rfl, .inl ⟨us, hl.sub.seq ha, rfl⟩, by rw [ia.length]; exact Fin.here q hl hk rfl⟩
  · obtain ⟨v, rfl, a, us, rfl, ha, ia⟩ := ixs.one_inv
    exact ⟨_, us.length, rfl, .inr ⟨us, SqT.of (hl.sub _ _ ha), rfl⟩, by rw [ia.length]; exact Fin.here q hl hk rfl⟩
  · obtain ⟨v, rfl, i⟩ := ixs.one_inv
    obtain rfl : v = _ := i
    obtain ⟨xs, hm, p⟩ := hk
    obtain ⟨us, ha, ia⟩ := hl.lst hm
    exact ⟨_, us.length, rfl, .inl ⟨us, SqL.of ha, rfl⟩, by rw [ia.length]; exact Fin.here q hl p rfl⟩
  · exact hk.elim
theorem dp_len (hm : X.mg "len" = none) (h : DP X e ds L fun x L1 => lenK [x] L1 P) (hg : Gl X "len" := by rfl) (hs1 : starEach [e] X.env = (false, eval e X.env) :: starEach [] X.env := by rfl) (hpl : (backTo pos (starEach [] X.env)).any (·.1) = false := by rfl) : DP X (.Call (.Name "len" p) [e] [] pos) ds L P :=
  dp_callB call_len kc_len hm PySem.boot_len (da_cons (DP.imp h fun x L1 h1 => da_nil h1) hs1) hg (by decide) (by decide) hs1 hpl
/-- int(n), int(flag) -/
def intcK : KC := fun xs L P => match xs with
  | [.int i] => P (.int i) L
  | [.bl b] => P (.int (if b then 1 else 0)) L
  | _ => False
theorem kc_int : KRC K (fun xs H Q => (∃ i, xs = [.int i] ∧ Q (.int i) H) ∨ ∃ k, xs = [.bl k] ∧ Q (.int (if k then 1 else 0)) H) intcK := by
  intro B H L xs vs Q P hl ixs hk q
  unfold intcK at hk
  split at hk
  · obtain ⟨v, rfl, i⟩ := ixs.one_inv
    obtain rfl : v = _ := i
    exact .inl ⟨_, rfl, Fin.here q hl hk rfl⟩
  · obtain ⟨v, rfl, i⟩ := ixs.one_inv
    obtain rfl : v = _ := i
    exact .inr ⟨_, rfl, Fin.here q hl hk rfl⟩
  · exact hk.elim
theorem dp_intc (hm : X.mg "int" = none) (h : DP X e ds L fun x L1 => intcK [x] L1 P) (hg : Gl X "int" := by rfl) (hs1 : starEach [e] X.env = (false, eval e X.env) :: starEach [] X.env := by rfl) (hpl : (backTo pos (starEach [] X.env)).any (·.1) = false := by rfl) : DP X (.Call (.Name "int" p) [e] [] pos) ds L P :=
  dp_callTy call_int1 kc_int hm (by decide +kernel) (da_cons (DP.imp h fun x L1 h1 => da_nil h1) hs1) hg (by decide) (by decide) hs1 hpl
/-- tuple(x) -/
def tupK : KC := fun xs L P => match xs with
  | [.lst xs] => P (.tup xs) L
  | [.tup xs] => P (.tup xs) L
  | [.adr a] => ∃ xs, ML L a (.lst xs) ∧ P (.tup xs) L
  | _ => False
theorem kc_tup : KRC K (fun xs H Q => ∃ p ys, xs = [V.ref p] ∧ ((SqL K H p ys ∧ ∀ l, H l = none → Q (.ref l) (upd H l (.tup ys))) ∨ (SqT K H p ys ∧ Q (.ref p) H))) tupK := by
  intro B H L xs vs Q P hl ixs hk q
  unfold tupK at hk
  split at hk
  · obtain ⟨v, rfl, a, us, rfl, ha, ia⟩ := ixs.one_inv
    exact ⟨_, us, rfl, .inl ⟨SqL.of (hl.sub _ _ ha), fun l hn => Fin.tup q hl hk ia hn⟩⟩
  · obtain ⟨v, rfl, a, us, rfl, ha, ia⟩ := ixs.one_inv
    exact ⟨_, us, rfl, .inr ⟨SqT.of (hl.sub _ _ ha), Fin.here q hl hk ⟨a, us, rfl, ha, ia⟩⟩⟩
  · obtain ⟨v, rfl, i⟩ := ixs.one_inv
    obtain rfl : v = _ := i
    obtain ⟨xs, hm, p⟩ := hk
    obtain ⟨us, ha, ia⟩ := hl.lst hm
    exact ⟨_, us, rfl, .inl ⟨SqL.of ha, fun l hn => Fin.tup q hl p ia hn⟩⟩
  · exact hk.elim
theorem dp_tuple (hm : X.mg "tuple" = none) (h : DP X e ds L fun x L1 => tupK [x] L1 P) (hg : Gl X "tuple" := by rfl) (hs1 : starEach [e] X.env = (false, eval e X.env) :: starEach [] X.env := by rfl) (hpl : (backTo pos (starEach [] X.env)).any (·.1) = false := by rfl) : DP X (.Call (.Name "tuple" p) [e] [] pos) ds L P :=
  dp_callTy call_tuple_of kc_tup hm (by decide +kernel) (da_cons (DP.imp h fun x L1 h1 => da_nil h1) hs1) hg (by decide) (by decide) hs1 hpl
/-- list(x): a list that stays, or one that will change -/
def lstcK : KC := fun xs L P => match xs with
  | [.lst xs] => P (.lst xs) L
  | [.tup xs] => P (.lst xs) L
  | [.adr a] => ∃ xs, ML L a (.lst xs) ∧ P (.lst xs) L
  | _ => False
def lstcMK : KC := fun xs L P => match xs with
  | [.lst xs] => ∀ a, P (.adr a) ((a, .lst xs) :: L)
  | [.tup xs] => ∀ a, P (.adr a) ((a, .lst xs) :: L)
  | _ => False
abbrev rListOf (K : PySem.W.Frag) : List V → Hp → VK → Prop := fun xs H Q => ∃ p ys, xs = [V.ref p] ∧ (SqL K H p ys ∨ SqT K H p ys) ∧ ∀ l, H l = none → Q (.ref l) (upd H l (.lst ys))
theorem kc_lst : KRC K (rListOf K) lstcK := by
  intro B H L xs vs Q P hl ixs hk q
  unfold lstcK at hk
  split at hk
  · obtain ⟨v, rfl, a, us, rfl, ha, ia⟩ := ixs.one_inv
    exact ⟨_, us, rfl, .inl (SqL.of (hl.sub _ _ ha)), fun l hn => Fin.lst q hl hk ia hn⟩
  · obtain ⟨v, rfl, a, us, rfl, ha, ia⟩ := ixs.one_inv
    exact ⟨_, us, rfl, .inr (SqT.of (hl.sub _ _ ha)), fun l hn => Fin.lst q hl hk ia hn⟩
  · obtain ⟨v, rfl, i⟩ := ixs.one_inv
    obtain rfl : v = _ := i
    obtain ⟨xs, hm, p⟩ := hk
    obtain ⟨us, ha, ia⟩ := hl.lst hm
    exact ⟨_, us, rfl, .inl (SqL.of ha), fun l hn => Fin.lst q hl p ia hn⟩
  · exact hk.elim
theorem kc_lstM : KRC K (rListOf K) lstcMK := by
  intro B H L xs vs Q P hl ixs hk q
  unfold lstcMK at hk
  split at hk
  · obtain ⟨v, rfl, a, us, rfl, ha, ia⟩ := ixs.one_inv
    exact ⟨_, us, rfl, .inl (SqL.of (hl.sub _ _ ha)), fun l hn => Fin.lstM q hl hk ia hn⟩
  · obtain ⟨v, rfl, a, us, rfl, ha, ia⟩ := ixs.one_inv
    exact ⟨_, us, rfl, .inr (SqT.of (hl.sub _ _ ha)), fun l hn => Fin.lstM q hl hk ia hn⟩
  · exact hk.elim
theorem dp_list (hm : X.mg "list" = none) (h : DP X e ds L fun x L1 => lstcK [x] L1 P) (hg : Gl X "list" := by rfl) (hs1 : starEach [e] X.env = (false, eval e X.env) :: starEach [] X.env := by rfl) (hpl : (backTo pos (starEach [] X.env)).any (·.1) = false := by rfl) : DP X (.Call (.Name "list" p) [e] [] pos) ds L P :=
  dp_callTy call_list_of kc_lst hm (by decide +kernel) (da_cons (DP.imp h fun x L1 h1 => da_nil h1) hs1) hg (by decide) (by decide) hs1 hpl
theorem dp_listM (hm : X.mg "list" = none) (h : DP X e ds L fun x L1 => lstcMK [x] L1 P) (hg : Gl X "list" := by rfl) (hs1 : starEach [e] X.env = (false, eval e X.env) :: starEach [] X.env := by rfl) (hpl : (backTo pos (starEach [] X.env)).any (·.1) = false := by rfl) : DP X (.Call (.Name "list" p) [e] [] pos) ds L P :=
  dp_callTy call_list_of kc_lstM hm (by decide +kernel) (da_cons (DP.imp h fun x L1 h1 => da_nil h1) hs1) hg (by decide) (by decide) hs1 hpl
/-- isinstance(x, T) -/
def tyD : Dt → Option String
  | .non => some "NoneType"
  | .bl _ => some "bool"
  | .int _ => some "int"
  | .str _ => some "str"
  | .tup _ => some "tuple"
  | .lst _ => some "list"
  | _ => none
def isiK : KC := fun xs L P => match xs with
  | [x, .ty n] => ∃ t b, tyD x = some t ∧ kitB t n = some b ∧ P (.bl b) L
  | _ => False
theorem kc_isi : KRC K (rIsi K) isiK := by
  intro B H L xs vs Q P hl ixs hk q
  unfold isiK at hk
  split at hk
  · rename_i x n
    obtain ⟨v, v', rfl, i, i'⟩ := ixs.two_inv
    obtain rfl : v' = _ := i'
    obtain ⟨t, b, h1, h2, p⟩ := hk
    refine ⟨v, _, .type t, .type n, b, rfl, .ty n, ?_, kit_ty h2, Fin.here q hl p rfl⟩
    cases x <;> cases h1
    · obtain rfl : v = _ := i; exact .base .non
    · obtain rfl : v = _ := i; exact .base (.bl _)
    · obtain rfl : v = _ := i; exact .base (.int _)
    · obtain rfl : v = _ := i; exact .base (.str _)
    · obtain ⟨a, us, rfl, ha, ia⟩ := i; exact .base (.tup (hl.sub _ _ ha))
    · obtain ⟨a, us, rfl, ha, ia⟩ := i; exact .base (.lst (hl.sub _ _ ha))
  · exact hk.elim
theorem dp_isi {n : String} {T : Str} {p2 : Pos} (hm : X.mg "isinstance" = none) (hT : X.mg T = none) (hv : bootBuiltins T = some (.type n)) (h : DP X e ds L fun x L1 => isiK [x, .ty n] L1 P) (hT2 : T ≠ "__name__" := by decide) (hT3 : (T == ("__debug__" : Str)) = false := by decide)
    (hg : Gl X "isinstance" := by rfl) (hgT : Gl X T := by rfl) (hs1 : starEach [e, .Name T p2] X.env = (false, eval e X.env) :: starEach [.Name T p2] X.env := by rfl) (hs2 : starEach [.Name T p2] X.env = (false, eval (.Name T p2) X.env) :: starEach [] X.env := by rfl) (hpl : (backTo pos (starEach [.Name T p2] X.env)).any (·.1) = false := by rfl) : DP X (.Call (.Name "isinstance" p) [e, .Name T p2] [] pos) ds L P :=
  dp_callB call_isi kc_isi hm (by decide +kernel) (da_cons (DP.imp h fun x L1 h1 => da_cons (dp_bltn (da_nil h1) hT hv hgT hT2 hT3) hs2) hs1) hg (by decide) (by decide) hs1 hpl
/-- abs -/
def absK : KC := fun xs L P => match xs with
  | [.int i] => P (.int (if i < 0 then -i else i)) L
  | _ => False
theorem kc_abs : KRC K (fun xs H Q => ∃ i, xs = [.int i] ∧ Q (.int (if i < 0 then -i else i)) H) absK := by
  intro B H L xs vs Q P hl ixs hk q
  unfold absK at hk
  split at hk
  · obtain ⟨v, rfl, i⟩ := ixs.one_inv
    obtain rfl : v = _ := i
    exact ⟨_, rfl, Fin.here q hl hk rfl⟩
  · exact hk.elim
theorem dp_abs (hm : X.mg "abs" = none) (h : DP X e ds L fun x L1 => absK [x] L1 P) (hg : Gl X "abs" := by rfl) (hs1 : starEach [e] X.env = (false, eval e X.env) :: starEach [] X.env := by rfl) (hpl : (backTo pos (starEach [] X.env)).any (·.1) = false := by rfl) : DP X (.Call (.Name "abs" p) [e] [] pos) ds L P :=
  dp_callB call_abs kc_abs hm (by decide +kernel) (da_cons (DP.imp h fun x L1 h1 => da_nil h1) hs1) hg (by decide) (by decide) hs1 hpl
/-- min(a, b), max(a, b) of ints -/
def mm2K (f : Int → Int → Int) : KC := fun xs L P => match xs with
  | [.int i, .int j] => P (.int (f i j)) L
  | _ => False
theorem kc_min2 : KRC K (fun xs H Q => ∃ i j, xs = [.int i, .int j] ∧ Q (.int (if j < i then j else i)) H) (mm2K fun i j => if j < i then j else i) := by
  intro B H L xs vs Q P hl ixs hk q
  unfold mm2K at hk
  split at hk
  · obtain ⟨v, v', rfl, i, i'⟩ := ixs.two_inv
    obtain rfl : v = _ := i
    obtain rfl : v' = _ := i'
    exact ⟨_, _, rfl, Fin.here q hl hk rfl⟩
  · exact hk.elim
theorem dp_min2 (hm : X.mg "min" = none) (h : DA X [e, e2] ds L fun xs L1 => mm2K (fun i j => if j < i then j else i) xs L1 P) (hc : X.calm = true := by rfl) (hg : Gl X "min" := by rfl) (hs1 : starEach [e, e2] X.env = (false, eval e X.env) :: starEach [e2] X.env := by rfl) (hpl : (backTo pos (starEach [e2] X.env)).any (·.1) = false := by rfl) : DP X (.Call (.Name "min" p) [e, e2] [] pos) ds L P :=
  dp_callB (call_min2 hc) kc_min2 hm (by decide +kernel) h hg (by decide) (by decide) hs1 hpl
end

/-! ### methods of built-ins -/
abbrev KM := Dt → List Dt → MS → DK → Prop
def KRM (K : PySem.W.Frag) (r : V → List V → Hp → VK → Prop) (k : KM) : Prop := ∀ B H L x v xs vs (Q : VK) (P : DK), Hs K B L H → Is K B x v → IsL K B xs vs → k x xs L P → Fin K B P Q → r v vs H Q
def tyM (T : String) (x : Dt) (L : MS) : Prop := match x with
  | .str _ => T = "str"
  | .lst _ => T = "list"
  | .adr a => (T = "list" ∧ ∃ xs, ML L a (.lst xs)) ∨ (T = "dict" ∧ ∃ ks xs, ML L a (.dct ks xs))
  | _ => False
theorem tyM_is {K : PySem.W.Frag} {B H : Hp} {L : MS} {T : String} {x : Dt} {v : V} (hl : Hs K B L H) (i : Is K B x v) (h : tyM T x L) : tyV K T v H := by
  cases x <;> try exact False.elim h
  · obtain rfl : v = _ := i
    exact h
  · obtain ⟨a, us, rfl, ha, ia⟩ := i
    exact .inl ⟨h, us, SqL.of (hl.sub _ _ ha)⟩
  · obtain rfl : v = _ := i
    rcases h with ⟨e, xs, hm⟩ | ⟨e, ks, xs, hm⟩
    · obtain ⟨us, ha, _⟩ := hl.lst hm
      exact .inl ⟨e, us, SqL.of ha⟩
    · obtain ⟨_, o, ho, us, eo, _⟩ := hl.own _ _ hm
      exact .inr (.inr (.inl ⟨e, .inr ⟨_, by rw [ho, eo]⟩⟩))
section
variable {X : Cx} {o e : Expr} {es : List Expr} {ds : DS} {L : MS} {P : DK} {apos cpos : Pos} {name : Str} {T id : String} {r : V → List V → Hp → VK → Prop} {k : KM}
theorem dp_bm0 (pa : PlainAttrs T) (slot : Slot T name id) (hty : typeOf (.builtin id) = pure (.type "method_descriptor")) (hm : MtR X id r) (hk : KRM X.K r k) (h : DP X o ds L fun x L1 => tyM T x L1 ∧ k x [] L1 P)
    (hbase : attributeBase o name X.env (eval o X.env) = eval o X.env := by rfl) (hline : (apos.endLine == cpos.line) = true := by rfl) : DP X (.Call (.Attribute o name apos) [] [] cpos) ds L P := .mk fun σ H B hs hl Q q =>
  PE.to (pe_bm0 pa slot hty hm pe_w hbase hline) (h.run σ H B hs hl _ fun x L1 v B1 H1 ⟨ht, p⟩ e1 hl1 ix => ⟨tyM_is hl1 ix ht, hk B1 H1 L1 x v [] [] Q P hl1 ix rfl p fun d L' z B2 H2 p2 e2 => q d L' z B2 H2 p2 (e1.trans e2)⟩)
theorem dp_bm (pa : PlainAttrs T) (slot : Slot T name id) (hty : typeOf (.builtin id) = pure (.type "method_descriptor")) (hm : MtR X id r) (hk : KRM X.K r k) (h : DP X o ds L fun x L1 => tyM T x L1 ∧ DA X (e :: es) ds L1 fun xs L2 => k x xs L2 P)
    (hbase : attributeBase o name X.env (eval o X.env) = eval o X.env := by rfl)
    (hfew : ((backTo cpos (starEach (e :: es) X.env)).all (fun x => !x.1) && (backToKw cpos (keywordEach [] X.env)).all (fun x => x.1.isSome)
      && decide ((e :: es).length + ([] : List Keyword).length + (if ([] : List Keyword).isEmpty then 0 else 1) < 30)) = true := by rfl)
    (hline : (apos.endLine == cpos.line) = true := by rfl) (hs' : starEach (e :: es) X.env = (false, eval e X.env) :: starEach es X.env := by rfl) (hplain : (backTo cpos (starEach es X.env)).any (·.1) = false := by rfl) :
    DP X (.Call (.Attribute o name apos) (e :: es) [] cpos) ds L P := .mk fun σ H B hs hl Q q =>
  PE.to (pe_bm pa slot hty hm pe_w pa_w hbase hfew hline hs' hplain) (h.run σ H B hs hl _ fun x L1 v B1 H1 ⟨ht, ha⟩ e1 hl1 ix => ⟨tyM_is hl1 ix ht, ha.run σ H1 B1 (hs.mono e1) hl1 _ fun xs L2 vs B2 H2 p e2 hl2 ixs =>
    hk B2 H2 L2 x v xs vs Q P hl2 (ix.mono e2) ixs p fun d L' z B3 H3 p3 e3 => q d L' z B3 H3 p3 ((e1.trans e2).trans e3)⟩)
end
section
variable {X : Cx} {K : PySem.W.Frag} {o e : Expr} {ds : DS} {L : MS} {P : DK} {apos cpos : Pos}
/-- xs.append(e) -/
def appK : KM := fun x xs L P => match x, xs with
  | .adr a, [d] => ∃ ys, ML L a (.lst ys) ∧ ys.length < sizeLine ∧ ∃ L2, MSt L a (.lst (ys ++ [d])) L2 ∧ P .non L2
  | _, _ => False
theorem km_append : KRM K rAppend appK := by
  intro B H L x v xs vs Q P hl ix ixs hk q
  unfold appK at hk
  split at hk
  · obtain ⟨u, rfl, iu⟩ := ixs.one_inv
    obtain rfl : v = _ := ix
    obtain ⟨ys, hm, hz, L2, hst, p⟩ := hk
    obtain ⟨us, ha, ia⟩ := hl.lst hm
    exact ⟨_, us, u, rfl, rfl, ha, by rw [ia.length]; exact hz, q .non L2 _ B _ p (Same.refl B) (hl.put hst ⟨_, rfl, ia.append (IsL.one iu)⟩) rfl⟩
  · exact hk.elim
theorem dp_append (h : DP X o ds L fun x L1 => tyM "list" x L1 ∧ DP X e ds L1 fun d L2 => appK x [d] L2 P)
    (hbase : attributeBase o "append" X.env (eval o X.env) = eval o X.env := by rfl)
    (hfew : ((backTo cpos (starEach [e] X.env)).all (fun x => !x.1) && (backToKw cpos (keywordEach [] X.env)).all (fun x => x.1.isSome)
      && decide ([e].length + ([] : List Keyword).length + (if ([] : List Keyword).isEmpty then 0 else 1) < 30)) = true := by rfl)
    (hline : (apos.endLine == cpos.line) = true := by rfl) (hs1 : starEach [e] X.env = (false, eval e X.env) :: starEach [] X.env := by rfl) (hplain : (backTo cpos (starEach [] X.env)).any (·.1) = false := by rfl) : DP X (.Call (.Attribute o "append" apos) [e] [] cpos) ds L P :=
  dp_bm PySem.F.plainAttrs_list PySem.F.slot_list_append PySem.F.type_list_append mt_append km_append (DP.imp h fun x L1 ⟨ht, h1⟩ => ⟨ht, da_cons (DP.imp h1 fun d L2 h2 => da_nil h2) hs1⟩) hbase hfew hline hs1 hplain
/-- sep.join(xs) -/
def joinK : KM := fun x xs L P => match x, xs with
  | .str a, [.lst ys] => ∃ ts : List (List Nat), ys = ts.map Dt.str ∧ (ts.map (·.length)).sum + ts.length * a.length ≤ 16777216 ∧ P (.str (TL.joinL a ts)) L
  | .str a, [.tup ys] => ∃ ts : List (List Nat), ys = ts.map Dt.str ∧ (ts.map (·.length)).sum + ts.length * a.length ≤ 16777216 ∧ P (.str (TL.joinL a ts)) L
  | _, _ => False
abbrev txts (ts : List (List Nat)) : List Str := ts.map fun l => (⟨l.toArray⟩ : Str)
theorem txts_tl (ts : List (List Nat)) : (txts ts).map TL.tl = ts := by
  unfold txts
  rw [List.map_map]
  conv => rhs; rw [← List.map_id ts]
  exact List.map_congr_left fun l _ => rfl
theorem txts_len (ts : List (List Nat)) : (txts ts).map (·.length) = ts.map (·.length) := by
  unfold txts
  rw [List.map_map]
  exact List.map_congr_left fun l _ => txt_len l
theorem join_txts (a : List Nat) (ts : List (List Nat)) : Txt.join ⟨a.toArray⟩ (txts ts) = ⟨(TL.joinL a ts).toArray⟩ := by
  rw [TL.join_eq]
  refine TL.ext_tl ?_
  rw [TL.tl_join, txts_tl]
theorem km_join : KRM K (fun x xs H Q => ∃ a p, ∃ ys : List Str, x = .str a ∧ xs = [.ref p] ∧ (SqL K H p (ys.map V.str) ∨ SqT K H p (ys.map V.str)) ∧
    (ys.map (·.length)).sum + ys.length * a.length ≤ 16777216 ∧ Q (.str (Txt.join a ys)) H) joinK := by
  intro B H L x v xs vs Q P hl ix ixs hk q
  unfold joinK at hk
  split at hk
  · obtain ⟨u, rfl, a, us, rfl, ha, ia⟩ := ixs.one_inv
    obtain rfl : v = _ := ix
    obtain ⟨ts, rfl, hz, p⟩ := hk
    have e := ia.strs
    subst e
    refine ⟨_, a, txts ts, rfl, rfl, .inl (SqL.of (hl.sub _ _ ha)), ?_, ?_⟩
    · rw [txts_len, txt_len, List.length_map]
      exact hz
    · rw [join_txts]
      exact Fin.here q hl p rfl
  · obtain ⟨u, rfl, a, us, rfl, ha, ia⟩ := ixs.one_inv
    obtain rfl : v = _ := ix
    obtain ⟨ts, rfl, hz, p⟩ := hk
    have e := ia.strs
    subst e
    refine ⟨_, a, txts ts, rfl, rfl, .inr (SqT.of (hl.sub _ _ ha)), ?_, ?_⟩
    · rw [txts_len, txt_len, List.length_map]
      exact hz
    · rw [join_txts]
      exact Fin.here q hl p rfl
  · exact hk.elim
theorem dp_join (h : DP X o ds L fun x L1 => tyM "str" x L1 ∧ DP X e ds L1 fun d L2 => joinK x [d] L2 P)
    (hbase : attributeBase o "join" X.env (eval o X.env) = eval o X.env := by rfl)
    (hfew : ((backTo cpos (starEach [e] X.env)).all (fun x => !x.1) && (backToKw cpos (keywordEach [] X.env)).all (fun x => x.1.isSome)
      && decide ([e].length + ([] : List Keyword).length + (if ([] : List Keyword).isEmpty then 0 else 1) < 30)) = true := by rfl)
    (hline : (apos.endLine == cpos.line) = true := by rfl) (hs1 : starEach [e] X.env = (false, eval e X.env) :: starEach [] X.env := by rfl) (hplain : (backTo cpos (starEach [] X.env)).any (·.1) = false := by rfl) : DP X (.Call (.Attribute o "join" apos) [e] [] cpos) ds L P :=
  dp_bm PySem.F.plainAttrs_str PySem.F.slot_str_join PySem.F.type_str_join mt_join km_join (DP.imp h fun x L1 ⟨ht, h1⟩ => ⟨ht, da_cons (DP.imp h1 fun d L2 h2 => da_nil h2) hs1⟩) hbase hfew hline hs1 hplain
/-- s.split(sep) -/
def splitK : KM := fun x xs L P => match x, xs with
  | .str a, [.str b] => b ≠ [] ∧ (b.all (· < 256)) = true ∧ a.length + 2 ≤ sizeLine ∧ P (.lst ((TL.spl b 0 [] a).map Dt.str)) L
  | _, _ => False
theorem km_split : KRM K (fun x xs H Q => ∃ a b, x = .str a ∧ xs = [.str b] ∧ (b.length == 0) = false ∧ a.length + 2 ≤ sizeLine ∧ rNewStrs (Txt.split a b) H Q) splitK := by
  intro B H L x v xs vs Q P hl ix ixs hk q
  unfold splitK at hk
  split at hk
  · rename_i a b
    obtain ⟨u, rfl, iu⟩ := ixs.one_inv
    obtain rfl : v = _ := ix
    obtain rfl : u = _ := iu
    obtain ⟨h1, h2, h3, p⟩ := hk
    refine ⟨_, _, rfl, rfl, ?_, by rw [txt_len]; exact h3, fun l hn => ?_⟩
    · rw [txt_len]
      cases b with
      | nil => exact absurd rfl h1
      | cons c r => rfl
    · have e : (Txt.split (⟨a.toArray⟩ : Str) ⟨b.toArray⟩) = txts (TL.spl b 0 [] a) := by
        refine TL.map_tl_inj ?_
        rw [TL.split_spl _ _ h1 (TL.kind_ok (by simpa using h2)), txts_tl]
      rw [e]
      exact Fin.lst q hl p IsL.of_strs hn
  · exact hk.elim
theorem dp_split (h : DP X o ds L fun x L1 => tyM "str" x L1 ∧ DP X e ds L1 fun d L2 => splitK x [d] L2 P)
    (hbase : attributeBase o "split" X.env (eval o X.env) = eval o X.env := by rfl)
    (hfew : ((backTo cpos (starEach [e] X.env)).all (fun x => !x.1) && (backToKw cpos (keywordEach [] X.env)).all (fun x => x.1.isSome)
      && decide ([e].length + ([] : List Keyword).length + (if ([] : List Keyword).isEmpty then 0 else 1) < 30)) = true := by rfl)
    (hline : (apos.endLine == cpos.line) = true := by rfl) (hs1 : starEach [e] X.env = (false, eval e X.env) :: starEach [] X.env := by rfl) (hplain : (backTo cpos (starEach [] X.env)).any (·.1) = false := by rfl) : DP X (.Call (.Attribute o "split" apos) [e] [] cpos) ds L P :=
  dp_bm PySem.F.plainAttrs_str PySem.F.slot_str_split PySem.F.type_str_split mt_split km_split (DP.imp h fun x L1 ⟨ht, h1⟩ => ⟨ht, da_cons (DP.imp h1 fun d L2 h2 => da_nil h2) hs1⟩) hbase hfew hline hs1 hplain
end

theorem DTs.imp {X : Cx} {es : List Expr} {ds : DS} {L : MS} {P P' : Bool → MS → Prop} (h : DTs X es ds L P') (k : ∀ d L, P' d L → P d L) : DTs X es ds L P := .mk fun σ H B hs hl Q q => h.run σ H B hs hl Q fun d L' B2 H2 p => q d L' B2 H2 (k d L' p)
/-- a place in what may change: f m is L with m there -/
inductive Spot (a : Addr) : (MO → MS) → Prop where
  | hd {L : MS} : Spot a (fun m => (a, m) :: L)
  | tl {p : Addr × MO} {f : MO → MS} : Spot a f → Spot a (fun m => p :: f m)
theorem Spot.ml {a : Addr} {f : MO → MS} (h : Spot a f) (m : MO) : ML (f m) a m := by
  induction h with
  | hd => exact ML.hd
  | tl _ ih => exact ih.tl
theorem Spot.st {a : Addr} {f : MO → MS} (h : Spot a f) (m m' : MO) : MSt (f m) a m' (f m') := by
  induction h with
  | hd => exact .hd
  | tl _ ih => exact ih.tl
/-- o[i] = .., of a list that may change -/
def setK (x y d : Dt) (L : MS) (P : MS → Prop) : Prop := match x, y with
  | .adr a, .int k => ∃ xs, ML L a (.lst xs) ∧ ∃ j, ixN xs.length k = some j ∧ ∃ L2, MSt L a (.lst (xs.set j d)) L2 ∧ P L2
  | _, _ => False
theorem dg_item {X : Cx} {o i : Expr} {pos : Pos} {d : Dt} {ds : DS} {L : MS} {P : DS → MS → Prop} (h : DP X o ds L fun x L1 => DP X i ds L1 fun y L2 => setK x y d L2 fun L3 => P ds L3)
    (ha : ∀ v, assign (.Subscript o i pos) X.env v = (do
      let ov ← holding [v] (eval o X.env)
      let iv ← holding [v, ov] (eval i X.env)
      standAt pos
      holding [v, ov, iv] (setItem ov iv v)
      release [v, ov, iv] []) := by intro _; rfl) : DG X (.Subscript o i pos) d ds L P := .mk fun σ H B v hs hl iv Q q =>
  PG.to (pg_sub pe_w pe_w set_list ha) (h.run σ H B hs hl _ fun x L1 u B1 H1 hb e1 hl1 ix => hb.run σ H1 B1 (hs.mono e1) hl1 _ fun y L2 t B2 H2 hk e2 hl2 iy => by
    have ix2 := ix.mono e2
    have hk : setK x y d L2 (fun L3 => P ds L3) := hk
    unfold setK at hk
    split at hk
    · obtain rfl : u = _ := ix2
      obtain rfl : t = _ := iy
      obtain ⟨xs, hm, j, hj, L3, hst, p⟩ := hk
      obtain ⟨us, ha, ia⟩ := hl2.lst hm
      exact ⟨_, us, _, j, rfl, rfl, ha, by rw [ia.length]; exact hj, q ds L3 σ B2 _ p (e1.trans e2) ((hs.mono e1).mono e2) (hl2.put hst ⟨_, rfl, ia.set j ((iv.mono e1).mono e2)⟩)⟩
    · exact hk.elim)
theorem ds_par3 {X : Cx} {ds : DS} {L : MS} {D : DEnds} {pos : Pos} {i j l : Nat} {x y z : Str} {a b c : Expr} {px py pz pt : Pos} {kt k2 pt2} {ds' : Dt → Dt → Dt → DS} (hset : ∀ d d' d'', ((ds.set i (some d)).set j (some d')).set l (some d'') = ds' d d' d'')
    (h : DA X [a, b, c] ds L fun xs L1 => ∃ d d' d'', xs = [d, d', d''] ∧ D.nx (ds' d d' d'') L1) (hN : X.N.Nodup) (hij : i ≠ j) (hil : i ≠ l) (hjl : j ≠ l) (hi : X.N[i]? = some x := by rfl) (hj : X.N[j]? = some y := by rfl) (hl' : X.N[l]? = some z := by rfl)
    (hx : X.env.scope.names.lookup x = some .local := by rfl) (hy : X.env.scope.names.lookup y = some .local := by rfl) (hz : X.env.scope.names.lookup z = some .local := by rfl) (hc : X.calm = true := by rfl)
    (hw : swappedStores [.Tuple [.Name x px, .Name y py, .Name z pz] kt pt] (.Tuple [a, b, c] k2 pt2) X.env = pure (some [x, y, z]) := by kernel_rfl)
    (hs' : swapsWithSole [.Tuple [.Name x px, .Name y py, .Name z pz] kt pt] (.Tuple [a, b, c] k2 pt2) pos.line X.env = pure false := by kernel_rfl) :
    DSt X (.Assign [.Tuple [.Name x px, .Name y py, .Name z pz] kt pt] (.Tuple [a, b, c] k2 pt2) pos) ds L D := .mk fun σ H B E hs hl m =>
  PS.to (ps_par3 hc hN hi hj hl' hij hil hjl hx hy hz pa_w hw hs') (h.run σ H B hs hl _ fun xs L1 vs B1 H1 ⟨d, d', d'', ex, p⟩ e1 hl1 ixs => by
    subst ex
    obtain ⟨v, _, rfl, i1, ixs⟩ := ixs
    obtain ⟨u, t, rfl, i2, i3⟩ := ixs.two_inv
    refine ⟨v, u, t, rfl, m.nx (ds' d d' d'') L1 _ B1 H1 p e1 ?_ hl1⟩
    rw [← hset d d' d'']
    exact (((hs.mono e1).set i i1).set j i2).set l i3)
theorem cutL_to {α : Type} (xs : List α) (k : Nat) : cutL xs none (some (k : Int)) = xs.take k := by
  unfold cutL
  rw [HT.sIx_none, HT.sIx_nat, List.drop_zero, Nat.sub_zero]
  by_cases h : k ≤ xs.length
  · rw [Nat.min_eq_left h]
  · rw [Nat.min_eq_right (by omega), List.take_of_length_le (Nat.le_refl _), List.take_of_length_le (by omega)]
/-! ### what a for walks -/
section
variable {X : Cx} {tg e a b : Expr} {ds : DS} {L : MS} {P : List Dt → MS → Prop} {pos p : Pos}
theorem yields_list {K : PySem.W.Frag} {B : Hp} {a : Addr} {xs : List Dt} {vs : List V} (ha : SqL K B a vs) (h : IsL K B xs vs) : Yields K B (Itl K a) xs := fun i B' H' L' e hl => ⟨fun d q => by
  obtain ⟨v, e1, e2⟩ := h.get q
  have e3 : SqL K H' a vs := (e.trans hl.sub).seq ha
  refine ⟨⟨vs, v, e3, e1⟩, fun u H2 hy => ?_⟩
  obtain ⟨rfl, hy⟩ := hy
  have e4 := hy vs e3
  rw [e1] at e4
  obtain rfl := Option.some.inj e4
  exact ⟨B', Same.refl _, hl, e2.mono e⟩, fun hi => ⟨vs, (e.trans hl.sub).seq ha, by rw [h.length]; exact hi⟩⟩
theorem seqT {K : PySem.W.Frag} {H H' : Hp} {a : Addr} {xs : List V} (e : Same H H') (h : SqT K H a xs) : SqT K H' a xs := by
  rcases h with (h | ⟨o, h⟩) | h
  · exact .inl (.inl (e _ _ h))
  · exact .inl (.inr ⟨o, e _ _ h⟩)
  · exact .inr h
theorem yields_tup {K : PySem.W.Frag} {B : Hp} {a : Addr} {xs : List Dt} {vs : List V} (ha : SqT K B a vs) (h : IsL K B xs vs) : Yields K B (Itt K a) xs := fun i B' H' L' e hl => ⟨fun d q => by
  obtain ⟨v, e1, e2⟩ := h.get q
  have e3 : SqT K H' a vs := seqT (e.trans hl.sub) ha
  refine ⟨⟨vs, v, e3, e1⟩, fun u H2 hy => ?_⟩
  obtain ⟨rfl, hy⟩ := hy
  have e4 := hy vs e3
  rw [e1] at e4
  obtain rfl := Option.some.inj e4
  exact ⟨B', Same.refl _, hl, e2.mono e⟩, fun hi => ⟨vs, seqT (e.trans hl.sub) ha, by rw [h.length]; exact hi⟩⟩
def walkL : Dt → (List Dt → Prop) → Prop := fun x P => match x with
  | .lst xs => P xs
  | .frl xs => P xs
  | _ => False
theorem di_list (h : DP X e ds L fun x L1 => walkL x fun xs => P xs L1) : DI X tg e ds L P := .mk fun σ H B hs hl R q => by
  refine PI.to (pi_list pe_w) (h.run σ H B hs hl _ fun x L1 v B1 H1 p e1 hl1 ix => ?_)
  cases x <;> try exact False.elim p
  · obtain ⟨a, us, rfl, ha, ia⟩ := ix
    exact ⟨a, rfl, ⟨us, SqL.of (hl1.sub _ _ ha)⟩, q _ L1 _ B1 H1 p e1 hl1 (yields_list (SqL.of ha) ia)⟩
  · obtain ⟨a, us, rfl, ha, ia⟩ := ix
    exact ⟨a, rfl, ⟨us, hl1.sub.seq ha⟩, q _ L1 _ B1 H1 p e1 hl1 (yields_list ha ia)⟩
theorem di_tup (h : DP X e ds L fun x L1 => ∃ xs, x = .tup xs ∧ P xs L1) : DI X tg e ds L P := .mk fun σ H B hs hl R q => by
  refine PI.to (pi_tup pe_w) (h.run σ H B hs hl _ fun x L1 v B1 H1 hp e1 hl1 ix => ?_)
  obtain ⟨xs, rfl, p⟩ := hp
  obtain ⟨a, us, rfl, ha, ia⟩ := ix
  exact ⟨a, rfl, ⟨us, SqT.of (hl1.sub _ _ ha)⟩, q _ L1 _ B1 H1 p e1 hl1 (yields_tup (SqT.of ha) ia)⟩
/-- lo, lo + 1, .. -/
def rng (lo : Int) (n : Nat) : List Dt := (List.range n).map fun i => Dt.int (lo + (i : Nat))
theorem rng_len (lo : Int) (n : Nat) : (rng lo n).length = n := by simp [rng]
theorem rng_get {lo : Int} {n i : Nat} {d : Dt} (h : (rng lo n)[i]? = some d) : i < n ∧ d = .int (lo + (i : Nat)) := by
  unfold rng at h
  rw [List.getElem?_map] at h
  by_cases hi : i < n
  · rw [List.getElem?_range hi] at h
    exact ⟨hi, (Option.some.inj h).symm⟩
  · rw [List.getElem?_eq_none (by simpa using hi)] at h
    cases h
theorem yields_rng {K : PySem.W.Frag} {B : Hp} (lo : Int) (n : Nat) : Yields K B (Itr lo n) (rng lo n) := fun i B' H' L' e hl => ⟨fun d q => by
  obtain ⟨hi, rfl⟩ := rng_get q
  refine ⟨hi, fun u H2 hy => ?_⟩
  obtain ⟨rfl, rfl⟩ := hy
  exact ⟨B', Same.refl _, hl, rfl⟩, fun hi => by rw [rng_len] at hi; exact hi⟩
theorem di_range1 (hm : X.mg "range" = none) (h : DP X a ds L fun x L1 => ∃ j : Int, x = .int j ∧ -(2 ^ 62) ≤ j ∧ j < 2 ^ 62 ∧ P (rng 0 j.toNat) L1) (hg : Gl X "range" := by rfl) (hs' : starEach [a] X.env = [(false, eval a X.env)] := by rfl) :
    DI X tg (.Call (.Name "range" p) [a] [] pos) ds L P := .mk fun σ H B hs hl R q => by
  refine PI.to (pi_range1 hg hm (pa_cons pe_w pa_nil hs') hs') (h.run σ H B hs hl _ fun x L1 v B1 H1 hp e1 hl1 ix => ?_)
  obtain ⟨j, rfl, h1, h2, p⟩ := hp
  obtain rfl : v = _ := ix
  exact ⟨j, rfl, h1, h2, q _ L1 _ B1 H1 p e1 hl1 (yields_rng 0 _)⟩
theorem di_range2 (hm : X.mg "range" = none) (h : DP X a ds L fun x L1 => DP X b ds L1 fun y L2 => ∃ i j : Int, x = .int i ∧ y = .int j ∧ (-(2 ^ 62) ≤ i ∧ i < 2 ^ 62 ∧ -(2 ^ 62) ≤ j ∧ j < 2 ^ 62) ∧ P (rng i (j - i).toNat) L2) (hg : Gl X "range" := by rfl)
    (hs' : starEach [a, b] X.env = [(false, eval a X.env), (false, eval b X.env)] := by rfl) (hs2 : starEach [b] X.env = [(false, eval b X.env)] := by rfl) :
    DI X tg (.Call (.Name "range" p) [a, b] [] pos) ds L P := .mk fun σ H B hs hl R q => by
  refine PI.to (pi_range2 hg hm (pa_cons pe_w (pa_cons pe_w pa_nil hs2) (by rw [hs', hs2])) hs' hs2) (h.run σ H B hs hl _ fun x L1 v B1 H1 hb e1 hl1 ix => hb.run σ H1 B1 (hs.mono e1) hl1 _ fun y L2 u B2 H2 hp e2 hl2 iy => ?_)
  obtain ⟨i, j, rfl, rfl, h1, p⟩ := hp
  obtain rfl : v = _ := ix
  obtain rfl : u = _ := iy
  exact ⟨i, j, rfl, h1, q _ L2 _ B2 H2 p (e1.trans e2) hl2 (yields_rng i _)⟩
/-- a text, sign by sign -/
def sgn (l : List Nat) : List Dt := l.map fun c => Dt.str [c]
theorem sgn_get {l : List Nat} {i : Nat} {d : Dt} (h : (sgn l)[i]? = some d) : ∃ c, l[i]? = some c ∧ d = .str [c] := by
  unfold sgn at h
  rw [List.getElem?_map] at h
  cases e : l[i]? with
  | none => rw [e] at h; cases h
  | some c => rw [e] at h; exact ⟨c, rfl, (Option.some.inj h).symm⟩
theorem yields_str {K : PySem.W.Frag} {B : Hp} (l : List Nat) : Yields K B (Its ⟨l.toArray⟩) (sgn l) := fun i B' H' L' e hl => ⟨fun d q => by
  obtain ⟨c, hc, rfl⟩ := sgn_get q
  refine ⟨show i < (l.toArray).size by rw [List.size_toArray]; exact (List.getElem?_eq_some_iff.mp hc).1, fun u H2 hy => ?_⟩
  obtain ⟨rfl, c', hc', rfl⟩ := hy
  have e2 : c' = c := by
    have q2 : (l.toArray)[i]? = some c := by simpa using hc
    have q3 : (l.toArray)[i]? = some c' := hc'
    rw [q2] at q3
    exact (Option.some.inj q3).symm
  subst e2
  exact ⟨B', Same.refl _, hl, rfl⟩, fun hi => show (l.toArray).size ≤ i by rw [List.size_toArray]; simpa [sgn] using hi⟩
theorem di_str (h : DP X e ds L fun x L1 => ∃ l, x = .str l ∧ P (sgn l) L1) : DI X tg e ds L P := .mk fun σ H B hs hl R q => by
  refine PI.to (pi_str pe_w) (h.run σ H B hs hl _ fun x L1 v B1 H1 hp e1 hl1 ix => ?_)
  obtain ⟨l, rfl, p⟩ := hp
  obtain rfl : v = _ := ix
  exact ⟨_, rfl, q _ L1 _ B1 H1 p e1 hl1 (yields_str l)⟩
/-- enumerate of a tuple, of a text -/
def enm (xs : List Dt) : List Dt := xs.mapIdx fun i x => Dt.tup [.int (i : Nat), x]
theorem enm_len (xs : List Dt) : (enm xs).length = xs.length := by simp [enm]
theorem enm_get {xs : List Dt} {i : Nat} {d : Dt} (h : (enm xs)[i]? = some d) : ∃ x, xs[i]? = some x ∧ d = .tup [.int (i : Nat), x] := by
  unfold enm at h
  rw [List.getElem?_mapIdx] at h
  cases e : xs[i]? with
  | none => rw [e] at h; cases h
  | some c => rw [e] at h; exact ⟨c, rfl, (Option.some.inj h).symm⟩
theorem yields_enumT {K : PySem.W.Frag} {B : Hp} {a : Addr} {xs : List Dt} {vs : List V} (ha : SqT K B a vs) (h : IsL K B xs vs) : Yields K B (IteT K a) (enm xs) := fun i B' H' L' e hl => ⟨fun d q => by
  obtain ⟨x, hx, rfl⟩ := enm_get q
  obtain ⟨v, e1, e2⟩ := h.get hx
  have e3 : SqT K H' a vs := seqT (e.trans hl.sub) ha
  refine ⟨⟨vs, v, e3, e1⟩, fun u H2 hy => ?_⟩
  obtain ⟨T, y, rfl, hT, rfl, hy⟩ := hy
  have e4 := hy vs e3
  rw [e1] at e4
  obtain rfl := Option.some.inj e4
  obtain ⟨sb, h2⟩ := hl.new (o := .tup [.int (i : Nat), v]) hT
  exact ⟨_, sb, h2, T, _, rfl, upd_same, ⟨_, _, rfl, rfl, _, _, rfl, (e2.mono e).mono sb, rfl⟩⟩, fun hi => ⟨vs, seqT (e.trans hl.sub) ha, by rw [h.length, ← enm_len]; exact hi⟩⟩
theorem yields_enumS {K : PySem.W.Frag} {B : Hp} (l : List Nat) : Yields K B (IteS ⟨l.toArray⟩) (enm (sgn l)) := fun i B' H' L' e hl => ⟨fun d q => by
  obtain ⟨x, hx, rfl⟩ := enm_get q
  obtain ⟨c, hc, rfl⟩ := sgn_get hx
  refine ⟨show i < (l.toArray).size by rw [List.size_toArray]; exact (List.getElem?_eq_some_iff.mp hc).1, fun u H2 hy => ?_⟩
  obtain ⟨T, c', rfl, hT, rfl, hc'⟩ := hy
  have e2 : c' = c := by
    have q2 : (l.toArray)[i]? = some c := by simpa using hc
    have q3 : (l.toArray)[i]? = some c' := hc'
    rw [q2] at q3
    exact (Option.some.inj q3).symm
  subst e2
  obtain ⟨sb, h2⟩ := hl.new (o := .tup [.int (i : Nat), .str ⟨#[c']⟩]) hT
  exact ⟨_, sb, h2, T, _, rfl, upd_same, ⟨_, _, rfl, rfl, _, _, rfl, rfl, rfl⟩⟩, fun hi => show (l.toArray).size ≤ i by rw [List.size_toArray]; simpa [enm_len, sgn] using hi⟩
theorem di_enumT {elts : List Expr} {kk : Nat} {tpos : Pos} (hm : X.mg "enumerate" = none) (h : DP X e ds L fun x L1 => ∃ xs, x = .tup xs ∧ P (enm xs) L1) (hg : Gl X "enumerate" := by rfl) (hs' : starEach [e] X.env = [(false, eval e X.env)] := by rfl) :
    DI X (.Tuple elts kk tpos) (.Call (.Name "enumerate" p) [e] [] pos) ds L P := .mk fun σ H B hs hl R q => by
  refine PI.to (pi_enumT hg hm (pa_cons pe_w pa_nil hs') hs') (h.run σ H B hs hl _ fun x L1 v B1 H1 hp e1 hl1 ix => ?_)
  obtain ⟨xs, rfl, p⟩ := hp
  obtain ⟨a, us, rfl, ha, ia⟩ := ix
  exact ⟨a, us, rfl, SqT.of (hl1.sub _ _ ha), q _ L1 _ B1 H1 p e1 hl1 (yields_enumT (SqT.of ha) ia)⟩
theorem di_enumS {elts : List Expr} {kk : Nat} {tpos : Pos} (hm : X.mg "enumerate" = none) (h : DP X e ds L fun x L1 => ∃ l, x = .str l ∧ P (enm (sgn l)) L1) (hg : Gl X "enumerate" := by rfl) (hs' : starEach [e] X.env = [(false, eval e X.env)] := by rfl) :
    DI X (.Tuple elts kk tpos) (.Call (.Name "enumerate" p) [e] [] pos) ds L P := .mk fun σ H B hs hl R q => by
  refine PI.to (pi_enumS hg hm (pa_cons pe_w pa_nil hs') hs') (h.run σ H B hs hl _ fun x L1 v B1 H1 hp e1 hl1 ix => ?_)
  obtain ⟨l, rfl, p⟩ := hp
  obtain rfl : v = _ := ix
  exact ⟨_, rfl, q _ L1 _ B1 H1 p e1 hl1 (yields_enumS l)⟩
end

/-! ### comprehensions -/
section
variable {X : Cx}
/-- the data of the slots that the block keeps -/
def wipeD (ds : DS) : List Nat → DS
  | [] => ds
  | v :: vs => (wipeD ds vs).set v none
theorem sl_wipe {K : PySem.W.Frag} {B : Hp} {ds : DS} {σ : L2.St} (h : Sl K B ds σ) : ∀ vs, Sl K B (wipeD ds vs) (wipe σ vs)
  | [] => h
  | v :: vs => by
    have ih := sl_wipe h vs
    refine ⟨by show (List.set _ _ _).length = (List.set _ _ _).length; rw [List.length_set, List.length_set, ih.1], fun i d q => ?_⟩
    have q : ((wipeD ds vs).set v none)[i]? = some (some d) := q
    by_cases hi : v = i
    · subst hi
      by_cases hv : v < (wipeD ds vs).length
      · rw [List.getElem?_set_self hv] at q; cases q
      · rw [List.getElem?_eq_none (by simpa using hv)] at q; cases q
    · rw [List.getElem?_set_ne hi] at q
      obtain ⟨u, e1, e2⟩ := ih.2 i d q
      exact ⟨u, by show ((wipe σ vs).set v none)[i]? = _; rw [List.getElem?_set_ne hi]; exact e1, e2⟩
/-- the block's contexts -/
@[reducible] def bX (X : Cx) (scope : Scope) (s : Shared) (H : Hp) (C : Addr) (cl : List (Str × Addr)) (fp : List Addr) : Cx := X.blk s H scope (compEnvC scope cl C X.env) fp
/-- what a comprehension asks: W: how the changing objects stand by the turn, ys so far -/
def DLc (X : Cx) (elt tg iter : Expr) (ifs : List Expr) (scope : Scope) (ds : DS) (L : MS) (i : Nat) (P : DK) : Prop :=
  DI X tg iter ds L fun xs L1 => ∃ W : Nat → List Dt → MS → Prop, W 0 [] L1 ∧ xs.length ≤ 100000 ∧ (∀ n d ys L2 T, xs[n]? = some d → W n ys L2 → ys.length ≤ n → ∀ s H C cl fp, ∃ ds', SetAt ds i d ds' ∧
      DTs (bX X scope s H C cl fp) ifs ds' (T :: L2) fun c L4 =>
        two c (∀ s H C cl fp, DP (bX X scope s H C cl fp) elt ds' L4 fun y L5 => ∃ L6, L5 = T :: L6 ∧ W (n + 1) (ys ++ [y]) L6) (∃ L6, L4 = T :: L6 ∧ W (n + 1) ys L6)) ∧ ∀ ys L2, W xs.length ys L2 → P (.lst ys) L2
def teB (X : Cx) (scope : Scope) (elt : Expr) : TE := fun σ H Q => ∀ s H0 C cl fp, EW (bX X scope s H0 C cl fp) elt σ H Q
def ttB (X : Cx) (scope : Scope) (ifs : List Expr) : TT := fun σ H Q => ∀ s H0 C cl fp, TSW (bX X scope s H0 C cl fp) ifs σ H Q
theorem lc_read {elt tg iter : Expr} {ifs : List Expr} {scope : Scope} {ds : DS} {L : MS} {P : DK} {i : Nat} {σ : L2.St} {H B : Hp} {Q : VK} (hs0 : Sl X.K B ds σ) (hl0 : Hs X.K B L H) (h : DLc X elt tg iter ifs scope ds L i P) (q : Fin X.K B P Q) :
    tLc (IW X tg iter) (gName i) (ttB X scope ifs) (teB X scope elt) [i] σ H Q := by
  refine h.run σ H B hs0 hl0 _ fun xs L1 J B1 H1 ⟨W, w0, hz, hstep, hend⟩ e1 hl1 hy D hD => ?_
  refine ⟨fun n m H' => n + m = xs.length ∧ ∃ ys L2 B', W n ys L2 ∧ ys.length ≤ n ∧ Same B1 B' ∧ Hs X.K B' ((D, .lst ys) :: L2) H', ⟨xs.length, Nat.zero_add _, [], L1, B1, w0, Nat.le_refl _, Same.refl _, hl1.newM hD ⟨[], rfl, rfl⟩⟩, ?_⟩
  rintro n m H' ⟨hn, ys, L2, B', w, hys, e2, hl2⟩
  obtain ⟨y1, y2⟩ := hy n B' H' _ e2 hl2
  by_cases hi : n < xs.length
  · have hx : xs[n]? = some xs[n] := List.getElem?_eq_getElem hi
    obtain ⟨g1, g2⟩ := y1 _ hx
    refine .inr ⟨g1, fun H3 => ∃ ys L2 B', W (n + 1) ys L2 ∧ ys.length ≤ n + 1 ∧ Same B1 B' ∧ Hs X.K B' ((D, .lst ys) :: L2) H3, fun H3 hN => ⟨m - 1, by omega, by omega, hN⟩, fun v H2 hv => ?_⟩
    obtain ⟨B2, e3, hl3, iv⟩ := g2 v H2 hv
    have eB : Same B1 B2 := e2.trans e3
    have sl2 : ∀ ds', SetAt ds i xs[n] ds' → Sl X.K B2 ds' ((wipe σ [i]).set i (some v)) := fun ds' hset => by
      have q1 := (sl_wipe (hs0.mono (e1.trans eB)) [i]).set i iv
      have e5 : (wipeD ds [i]).set i (some xs[n]) = ds' := by
        rw [← hset]
        show (ds.set i none).set i (some xs[n]) = _
        rw [List.set_set]
      rw [e5] at q1
      exact q1
    show wipe ((wipe σ [i]).set i (some v)) [i] = wipe σ [i] ∧ ttB X scope ifs ((wipe σ [i]).set i (some v)) H2 _
    refine ⟨?_, fun s H0 C cl fp => ?_⟩
    · show (((σ.set i none).set i (some v)).set i none) = σ.set i none
      rw [List.set_set, List.set_set]
    · obtain ⟨ds', hset, ht⟩ := hstep n xs[n] ys L2 (D, .lst ys) hx w hys s H0 C cl fp
      refine ht.run _ H2 B2 (sl2 ds' hset) hl3 _ fun c L4 B3 H3 p3 e5 hl4 => ?_
      cases c with
      | true =>
        show teB X scope elt _ H3 _
        intro s' H0' C' cl' fp'
        refine (p3.1 rfl s' H0' C' cl' fp').run _ H3 B3 ((sl2 ds' hset).mono e5) hl4 _ fun y L5 u B4 H4 ⟨L6, e6, w6⟩ e7 hl5 iy => ?_
        subst e6
        obtain ⟨vs, hD', ivs⟩ := hl5.lst ML.hd
        refine ⟨vs, hD', ?_, ys ++ [y], L6, B4, w6, by rw [List.length_append]; exact Nat.succ_le_succ hys, (eB.trans e5).trans e7, hl5.put .hd ⟨_, rfl, ivs.append (IsL.one iy)⟩⟩
        rw [ivs.length, sizeLine_eq]
        omega
      | false =>
        obtain ⟨L6, rfl, w6⟩ := p3.2 rfl
        exact ⟨ys, L6, B3, w6, by omega, eB.trans e5, hl4⟩
  · have ei : n = xs.length := by omega
    refine .inl ⟨y2 (by omega), ?_⟩
    subst ei
    obtain ⟨vs, hD', ivs⟩ := hl2.lst ML.hd
    obtain ⟨sb, hl5⟩ := hl2.freeze MDel.hd hD'
    exact q (.lst ys) L2 _ _ H' (hend ys L2 w) ((e1.trans e2).trans sb) hl5 ⟨D, vs, rfl, upd_same, ivs.mono sb⟩
theorem dp_lc {elt tg iter : Expr} {ifs : List Expr} {scope : Scope} {ds : DS} {L : MS} {P : DK} {pos : Pos} {i : Nat} (own : List (Str × Nat)) (ok : BlkOk X.N X.env.scope scope own) (hN : X.N.Nodup)
    (hg : ∀ (s : Shared) (H : Hp) (C : Addr) (cl : List (Str × Addr)) (fp : List Addr), PG (bX X scope s H C cl fp) tg (gName i)) (h : DLc X elt tg iter ifs scope ds L i P)
    (ho : own.map (·.2) = [i] := by rfl) (hc : X.calm = true := by rfl) (hs : ∀ x, foldedSetIterable iter X.env x = pure x := by intro _; rfl) : DP X (.ListComp elt [⟨tg, iter, ifs, 0⟩] scope pos) ds L P := .mk fun σ H B hs0 hl0 Q q => by
  refine PE.to (pe_lc (tt := ttB X scope ifs) (te := teB X scope elt) hc hN pi_w ok hg (fun s H C cl fp => ⟨fun pins s1 σ H Q I h => h s _ C cl fp pins s1 I⟩) (fun s H C cl fp => ⟨fun pins s1 σ H Q I h => h s _ C cl fp pins s1 I⟩) hs) ?_
  rw [ho]
  exact lc_read hs0 hl0 h q
/-- name = [..] -/
theorem ds_setLc {elt tg iter : Expr} {ifs : List Expr} {scope : Scope} {ds : DS} {L : MS} {D : DEnds} {pos spos py : Pos} {i j : Nat} {y : Str} {ds' : Dt → DS} (hset : ∀ d, SetAt ds j d (ds' d)) (own : List (Str × Nat)) (ok : BlkOk X.N X.env.scope scope own) (hN : X.N.Nodup)
    (hg : ∀ (s : Shared) (H : Hp) (C : Addr) (cl : List (Str × Addr)) (fp : List Addr), PG (bX X scope s H C cl fp) tg (gName i))
    (hsw : swapsWith (.ListComp elt [⟨tg, iter, ifs, 0⟩] scope pos) (some (.Name y py)) spos.line X.env = pure true) (h : DLc X elt tg iter ifs scope ds L i fun d L1 => D.nx (ds' d) L1)
    (hy : X.N[j]? = some y := by rfl) (hyl : X.env.scope.names.lookup y = some .local := by rfl) (ho : own.map (·.2) = [i] := by rfl) (hc : X.calm = true := by rfl) (hs : ∀ x, foldedSetIterable iter X.env x = pure x := by intro _; rfl) :
    DSt X (.Assign [.Name y py] (.ListComp elt [⟨tg, iter, ifs, 0⟩] scope pos) spos) ds L D := .mk fun σ H B E hs0 hl0 m => by
  refine PS.to (ps_setLc (i := j) (tt := ttB X scope ifs) (te := teB X scope elt) hc hN hy hyl hsw pi_w ok hg (fun s H C cl fp => ⟨fun pins s1 σ H Q I h => h s _ C cl fp pins s1 I⟩) (fun s H C cl fp => ⟨fun pins s1 σ H Q I h => h s _ C cl fp pins s1 I⟩) hs) ?_
  rw [ho]
  refine lc_read hs0 hl0 h fun d L' v B2 H2 p e hl iv => ?_
  refine m.nx (ds' d) L' _ B2 H2 p e ?_ hl
  rw [← hset d]
  exact (hs0.mono e).set j iv
/-- .. where nothing changes: from xs the values g of those that f lets through -/
theorem DLc.pure {elt tg iter : Expr} {ifs : List Expr} {scope : Scope} {ds : DS} {L : MS} {i : Nat} {P : DK} (h : DI X tg iter ds L fun xs L1 => ∃ (f : Dt → Bool) (g : Dt → Dt), xs.length ≤ 100000 ∧ (∀ d T, d ∈ xs → ∀ s H C cl fp, ∃ ds', SetAt ds i d ds' ∧
      DTs (bX X scope s H C cl fp) ifs ds' (T :: L1) fun c L4 => L4 = T :: L1 ∧ c = f d ∧ (c = true → ∀ s H C cl fp, DP (bX X scope s H C cl fp) elt ds' L4 fun y L5 => L5 = L4 ∧ y = g d)) ∧ P (.lst ((xs.filter f).map g)) L1) : DLc X elt tg iter ifs scope ds L i P := .mk fun σ H B hs hl R q =>
  h.run σ H B hs hl R fun xs L' J B2 H2 ⟨f, g, hz, ht, p⟩ => q xs L' J B2 H2 ⟨fun n ys L2 => L2 = L' ∧ ys = ((xs.take n).filter f).map g, ⟨rfl, rfl⟩, hz, fun n d ys L2 T hx ⟨e1, e2⟩ _ s H C cl fp => by
    subst e1 e2
    obtain ⟨ds', hset, h1⟩ := ht d T (List.mem_of_getElem? hx) s H C cl fp
    refine ⟨ds', hset, DTs.imp h1 fun c L4 ⟨e3, e4, h2⟩ => ⟨fun hc s H C cl fp => DP.imp (h2 hc s H C cl fp) fun y L5 ⟨e5, e6⟩ => ⟨L2, e5.trans e3, rfl, ?_⟩, fun hc => ⟨L2, e3, rfl, ?_⟩⟩⟩
    · rw [List.take_add_one, hx, List.filter_append, List.map_append, e6]
      rw [hc] at e4
      simp [← e4]
    · rw [List.take_add_one, hx, List.filter_append, List.map_append]
      rw [hc] at e4
      simp [← e4], fun ys L2 ⟨e1, e2⟩ => by
    rw [e1, e2, List.take_length]
    exact p⟩
end
end Z
namespace Z
open PySem PySem.Spec PyProof.Rows L2
/-! ### places -/
theorem g0 {d : Dt} {l : DS} : Get (some d :: l) 0 d := rfl
theorem s0 {a0 : Option Dt} {d : Dt} {l : DS} : SetAt (a0 :: l) 0 d (some d :: l) := rfl
theorem g1 {a0 : Option Dt} {d : Dt} {l : DS} : Get (a0 :: some d :: l) 1 d := rfl
theorem s1 {a0 a1 : Option Dt} {d : Dt} {l : DS} : SetAt (a0 :: a1 :: l) 1 d (a0 :: some d :: l) := rfl
theorem g2 {a0 a1 : Option Dt} {d : Dt} {l : DS} : Get (a0 :: a1 :: some d :: l) 2 d := rfl
theorem s2 {a0 a1 a2 : Option Dt} {d : Dt} {l : DS} : SetAt (a0 :: a1 :: a2 :: l) 2 d (a0 :: a1 :: some d :: l) := rfl
theorem g3 {a0 a1 a2 : Option Dt} {d : Dt} {l : DS} : Get (a0 :: a1 :: a2 :: some d :: l) 3 d := rfl
theorem s3 {a0 a1 a2 a3 : Option Dt} {d : Dt} {l : DS} : SetAt (a0 :: a1 :: a2 :: a3 :: l) 3 d (a0 :: a1 :: a2 :: some d :: l) := rfl
theorem g4 {a0 a1 a2 a3 : Option Dt} {d : Dt} {l : DS} : Get (a0 :: a1 :: a2 :: a3 :: some d :: l) 4 d := rfl
theorem s4 {a0 a1 a2 a3 a4 : Option Dt} {d : Dt} {l : DS} : SetAt (a0 :: a1 :: a2 :: a3 :: a4 :: l) 4 d (a0 :: a1 :: a2 :: a3 :: some d :: l) := rfl
theorem g5 {a0 a1 a2 a3 a4 : Option Dt} {d : Dt} {l : DS} : Get (a0 :: a1 :: a2 :: a3 :: a4 :: some d :: l) 5 d := rfl
theorem s5 {a0 a1 a2 a3 a4 a5 : Option Dt} {d : Dt} {l : DS} : SetAt (a0 :: a1 :: a2 :: a3 :: a4 :: a5 :: l) 5 d (a0 :: a1 :: a2 :: a3 :: a4 :: some d :: l) := rfl
theorem g6 {a0 a1 a2 a3 a4 a5 : Option Dt} {d : Dt} {l : DS} : Get (a0 :: a1 :: a2 :: a3 :: a4 :: a5 :: some d :: l) 6 d := rfl
theorem s6 {a0 a1 a2 a3 a4 a5 a6 : Option Dt} {d : Dt} {l : DS} : SetAt (a0 :: a1 :: a2 :: a3 :: a4 :: a5 :: a6 :: l) 6 d (a0 :: a1 :: a2 :: a3 :: a4 :: a5 :: some d :: l) := rfl
theorem g7 {a0 a1 a2 a3 a4 a5 a6 : Option Dt} {d : Dt} {l : DS} : Get (a0 :: a1 :: a2 :: a3 :: a4 :: a5 :: a6 :: some d :: l) 7 d := rfl
theorem s7 {a0 a1 a2 a3 a4 a5 a6 a7 : Option Dt} {d : Dt} {l : DS} : SetAt (a0 :: a1 :: a2 :: a3 :: a4 :: a5 :: a6 :: a7 :: l) 7 d (a0 :: a1 :: a2 :: a3 :: a4 :: a5 :: a6 :: some d :: l) := rfl
theorem g8 {a0 a1 a2 a3 a4 a5 a6 a7 : Option Dt} {d : Dt} {l : DS} : Get (a0 :: a1 :: a2 :: a3 :: a4 :: a5 :: a6 :: a7 :: some d :: l) 8 d := rfl
theorem s8 {a0 a1 a2 a3 a4 a5 a6 a7 a8 : Option Dt} {d : Dt} {l : DS} : SetAt (a0 :: a1 :: a2 :: a3 :: a4 :: a5 :: a6 :: a7 :: a8 :: l) 8 d (a0 :: a1 :: a2 :: a3 :: a4 :: a5 :: a6 :: a7 :: some d :: l) := rfl
theorem g9 {a0 a1 a2 a3 a4 a5 a6 a7 a8 : Option Dt} {d : Dt} {l : DS} : Get (a0 :: a1 :: a2 :: a3 :: a4 :: a5 :: a6 :: a7 :: a8 :: some d :: l) 9 d := rfl
theorem s9 {a0 a1 a2 a3 a4 a5 a6 a7 a8 a9 : Option Dt} {d : Dt} {l : DS} : SetAt (a0 :: a1 :: a2 :: a3 :: a4 :: a5 :: a6 :: a7 :: a8 :: a9 :: l) 9 d (a0 :: a1 :: a2 :: a3 :: a4 :: a5 :: a6 :: a7 :: a8 :: some d :: l) := rfl
theorem g10 {a0 a1 a2 a3 a4 a5 a6 a7 a8 a9 : Option Dt} {d : Dt} {l : DS} : Get (a0 :: a1 :: a2 :: a3 :: a4 :: a5 :: a6 :: a7 :: a8 :: a9 :: some d :: l) 10 d := rfl
theorem s10 {a0 a1 a2 a3 a4 a5 a6 a7 a8 a9 a10 : Option Dt} {d : Dt} {l : DS} : SetAt (a0 :: a1 :: a2 :: a3 :: a4 :: a5 :: a6 :: a7 :: a8 :: a9 :: a10 :: l) 10 d (a0 :: a1 :: a2 :: a3 :: a4 :: a5 :: a6 :: a7 :: a8 :: a9 :: some d :: l) := rfl
theorem g11 {a0 a1 a2 a3 a4 a5 a6 a7 a8 a9 a10 : Option Dt} {d : Dt} {l : DS} : Get (a0 :: a1 :: a2 :: a3 :: a4 :: a5 :: a6 :: a7 :: a8 :: a9 :: a10 :: some d :: l) 11 d := rfl
theorem s11 {a0 a1 a2 a3 a4 a5 a6 a7 a8 a9 a10 a11 : Option Dt} {d : Dt} {l : DS} : SetAt (a0 :: a1 :: a2 :: a3 :: a4 :: a5 :: a6 :: a7 :: a8 :: a9 :: a10 :: a11 :: l) 11 d (a0 :: a1 :: a2 :: a3 :: a4 :: a5 :: a6 :: a7 :: a8 :: a9 :: a10 :: some d :: l) := rfl
theorem g12 {a0 a1 a2 a3 a4 a5 a6 a7 a8 a9 a10 a11 : Option Dt} {d : Dt} {l : DS} : Get (a0 :: a1 :: a2 :: a3 :: a4 :: a5 :: a6 :: a7 :: a8 :: a9 :: a10 :: a11 :: some d :: l) 12 d := rfl
theorem s12 {a0 a1 a2 a3 a4 a5 a6 a7 a8 a9 a10 a11 a12 : Option Dt} {d : Dt} {l : DS} : SetAt (a0 :: a1 :: a2 :: a3 :: a4 :: a5 :: a6 :: a7 :: a8 :: a9 :: a10 :: a11 :: a12 :: l) 12 d (a0 :: a1 :: a2 :: a3 :: a4 :: a5 :: a6 :: a7 :: a8 :: a9 :: a10 :: a11 :: some d :: l) := rfl
theorem g13 {a0 a1 a2 a3 a4 a5 a6 a7 a8 a9 a10 a11 a12 : Option Dt} {d : Dt} {l : DS} : Get (a0 :: a1 :: a2 :: a3 :: a4 :: a5 :: a6 :: a7 :: a8 :: a9 :: a10 :: a11 :: a12 :: some d :: l) 13 d := rfl
theorem s13 {a0 a1 a2 a3 a4 a5 a6 a7 a8 a9 a10 a11 a12 a13 : Option Dt} {d : Dt} {l : DS} : SetAt (a0 :: a1 :: a2 :: a3 :: a4 :: a5 :: a6 :: a7 :: a8 :: a9 :: a10 :: a11 :: a12 :: a13 :: l) 13 d (a0 :: a1 :: a2 :: a3 :: a4 :: a5 :: a6 :: a7 :: a8 :: a9 :: a10 :: a11 :: a12 :: some d :: l) := rfl
theorem g14 {a0 a1 a2 a3 a4 a5 a6 a7 a8 a9 a10 a11 a12 a13 : Option Dt} {d : Dt} {l : DS} : Get (a0 :: a1 :: a2 :: a3 :: a4 :: a5 :: a6 :: a7 :: a8 :: a9 :: a10 :: a11 :: a12 :: a13 :: some d :: l) 14 d := rfl
theorem s14 {a0 a1 a2 a3 a4 a5 a6 a7 a8 a9 a10 a11 a12 a13 a14 : Option Dt} {d : Dt} {l : DS} : SetAt (a0 :: a1 :: a2 :: a3 :: a4 :: a5 :: a6 :: a7 :: a8 :: a9 :: a10 :: a11 :: a12 :: a13 :: a14 :: l) 14 d (a0 :: a1 :: a2 :: a3 :: a4 :: a5 :: a6 :: a7 :: a8 :: a9 :: a10 :: a11 :: a12 :: a13 :: some d :: l) := rfl
theorem g15 {a0 a1 a2 a3 a4 a5 a6 a7 a8 a9 a10 a11 a12 a13 a14 : Option Dt} {d : Dt} {l : DS} : Get (a0 :: a1 :: a2 :: a3 :: a4 :: a5 :: a6 :: a7 :: a8 :: a9 :: a10 :: a11 :: a12 :: a13 :: a14 :: some d :: l) 15 d := rfl
theorem s15 {a0 a1 a2 a3 a4 a5 a6 a7 a8 a9 a10 a11 a12 a13 a14 a15 : Option Dt} {d : Dt} {l : DS} : SetAt (a0 :: a1 :: a2 :: a3 :: a4 :: a5 :: a6 :: a7 :: a8 :: a9 :: a10 :: a11 :: a12 :: a13 :: a14 :: a15 :: l) 15 d (a0 :: a1 :: a2 :: a3 :: a4 :: a5 :: a6 :: a7 :: a8 :: a9 :: a10 :: a11 :: a12 :: a13 :: a14 :: some d :: l) := rfl
theorem g16 {a0 a1 a2 a3 a4 a5 a6 a7 a8 a9 a10 a11 a12 a13 a14 a15 : Option Dt} {d : Dt} {l : DS} : Get (a0 :: a1 :: a2 :: a3 :: a4 :: a5 :: a6 :: a7 :: a8 :: a9 :: a10 :: a11 :: a12 :: a13 :: a14 :: a15 :: some d :: l) 16 d := rfl
theorem s16 {a0 a1 a2 a3 a4 a5 a6 a7 a8 a9 a10 a11 a12 a13 a14 a15 a16 : Option Dt} {d : Dt} {l : DS} : SetAt (a0 :: a1 :: a2 :: a3 :: a4 :: a5 :: a6 :: a7 :: a8 :: a9 :: a10 :: a11 :: a12 :: a13 :: a14 :: a15 :: a16 :: l) 16 d (a0 :: a1 :: a2 :: a3 :: a4 :: a5 :: a6 :: a7 :: a8 :: a9 :: a10 :: a11 :: a12 :: a13 :: a14 :: a15 :: some d :: l) := rfl
theorem g17 {a0 a1 a2 a3 a4 a5 a6 a7 a8 a9 a10 a11 a12 a13 a14 a15 a16 : Option Dt} {d : Dt} {l : DS} : Get (a0 :: a1 :: a2 :: a3 :: a4 :: a5 :: a6 :: a7 :: a8 :: a9 :: a10 :: a11 :: a12 :: a13 :: a14 :: a15 :: a16 :: some d :: l) 17 d := rfl
theorem s17 {a0 a1 a2 a3 a4 a5 a6 a7 a8 a9 a10 a11 a12 a13 a14 a15 a16 a17 : Option Dt} {d : Dt} {l : DS} : SetAt (a0 :: a1 :: a2 :: a3 :: a4 :: a5 :: a6 :: a7 :: a8 :: a9 :: a10 :: a11 :: a12 :: a13 :: a14 :: a15 :: a16 :: a17 :: l) 17 d (a0 :: a1 :: a2 :: a3 :: a4 :: a5 :: a6 :: a7 :: a8 :: a9 :: a10 :: a11 :: a12 :: a13 :: a14 :: a15 :: a16 :: some d :: l) := rfl
theorem g18 {a0 a1 a2 a3 a4 a5 a6 a7 a8 a9 a10 a11 a12 a13 a14 a15 a16 a17 : Option Dt} {d : Dt} {l : DS} : Get (a0 :: a1 :: a2 :: a3 :: a4 :: a5 :: a6 :: a7 :: a8 :: a9 :: a10 :: a11 :: a12 :: a13 :: a14 :: a15 :: a16 :: a17 :: some d :: l) 18 d := rfl
theorem s18 {a0 a1 a2 a3 a4 a5 a6 a7 a8 a9 a10 a11 a12 a13 a14 a15 a16 a17 a18 : Option Dt} {d : Dt} {l : DS} : SetAt (a0 :: a1 :: a2 :: a3 :: a4 :: a5 :: a6 :: a7 :: a8 :: a9 :: a10 :: a11 :: a12 :: a13 :: a14 :: a15 :: a16 :: a17 :: a18 :: l) 18 d (a0 :: a1 :: a2 :: a3 :: a4 :: a5 :: a6 :: a7 :: a8 :: a9 :: a10 :: a11 :: a12 :: a13 :: a14 :: a15 :: a16 :: a17 :: some d :: l) := rfl
theorem g19 {a0 a1 a2 a3 a4 a5 a6 a7 a8 a9 a10 a11 a12 a13 a14 a15 a16 a17 a18 : Option Dt} {d : Dt} {l : DS} : Get (a0 :: a1 :: a2 :: a3 :: a4 :: a5 :: a6 :: a7 :: a8 :: a9 :: a10 :: a11 :: a12 :: a13 :: a14 :: a15 :: a16 :: a17 :: a18 :: some d :: l) 19 d := rfl
theorem s19 {a0 a1 a2 a3 a4 a5 a6 a7 a8 a9 a10 a11 a12 a13 a14 a15 a16 a17 a18 a19 : Option Dt} {d : Dt} {l : DS} : SetAt (a0 :: a1 :: a2 :: a3 :: a4 :: a5 :: a6 :: a7 :: a8 :: a9 :: a10 :: a11 :: a12 :: a13 :: a14 :: a15 :: a16 :: a17 :: a18 :: a19 :: l) 19 d (a0 :: a1 :: a2 :: a3 :: a4 :: a5 :: a6 :: a7 :: a8 :: a9 :: a10 :: a11 :: a12 :: a13 :: a14 :: a15 :: a16 :: a17 :: a18 :: some d :: l) := rfl
theorem g20 {a0 a1 a2 a3 a4 a5 a6 a7 a8 a9 a10 a11 a12 a13 a14 a15 a16 a17 a18 a19 : Option Dt} {d : Dt} {l : DS} : Get (a0 :: a1 :: a2 :: a3 :: a4 :: a5 :: a6 :: a7 :: a8 :: a9 :: a10 :: a11 :: a12 :: a13 :: a14 :: a15 :: a16 :: a17 :: a18 :: a19 :: some d :: l) 20 d := rfl
theorem s20 {a0 a1 a2 a3 a4 a5 a6 a7 a8 a9 a10 a11 a12 a13 a14 a15 a16 a17 a18 a19 a20 : Option Dt} {d : Dt} {l : DS} : SetAt (a0 :: a1 :: a2 :: a3 :: a4 :: a5 :: a6 :: a7 :: a8 :: a9 :: a10 :: a11 :: a12 :: a13 :: a14 :: a15 :: a16 :: a17 :: a18 :: a19 :: a20 :: l) 20 d (a0 :: a1 :: a2 :: a3 :: a4 :: a5 :: a6 :: a7 :: a8 :: a9 :: a10 :: a11 :: a12 :: a13 :: a14 :: a15 :: a16 :: a17 :: a18 :: a19 :: some d :: l) := rfl
theorem g21 {a0 a1 a2 a3 a4 a5 a6 a7 a8 a9 a10 a11 a12 a13 a14 a15 a16 a17 a18 a19 a20 : Option Dt} {d : Dt} {l : DS} : Get (a0 :: a1 :: a2 :: a3 :: a4 :: a5 :: a6 :: a7 :: a8 :: a9 :: a10 :: a11 :: a12 :: a13 :: a14 :: a15 :: a16 :: a17 :: a18 :: a19 :: a20 :: some d :: l) 21 d := rfl
theorem s21 {a0 a1 a2 a3 a4 a5 a6 a7 a8 a9 a10 a11 a12 a13 a14 a15 a16 a17 a18 a19 a20 a21 : Option Dt} {d : Dt} {l : DS} : SetAt (a0 :: a1 :: a2 :: a3 :: a4 :: a5 :: a6 :: a7 :: a8 :: a9 :: a10 :: a11 :: a12 :: a13 :: a14 :: a15 :: a16 :: a17 :: a18 :: a19 :: a20 :: a21 :: l) 21 d (a0 :: a1 :: a2 :: a3 :: a4 :: a5 :: a6 :: a7 :: a8 :: a9 :: a10 :: a11 :: a12 :: a13 :: a14 :: a15 :: a16 :: a17 :: a18 :: a19 :: a20 :: some d :: l) := rfl
theorem g22 {a0 a1 a2 a3 a4 a5 a6 a7 a8 a9 a10 a11 a12 a13 a14 a15 a16 a17 a18 a19 a20 a21 : Option Dt} {d : Dt} {l : DS} : Get (a0 :: a1 :: a2 :: a3 :: a4 :: a5 :: a6 :: a7 :: a8 :: a9 :: a10 :: a11 :: a12 :: a13 :: a14 :: a15 :: a16 :: a17 :: a18 :: a19 :: a20 :: a21 :: some d :: l) 22 d := rfl
theorem s22 {a0 a1 a2 a3 a4 a5 a6 a7 a8 a9 a10 a11 a12 a13 a14 a15 a16 a17 a18 a19 a20 a21 a22 : Option Dt} {d : Dt} {l : DS} : SetAt (a0 :: a1 :: a2 :: a3 :: a4 :: a5 :: a6 :: a7 :: a8 :: a9 :: a10 :: a11 :: a12 :: a13 :: a14 :: a15 :: a16 :: a17 :: a18 :: a19 :: a20 :: a21 :: a22 :: l) 22 d (a0 :: a1 :: a2 :: a3 :: a4 :: a5 :: a6 :: a7 :: a8 :: a9 :: a10 :: a11 :: a12 :: a13 :: a14 :: a15 :: a16 :: a17 :: a18 :: a19 :: a20 :: a21 :: some d :: l) := rfl
theorem g23 {a0 a1 a2 a3 a4 a5 a6 a7 a8 a9 a10 a11 a12 a13 a14 a15 a16 a17 a18 a19 a20 a21 a22 : Option Dt} {d : Dt} {l : DS} : Get (a0 :: a1 :: a2 :: a3 :: a4 :: a5 :: a6 :: a7 :: a8 :: a9 :: a10 :: a11 :: a12 :: a13 :: a14 :: a15 :: a16 :: a17 :: a18 :: a19 :: a20 :: a21 :: a22 :: some d :: l) 23 d := rfl
theorem s23 {a0 a1 a2 a3 a4 a5 a6 a7 a8 a9 a10 a11 a12 a13 a14 a15 a16 a17 a18 a19 a20 a21 a22 a23 : Option Dt} {d : Dt} {l : DS} : SetAt (a0 :: a1 :: a2 :: a3 :: a4 :: a5 :: a6 :: a7 :: a8 :: a9 :: a10 :: a11 :: a12 :: a13 :: a14 :: a15 :: a16 :: a17 :: a18 :: a19 :: a20 :: a21 :: a22 :: a23 :: l) 23 d (a0 :: a1 :: a2 :: a3 :: a4 :: a5 :: a6 :: a7 :: a8 :: a9 :: a10 :: a11 :: a12 :: a13 :: a14 :: a15 :: a16 :: a17 :: a18 :: a19 :: a20 :: a21 :: a22 :: some d :: l) := rfl
theorem g24 {a0 a1 a2 a3 a4 a5 a6 a7 a8 a9 a10 a11 a12 a13 a14 a15 a16 a17 a18 a19 a20 a21 a22 a23 : Option Dt} {d : Dt} {l : DS} : Get (a0 :: a1 :: a2 :: a3 :: a4 :: a5 :: a6 :: a7 :: a8 :: a9 :: a10 :: a11 :: a12 :: a13 :: a14 :: a15 :: a16 :: a17 :: a18 :: a19 :: a20 :: a21 :: a22 :: a23 :: some d :: l) 24 d := rfl
theorem s24 {a0 a1 a2 a3 a4 a5 a6 a7 a8 a9 a10 a11 a12 a13 a14 a15 a16 a17 a18 a19 a20 a21 a22 a23 a24 : Option Dt} {d : Dt} {l : DS} : SetAt (a0 :: a1 :: a2 :: a3 :: a4 :: a5 :: a6 :: a7 :: a8 :: a9 :: a10 :: a11 :: a12 :: a13 :: a14 :: a15 :: a16 :: a17 :: a18 :: a19 :: a20 :: a21 :: a22 :: a23 :: a24 :: l) 24 d (a0 :: a1 :: a2 :: a3 :: a4 :: a5 :: a6 :: a7 :: a8 :: a9 :: a10 :: a11 :: a12 :: a13 :: a14 :: a15 :: a16 :: a17 :: a18 :: a19 :: a20 :: a21 :: a22 :: a23 :: some d :: l) := rfl
theorem g25 {a0 a1 a2 a3 a4 a5 a6 a7 a8 a9 a10 a11 a12 a13 a14 a15 a16 a17 a18 a19 a20 a21 a22 a23 a24 : Option Dt} {d : Dt} {l : DS} : Get (a0 :: a1 :: a2 :: a3 :: a4 :: a5 :: a6 :: a7 :: a8 :: a9 :: a10 :: a11 :: a12 :: a13 :: a14 :: a15 :: a16 :: a17 :: a18 :: a19 :: a20 :: a21 :: a22 :: a23 :: a24 :: some d :: l) 25 d := rfl
theorem s25 {a0 a1 a2 a3 a4 a5 a6 a7 a8 a9 a10 a11 a12 a13 a14 a15 a16 a17 a18 a19 a20 a21 a22 a23 a24 a25 : Option Dt} {d : Dt} {l : DS} : SetAt (a0 :: a1 :: a2 :: a3 :: a4 :: a5 :: a6 :: a7 :: a8 :: a9 :: a10 :: a11 :: a12 :: a13 :: a14 :: a15 :: a16 :: a17 :: a18 :: a19 :: a20 :: a21 :: a22 :: a23 :: a24 :: a25 :: l) 25 d (a0 :: a1 :: a2 :: a3 :: a4 :: a5 :: a6 :: a7 :: a8 :: a9 :: a10 :: a11 :: a12 :: a13 :: a14 :: a15 :: a16 :: a17 :: a18 :: a19 :: a20 :: a21 :: a22 :: a23 :: a24 :: some d :: l) := rfl
theorem g26 {a0 a1 a2 a3 a4 a5 a6 a7 a8 a9 a10 a11 a12 a13 a14 a15 a16 a17 a18 a19 a20 a21 a22 a23 a24 a25 : Option Dt} {d : Dt} {l : DS} : Get (a0 :: a1 :: a2 :: a3 :: a4 :: a5 :: a6 :: a7 :: a8 :: a9 :: a10 :: a11 :: a12 :: a13 :: a14 :: a15 :: a16 :: a17 :: a18 :: a19 :: a20 :: a21 :: a22 :: a23 :: a24 :: a25 :: some d :: l) 26 d := rfl
theorem s26 {a0 a1 a2 a3 a4 a5 a6 a7 a8 a9 a10 a11 a12 a13 a14 a15 a16 a17 a18 a19 a20 a21 a22 a23 a24 a25 a26 : Option Dt} {d : Dt} {l : DS} : SetAt (a0 :: a1 :: a2 :: a3 :: a4 :: a5 :: a6 :: a7 :: a8 :: a9 :: a10 :: a11 :: a12 :: a13 :: a14 :: a15 :: a16 :: a17 :: a18 :: a19 :: a20 :: a21 :: a22 :: a23 :: a24 :: a25 :: a26 :: l) 26 d (a0 :: a1 :: a2 :: a3 :: a4 :: a5 :: a6 :: a7 :: a8 :: a9 :: a10 :: a11 :: a12 :: a13 :: a14 :: a15 :: a16 :: a17 :: a18 :: a19 :: a20 :: a21 :: a22 :: a23 :: a24 :: a25 :: some d :: l) := rfl
theorem g27 {a0 a1 a2 a3 a4 a5 a6 a7 a8 a9 a10 a11 a12 a13 a14 a15 a16 a17 a18 a19 a20 a21 a22 a23 a24 a25 a26 : Option Dt} {d : Dt} {l : DS} : Get (a0 :: a1 :: a2 :: a3 :: a4 :: a5 :: a6 :: a7 :: a8 :: a9 :: a10 :: a11 :: a12 :: a13 :: a14 :: a15 :: a16 :: a17 :: a18 :: a19 :: a20 :: a21 :: a22 :: a23 :: a24 :: a25 :: a26 :: some d :: l) 27 d := rfl
theorem s27 {a0 a1 a2 a3 a4 a5 a6 a7 a8 a9 a10 a11 a12 a13 a14 a15 a16 a17 a18 a19 a20 a21 a22 a23 a24 a25 a26 a27 : Option Dt} {d : Dt} {l : DS} : SetAt (a0 :: a1 :: a2 :: a3 :: a4 :: a5 :: a6 :: a7 :: a8 :: a9 :: a10 :: a11 :: a12 :: a13 :: a14 :: a15 :: a16 :: a17 :: a18 :: a19 :: a20 :: a21 :: a22 :: a23 :: a24 :: a25 :: a26 :: a27 :: l) 27 d (a0 :: a1 :: a2 :: a3 :: a4 :: a5 :: a6 :: a7 :: a8 :: a9 :: a10 :: a11 :: a12 :: a13 :: a14 :: a15 :: a16 :: a17 :: a18 :: a19 :: a20 :: a21 :: a22 :: a23 :: a24 :: a25 :: a26 :: some d :: l) := rfl
end Z
namespace Z
open PySem PySem.Spec PyProof.Rows L2
/-! ### == of data at any depth, no bools within -/
mutual
def pd : Dt → PyData
  | .non => .none
  | .bl b => .bool b
  | .int i => .int i
  | .str l => .str ⟨l.toArray⟩
  | .tup xs => .tuple (pdL xs)
  | .lst xs => .list (pdL xs)
  | .frl xs => .list (pdL xs)
  | .frt xs => .tuple (pdL xs)
  | .dct _ _ => .none
  | .ty _ => .none
  | .adr _ => .none
def pdL : List Dt → List PyData
  | [] => []
  | d :: ds => pd d :: pdL ds
end
/-- d may be compared: ints, texts, None, lists and tuples of such, n deep -/
def okE : Nat → Dt → Prop
  | _, .non => True
  | _, .int _ => True
  | _, .str l => ∀ c ∈ l, c < 0x110000
  | n + 1, .tup xs => ∀ x ∈ xs, okE n x
  | n + 1, .lst xs => ∀ x ∈ xs, okE n x
  | _, _ => False
def OkE (d : Dt) : Prop := ∃ n, n ≤ 60 ∧ okE n d
theorem pdL_map (xs : List Dt) : pdL xs = xs.map pd := by
  induction xs with
  | nil => rfl
  | cons x r ih => rw [pdL, ih]; rfl
theorem okE_tup {n : Nat} {xs : List Dt} (h : okE n (.tup xs)) : ∃ k, n = k + 1 ∧ ∀ x ∈ xs, okE k x := by
  cases n with
  | zero => exact h.elim
  | succ k => exact ⟨k, rfl, h⟩
theorem okE_lst {n : Nat} {xs : List Dt} (h : okE n (.lst xs)) : ∃ k, n = k + 1 ∧ ∀ x ∈ xs, okE k x := by
  cases n with
  | zero => exact h.elim
  | succ k => exact ⟨k, rfl, h⟩
mutual
theorem okE_lay : ∀ {n : Nat} {d : Dt}, okE n d → (pd d).canLay0 = true ∧ (pd d).depth ≤ n
  | n, .non, _ => ⟨by rw [pd, PyData.canLay0], by rw [pd, PyData.depth]; exact Nat.zero_le _⟩
  | n, .int _, _ => ⟨by rw [pd, PyData.canLay0], by rw [pd, PyData.depth]; exact Nat.zero_le _⟩
  | n, .str l, h => by
    have h : ∀ c ∈ l, c < 0x110000 := by cases n <;> exact h
    refine ⟨?_, by rw [pd, PyData.depth]; exact Nat.zero_le _⟩
    rw [pd, PyData.canLay0]
    show (l.toArray).all (· < 0x110000) = true
    simpa using h
  | n, .tup xs, h => by
    obtain ⟨k, rfl, h⟩ := okE_tup h
    obtain ⟨h1, h2⟩ := okE_layL h
    exact ⟨by rw [pd, PyData.canLay0]; exact h1, by rw [pd, PyData.depth]; omega⟩
  | n, .lst xs, h => by
    obtain ⟨k, rfl, h⟩ := okE_lst h
    obtain ⟨h1, h2⟩ := okE_layL h
    exact ⟨by rw [pd, PyData.canLay0]; exact h1, by rw [pd, PyData.depth]; omega⟩
  | n, .bl _, h => by cases n <;> exact h.elim
  | n, .frl _, h => by cases n <;> exact h.elim
  | n, .frt _, h => by cases n <;> exact h.elim
  | n, .dct _ _, h => by cases n <;> exact h.elim
  | n, .ty _, h => by cases n <;> exact h.elim
  | n, .adr _, h => by cases n <;> exact h.elim
theorem okE_layL : ∀ {n : Nat} {xs : List Dt}, (∀ x ∈ xs, okE n x) → PyData.canLayAll0 (pdL xs) = true ∧ PyData.depthAll (pdL xs) ≤ n
  | n, [], _ => ⟨by rw [pdL, PyData.canLayAll0], by rw [pdL, PyData.depthAll]; exact Nat.zero_le _⟩
  | n, x :: xs, h => by
    obtain ⟨h1, h2⟩ := okE_lay (h x List.mem_cons_self)
    obtain ⟨h3, h4⟩ := okE_layL fun y hy => h y (List.mem_cons_of_mem _ hy)
    refine ⟨by rw [pdL, PyData.canLayAll0, h1, h3]; rfl, ?_⟩
    rw [pdL, PyData.depthAll]
    omega
end
theorem OkE.shaped {d : Dt} (h : OkE d) : SeqAt.shaped (pd d) = true := by
  obtain ⟨n, hn, h⟩ := h
  obtain ⟨h1, h2⟩ := okE_lay h
  unfold SeqAt.shaped
  rw [h1, decide_eq_true (show (pd d).depth ≤ 64 by omega)]
  rfl
section
variable {K : PySem.W.Frag} {B H : Hp}
mutual
theorem okE_dp (e : Same B H) : ∀ {n : Nat} {d : Dt} {v : V}, okE n d → Is K B d v → Dp K H v (pd d)
  | n, .non, v, _, i => by obtain rfl : v = _ := i; rw [pd]; exact .non
  | n, .int _, v, _, i => by obtain rfl : v = _ := i; rw [pd]; exact .int _
  | n, .str l, v, _, i => by obtain rfl : v = _ := i; rw [pd]; exact .str _
  | n, .tup xs, v, h, i => by
    obtain ⟨k, rfl, h⟩ := okE_tup h
    obtain ⟨a, vs, rfl, ha, ia⟩ := i
    rw [pd]
    exact .tup (SqT.of (e _ _ ha)) (okE_dpL e h ia)
  | n, .lst xs, v, h, i => by
    obtain ⟨k, rfl, h⟩ := okE_lst h
    obtain ⟨a, vs, rfl, ha, ia⟩ := i
    rw [pd]
    exact .lst (SqL.of (e _ _ ha)) (okE_dpL e h ia)
  | n, .bl _, _, h, _ => by cases n <;> exact h.elim
  | n, .frl _, _, h, _ => by cases n <;> exact h.elim
  | n, .frt _, _, h, _ => by cases n <;> exact h.elim
  | n, .dct _ _, _, h, _ => by cases n <;> exact h.elim
  | n, .ty _, _, h, _ => by cases n <;> exact h.elim
  | n, .adr _, _, h, _ => by cases n <;> exact h.elim
theorem okE_dpL (e : Same B H) : ∀ {n : Nat} {xs : List Dt} {vs : List V}, (∀ x ∈ xs, okE n x) → IsL K B xs vs → DpAll K H vs (pdL xs)
  | n, [], vs, _, i => by
    have i : vs = [] := i
    subst i
    rw [pdL]
    exact .nil
  | n, x :: xs, vs, h, i => by
    obtain ⟨v, r, rfl, i1, i2⟩ := i
    rw [pdL]
    exact .cons (okE_dp e (h x List.mem_cons_self) i1) (okE_dpL e (fun y hy => h y (List.mem_cons_of_mem _ hy)) i2)
end
end
theorem OkE.dp {K : PySem.W.Frag} {B H : Hp} {d : Dt} {v : V} (h : OkE d) (e : Same B H) (i : Is K B d v) : Dp K H v (pd d) := by
  obtain ⟨n, _, h⟩ := h
  exact okE_dp e h i
mutual
theorem eqv_iff : ∀ {n m : Nat} {d e : Dt}, okE n d → okE m e → (PyData.eqv (pd d) (pd e) = true ↔ d = e)
  | n, m, d, .bl _, _, h => by cases m <;> exact h.elim
  | n, m, d, .frl _, _, h => by cases m <;> exact h.elim
  | n, m, d, .frt _, _, h => by cases m <;> exact h.elim
  | n, m, d, .dct _ _, _, h => by cases m <;> exact h.elim
  | n, m, d, .ty _, _, h => by cases m <;> exact h.elim
  | n, m, d, .adr _, _, h => by cases m <;> exact h.elim
  | n, _, .bl _, _, h, _ => by cases n <;> exact h.elim
  | n, _, .frl _, _, h, _ => by cases n <;> exact h.elim
  | n, _, .frt _, _, h, _ => by cases n <;> exact h.elim
  | n, _, .dct _ _, _, h, _ => by cases n <;> exact h.elim
  | n, _, .ty _, _, h, _ => by cases n <;> exact h.elim
  | n, _, .adr _, _, h, _ => by cases n <;> exact h.elim
  | _, _, .non, .non, _, _ => by simp [pd, PyData.eqv]
  | _, _, .non, .int _, _, _ => by simp [pd, PyData.eqv]
  | _, _, .non, .str _, _, _ => by simp [pd, PyData.eqv]
  | _, _, .non, .tup _, _, _ => by simp [pd, PyData.eqv]
  | _, _, .non, .lst _, _, _ => by simp [pd, PyData.eqv]
  | _, _, .int _, .non, _, _ => by simp [pd, PyData.eqv]
  | _, _, .int _, .int _, _, _ => by simp [pd, PyData.eqv]
  | _, _, .int _, .str _, _, _ => by simp [pd, PyData.eqv]
  | _, _, .int _, .tup _, _, _ => by simp [pd, PyData.eqv]
  | _, _, .int _, .lst _, _, _ => by simp [pd, PyData.eqv]
  | _, _, .str _, .non, _, _ => by simp [pd, PyData.eqv]
  | _, _, .str _, .int _, _, _ => by simp [pd, PyData.eqv]
  | _, _, .str a, .str b, _, _ => by simp [pd, PyData.eqv]
  | _, _, .str _, .tup _, _, _ => by simp [pd, PyData.eqv]
  | _, _, .str _, .lst _, _, _ => by simp [pd, PyData.eqv]
  | _, _, .tup _, .non, _, _ => by simp [pd, PyData.eqv]
  | _, _, .tup _, .int _, _, _ => by simp [pd, PyData.eqv]
  | _, _, .tup _, .str _, _, _ => by simp [pd, PyData.eqv]
  | n, m, .tup a, .tup b, h, h' => by
    obtain ⟨k, rfl, h⟩ := okE_tup h
    obtain ⟨j, rfl, h'⟩ := okE_tup h'
    rw [pd, pd, PyData.eqv, eqvL_iff h h']
    simp
  | _, _, .tup _, .lst _, _, _ => by simp [pd, PyData.eqv]
  | _, _, .lst _, .non, _, _ => by simp [pd, PyData.eqv]
  | _, _, .lst _, .int _, _, _ => by simp [pd, PyData.eqv]
  | _, _, .lst _, .str _, _, _ => by simp [pd, PyData.eqv]
  | _, _, .lst _, .tup _, _, _ => by simp [pd, PyData.eqv]
  | n, m, .lst a, .lst b, h, h' => by
    obtain ⟨k, rfl, h⟩ := okE_lst h
    obtain ⟨j, rfl, h'⟩ := okE_lst h'
    rw [pd, pd, PyData.eqv, eqvL_iff h h']
    simp
theorem eqvL_iff : ∀ {n m : Nat} {xs ys : List Dt}, (∀ x ∈ xs, okE n x) → (∀ x ∈ ys, okE m x) → (PyData.eqvAll (pdL xs) (pdL ys) = true ↔ xs = ys)
  | _, _, [], [], _, _ => by simp [pdL, PyData.eqvAll]
  | _, _, [], _ :: _, _, _ => by simp [pdL, PyData.eqvAll]
  | _, _, _ :: _, [], _, _ => by simp [pdL, PyData.eqvAll]
  | n, m, x :: xs, y :: ys, h, h' => by
    rw [pdL, pdL, PyData.eqvAll, Bool.and_eq_true, eqv_iff (h x List.mem_cons_self) (h' y List.mem_cons_self), eqvL_iff (fun z hz => h z (List.mem_cons_of_mem _ hz)) (fun z hz => h' z (List.mem_cons_of_mem _ hz))]
    simp
end
theorem OkE.eqv {d e : Dt} (h : OkE d) (h' : OkE e) : PyData.eqv (pd d) (pd e) = true ↔ d = e := by
  obtain ⟨_, _, h⟩ := h
  obtain ⟨_, _, h'⟩ := h'
  exact eqv_iff h h'
def eqDK (g : Bool → Bool) : K2 := fun x y L P => OkE x ∧ OkE y ∧ ∀ b, (b = true ↔ x = y) → P (.bl (g b)) L
section
variable {X : Cx} {K : PySem.W.Frag} {a b : Expr} {ds : DS} {L : MS} {P : DK} {PB : Bool → MS → Prop} {pos : Pos} {k : Nat}
theorem kr_eqD : KR2 K (rEqD K) (eqDK id) := by
  intro B H L x y v u Q P hl ix iy hk q
  obtain ⟨h1, h2, p⟩ := hk
  exact ⟨_, _, h1.dp hl.sub ix, h2.dp hl.sub iy, h1.shaped, h2.shaped, Fin.here q hl (p _ (h1.eqv h2)) rfl⟩
theorem kr_neD : KR2 K (rNeD K) (eqDK not) := by
  intro B H L x y v u Q P hl ix iy hk q
  obtain ⟨h1, h2, p⟩ := hk
  exact ⟨_, _, h1.dp hl.sub ix, h2.dp hl.sub iy, h1.shaped, h2.shaped, Fin.here q hl (p _ (h1.eqv h2)) rfl⟩
theorem dt_eqD (hr : Room k X.A) (h : DP X a ds L fun x L1 => DP X b ds L1 fun y L2 => eqDK id x y L2 fun d L3 => ∃ c, d = .bl c ∧ PB c L3) : DT X (.Compare a [.Eq] [b] pos) ds L PB := dt_cmp (op_eqD hr.units) kr_eqD h
theorem dt_neD (hr : Room k X.A) (h : DP X a ds L fun x L1 => DP X b ds L1 fun y L2 => eqDK not x y L2 fun d L3 => ∃ c, d = .bl c ∧ PB c L3) : DT X (.Compare a [.NotEq] [b] pos) ds L PB := dt_cmp (op_neD hr.units) kr_neD h
theorem dp_eqD (hr : Room k X.A) (h : DP X a ds L fun x L1 => DP X b ds L1 fun y L2 => eqDK id x y L2 P) : DP X (.Compare a [.Eq] [b] pos) ds L P := dp_cmp (op_eqD hr.units) kr_eqD h
theorem dp_neD (hr : Room k X.A) (h : DP X a ds L fun x L1 => DP X b ds L1 fun y L2 => eqDK not x y L2 P) : DP X (.Compare a [.NotEq] [b] pos) ds L P := dp_cmp (op_neD hr.units) kr_neD h
end
end Z
namespace Z
open PySem PySem.Spec PyProof.Rows L2
/-! ### the end -/
theorem fun_at {K : PySem.W.Frag} {h : Heap} {mg : Str → Option Value} {x : Str} {st : Stmt} {f : Addr} {oc : Value} {od an : Option Addr} {osl : Array (Option Value)} {kV doc pm cdv ct : Value} (X : K.In h) (G : h.Ns mainGlobals mg)
    (a : PySem.W.nsIn K mainGlobals x = some (some (.ref f))) (l : K.lookup f = some ⟨oc, od, .func (PySem.W.fnOf x x (defArgs st) (defBody st) (defScope st) .none kV doc pm an cdv ct), osl⟩)
    (c : PySem.W.codeIn K cdv x = true) (k : PySem.W.keepIn K (.ref f) = true) : FunAt K mg x st := ⟨f, _, fun_mk l c k, PySem.W.mg_of X G a⟩
theorem const_at {α : Type} {K : PySem.W.Frag} {h : Heap} {mg : Str → Option Value} {x : Str} {v : Value} {g : α → Value} (X : K.In h) (G : h.Ns mainGlobals mg) (a : PySem.W.nsIn K mainGlobals x = some (some v)) (e : ∃ t, v = g t) : ∃ t, mg x = some (g t) := by
  obtain ⟨t, rfl⟩ := e
  exact ⟨t, PySem.W.mg_of X G a⟩
def clsS (st : Stmt) (i : Nat) : Stmt := match st with
  | .ClassDef _ _ _ b .. => b.getD i (.Pass ⟨0, 0, 0, 0⟩)
  | _ => .Pass ⟨0, 0, 0, 0⟩
def R_law : Rel := fun ds L P => ∃ ns : List Int, ds = [.frl (ns.map .int)] ∧ ns.length ≤ 63 ∧ ∀ L', P (.bl true) L'
def law_sp (K : PySem.W.Frag) : Sp := spP K R_law
theorem law_end {Pr : Program} {w : World} {K : PySem.W.Frag} {mg : Str → Option Value} {k : Nat} {fa : Addr} {x y : Str} {st : Stmt} (hfa : mg x = some (.ref fa)) (F : FunAt K mg x st) (C : ∀ base : Heap, K.In base → base.Ns mainGlobals mg → Cal Pr w K mg base x k [y] R_law)
    (hb : ∀ (kV doc pm : Value) (an : Option Addr) (cdv ct : Value) (v : Value), bindArgs (PySem.W.fnOf x x (defArgs st) (defBody st) (defScope st) .none kV doc pm an cdv ct) ⟨[v], []⟩ = pure [(y, v)]) :
    ∃ fd : FuncData, (∀ (s : Shared) (v : Value), BindsTo s fd ⟨[v], []⟩ [(y, v)]) ∧ ∀ base : Heap, K.In base → base.Ns mainGlobals mg → FnOk Pr w K mg base CX0 k fa fd [y] (law_sp K) := by
  obtain ⟨f, fd, F, hm⟩ := F.ex
  have e : f = fa := by
    have := hm.symm.trans hfa
    cases this
    rfl
  subst e
  refine ⟨fd, fun s v => ?_, fun base X G => ?_⟩
  · obtain ⟨oc, od, kV, doc, pm, an, cdv, ct, osl, rfl, _, _⟩ := F.ex
    exact .of_eq (hb kV doc pm an cdv ct v)
  · obtain ⟨f', fd', h1, h2, _, _, oc, od, osl, h5⟩ := (C base X G).ex
    have e : f' = f := by
      have := h2.symm.trans hm
      cases this
      rfl
    subst e
    obtain ⟨oc', od', osl', h6⟩ := F.look
    have e : fd' = fd := by
      have := h5.symm.trans h6
      cases this
      rfl
    subst e
    exact h1
/-- all but the tables -/
def offTbl (H : Hp) : Hp := fun b => match H b with
  | some (.tbl _) => none
  | o => o
theorem noTbl {K : PySem.W.Frag} (H : Hp) : Same (offTbl H) H ∧ (∀ b ps, offTbl H b ≠ some (.tbl ps)) ∧ ∀ {a : Addr} {xs : List V}, SqL K H a xs → SqL K (offTbl H) a xs := by
  have key : ∀ {b : Addr} {o : HO}, (∀ ps, o ≠ .tbl ps) → H b = some o → offTbl H b = some o := fun {b o} hn e => by
    unfold offTbl
    rw [e]
    cases o <;> first | rfl | exact absurd rfl (hn _)
  refine ⟨fun b o e => ?_, fun b ps e => ?_, fun {a xs} h => ?_⟩
  · unfold offTbl at e
    split at e
    · cases e
    · exact e
  · unfold offTbl at e
    split at e
    · cases e
    · rename_i h
      exact h ps e
  · rcases h with (h | ⟨o, h⟩) | h
    · exact .inl (.inl (key (by intro _ h; cases h) h))
    · exact .inl (.inr ⟨o, key (by intro _ h; cases h) h⟩)
    · exact .inr h
theorem law_start {K : PySem.W.Frag} {H : Hp} {a : Addr} {ns : List Int} (hl : ns.length ≤ 63) (hS : SqL K H a (ns.map V.int)) : law_sp K [.ref a] H (fun v _ => v = .bl true) fun _ _ _ => False := by
  obtain ⟨s1, s2, s3⟩ := noTbl H
  refine ⟨_, [.frl (ns.map .int)], [], fun d _ => d = .bl true, ⟨_, _, rfl, ⟨a, _, rfl, s3 hS, .of_ints⟩, rfl⟩, ⟨s1, fun _ _ h => by simp at h, by simp, s2⟩, ⟨ns, rfl, hl, fun _ => rfl⟩, ?_⟩
  intro d L' v B' H' p e hl' i
  subst p
  exact i
end Z
namespace Z
open PySem PySem.Spec PyProof.Rows L2
/-! ### dicts of tuple keys: the pairs, the values -/
section
variable {X : Cx} {pins : List (Addr × Obj)} {σ : L2.St} {H : Hp} {s : Shared} {d : Addr} {o : Obj}
/-- the entries of a locked dict -/
theorem frzE {m : List (List Key × V)} (I : Inv X pins σ H s) (h : H d = some (.frz o (.dT m))) :
    (d == sysModules) = false ∧ ∃ (es : Array DictEntry) (ep : Nat), s.heap.DictRaw d es ep ∧ o.data = .dict es ep ∧ es.size = m.length ∧
      ∀ (i : Nat) (hi : i < es.size) (k : List Key) (v : V), m[i]? = some (k, v) → RelV v es[i].val ∧ ∃ q, es[i].key = .ref q ∧ H q = some (.tup (k.map kV)) := by
  obtain ⟨e1, _, h1, us, e2, o2, es, ep, h2, h3, h4, h5, _⟩ := I.hok d _ h
  rw [e1] at h2
  cases h2
  have l1 : es.size = us.length := size_of_entries h5
  have l2 : m.length = us.length := Paired.length e2
  refine ⟨h1, es, ep, ⟨o, e1, h3, h4⟩, h4, by omega, fun i hi k v e => ?_⟩
  obtain ⟨b, hb, _, e4, e5⟩ := paired_get e2 e
  have q := entry_at h5 i
  rw [hb, Array.getElem?_eq_getElem hi] at q
  have q := Option.some.inj q
  rw [q]
  exact ⟨e5, b.2.1, rfl, e4⟩
end
def ItV (d : Addr) (o : Obj) (m : List (List Key × V)) : It :=
  ⟨fun i G => G d = some (.frz o (.dT m)) ∧ i < m.length, fun i G x G' => G' = G ∧ ∃ k, m[i]? = some (k, x), fun i G => G d = some (.frz o (.dT m)) ∧ m.length ≤ i⟩
def ItI (d : Addr) (o : Obj) (m : List (List Key × V)) : It :=
  ⟨fun i G => G d = some (.frz o (.dT m)) ∧ i < m.length, fun i G x G' => ∃ T k q v, m[i]? = some (k, v) ∧ G q = some (.tup (k.map kV)) ∧ x = .ref T ∧ G T = none ∧ G' = upd G T (.tup [.ref q, v]), fun i G => G d = some (.frz o (.dT m)) ∧ m.length ≤ i⟩
theorem ep_same {o : Obj} {es es' : Array DictEntry} {ep ep' : Nat} (h : o.data = .dict es ep) (h' : o.data = .dict es' ep') : es' = es ∧ ep' = ep := by
  rw [h] at h'
  cases h'
  exact ⟨rfl, rfl⟩
section
variable {P : Program} {w : World} {K : PySem.W.Frag} {tg : Expr} {d : Addr} {o : Obj} {es : Array DictEntry} {ep : Nat} {m : List (List Key × V)}
theorem turnV (z : Addr) (hod : o.data = .dict es ep) : Turn P w K tg (ItV d o m) [z] z (fun i h => h.IsValIter z d i es.size ep) where
  mem := by simp
  obj := fun i h t b hb => by
    have e : b = z := by simpa using hb
    subst e
    obtain ⟨ob, e, _, y⟩ := t
    exact ⟨ob, e, fun v q => by rw [y] at q; cases q⟩
  keep := fun i h h' t k => t.at fun ob e => k z (by simp) ob e
  item := by
    intro X hP hw hK hc i pins s σ G E I hf t hg
    subst hP hw hK
    obtain ⟨g1, g2⟩ := hg
    obtain ⟨f0, f1, _, f3, f4, f5⟩ := hf z (by simp)
    obtain ⟨_, es2, ep2, raw, hd2, sz, ent⟩ := frzE I g1
    obtain ⟨rfl, rfl⟩ := ep_same hod hd2
    have hi : i < es2.size := by omega
    obtain ⟨⟨k, v⟩, hm⟩ : ∃ p, m[i]? = some p := ⟨m[i], List.getElem?_eq_getElem g2⟩
    refine wpAny_pyNext_values_item_raw t raw hi fun h2 t2 sb => ?_
    have J : Inv X pins σ G { s with heap := h2 } := I.turned (t' := s.toks) (fun b ob hb e => (sb.2 b hb).trans e) f0 f1 f3 f4 f5
    obtain ⟨oi, e, c, y⟩ := id t2
    exact ⟨es2[i].val, rfl, go_of (s := { s with heap := h2 }) e c y (by decide) ⟨v, G, J, (ent i hi k v hm).1, ⟨rfl, k, hm⟩, t2, fun b hb => (hf b hb).1⟩⟩
  done := by
    intro X hP hw hK hc i pins s σ G E I hf t hg
    subst hP hw hK
    obtain ⟨g1, g2⟩ := hg
    obtain ⟨f0, f1, _, f3, f4, f5⟩ := hf z (by simp)
    obtain ⟨_, es2, ep2, raw, hd2, sz, ent⟩ := frzE I g1
    obtain ⟨rfl, rfl⟩ := ep_same hod hd2
    exact wpAny_pyNext_values_end_raw (I.ok.hd hc) t raw (by omega) fun h2 eb => ⟨rfl, I.turned (t' := s.toks) (fun b ob hb e => eb b ob hb e) f0 f1 f3 f4 f5⟩
  self := fun A i s Q E t h => wpAny_pyIter_valiter t h
theorem turnI {elts : List Expr} {kk : Nat} {tpos : Pos} (z : Addr) (hod : o.data = .dict es ep) : Turn P w K (.Tuple elts kk tpos) (ItI d o m) [z] z (fun i h => ∃ x y, IsItemIter h z d i es.size ep x y) where
  mem := by simp
  obj := fun i h t b hb => by
    have e : b = z := by simpa using hb
    subst e
    obtain ⟨_, _, e⟩ := t
    exact ⟨_, e, fun v q => nomatch q⟩
  keep := fun i h h' t k => let ⟨x, y, e⟩ := t; ⟨x, y, k z (by simp) _ e⟩
  item := by
    intro X hP hw hK hc i pins s σ G E I hf t hg
    subst hP hw hK
    obtain ⟨g1, g2⟩ := hg
    obtain ⟨_, es2, ep2, raw, hd2, sz, ent⟩ := frzE I g1
    obtain ⟨rfl, rfl⟩ := ep_same hod hd2
    have hi : i < es2.size := by omega
    obtain ⟨⟨k, v⟩, hm⟩ : ∃ p, m[i]? = some p := ⟨m[i], List.getElem?_eq_getElem g2⟩
    obtain ⟨ev, q, eq, hq⟩ := ent i hi k v hm
    obtain ⟨x, y, t⟩ := t
    have hlt : z < s.heap.objs.size := Heap.lt_size t
    refine wpAny_pyNext_items_item_raw t raw hi fun h2 ho hT _ hk => ?_
    refine ⟨_, rfl, wpAny_letOwnedTupleGo_items (s := { s with heap := h2 }) ho fun h3 t3 sb => ?_⟩
    have hT2 := (sb.2 _ (Nat.ne_of_gt hlt)).trans hT
    have new : ObjOk X.prog X.w (upd G s.heap.objs.size (.tup [.ref q, v])) h3 s.heap.objs.size (.tup [.ref q, v]) :=
      ⟨by show 2 ≤ sizeLine; decide, [es2[i].key, es2[i].val], .cons eq (.cons ev .nil), ⟨_, hT2, rfl, _, rfl⟩⟩
    have J : Inv X pins σ (upd G s.heap.objs.size (.tup [.ref q, v])) { s with heap := h3 } :=
      I.turnedNew (t' := s.toks) (ch := [z]) (fun b ob hb e => (sb.2 b (by simpa using hb)).trans (hk b ob (by simpa using hb) e)) hf (Nat.le_refl _) new
    refine ⟨.ref s.heap.objs.size, _, J, rfl, ⟨_, k, q, v, hm, hq, rfl, I.hok.fresh (Nat.le_refl _), rfl⟩, ⟨_, _, t3⟩, fun b hb => ?_⟩
    have e : b = z := by simpa using hb
    rw [e, upd_ne (Nat.ne_of_lt hlt)]
    exact (hf z (by simp)).1
  done := by
    intro X hP hw hK hc i pins s σ G E I hf t hg
    subst hP hw hK
    obtain ⟨g1, g2⟩ := hg
    obtain ⟨f0, f1, _, f3, f4, f5⟩ := hf z (by simp)
    obtain ⟨_, es2, ep2, raw, hd2, sz, ent⟩ := frzE I g1
    obtain ⟨rfl, rfl⟩ := ep_same hod hd2
    obtain ⟨x, y, t⟩ := t
    exact wpAny_pyNext_items_end_raw (I.ok.hd hc) t raw (by omega) fun h2 eb => ⟨rfl, I.turned (t' := s.toks) (fun b ob hb e => eb b ob hb e) f0 f1 f3 f4 f5⟩
  self := fun A i s Q E t h => let ⟨_, _, e⟩ := t; wpAny_pyIter_itemiter e h
end
def iValsT (td : TE) : TI := fun σ G R => td σ G fun x G1 => ∃ d o m, x = .ref d ∧ G1 d = some (.frz o (.dT m)) ∧ R (ItV d o m) G1
def iItemsT (td : TE) : TI := fun σ G R => td σ G fun x G1 => ∃ d o m, x = .ref d ∧ G1 d = some (.frz o (.dT m)) ∧ R (ItI d o m) G1
section
variable {X : Cx} {tg e : Expr} {td : TE} {apos cpos : Pos}
theorem pi_valsT (he : PE X e td) (hbase : attributeBase e "values" X.env (eval e X.env) = eval e X.env := by rfl) (hline : (apos.endLine == cpos.line) = true := by rfl) : PI X tg (.Call (.Attribute e "values" apos) [] [] cpos) (iValsT td) := by
  refine ⟨fun pins s σ G R I h => ?_⟩
  refine wpAny_Call_method (T := "dict") (id := "dict.values") hbase rfl hline F.plainAttrs_dict F.slot_dict_values F.type_dict_values (thn (he.run pins s σ G _ I h) fun u s1 ⟨x, G1, I1, rx, d, o, m, ex, hd, q⟩ => ?_)
  subst ex
  obtain rfl : u = Value.ref d := rx
  obtain ⟨hs, es, ep, raw, hdt, sz, ent⟩ := frzE I1 hd
  refine ⟨raw.typeIs, fun b e => ?_, ?_⟩
  · cases e
    obtain ⟨ob, h1, h2, _⟩ := id raw
    exact ⟨ob, h1, h2.2.1⟩
  have J : Inv X pins σ G1 { s1 with heap := s1.heap.push { cls := .type "dict_values", data := .fields #[.ref d] } } := I1.kept (t' := s1.toks) fun b ob q => Heap.get?_push_of_some _ q
  have fin : wpAny (model X.prog X.w) X.A (pyIter (.ref s1.heap.objs.size)) (PIE X pins σ tg R) X.xe { s1 with heap := s1.heap.push { cls := .type "dict_values", data := .fields #[.ref d] } } := by
    refine wpAny_pyIter_values_raw (d := d) (es := es) (ep := ep) ⟨_, Heap.get?_push_size _ rfl, rfl, rfl⟩ (raw.at fun ob e => Heap.get?_push_of_some _ e) (pi_one (tk := s1.toks) J _ (turnV _ hdt) ⟨_, Heap.get?_push_size _ rfl, rfl, rfl⟩ q)
  show wpAny _ _ (callWith cpos (.builtin "dict.values") [.ref d] [] []) _ X.xe s1
  exact method_meetsIn F.slot_dict_values F.entry_dict_values rfl (PySem.evalArgs_none ⟨rfl, raw.typeIs, F.args_dict_values_1 _, _, meets_dict_values_raw d hs, ⟨es, ep, raw⟩, fin⟩)
theorem pi_itemsT {elts : List Expr} {kk : Nat} {tpos : Pos} (he : PE X e td) (hbase : attributeBase e "items" X.env (eval e X.env) = eval e X.env := by rfl) (hline : (apos.endLine == cpos.line) = true := by rfl) :
    PI X (.Tuple elts kk tpos) (.Call (.Attribute e "items" apos) [] [] cpos) (iItemsT td) := by
  refine ⟨fun pins s σ G R I h => ?_⟩
  refine wpAny_Call_method (T := "dict") (id := "dict.items") hbase rfl hline F.plainAttrs_dict F.slot_dict_items F.type_dict_items (thn (he.run pins s σ G _ I h) fun u s1 ⟨x, G1, I1, rx, d, o, m, ex, hd, q⟩ => ?_)
  subst ex
  obtain rfl : u = Value.ref d := rx
  obtain ⟨hs, es, ep, raw, hdt, sz, ent⟩ := frzE I1 hd
  refine ⟨raw.typeIs, fun b e => ?_, ?_⟩
  · cases e
    obtain ⟨ob, h1, h2, _⟩ := id raw
    exact ⟨ob, h1, h2.2.1⟩
  have J : Inv X pins σ G1 { s1 with heap := s1.heap.push { cls := .type "dict_items", data := .fields #[.ref d] } } := I1.kept (t' := s1.toks) fun b ob q => Heap.get?_push_of_some _ q
  have fin : wpAny (model X.prog X.w) X.A (pyIter (.ref s1.heap.objs.size)) (PIE X pins σ (.Tuple elts kk tpos) R) X.xe { s1 with heap := s1.heap.push { cls := .type "dict_items", data := .fields #[.ref d] } } := by
    refine wpAny_pyIter_items_raw (d := d) (es := es) (ep := ep) ⟨_, Heap.get?_push_size _ rfl, rfl, rfl⟩ (raw.at fun ob e => Heap.get?_push_of_some _ e) (pi_one (tk := s1.toks) J _ (turnI _ hdt) ⟨.none, .none, Heap.get?_push_size _ rfl⟩ q)
  show wpAny _ _ (callWith cpos (.builtin "dict.items") [.ref d] [] []) _ X.xe s1
  exact method_meetsIn F.slot_dict_items F.entry_dict_items rfl (PySem.evalArgs_none ⟨rfl, raw.typeIs, F.args_dict_items_1 _, _, meets_dict_items_raw d hs, ⟨es, ep, raw⟩, fin⟩)
end
/-! ### {k: v for ..} of tuple keys -/
theorem setT {X : Cx} {pins : List (Addr × Obj)} {σ : L2.St} {H : Hp} {s : Shared} {E : Value → Shared → Prop} {D b : Addr} {m : List (List Key × V)} {k : List Key} {v : V} {r : Value} {Q : Unit → Shared → Prop} (hu : X.A.units < cLine) (I : Inv X pins σ H s)
    (hD : H D = some (.dT m)) (hb : H b = some (.tup (k.map kV))) (hz : m.length < sizeLine) (rv : RelV v r) (h : ∀ s', Inv X pins σ (upd H D (.dT (putK m k v))) s' → Q () s') : wpAny (model X.prog X.w) X.A (dictSet D (.ref b) r) Q E s := by
  obtain ⟨z, hd, xs, rel, dd⟩ := dt_of I.hok hD
  have lx : xs.length ≤ sizeLine := by rw [← Paired.length rel]; exact z
  have lp : (putK m k v).length ≤ sizeLine := by have := length_putK m k v; omega
  refine wpAny_dictSet_heap (hsz := lx) hu (key_of I.hok hb) dd fun h' dd' hs => h _ ?_
  obtain ⟨ob, es, ep, h1, h2, h3, h4, _, h5⟩ := dd'
  refine d_write I (by rw [hD]; exact True.intro) hs ⟨ob, h1⟩ ⟨lp, hd, _, (rel.put k hb rv).keeps fun c ys ec => ?_, ob, es, ep, h1, h2, h3, h4, h5⟩
  rw [upd_ne (ne_of ec hD (fun z => nomatch z))]
  exact ec
end Z
namespace Z
open PySem PySem.Spec PyProof.Rows L2
section
variable {X : Cx}
/-- D the new dict, its keys tuples of ints and texts -/
def tMk (wi : TI) (g : TG) (tt : TT) (tk tv : TE) (vs : List Nat) : TE := fun σ H Q => wi σ H fun J H1 => ∀ D, H1 D = none → ∃ W : Nat → Nat → Hp → Prop, (∃ n, W 0 n (upd H1 D (.dT []))) ∧ ∀ i n H, W i n H →
  (J.stop i H ∧ Q (.ref D) H) ∨ (J.go i H ∧ ∃ Nx : Hp → Prop, (∀ H', Nx H' → ∃ n', n' < n ∧ W (i + 1) n' H') ∧ ∀ x H', J.yld i H x H' → g x (wipe σ vs) H' fun σ2 H2 => wipe σ2 vs = wipe σ vs ∧ tt σ2 H2 fun b H3 =>
    if b = true then tk σ2 H3 fun y H4 => tv σ2 H4 fun z H5 => ∃ m k c, y = .ref c ∧ H5 c = some (.tup (k.map kV)) ∧ H5 D = some (.dT m) ∧ m.length < sizeLine ∧ Nx (upd H5 D (.dT (putK m k z))) else Nx H3)
theorem mk_core {pins : List (Addr × Obj)} {s : Shared} {σ : L2.St} {H : Hp} {Q : VK} {use : Option (Value → Sem Unit)} {Qf : Value → Shared → Prop} {kx vx tg iter : Expr} {ifs : List Expr} {sp : Scope} {own : List (Str × Nat)} {pos pos' : Pos} {wi : TI} {g : TG} {tt : TT} {tk tv : TE}
    (hu : X.A.units < cLine) (hc : X.calm = true) (hN : X.N.Nodup) (I : Inv X pins σ H s) (hi : PI X tg iter wi) (ok : BlkOk X.N X.env.scope sp own)
    (hg : ∀ s H C cl fq, PG (X.blk s H sp (compEnvC sp cl C X.env) fq) tg g) (ht : ∀ s H C cl fq, PTs (X.blk s H sp (compEnvC sp cl C X.env) fq) ifs tt) (hk : ∀ s H C cl fq, PE (X.blk s H sp (compEnvC sp cl C X.env) fq) kx tk)
    (he : ∀ s H C cl fq, PE (X.blk s H sp (compEnvC sp cl C X.env) fq) vx tv) (hs : ∀ x, foldedSetIterable iter X.env x = pure x) (h : tMk wi g tt tk tv (own.map (·.2)) σ H Q)
    (hend : ∀ D C s' m H', Inv X pins σ H' s' → Q (.ref D) H' → s'.heap.Ns C m → FpOk X pins H' C → compPost (model X.prog X.w) X.A X.xe use Qf (.ref D) C (.ok .next) s') :
    wpAny (model X.prog X.w) X.A (comprehension (.DictComp kx vx [⟨tg, iter, ifs, 0⟩] sp pos) sp X.env pos' newDict false (eval iter X.env) use) Qf X.xe s := by
  have hfree : ∀ y ∈ sp.names, y.2 = .free → ∃ c, X.env.cells.lookup y.1 = some c := fun y hy e => (ok.free y hy e).elim (fun k => I.ok.has _ (.inl k)) (fun k => I.ok.has _ (.inr k))
  refine wpAny_comprehension_free (use := use) rfl hs (closure_ok hfree) ok.kind (fun y hy e => by rw [ok.uniq y hy, e]) (thn (hi.run pins s σ H _ I h) fun xv s1 hx => thn hx fun itv s2 ⟨iv, fq, tn, J, H2, e, I2, T, t2, f2, q⟩ => ?_)
  subst e
  refine wpAny_newObj_type (newEnv_comp ?_)
  generalize hD : s2.heap.objs.size = D
  obtain ⟨W, ⟨n0, w0⟩, turn⟩ := q D (I2.hok.fresh (Nat.le_of_eq hD))
  generalize hs3 : ({ s2 with heap := s2.heap.push { cls := .type "dict", data := .dict #[] } } : Shared) = s3
  have h3 : s3.heap = s2.heap.push { cls := .type "dict", data := .dict #[] } := by rw [← hs3]
  have I3 : Inv X pins σ (upd H2 D (.dT [])) s3 := by
    rw [← hs3]
    refine I2.laid (t' := s2.toks) (fun b o e => Heap.get?_push_of_some _ e) (Nat.le_of_eq hD) (hD ▸ dt_empty s2.heap I2.big)
  have f3 : ∀ b ∈ fq, FpOk X pins (upd H2 D (.dT [])) b ∧ b < s3.heap.objs.size := fun b hb => by
    obtain ⟨ob, e, _⟩ := T.obj _ _ t2 b hb
    have lt := Heap.lt_size e
    refine ⟨⟨?_, (f2 b hb).2⟩, by rw [h3, Heap.size_push]; exact Nat.lt_succ_of_lt lt⟩
    rw [upd_ne (by rw [← hD]; exact Nat.ne_of_lt lt)]
    exact (f2 b hb).1
  have t3 : tn 0 s3.heap := T.keep _ _ _ t2 fun b _ o e => h3 ▸ Heap.get?_push_of_some _ e
  have I4 := block_start I3 ok hN f3
  generalize hcl : cellsFrom (s3.heap.objs.size + 1) sp.names (cloFrom X.env.cells sp.names []) = cl at I4
  have pg := hg s3 (upd H2 D (.dT [])) s3.heap.objs.size cl fq
  have pt := ht s3 (upd H2 D (.dT [])) s3.heap.objs.size cl fq
  have pk := hk s3 (upd H2 D (.dT [])) s3.heap.objs.size cl fq
  have pv := he s3 (upd H2 D (.dT [])) s3.heap.objs.size cl fq
  show codeAny _ _ (.compStart (.DictComp kx vx [⟨tg, iter, ifs, 0⟩] sp pos) 0 (.ref iv) (.ref D) (compEnvC sp cl s3.heap.objs.size X.env)) (compPost (model X.prog X.w) X.A X.xe use Qf (.ref D) s3.heap.objs.size) { s3 with heap := pushCells (s3.heap.push { cls := .type "dict", data := .dict #[] }) sp.names }
  have nf : ∀ b ∈ fq, (upd H2 D (.dT [])) b = none := fun b hb => (f3 b hb).1.1
  generalize hce : compEnvC sp cl s3.heap.objs.size X.env = ce at I4 pg pt pk pv ⊢
  have cL : ce.locals = s3.heap.objs.size := by subst hce; rfl
  generalize hH3 : upd H2 D (.dT []) = H3 at I3 I4 pg pt pk pv w0 nf f3
  generalize hs4 : ({ s3 with heap := pushCells (s3.heap.push { cls := .type "dict", data := .dict #[] }) sp.names } : Shared) = s4 at I4 ⊢
  have t4 : tn 0 s4.heap := T.keep _ _ _ t3 fun b _ o e => by rw [← hs4]; exact pushCells_keeps _ _ _ _ (Heap.get?_push_of_some _ e)
  have fok : ∀ {σ' : L2.St} {H' : Hp} {s' : Shared}, Inv (X.blk s3 H3 sp ce fq) [] σ' H' s' → (∀ b ∈ fq, H' b = none) → ∀ b ∈ fq, FpOk (X.blk s3 H3 sp ce fq) [] H' b := fun {σ' H' s'} J' hn b hb =>
    ⟨hn b hb, (J'.ok.exf b hb).1, J'.ok.exfs b hb, .inl hb, fun x c e => (J'.ok.exf b hb).2 x c e, fun p hp => absurd (show p ∈ ([] : List (Addr × Obj)) ++ [] from hp) (by simp)⟩
  have loop : codeAny (model X.prog X.w) X.A (.compLoop (.DictComp kx vx [⟨tg, iter, ifs, 0⟩] sp pos) 0 (.ref iv) (.ref D) ce) (compPost (model X.prog X.w) X.A X.xe use Qf (.ref D) s3.heap.objs.size) s4 := by
    refine compLoop_anyD (fun n s' => ∃ i H', Inv (X.blk s3 H3 sp ce fq) [] (wipe σ (own.map (·.2))) H' s' ∧ tn i s'.heap ∧ (∀ b ∈ fq, H' b = none) ∧ W i n H') ?_ n0 ⟨0, H3, I4, t4, nf, w0⟩
    rintro n s5 ⟨i, H5, I5, t5, n5, w5⟩
    rcases turn i n H5 w5 with ⟨stop, qq⟩ | ⟨go, Nx, hNx, step⟩
    · refine thnF (T.done (X.blk s3 H3 sp ce fq) rfl rfl rfl hc i [] s5 _ H5 (fun _ _ => False) I5 (fok I5 n5) t5 stop) fun r s6 ⟨hr, I6⟩ => ?_
      subst hr
      have I7 : Inv X pins σ H5 s6 := I3.call' (ch := fq) I6.os I6.base I6.hok I6.bare fun b hb => ⟨(f3 b hb).1.2.2.2.1, (f3 b hb).1.2.1, (f3 b hb).1.2.2.2.2.1, (f3 b hb).1.2.2.2.2.2⟩
      have nC : H5 s3.heap.objs.size = none := cL ▸ (show H5 ce.locals = none from I6.free)
      obtain ⟨m, hn, _⟩ := I6.loc
      have hn : s6.heap.Ns ce.locals m := hn
      rw [cL] at hn
      exact hend D s3.heap.objs.size s6 m H5 I7 qq hn (I3.fpOk (Nat.le_refl _) nC)
    · refine thnF (T.item (X.blk s3 H3 sp ce fq) rfl rfl rfl hc i [] s5 _ H5 (fun _ _ => False) I5 (fok I5 n5) t5 go) fun r s6 ⟨u, hr, h6⟩ => ?_
      subst hr
      refine thnF h6 fun _ s7 ⟨x, H7, I7, r7, y7, t7, n7⟩ => ?_
      refine thnF (pg.run _ s7 _ H7 x u _ (I7.pinned (fok I7 n7) (T.obj _ _ t7)) r7 (step x H7 y7)) fun _ s8 ⟨σ8, H8, I8, hw8, q8⟩ => ?_
      refine thnF (pt.run _ s8 σ8 H8 _ I8 q8) fun b s9 ⟨H9, I9, q9⟩ => ?_
      have back : ∀ {s' : Shared} {H' : Hp}, Inv (X.blk s3 H3 sp ce fq) ([] ++ pinsAt fq s7.heap) σ8 H' s' → Nx H' → ∃ m, m < n ∧ ∃ i H', Inv (X.blk s3 H3 sp ce fq) [] (wipe σ (own.map (·.2))) H' s' ∧ tn i s'.heap ∧ (∀ b ∈ fq, H' b = none) ∧ W i m H' := fun {s' H'} J' nx => by
        obtain ⟨n', hm, w'⟩ := hNx H' nx
        have pin' : ∀ b ∈ fq, ∀ o, s7.heap.get? b = some o → s'.heap.get? b = some o ∧ H' b = none := fun b hb o e =>
          let z := J'.pin (b, o) (List.mem_append_right _ (List.mem_append_right _ (mem_pinsAt hb e)))
          ⟨z.1, z.2.1⟩
        refine ⟨n', hm, i + 1, H', (J'.unpinned (pins := [])).weak (by rw [← hw8, wipe_length]) (fun j v e => ?_), T.keep _ _ _ t7 fun b hb o e => (pin' b hb o e).1, fun b hb => ?_, w'⟩
        · rw [← hw8] at e
          exact (wipe_some e).1
        · obtain ⟨o, e, _⟩ := T.obj _ _ t7 b hb
          exact (pin' b hb o e).2
      cases b with
      | false =>
        simp only [Bool.false_eq_true, if_false] at q9 ⊢
        exact back I9 q9
      | true =>
        simp only [if_true] at q9 ⊢
        refine thnF (pk.run _ s9 σ8 H9 _ I9 q9) fun z s10 ⟨yk, H10, I10, r10, q10⟩ => ?_
        refine thnF (pv.run _ s10 σ8 H10 _ I10 q10) fun z2 s11 ⟨yv, H11, I11, r11, m, k, c, ek, hc11, hD11, hz11, nx⟩ => ?_
        subst ek
        obtain rfl : z = Value.ref c := r10
        exact setT (X := X.blk s3 H3 sp ce fq) hu I11 hD11 hc11 hz11 r11 fun s12 I12 => back I12 nx
  exact codeAny_compStart_dict loop (T.self X.A 0 _ _ _ t4 loop)
theorem pe_mk {kx vx tg iter : Expr} {ifs : List Expr} {sp : Scope} {own : List (Str × Nat)} {pos : Pos} {wi : TI} {g : TG} {tt : TT} {tk tv : TE} (hu : X.A.units < cLine) (hc : X.calm = true) (hN : X.N.Nodup) (hi : PI X tg iter wi) (ok : BlkOk X.N X.env.scope sp own)
    (hg : ∀ s H C cl fq, PG (X.blk s H sp (compEnvC sp cl C X.env) fq) tg g) (ht : ∀ s H C cl fq, PTs (X.blk s H sp (compEnvC sp cl C X.env) fq) ifs tt) (hk : ∀ s H C cl fq, PE (X.blk s H sp (compEnvC sp cl C X.env) fq) kx tk)
    (he : ∀ s H C cl fq, PE (X.blk s H sp (compEnvC sp cl C X.env) fq) vx tv) (hs : ∀ x, foldedSetIterable iter X.env x = pure x := by intro _; rfl) :
    PE X (.DictComp kx vx [⟨tg, iter, ifs, 0⟩] sp pos) (tMk wi g tt tk tv (own.map (·.2))) := by
  refine ⟨fun pins s σ H Q I h => ?_⟩
  rw [arm_eval_DictComp]
  refine mk_core hu hc hN I hi ok hg ht hk he hs h fun D C s' m H' J q hn f => ⟨m, hn, fun h2 sb => ?_⟩
  obtain ⟨g0, g1, _, g3, g4, g5⟩ := f
  exact ⟨.ref D, H', J.turned (t' := s'.toks) (fun b o hb e => (sb.2 b hb).trans e) g0 g1 g3 g4 g5, rfl, q⟩
/-- name = {..} -/
theorem ps_setMk {i : Nat} {y : Str} {py : Pos} {kx vx tg iter : Expr} {ifs : List Expr} {sp : Scope} {own : List (Str × Nat)} {pos spos : Pos} {wi : TI} {g : TG} {tt : TT} {tk tv : TE} (hu : X.A.units < cLine) (hc : X.calm = true) (hN : X.N.Nodup) (hy : X.N[i]? = some y)
    (hyl : X.env.scope.names.lookup y = some .local) (hsw : swapsWith (.DictComp kx vx [⟨tg, iter, ifs, 0⟩] sp pos) (some (.Name y py)) spos.line X.env = pure true) (hi : PI X tg iter wi) (ok : BlkOk X.N X.env.scope sp own)
    (hg : ∀ s H C cl fq, PG (X.blk s H sp (compEnvC sp cl C X.env) fq) tg g) (ht : ∀ s H C cl fq, PTs (X.blk s H sp (compEnvC sp cl C X.env) fq) ifs tt) (hk : ∀ s H C cl fq, PE (X.blk s H sp (compEnvC sp cl C X.env) fq) kx tk)
    (he : ∀ s H C cl fq, PE (X.blk s H sp (compEnvC sp cl C X.env) fq) vx tv) (hs : ∀ x, foldedSetIterable iter X.env x = pure x := by intro _; rfl) :
    PS X (.Assign [.Name y py] (.DictComp kx vx [⟨tg, iter, ifs, 0⟩] sp pos) spos) (fun D σ H => tMk wi g tt tk tv (own.map (·.2)) σ H fun v H' => ∃ a u, v = .ref a ∧ H' a = some u ∧ Mut (some u) ∧ ∀ o, D.nx (σ.set i (some v)) (upd H' a (.frz o u))) := by
  refine ⟨fun pins s σ H D I h => ?_⟩
  rw [exec_Assign_Name_used _ _ _ _ hsw]
  refine wpAny_bind (wpAny_standAt (wpAny_bind ?_))
  show wpAny _ X.A (do let _ ← comprehension (.DictComp kx vx [⟨tg, iter, ifs, 0⟩] sp pos) sp X.env (firstIterPos [⟨tg, iter, ifs, 0⟩] pos) newDict false (eval iter X.env) (some (assign (.Name y py) X.env))) _ _ s
  refine wpAny_bind (thn (mk_core (Qf := fun _ s' => SP X pins D .next s') hu hc hN I hi ok hg ht hk he hs h fun A C s' m H' J q hn f => ?_) fun _ s' hq => wpAny_pure (wpAny_pure hq))
  obtain ⟨a, u, ea, hD, mu, q⟩ := q
  obtain rfl : A = a := by cases ea; rfl
  obtain ⟨o, J⟩ := J.lock hD mu
  have f2 : FpOk X pins (upd H' A (.frz o u)) C := ⟨by rw [upd_ne (fun z => by rw [← z, f.1] at hD; cases hD)]; exact f.1, f.2⟩
  show wpAny _ _ (assign (.Name y py) X.env (.ref A)) _ _ _
  refine wpAny_assign_Name (store_ok2 (v := V.ref A) J hN hy (.inl hyl) rfl (fun s2 I2 ⟨b, sb, hb⟩ => ?_) (.inr hyl))
  obtain ⟨g0, g1, _, g3, g4, g5⟩ := f2
  have nb : C ≠ b := hb.elim (fun z => z ▸ g1) (fun z e => g4 y b z e.symm)
  exact ⟨m, hn.sameBut sb nb, fun h3 sb3 => ⟨_, _, I2.turned (t' := s2.toks) (fun b o hb e => (sb3.2 b hb).trans e) g0 g1 g3 g4 g5, q o⟩⟩
/-- what comes is frozen from here on -/
theorem pe_frz {e : Expr} {t : TE} (h : PE X e t) : PE X e (fun σ H Q => t σ H fun v H' => ∃ a u, v = .ref a ∧ H' a = some u ∧ Mut (some u) ∧ ∀ o, Q v (upd H' a (.frz o u))) := by
  refine ⟨fun pins s σ H Q I hw => thn (h.run pins s σ H _ I hw) fun v s1 ⟨x, H1, I1, r, a, u, ea, hD, mu, q⟩ => ?_⟩
  obtain ⟨o, J⟩ := I1.lock hD mu
  exact ⟨x, _, J, r, q o⟩
end
end Z
namespace Z
open PySem PySem.Spec PyProof.Rows L2
/-! ### dicts by cells -/
abbrev Cell := Int × Int
abbrev cD (c : Cell) : Dt := .tup [.int c.1, .int c.2]
abbrev cK (c : Cell) : List Key := [.inl c.1, .inl c.2]
abbrev AL := List (Cell × Dt)
abbrev mD (m : AL) : Dt := .dct (m.map fun e => cK e.1) (m.map (·.2))
abbrev mM (m : AL) : MO := .dct (m.map fun e => cK e.1) (m.map (·.2))
def put (m : AL) (c : Cell) (d : Dt) : AL := if (m.any fun e => decide (e.1 = c)) = true then m.map (fun e => if e.1 = c then (e.1, d) else e) else m ++ [(c, d)]
def get (m : AL) (c : Cell) : Option Dt := (m.find? fun e => decide (e.1 = c)).map (·.2)
theorem cK_inj {a b : Cell} : cK a = cK b ↔ a = b := by
  obtain ⟨a1, a2⟩ := a
  obtain ⟨b1, b2⟩ := b
  simp
theorem put_len (m : AL) (c : Cell) (d : Dt) : (put m c d).length ≤ m.length + 1 := by
  unfold put
  split
  · simp
  · simp
theorem putL_len (ps : AL) : ∀ m : AL, (ps.foldl (fun m p => put m p.1 p.2) m).length ≤ m.length + ps.length := by
  induction ps with
  | nil => intro m; exact Nat.le_refl _
  | cons p r ih =>
    intro m
    have h1 := ih (put m p.1 p.2)
    have h2 := put_len m p.1 p.2
    rw [List.foldl_cons, List.length_cons]
    omega
/-- new keys, one apart from another: at the end -/
theorem put_new {m : AL} {c : Cell} {d : Dt} (h : c ∉ m.map (·.1)) : put m c d = m ++ [(c, d)] := by
  unfold put
  rw [if_neg]
  intro e
  obtain ⟨x, hx, e⟩ := List.any_eq_true.mp e
  exact h (List.mem_map.mpr ⟨x, hx, of_decide_eq_true e⟩)
theorem putL_new : ∀ {ps m : AL}, ((m ++ ps).map (·.1)).Nodup → ps.foldl (fun m p => put m p.1 p.2) m = m ++ ps
  | [], m, _ => by simp
  | p :: ps, m, h => by
    have h2 := h
    rw [List.map_append, List.nodup_append] at h2
    rw [List.foldl_cons, put_new (fun hm => h2.2.2 p.1 hm p.1 (by simp) rfl), putL_new (by simpa using h)]
    simp
theorem get_mem {m : AL} {c : Cell} {d : Dt} (h : get m c = some d) : (c, d) ∈ m := by
  unfold get at h
  obtain ⟨e, he, rfl⟩ := Option.map_eq_some_iff.mp h
  have h1 := List.mem_of_find?_eq_some he
  have h2 := List.find?_some he
  have h2 : e.1 = c := by simpa using h2
  rw [← h2]
  exact h1
theorem get_none {m : AL} {c : Cell} (h : c ∉ m.map (·.1)) : get m c = none := by
  unfold get
  rw [Option.map_eq_none_iff, List.find?_eq_none]
  intro e he h2
  exact h (List.mem_map.mpr ⟨e, he, by simpa using h2⟩)
theorem get_of {m : AL} (nd : (m.map (·.1)).Nodup) {c : Cell} {d : Dt} (h : (c, d) ∈ m) : get m c = some d := by
  induction m with
  | nil => simp at h
  | cons e r ih =>
    rw [List.map_cons, List.nodup_cons] at nd
    unfold get
    rw [List.find?_cons]
    rcases List.mem_cons.mp h with h | h
    · subst h
      simp
    · have ne : e.1 ≠ c := fun q => nd.1 (q ▸ List.mem_map.mpr ⟨(c, d), h, rfl⟩)
      rw [decide_eq_false ne]
      exact ih nd.2 h
def RM (K : PySem.W.Frag) (B : Hp) : AL → List (List Key × V) → Prop
  | [], u => u = []
  | e :: m, u => ∃ v r, u = (cK e.1, v) :: r ∧ Is K B e.2 v ∧ RM K B m r
section
variable {K : PySem.W.Frag} {B B' H : Hp} {L : MS}
theorem RM.mono (s : Same B B') : ∀ {m : AL} {u : List (List Key × V)}, RM K B m u → RM K B' m u
  | [], _, h => h
  | _ :: _, _, ⟨v, r, h1, h2, h3⟩ => ⟨v, r, h1, h2.mono s, RM.mono s h3⟩
theorem RM.is : ∀ {m : AL} {u : List (List Key × V)}, RM K B m u → ∃ vs, u = (m.map fun e => cK e.1).zip vs ∧ IsL K B (m.map (·.2)) vs
  | [], _, h => ⟨[], h, rfl⟩
  | e :: m, _, ⟨v, r, h1, h2, h3⟩ => by
    obtain ⟨vs, h4, h5⟩ := RM.is h3
    exact ⟨v :: vs, by rw [h1, h4]; rfl, v, vs, rfl, h2, h5⟩
theorem RM.of : ∀ {m : AL} {vs : List V}, IsL K B (m.map (·.2)) vs → RM K B m ((m.map fun e => cK e.1).zip vs)
  | [], _, _ => rfl
  | e :: m, _, ⟨v, r, h1, h2, h3⟩ => ⟨v, _, by rw [h1]; rfl, h2, RM.of h3⟩
theorem RM.len : ∀ {m : AL} {u : List (List Key × V)}, RM K B m u → u.length = m.length
  | [], _, h => by
    have h : _ = [] := h
    rw [h]; rfl
  | e :: m, _, ⟨v, r, h1, h2, h3⟩ => by rw [h1, List.length_cons, List.length_cons, RM.len h3]
theorem RM.at : ∀ {m : AL} {u : List (List Key × V)} {i : Nat} {e : Cell × Dt}, RM K B m u → m[i]? = some e → ∃ v, u[i]? = some (cK e.1, v) ∧ Is K B e.2 v
  | [], _, _, _, _, q => by simp at q
  | x :: m, _, 0, e, ⟨v, r, h1, h2, h3⟩, q => by
    simp at q
    subst q h1
    exact ⟨v, rfl, h2⟩
  | x :: m, _, i + 1, e, ⟨v, r, h1, h2, h3⟩, q => by
    subst h1
    obtain ⟨w, e1, e2⟩ := RM.at (i := i) h3 (by simpa using q)
    exact ⟨w, by simpa using e1, e2⟩
theorem RM.val {c : Cell} : ∀ {m : AL} {u : List (List Key × V)}, RM K B m u → (∀ d, get m c = some d → ∃ v, valV u (cK c) = some v ∧ Is K B d v) ∧ (get m c = none → valV u (cK c) = none)
  | [], u, h => by
    have h : u = [] := h
    subst h
    exact ⟨fun d e => by simp [get] at e, fun _ => rfl⟩
  | x :: m, u, ⟨v, r, h1, h2, h3⟩ => by
    subst h1
    obtain ⟨i1, i2⟩ := RM.val (c := c) h3
    by_cases e : x.1 = c
    · have a : get (x :: m) c = some x.2 := by simp [get, List.find?_cons, e]
      rw [a, valV_pos (cK_inj.mpr e)]
      exact ⟨fun d q => ⟨v, rfl, by rw [← Option.some.inj q]; exact h2⟩, fun q => nomatch q⟩
    · have a : get (x :: m) c = get m c := by simp [get, List.find?_cons, e]
      rw [a, valV_neg (fun q => e (cK_inj.mp q))]
      exact ⟨i1, i2⟩
theorem RM.any {c : Cell} : ∀ {m : AL} {u : List (List Key × V)}, RM K B m u → (u.any fun e => decide (e.1 = cK c)) = m.any fun e => decide (e.1 = c)
  | [], u, h => by
    have h : u = [] := h
    subst h
    rfl
  | x :: m, u, ⟨v, r, h1, h2, h3⟩ => by
    subst h1
    rw [List.any_cons, List.any_cons, RM.any h3]
    congr 1
    rw [Bool.eq_iff_iff, decide_eq_true_iff, decide_eq_true_iff]
    exact cK_inj
theorem RM.rep {c : Cell} {d : Dt} {z : V} (i : Is K B d z) : ∀ {m : AL} {u : List (List Key × V)}, RM K B m u → RM K B (m.map fun e => if e.1 = c then (e.1, d) else e) (u.map fun e => if e.1 = cK c then (e.1, z) else e)
  | [], u, h => by
    have h : u = [] := h
    subst h
    rfl
  | x :: m, u, ⟨v, r, h1, h2, h3⟩ => by
    subst h1
    rw [List.map_cons, List.map_cons]
    by_cases e : x.1 = c
    · rw [if_pos e, if_pos (cK_inj.mpr e)]
      exact ⟨z, _, rfl, i, RM.rep i h3⟩
    · rw [if_neg e, if_neg (fun q => e (cK_inj.mp q))]
      exact ⟨v, _, rfl, h2, RM.rep i h3⟩
theorem RM.snoc {c : Cell} {d : Dt} {z : V} (i : Is K B d z) : ∀ {m : AL} {u : List (List Key × V)}, RM K B m u → RM K B (m ++ [(c, d)]) (u ++ [(cK c, z)])
  | [], u, h => by
    have h : u = [] := h
    subst h
    exact ⟨z, [], rfl, i, rfl⟩
  | x :: m, u, ⟨v, r, h1, h2, h3⟩ => by
    subst h1
    exact ⟨v, _, rfl, h2, RM.snoc i h3⟩
theorem RM.put {m : AL} {u : List (List Key × V)} {c : Cell} {d : Dt} {z : V} (h : RM K B m u) (i : Is K B d z) : RM K B (put m c d) (putK u (cK c) z) := by
  unfold Z.put putK
  rw [h.any]
  split
  · exact h.rep i
  · exact h.snoc i
theorem Hs.mm {a : Addr} {m : AL} (h : Hs K B L H) (hm : ML L a (mM m)) : ∃ u, H a = some (.dT u) ∧ RM K B m u := by
  obtain ⟨_, o, h2, vs, e, _, h3⟩ := h.own a _ hm
  exact ⟨_, by rw [h2, e], RM.of h3⟩
theorem RM.rep' {m : AL} {u : List (List Key × V)} (h : RM K B m u) : Rep K B (mM m) (.dT u) := by
  obtain ⟨vs, h1, h2⟩ := h.is
  exact ⟨vs, by rw [h1], by simp, h2⟩
theorem is_mD {m : AL} {v : V} (h : Is K B (mD m) v) : ∃ a o u, v = .ref a ∧ B a = some (.frz o (.dT u)) ∧ RM K B m u := by
  obtain ⟨a, o, vs, h1, h2, _, h3⟩ := h
  exact ⟨a, o, _, h1, h2, RM.of h3⟩
theorem mD_is {m : AL} {a : Addr} {o : Obj} {u : List (List Key × V)} (h : B a = some (.frz o (.dT u))) (r : RM K B m u) : Is K B (mD m) (.ref a) := by
  obtain ⟨vs, h1, h2⟩ := r.is
  exact ⟨a, o, vs, rfl, by rw [h, h1], by simp, h2⟩
theorem cD_is {c : Cell} {v : V} (h : Is K B (cD c) v) : ∃ a, v = .ref a ∧ B a = some (.tup ((cK c).map kV)) := by
  obtain ⟨a, vs, h1, h2, x, _, rfl, h3, y, _, rfl, h4, h5⟩ := h
  have h3 : x = .int c.1 := h3
  have h4 : y = .int c.2 := h4
  have h5 : _ = [] := h5
  subst h3 h4 h5
  exact ⟨a, h1, h2⟩
theorem is_cD {c : Cell} {a : Addr} (h : B a = some (.tup ((cK c).map kV))) : Is K B (cD c) (.ref a) := ⟨a, _, rfl, h, _, _, rfl, rfl, _, _, rfl, rfl, rfl⟩
/-- a tuple that stands in the heap is frozen -/
theorem Hs.adopt {a : Addr} {xs : List V} (h : Hs K B L H) (ha : H a = some (.tup xs)) : Same B (upd B a (.tup xs)) ∧ Hs K (upd B a (.tup xs)) L H := by
  have sb : Same B (upd B a (.tup xs)) := fun b x e => by
    by_cases q : b = a
    · subst q
      rw [upd_same]
      rw [← h.sub _ _ e, ha]
    · rw [upd_ne q]; exact e
  refine ⟨sb, fun b x e => ?_, fun b m hb => ?_, h.nd, nt_upd h.nt (by intro _ h; cases h)⟩
  · by_cases q : b = a
    · subst q
      rw [upd_same] at e
      rw [ha]; exact e
    · rw [upd_ne q] at e; exact h.sub b x e
  · obtain ⟨h1, o, h2, h3⟩ := h.own b m hb
    have ne : b ≠ a := fun q => by
      subst q
      rw [ha] at h2
      have h2 := Option.some.inj h2
      subst h2
      cases m with
      | lst ds => obtain ⟨_, e, _⟩ := h3; cases e
      | dct ks ds => obtain ⟨_, e, _⟩ := h3; cases e
      | ins C ns ds => obtain ⟨_, _, e, _⟩ := h3; cases e
      | tab q B0 => obtain ⟨⟨_, e, _⟩, _⟩ := h3; cases e
      | sct ns ds => obtain ⟨_, e, _⟩ := h3; cases e
      | xd ns ds => obtain ⟨_, e, _⟩ := h3; cases e
      | gen R hm hx => obtain ⟨⟨_, e⟩, _⟩ := hx _ _ h3; cases e
    exact ⟨by rw [upd_ne ne]; exact h1, o, h2, h3.mono sb⟩
/-- an object of L is frozen as it is locked -/
theorem Hs.lockM {a : Addr} {m : AL} {u : List (List Key × V)} {L2 : MS} {o : Obj} (h : Hs K B L H) (s : MDel L a (mM m) L2) (r : RM K B m u) : Same B (upd B a (.frz o (.dT u))) ∧ Hs K (upd B a (.frz o (.dT u))) L2 (upd H a (.frz o (.dT u))) := by
  obtain ⟨hb, _⟩ := h.own a _ s.mem
  have sb : Same B (upd B a (.frz o (.dT u))) := fun b x e => by rw [upd_ne (ne_of_none e hb)]; exact e
  obtain ⟨n1, n2⟩ := s.nd h.nd
  refine ⟨sb, ⟨fun b x e => ?_, fun b x hq => ?_, n1, nt_upd h.nt (by intro _ h; cases h)⟩⟩
  · by_cases hba : b = a
    · subst hba
      rw [upd_same] at e ⊢
      exact e
    · rw [upd_ne hba] at e ⊢
      exact h.sub b x e
  · have ne : b ≠ a := fun e => n2 (List.mem_map.mpr ⟨(b, x), hq, e⟩)
    obtain ⟨h1, w, h2, h3⟩ := h.own b x (s.sub _ hq)
    exact ⟨by rw [upd_ne ne]; exact h1, w, by rw [upd_ne ne]; exact h2, h3.mono sb⟩
end
section
variable {X : Cx} {a b c e o i v : Expr} {ds : DS} {L : MS} {P : DK} {PB : Bool → MS → Prop} {pos pos' p2 : Pos} {D : DEnds} {k : Nat}
theorem dp_dnew (h : ∀ a, P (.adr a) ((a, mM []) :: L)) : DP X (.Dict [] [] pos) ds L P := .mk fun σ H B hs hl Q q =>
  PE.to pe_dnewT fun p hp => q _ _ _ B _ (h p) (Same.refl B) (hl.newM hp (RM.rep' (m := []) rfl)) rfl
/-- name[key] = value, the dict one that may change -/
theorem ds_dput (hr : Room k X.A) (h : DP X v ds L fun d L1 => DP X o ds L1 fun x L2 => DP X i ds L2 fun y L3 => ∃ a c m L4, x = .adr a ∧ y = cD c ∧ ML L3 a (mM m) ∧ m.length < sizeLine ∧ MSt L3 a (mM (put m c d)) L4 ∧ D.nx ds L4)
    (hs' : swapsWith v (some (.Subscript o i pos')) pos.line X.env = pure false := by rfl) : DSt X (.Assign [.Subscript o i pos'] v pos) ds L D := .mk fun σ H B E hs hl m =>
  PS.to (ps_dput (hu_of hr) pe_w pe_w pe_w hs') (h.run σ H B hs hl _ fun d L1 z B1 H1 h1 e1 hl1 iz => h1.run σ H1 B1 (hs.mono e1) hl1 _ fun x L2 x' B2 H2 h2 e2 hl2 ix => h2.run σ H2 B2 (hs.mono (e1.trans e2)) hl2 _ fun y L3 y' B3 H3 h3 e3 hl3 iy => by
    obtain ⟨a, c, m', L4, rfl, rfl, hm, hz, ht, p⟩ := h3
    have ix : x' = .ref a := ix
    subst ix
    obtain ⟨q, rfl, hq⟩ := cD_is iy
    obtain ⟨u, hu, r⟩ := hl3.mm hm
    have r2 := r.put (c := c) (iz.mono (e2.trans e3))
    exact ⟨a, _, rfl, DPut.t hu (hl3.sub _ _ hq) (by rw [r.len]; exact hz), m.nx ds L4 σ B3 _ p ((e1.trans e2).trans e3) (hs.mono ((e1.trans e2).trans e3)) (hl3.put ht (RM.rep' r2))⟩)
/-- dict[key], the dict frozen -/
theorem dget_of {K : PySem.W.Frag} {B H : Hp} {m : AL} {c : Cell} {x y : V} (hl : Hs K B L H) (ix : Is K B (mD m) x) (iy : Is K B (cD c) y) : ∃ a r, x = .ref a ∧ DGet H a y r ∧ IsD H a ∧ (∀ d, get m c = some d → ∃ v, r = some v ∧ Is K B d v) ∧ (get m c = none → r = none) := by
  obtain ⟨a, ob, u, rfl, ha, r⟩ := is_mD ix
  obtain ⟨q, rfl, hq⟩ := cD_is iy
  have hv := r.val (c := c)
  exact ⟨a, valV u (cK c), rfl, .inr ⟨u, cK c, q, .inr ⟨ob, hl.sub _ _ ha⟩, rfl, hl.sub _ _ hq, rfl⟩, .inr ⟨u, .inr ⟨ob, hl.sub _ _ ha⟩⟩, hv.1, hv.2⟩
theorem dp_dget (hr : Room k X.A) (h : DP X o ds L fun x L1 => DP X i ds L1 fun y L2 => ∃ m c d, x = mD m ∧ y = cD c ∧ get m c = some d ∧ P d L2) (hs' : NoSl i := by intro _ _; rfl) : DP X (.Subscript o i pos) ds L P := .mk fun σ H B hs hl Q q =>
  PE.to (pe_dget (hu_of hr) pe_w pe_w hs') (h.run σ H B hs hl _ fun x L1 x' B1 H1 h1 e1 hl1 ix => h1.run σ H1 B1 (hs.mono e1) hl1 _ fun y L2 y' B2 H2 h2 e2 hl2 iy => by
    obtain ⟨m, c, d, rfl, rfl, hg, p⟩ := h2
    obtain ⟨a, r, rfl, h3, _, h4, _⟩ := dget_of hl2 (ix.mono e2) iy
    obtain ⟨v, rfl, iv⟩ := h4 d hg
    exact ⟨a, v, rfl, h3, q d L2 v B2 H2 p (e1.trans e2) hl2 iv⟩)
theorem dt_din (hr : Room k X.A) (h : DP X i ds L fun y L1 => DP X o ds L1 fun x L2 => ∃ m c, x = mD m ∧ y = cD c ∧ PB (get m c).isSome L2) (hb : behindInMarks .In o = false := by rfl) : DT X (.Compare i [.In] [o] pos) ds L PB := .mk fun σ H B hs hl Q q =>
  PT.to (pt_cmp (pc_din (hu_of hr) pe_w pe_w) hb) (h.run σ H B hs hl _ fun y L1 y' B1 H1 h1 e1 hl1 iy => h1.run σ H1 B1 (hs.mono e1) hl1 _ fun x L2 x' B2 H2 h2 e2 hl2 ix => by
    obtain ⟨m, c, rfl, rfl, p⟩ := h2
    obtain ⟨a, r, rfl, h3, _, h4, h5⟩ := dget_of hl2 ix (iy.mono e2)
    have er : r.isSome = (get m c).isSome := by
      cases e : get m c with
      | none => rw [h5 e]; rfl
      | some d => obtain ⟨v, rfl, _⟩ := h4 d e; rfl
    exact ⟨a, r, rfl, h3, _, rfl, by rw [er]; exact q _ L2 B2 H2 p (e1.trans e2) hl2⟩)
/-- dict.get(key, other) -/
theorem dp_dget2 (hr : Room k X.A) (h : DP X o ds L fun x L1 => ∃ m, x = mD m ∧ DP X i ds L1 fun y L2 => DP X e ds L2 fun z L3 => ∃ c, y = cD c ∧ P ((get m c).getD z) L3) (m2 : M2 X o "get" pos' i e pos := by exact ⟨rfl, rfl, rfl, rfl⟩) : DP X (.Call (.Attribute o "get" pos') [i, e] [] pos) ds L P := .mk fun σ H B hs hl Q q =>
  PE.to (pe_dget2 (hu_of hr) pe_w pe_w pe_w m2) (h.run σ H B hs hl _ fun x L1 x' B1 H1 h1 e1 hl1 ix => by
    obtain ⟨m, rfl, h1⟩ := h1
    obtain ⟨a, ob, u, rfl, ha, r⟩ := is_mD ix
    refine ⟨a, rfl, .inr ⟨u, .inr ⟨ob, hl1.sub _ _ ha⟩⟩, h1.run σ H1 B1 (hs.mono e1) hl1 _ fun y L2 y' B2 H2 h2 e2 hl2 iy => h2.run σ H2 B2 (hs.mono (e1.trans e2)) hl2 _ fun z L3 z' B3 H3 h3 e3 hl3 iz => ?_⟩
    obtain ⟨c, rfl, p⟩ := h3
    obtain ⟨a', r', ea, h3, _, h4, h5⟩ := dget_of hl3 (ix.mono (e2.trans e3)) (iy.mono e3)
    cases ea
    refine ⟨r', h3, ?_⟩
    cases e : get m c with
    | none =>
      rw [h5 e]
      rw [e] at p
      exact q _ L3 _ B3 H3 p ((e1.trans e2).trans e3) hl3 iz
    | some d =>
      obtain ⟨v, rfl, iv⟩ := h4 d e
      rw [e] at p
      exact q _ L3 _ B3 H3 p ((e1.trans e2).trans e3) hl3 iv)
/-- what comes is a dict that may change: it's frozen from here on -/
theorem dp_lock (h : DP X e ds L fun d L1 => ∃ a m L2, d = .adr a ∧ MDel L1 a (mM m) L2 ∧ P (mD m) L2) : DP X e ds L P := .mk fun σ H B hs hl Q q =>
  PE.to (pe_frz pe_w) (h.run σ H B hs hl _ fun d L1 v B1 H1 h1 e1 hl1 iv => by
    obtain ⟨a, m, L2, rfl, hd, p⟩ := h1
    have iv : v = .ref a := iv
    subst iv
    obtain ⟨u, hu, r⟩ := hl1.mm hd.mem
    refine ⟨a, _, rfl, hu, trivial, fun ob => ?_⟩
    obtain ⟨sb, hl2⟩ := hl1.lockM (o := ob) hd r
    exact q _ L2 _ _ _ p (e1.trans sb) hl2 (mD_is upd_same (r.mono sb)))
end
/-! ### walks -/
section
variable {X : Cx} {tg e e2 : Expr} {ds : DS} {L : MS} {P : List Dt → MS → Prop} {pos p apos : Pos}
theorem yields_keys {K : PySem.W.Frag} {B : Hp} {d : Addr} {o : Obj} {m : AL} {u : List (List Key × V)} (hd : B d = some (.frz o (.dT u))) (r : RM K B m u) : Yields K B (Itkt d o u) (m.map fun e => cD e.1) := fun i B' H' L' e hl => ⟨fun x q => by
  rw [List.getElem?_map] at q
  obtain ⟨y, hy, rfl⟩ := Option.map_eq_some_iff.mp q
  obtain ⟨v, e1, e2⟩ := r.at hy
  refine ⟨⟨hl.sub _ _ (e _ _ hd), (List.getElem?_eq_some_iff.mp e1).1⟩, fun z H2 hz => ?_⟩
  obtain ⟨rfl, k, v', q', hk, rfl, hq⟩ := hz
  rw [e1] at hk
  cases hk
  obtain ⟨sb, hl2⟩ := hl.adopt hq
  exact ⟨_, sb, hl2, is_cD upd_same⟩, fun hi => ⟨hl.sub _ _ (e _ _ hd), by rw [r.len]; simpa using hi⟩⟩
theorem yields_vals {K : PySem.W.Frag} {B : Hp} {d : Addr} {o : Obj} {m : AL} {u : List (List Key × V)} (hd : B d = some (.frz o (.dT u))) (r : RM K B m u) : Yields K B (ItV d o u) (m.map (·.2)) := fun i B' H' L' e hl => ⟨fun x q => by
  rw [List.getElem?_map] at q
  obtain ⟨y, hy, rfl⟩ := Option.map_eq_some_iff.mp q
  obtain ⟨v, e1, e2⟩ := r.at hy
  refine ⟨⟨hl.sub _ _ (e _ _ hd), (List.getElem?_eq_some_iff.mp e1).1⟩, fun z H2 hz => ?_⟩
  obtain ⟨rfl, k, hk⟩ := hz
  rw [e1] at hk
  cases hk
  exact ⟨_, Same.refl _, hl, e2.mono e⟩, fun hi => ⟨hl.sub _ _ (e _ _ hd), by rw [r.len]; simpa using hi⟩⟩
theorem yields_items {K : PySem.W.Frag} {B : Hp} {d : Addr} {o : Obj} {m : AL} {u : List (List Key × V)} (hd : B d = some (.frz o (.dT u))) (r : RM K B m u) : Yields K B (ItI d o u) (m.map fun e => Dt.tup [cD e.1, e.2]) := fun i B' H' L' e hl => ⟨fun x q => by
  rw [List.getElem?_map] at q
  obtain ⟨y, hy, rfl⟩ := Option.map_eq_some_iff.mp q
  obtain ⟨v, e1, e2⟩ := r.at hy
  refine ⟨⟨hl.sub _ _ (e _ _ hd), (List.getElem?_eq_some_iff.mp e1).1⟩, fun z H2 hz => ?_⟩
  obtain ⟨T, k, q', v', hk, hq, rfl, hT, rfl⟩ := hz
  rw [e1] at hk
  cases hk
  obtain ⟨sb, hl2⟩ := hl.adopt hq
  obtain ⟨sb2, hl3⟩ := hl2.new (o := .tup [.ref q', v]) hT
  exact ⟨_, sb.trans sb2, hl3, T, _, rfl, upd_same, _, _, rfl, (is_cD (sb2 _ _ upd_same)), _, _, rfl, ((e2.mono e).mono sb).mono sb2, rfl⟩, fun hi => ⟨hl.sub _ _ (e _ _ hd), by rw [r.len]; simpa using hi⟩⟩
theorem di_dkeys (h : DP X e ds L fun x L1 => ∃ m, x = mD m ∧ P (m.map fun e => cD e.1) L1) : DI X tg e ds L P := .mk fun σ H B hs hl R q => by
  refine PI.to (pi_keys pe_w) (h.run σ H B hs hl _ fun x L1 v B1 H1 hp e1 hl1 ix => ?_)
  obtain ⟨m, rfl, p⟩ := hp
  obtain ⟨a, o, u, rfl, ha, r⟩ := is_mD ix
  exact ⟨a, o, rfl, .inr ⟨u, hl1.sub _ _ ha, q _ L1 _ B1 H1 p e1 hl1 (yields_keys ha r)⟩⟩
theorem di_dvals (h : DP X e ds L fun x L1 => ∃ m, x = mD m ∧ P (m.map (·.2)) L1) (hb : attributeBase e "values" X.env (eval e X.env) = eval e X.env := by rfl) (hline : (apos.endLine == pos.line) = true := by rfl) : DI X tg (.Call (.Attribute e "values" apos) [] [] pos) ds L P := .mk fun σ H B hs hl R q => by
  refine PI.to (pi_valsT pe_w hb hline) (h.run σ H B hs hl _ fun x L1 v B1 H1 hp e1 hl1 ix => ?_)
  obtain ⟨m, rfl, p⟩ := hp
  obtain ⟨a, o, u, rfl, ha, r⟩ := is_mD ix
  exact ⟨a, o, u, rfl, hl1.sub _ _ ha, q _ L1 _ B1 H1 p e1 hl1 (yields_vals ha r)⟩
theorem di_ditems {elts : List Expr} {kk : Nat} {tpos : Pos} (h : DP X e ds L fun x L1 => ∃ m, x = mD m ∧ P (m.map fun e => Dt.tup [cD e.1, e.2]) L1) (hb : attributeBase e "items" X.env (eval e X.env) = eval e X.env := by rfl) (hline : (apos.endLine == pos.line) = true := by rfl) :
    DI X (.Tuple elts kk tpos) (.Call (.Attribute e "items" apos) [] [] pos) ds L P := .mk fun σ H B hs hl R q => by
  refine PI.to (pi_itemsT pe_w hb hline) (h.run σ H B hs hl _ fun x L1 v B1 H1 hp e1 hl1 ix => ?_)
  obtain ⟨m, rfl, p⟩ := hp
  obtain ⟨a, o, u, rfl, ha, r⟩ := is_mD ix
  exact ⟨a, o, u, rfl, hl1.sub _ _ ha, q _ L1 _ B1 H1 p e1 hl1 (yields_items ha r)⟩
/-- zip of two lists -/
def zipD (xs ys : List Dt) : List Dt := (xs.zip ys).map fun e => Dt.tup [e.1, e.2]
theorem yields_zip {K : PySem.W.Frag} {B : Hp} {a b : Addr} {xs ys : List Dt} {vs us : List V} (ha : SqL K B a vs) (h : IsL K B xs vs) (hb : SqL K B b us) (h' : IsL K B ys us) : Yields K B (Itz K a b) (zipD xs ys) := fun i B' H' L' e hl => ⟨fun d q => by
  unfold zipD at q
  rw [List.getElem?_map] at q
  obtain ⟨z, hz, rfl⟩ := Option.map_eq_some_iff.mp q
  obtain ⟨z1, z2⟩ := List.getElem?_zip_eq_some.mp hz
  obtain ⟨v, e1, e2⟩ := h.get z1
  obtain ⟨u, f1, f2⟩ := h'.get z2
  have e3 : SqL K H' a vs := (e.trans hl.sub).seq ha
  have f3 : SqL K H' b us := (e.trans hl.sub).seq hb
  refine ⟨⟨vs, us, v, u, e3, f3, e1, f1⟩, fun w H2 hy => ?_⟩
  obtain ⟨T, x, y, rfl, hT, rfl, hx, hy⟩ := hy
  have e4 := hx vs e3
  rw [e1] at e4
  obtain rfl := Option.some.inj e4
  have f4 := hy us f3
  rw [f1] at f4
  obtain rfl := Option.some.inj f4
  obtain ⟨sb, h2⟩ := hl.new (o := .tup [v, u]) hT
  exact ⟨_, sb, h2, T, _, rfl, upd_same, _, _, rfl, (e2.mono e).mono sb, _, _, rfl, (f2.mono e).mono sb, rfl⟩, fun hi => ⟨vs, us, (e.trans hl.sub).seq ha, (e.trans hl.sub).seq hb, by
  unfold zipD at hi
  rw [List.length_map, List.length_zip] at hi
  rw [h.length, h'.length]
  omega⟩⟩
theorem di_zip {elts : List Expr} {kk : Nat} {tpos : Pos} (hm : X.mg "zip" = none) (h : DA X [e, e2] ds L fun zs L1 => ∃ xs ys, zs = [.lst xs, .lst ys] ∧ P (zipD xs ys) L1) (hg : Gl X "zip" := by rfl)
    (hs' : starEach [e, e2] X.env = (false, eval e X.env) :: starEach [e2] X.env := by rfl) (hpl : (backTo pos (starEach [e2] X.env)).any (·.1) = false := by rfl) :
    DI X (.Tuple elts kk tpos) (.Call (.Name "zip" p) [e, e2] [] pos) ds L P := .mk fun σ H B hs hl R q => by
  refine PI.to (pi_zip hg hm pa_w hs' hpl) (h.run σ H B hs hl _ fun zs L1 vs B1 H1 hp e1 hl1 ix => ?_)
  obtain ⟨xs, ys, rfl, p⟩ := hp
  obtain ⟨v, u, rfl, i1, i2⟩ := ix.two_inv
  obtain ⟨a, us, rfl, ha, ia⟩ := i1
  obtain ⟨b, ws, rfl, hb, ib⟩ := i2
  exact ⟨a, b, us, ws, rfl, SqL.of (hl1.sub _ _ ha), SqL.of (hl1.sub _ _ hb), q _ L1 _ B1 H1 p e1 hl1 (yields_zip (SqL.of ha) ia (SqL.of hb) ib)⟩
end
end Z
namespace Z
open PySem PySem.Spec PyProof.Rows L2
/-! ### {key: value for ..} -/
section
variable {X : Cx}
/-- the target g takes d: the block's slots vs, then, stand as ds' tells -/
def TgOk (X : Cx) (g : TG) (vs : List Nat) (ds : DS) (d : Dt) (ds' : DS) : Prop := ∀ σ H B L v, Sl X.K B ds σ → Hs X.K B L H → Is X.K B d v → ∀ Q : L2.St → Hp → Prop, (∀ σ2, wipe σ2 vs = wipe σ vs → Sl X.K B ds' σ2 → Q σ2 H) → g v σ H Q
theorem tg_name {i : Nat} {ds : DS} {d : Dt} : TgOk X (gName i) [i] ds d (ds.set i (some d)) := fun σ H B L v hs hl iv Q q => q _ (by
  show (σ.set i (some v)).set i none = σ.set i none
  rw [List.set_set]) (hs.set i iv)
def gPair (K : PySem.W.Frag) (i j : Nat) : TG := gTup K 2 (gCons (gName i) (gCons (gName j) gNil))
theorem tg_pair {i j : Nat} {ds : DS} {d d' : Dt} (hij : i ≠ j) : TgOk X (gPair X.K i j) [i, j] ds (.tup [d, d']) ((ds.set i (some d)).set j (some d')) := fun σ H B L v hs hl iv Q q => by
  obtain ⟨a, vs, rfl, ha, iv⟩ := iv
  obtain ⟨x, y, rfl, i1, i2⟩ := iv.two_inv
  refine ⟨a, _, rfl, SqT.of (hl.sub _ _ ha), rfl, x, _, rfl, y, _, rfl, rfl, q _ ?_ ((hs.set i i1).set j i2)⟩
  show ((((σ.set i (some x)).set j (some y)).set j none).set i none) = ((σ.set j none).set i none)
  rw [List.set_set, List.set_comm _ _ hij, List.set_set, List.set_comm _ _ (Ne.symm hij)]
def DMk (X : Cx) (kx vx tg iter : Expr) (sp : Scope) (g : TG) (vs : List Nat) (ds : DS) (L : MS) (P : AL → MS → Prop) : Prop :=
  DI X tg iter ds L fun xs L1 => ∃ ps : AL, xs.length ≤ 100000 ∧ ps.length = xs.length ∧ (∀ (n : Nat) (d : Dt) (p : Cell × Dt), xs[n]? = some d → ps[n]? = some p → ∃ ds', TgOk X g vs (wipeD ds vs) d ds' ∧
    ∀ T : Addr × MO, (∀ s H C cl fp, DP (bX X sp s H C cl fp) kx ds' (T :: L1) fun k L2 => k = cD p.1 ∧ L2 = T :: L1) ∧ ∀ s H C cl fp, DP (bX X sp s H C cl fp) vx ds' (T :: L1) fun z L3 => z = p.2 ∧ L3 = T :: L1) ∧ P (ps.foldl (fun m p => put m p.1 p.2) []) L1
theorem wipe_idem (σ : L2.St) : ∀ vs us : List Nat, (∀ v ∈ vs, v ∈ us) → wipe (wipe σ us) vs = wipe σ us := by
  intro vs
  have one : ∀ (us : List Nat) (v : Nat), v ∈ us → (wipe σ us).set v none = wipe σ us := by
    intro us
    induction us with
    | nil => intro v h; simp at h
    | cons u us ih =>
      intro v h
      show ((wipe σ us).set u none).set v none = (wipe σ us).set u none
      by_cases e : v = u
      · subst e; rw [List.set_set]
      · rw [List.set_comm _ _ (Ne.symm e), ih v (by simpa [e] using h)]
  induction vs with
  | nil => intro us _; rfl
  | cons v vs ih =>
    intro us h
    show (wipe (wipe σ us) vs).set v none = _
    rw [ih us fun x hx => h x (List.mem_cons_of_mem _ hx)]
    exact one us v (h v List.mem_cons_self)
theorem mk_read {kx vx tg iter : Expr} {sp : Scope} {g : TG} {vs : List Nat} {ds : DS} {L : MS} {P : AL → MS → Prop} {σ : L2.St} {H B : Hp} {Q : VK} (hs0 : Sl X.K B ds σ) (hl0 : Hs X.K B L H) (h : DMk X kx vx tg iter sp g vs ds L P)
    (q : ∀ m L' a u B2 H2, P m L' → Same B B2 → H2 a = some (.dT u) → RM X.K B2 m u → Hs X.K B2 ((a, mM m) :: L') H2 → Q (.ref a) H2) : tMk (IW X tg iter) g (ttB X sp []) (teB X sp kx) (teB X sp vx) vs σ H Q := by
  refine h.run σ H B hs0 hl0 _ fun xs L1 J B1 H1 ⟨ps, hz, hpl, hstep, hend⟩ e1 hl1 hy D hD => ?_
  generalize hM : (fun n => (ps.take n).foldl (fun m p => put m p.1 p.2) ([] : AL)) = M
  have M0 : M 0 = [] := by rw [← hM]; rfl
  refine ⟨fun n k H' => n + k = xs.length ∧ ∃ B', Same B1 B' ∧ Hs X.K B' ((D, mM (M n)) :: L1) H', ⟨xs.length, Nat.zero_add _, B1, Same.refl _, by rw [M0]; exact hl1.newM hD (RM.rep' (m := []) rfl)⟩, ?_⟩
  rintro n k H' ⟨hn, B', e2, hl2⟩
  obtain ⟨y1, y2⟩ := hy n B' H' _ e2 hl2
  by_cases hi : n < xs.length
  · have hx : xs[n]? = some xs[n] := List.getElem?_eq_getElem hi
    have hp : ps[n]? = some ps[n] := List.getElem?_eq_getElem (by omega)
    obtain ⟨g1, g2⟩ := y1 _ hx
    have Ms : M (n + 1) = put (M n) ps[n].1 ps[n].2 := by rw [← hM]; simp only []; rw [List.take_add_one, hp, List.foldl_append]; rfl
    refine .inr ⟨g1, fun H3 => ∃ B', Same B1 B' ∧ Hs X.K B' ((D, mM (M (n + 1))) :: L1) H3, fun H3 hN => ⟨k - 1, by omega, by omega, hN⟩, fun v H2 hv => ?_⟩
    obtain ⟨B2, e3, hl3, iv⟩ := g2 v H2 hv
    have eB : Same B1 B2 := e2.trans e3
    obtain ⟨ds', htg, hbody⟩ := hstep n _ _ hx hp
    refine htg _ H2 B2 _ v (sl_wipe (hs0.mono (e1.trans eB)) vs) hl3 iv _ fun σ2 hw hs2 => ⟨hw.trans (wipe_idem σ vs vs fun _ h => h), fun s H0 C cl fp => PTs.to (X := bX X sp s H0 C cl fp) pts_nil ?_⟩
    simp only [if_true]
    obtain ⟨hk, hv'⟩ := hbody (D, mM (M n))
    intro s H0 C cl fp
    refine (hk s H0 C cl fp).run σ2 H2 B2 hs2 hl3 _ fun y L2 u B3 H3 ⟨ey, eL⟩ e4 hl4 iy => ?_
    subst ey eL
    intro s' H0' C' cl' fp'
    refine (hv' s' H0' C' cl' fp').run σ2 H3 B3 (hs2.mono e4) hl4 _ fun z L3 w B4 H4 ⟨ez, eL⟩ e5 hl5 iz => ?_
    subst ez eL
    obtain ⟨a, rfl, ha⟩ := cD_is (iy.mono e5)
    obtain ⟨kv, hkv, r⟩ := hl5.mm ML.hd
    have lenM : (M n).length ≤ n := by
      have := putL_len (ps.take n) []
      rw [← hM]
      refine Nat.le_trans this ?_
      rw [List.length_nil, List.length_take]
      omega
    refine ⟨kv, _, a, rfl, hl5.sub _ _ ha, hkv, by rw [r.len, sizeLine_eq]; omega, B4, (eB.trans e4).trans e5, ?_⟩
    rw [Ms]
    exact hl5.put .hd (RM.rep' (r.put iz))
  · have ei : n = xs.length := by omega
    refine .inl ⟨y2 (by omega), ?_⟩
    subst ei
    obtain ⟨kv, hkv, r⟩ := hl2.mm ML.hd
    have eM : M xs.length = ps.foldl (fun m p => put m p.1 p.2) [] := by rw [← hM]; simp only []; rw [← hpl, List.take_length]
    rw [eM] at r hl2
    exact q _ L1 D kv _ H' hend (e1.trans e2) hkv r hl2
section
variable {kx vx tg iter : Expr} {sp : Scope} {ds : DS} {L : MS} {pos spos py : Pos} {g : TG} {vs : List Nat} {k : Nat}
theorem dp_mkG {P : DK} (own : List (Str × Nat)) (ok : BlkOk X.N X.env.scope sp own) (hr : Room k X.A) (hN : X.N.Nodup) (hg : ∀ s H C cl fp, PG (bX X sp s H C cl fp) tg g) (h : DMk X kx vx tg iter sp g vs ds L fun m L1 => P (mD m) L1)
    (ho : own.map (·.2) = vs) (hc : X.calm = true) (hs : ∀ x, foldedSetIterable iter X.env x = pure x) : DP X (.DictComp kx vx [⟨tg, iter, [], 0⟩] sp pos) ds L P := .mk fun σ H B hs0 hl0 Q q => by
  refine PE.to (pe_frz (pe_mk (tt := ttB X sp []) (tk := teB X sp kx) (tv := teB X sp vx) hr.units0 hc hN pi_w ok hg (fun s H C cl fp => ⟨fun pins s1 σ H Q I h => h s _ C cl fp pins s1 I⟩) (fun s H C cl fp => ⟨fun pins s1 σ H Q I h => h s _ C cl fp pins s1 I⟩) (fun s H C cl fp => ⟨fun pins s1 σ H Q I h => h s _ C cl fp pins s1 I⟩) hs)) ?_
  rw [ho]
  refine mk_read hs0 hl0 h fun m L' a u B2 H2 p e hu r hl => ⟨a, _, rfl, hu, trivial, fun ob => ?_⟩
  obtain ⟨sb, hl2⟩ := hl.lockM (o := ob) MDel.hd r
  exact q _ L' _ _ _ p (e.trans sb) hl2 (mD_is upd_same (r.mono sb))
theorem ds_mkG {D : DEnds} {i : Nat} {y : Str} {ds' : Dt → DS} (hset : ∀ d, SetAt ds i d (ds' d)) (own : List (Str × Nat)) (ok : BlkOk X.N X.env.scope sp own) (hr : Room k X.A) (hN : X.N.Nodup) (hg : ∀ s H C cl fp, PG (bX X sp s H C cl fp) tg g)
    (hsw : swapsWith (.DictComp kx vx [⟨tg, iter, [], 0⟩] sp pos) (some (.Name y py)) spos.line X.env = pure true) (h : DMk X kx vx tg iter sp g vs ds L fun m L1 => D.nx (ds' (mD m)) L1)
    (hy : X.N[i]? = some y) (hyl : X.env.scope.names.lookup y = some .local) (ho : own.map (·.2) = vs) (hc : X.calm = true) (hs : ∀ x, foldedSetIterable iter X.env x = pure x) : DSt X (.Assign [.Name y py] (.DictComp kx vx [⟨tg, iter, [], 0⟩] sp pos) spos) ds L D := .mk fun σ H B E hs0 hl0 m => by
  refine PS.to (ps_setMk (i := i) (tt := ttB X sp []) (tk := teB X sp kx) (tv := teB X sp vx) hr.units0 hc hN hy hyl hsw pi_w ok hg (fun s H C cl fp => ⟨fun pins s1 σ H Q I h => h s _ C cl fp pins s1 I⟩) (fun s H C cl fp => ⟨fun pins s1 σ H Q I h => h s _ C cl fp pins s1 I⟩) (fun s H C cl fp => ⟨fun pins s1 σ H Q I h => h s _ C cl fp pins s1 I⟩) hs) ?_
  rw [ho]
  refine mk_read hs0 hl0 h fun m' L' a u B2 H2 p e hu r hl => ⟨a, _, rfl, hu, trivial, fun ob => ?_⟩
  obtain ⟨sb, hl2⟩ := hl.lockM (o := ob) MDel.hd r
  refine m.nx _ L' _ _ _ p (e.trans sb) ?_ hl2
  rw [← hset]
  exact (hs0.mono (e.trans sb)).set i (mD_is upd_same (r.mono sb))
end
section
variable {kx vx iter : Expr} {sp : Scope} {ds : DS} {L : MS} {pos spos py p1 p2 pt : Pos} {k i j kt : Nat} {x z : Str}
/-- {.. for x in ..} -/
theorem dp_mk1 {P : DK} (own : List (Str × Nat)) (ok : BlkOk X.N X.env.scope sp own) (hr : Room k X.A) (hN : X.N.Nodup) (hg : ∀ s H C cl fp, PG (bX X sp s H C cl fp) (.Name x p1) (gName i)) (h : DMk X kx vx (.Name x p1) iter sp (gName i) [i] ds L fun m L1 => P (mD m) L1)
    (ho : own.map (·.2) = [i] := by rfl) (hc : X.calm = true := by rfl) (hs : ∀ x, foldedSetIterable iter X.env x = pure x := by intro _; rfl) : DP X (.DictComp kx vx [⟨.Name x p1, iter, [], 0⟩] sp pos) ds L P := dp_mkG own ok hr hN hg h ho hc hs
/-- {.. for x, z in ..} -/
theorem dp_mk2 {P : DK} (own : List (Str × Nat)) (ok : BlkOk X.N X.env.scope sp own) (hr : Room k X.A) (hN : X.N.Nodup) (hg : ∀ s H C cl fp, PG (bX X sp s H C cl fp) (.Tuple [.Name x p1, .Name z p2] kt pt) (gPair X.K i j)) (h : DMk X kx vx (.Tuple [.Name x p1, .Name z p2] kt pt) iter sp (gPair X.K i j) [i, j] ds L fun m L1 => P (mD m) L1)
    (ho : own.map (·.2) = [i, j] := by rfl) (hc : X.calm = true := by rfl) (hs : ∀ x, foldedSetIterable iter X.env x = pure x := by intro _; rfl) : DP X (.DictComp kx vx [⟨.Tuple [.Name x p1, .Name z p2] kt pt, iter, [], 0⟩] sp pos) ds L P := dp_mkG own ok hr hN hg h ho hc hs
theorem ds_mk1 {D : DEnds} {l : Nat} {y : Str} {ds' : Dt → DS} (hset : ∀ d, SetAt ds l d (ds' d)) (own : List (Str × Nat)) (ok : BlkOk X.N X.env.scope sp own) (hr : Room k X.A) (hN : X.N.Nodup) (hg : ∀ s H C cl fp, PG (bX X sp s H C cl fp) (.Name x p1) (gName i))
    (hsw : swapsWith (.DictComp kx vx [⟨.Name x p1, iter, [], 0⟩] sp pos) (some (.Name y py)) spos.line X.env = pure true) (h : DMk X kx vx (.Name x p1) iter sp (gName i) [i] ds L fun m L1 => D.nx (ds' (mD m)) L1)
    (hy : X.N[l]? = some y := by rfl) (hyl : X.env.scope.names.lookup y = some .local := by rfl) (ho : own.map (·.2) = [i] := by rfl) (hc : X.calm = true := by rfl) (hs : ∀ x, foldedSetIterable iter X.env x = pure x := by intro _; rfl) :
    DSt X (.Assign [.Name y py] (.DictComp kx vx [⟨.Name x p1, iter, [], 0⟩] sp pos) spos) ds L D := ds_mkG hset own ok hr hN hg hsw h hy hyl ho hc hs
end
end
end Z
namespace Z
open PySem PySem.Spec PyProof.Rows L2
section
variable {X : Cx} {e : Expr} {ds : DS} {L : MS} {P : DK} {D : DEnds} {pos pos' p1 p2 p3 : Pos} {k : Nat}
/-- a statement, what stands behind it, the rest from there -/
theorem dss_mid {st : Stmt} {rest : List Stmt} (Mid : DS → MS → Prop) (h : DSt X st ds L { D with nx := Mid }) (h2 : ∀ ds' L', Mid ds' L' → DSs X rest ds' L' D) : DSs X (st :: rest) ds L D :=
  dss_cons (.mk fun σ H B E hs hl m => h.run σ H B E hs hl ⟨fun ds' L' σ' B2 H2 p => m.nx ds' L' σ' B2 H2 (h2 ds' L' p), m.rt, m.bk, m.ct⟩)
/-- a constant of the module -/
theorem dp_gS {x z : Str} {l : List Nat} (v : ∃ t, X.mg x = some (.str z t)) (el : z.cps.toList = l) (p : P (.str l) L) (hg : Gl X x := by rfl) (h : (x == ("__debug__" : Str)) = false := by decide) : DP X (.Name x pos) ds L P := by
  obtain ⟨t, v⟩ := v
  exact dp_glob (v := .str z) p v ⟨_, rfl⟩ (fun _ => by show V.str _ = V.str _; rw [← el]) hg h
theorem dp_gI {x : Str} {i : Int} (v : ∃ t, X.mg x = some (.int i t)) (p : P (.int i) L) (hg : Gl X x := by rfl) (h : (x == ("__debug__" : Str)) = false := by decide) : DP X (.Name x pos) ds L P := by
  obtain ⟨t, v⟩ := v
  exact dp_glob (v := .int i) p v ⟨_, rfl⟩ (fun _ => rfl) hg h
/-- a if c else b, where both come to C -/
theorem dp_ifC {a b c : Expr} (C : Dt) (h : DT X c ds L fun t L1 => L1 = L ∧ two t (DP X a ds L fun x L2 => x = C ∧ L2 = L) (DP X b ds L fun x L2 => x = C ∧ L2 = L)) (p : P C L) : DP X (.IfExp c a b pos) ds L P :=
  dp_if (DT.imp h fun t L1 ⟨e, q⟩ => by
    subst e
    exact ⟨fun z => DP.imp (q.1 z) fun d L2 ⟨e1, e2⟩ => by subst e1 e2; exact p, fun z => DP.imp (q.2 z) fun d L2 ⟨e1, e2⟩ => by subst e1 e2; exact p⟩)
/-- list[::-1] -/
theorem dp_rev (h : DP X e ds L fun x L1 => ∃ xs, x = .lst xs ∧ P (.lst xs.reverse) L1) : DP X (.Subscript e (.Slice none none (some (.UnaryOp .USub (.Constant (.int 1) k p1) p2)) p3) pos) ds L P := .mk fun σ H B hs hl Q q =>
  PE.to (pe_revL pe_w) (h.run σ H B hs hl _ fun x L1 v B1 H1 hp e1 hl1 ix => by
    obtain ⟨xs, rfl, p⟩ := hp
    obtain ⟨a, us, rfl, ha, ia⟩ := ix
    exact ⟨a, us, rfl, SqL.of (hl1.sub _ _ ha), fun p' hn => Fin.lst (fun d L' z B2 H2 p2 e2 => q d L' z B2 H2 p2 (e1.trans e2)) hl1 p ia.reverse hn⟩)
/-- name //= e -/
theorem ip_fdiv : PIp X .FloorDiv (fun x y H Q => ∃ i j, x = .int i ∧ y = .int j ∧ CDivW i j ∧ Q (.int (i / j)) H) := by
  intro pins s σ H x y v u Q I r1 r2 h
  obtain ⟨i, j, rfl, rfl, hc, q⟩ := h
  obtain ⟨t, rfl⟩ := r1
  obtain ⟨t', rfl⟩ := r2
  have h1 : (0 : Int) < j := hc.1
  exact ifloordiv_int (by omega) ⟨.int _, H, I.tok _, ⟨_, rfl⟩, by rw [Int.fdiv_eq_ediv_of_nonneg i (by omega)]; exact q⟩ (.inl (PyProof.noPylong_of_log2 hc.2))
theorem ds_augFD {i : Nat} {x : Str} {a : Int} {ds' : Dt → DS} (hg : Get ds i (.int a)) (hset : ∀ d, SetAt ds i d (ds' d)) (h : DP X e ds L fun y L1 => fdivK (.int a) y L1 fun d L2 => D.nx (ds' d) L2) (hN : X.N.Nodup) (hi : X.N[i]? = some x := by rfl)
    (hx : Loc X.env.scope x := by first | exact .inl rfl | exact .inr rfl) (hf : X.fn x = true ∨ X.env.scope.names.lookup x = some .local := by first | exact .inl rfl | exact .inr rfl) : DSt X (.AugAssign (.Name x pos') .FloorDiv e pos) ds L D := .mk fun σ H B E hs hl m =>
  PS.to (ps_aug hN hi hx pe_w ip_fdiv hf) (by
    obtain ⟨v, e1, e2⟩ := hs.2 i _ hg
    have e2 : v = .int a := e2
    subst e2
    refine ⟨_, e1, h.run σ H B hs hl _ fun y L1 u B1 H1 hp e3 hl1 iy => ?_⟩
    cases y <;> try exact False.elim hp
    rename_i j
    have iy : u = .int j := iy
    subst iy
    obtain ⟨hc, p⟩ := hp
    refine ⟨a, j, rfl, rfl, hc, m.nx _ L1 _ B1 H1 p e3 ?_ hl1⟩
    rw [← hset]
    exact (hs.mono e3).set i rfl)
end
/-! ### defs with one keyword-only default -/
structure CalK (Pr : Program) (w : World) (K : PySem.W.Frag) (mg : Str → Option Value) (base : Heap) (x : Str) (k : Nat) (ps : List Str) (kw : Str) (d : Dt) (R : Rel) : Prop where
  ex : ∃ (f : Addr) (fd : FuncData) (us : List Value) (v : V), FnOk Pr w K mg base CX0 k f fd (ps ++ [kw]) (spP K R) ∧ mg x = some (.ref f) ∧ PySem.W.keepIn K (.ref f) = true ∧ Vals [v] us ∧ (∀ B, Is K B d v) ∧ Binds K fd (ps ++ [kw]) us ∧
    KBn K fd (ps ++ [kw]) ps.length [kw] (fun us ws => us ++ ws) (fun us ws => us ++ ws)
structure FunAtK (K : PySem.W.Frag) (mg : Str → Option Value) (x : Str) (st : Stmt) (kw : Str) (v : V) : Prop where
  ex : ∃ (f : Addr) (fd : FuncData), FunD K x x (defArgs st) (defBody st) (defScope st) [] [(kw, v)] f fd ∧ mg x = some (.ref f)
theorem fun_atK {K : PySem.W.Frag} {h : Heap} {mg : Str → Option Value} {x kw : Str} {v : V} {u : Value} {st : Stmt} {f D : Addr} {oc : Value} {od an : Option Addr} {osl : Array (Option Value)} {doc pm cdv ct : Value} (X : K.In h) (G : h.Ns mainGlobals mg)
    (a : PySem.W.nsIn K mainGlobals x = some (some (.ref f))) (l : K.lookup f = some ⟨oc, od, .func (PySem.W.fnOf x x (defArgs st) (defBody st) (defScope st) .none (.ref D) doc pm an cdv ct), osl⟩)
    (c : PySem.W.codeIn K cdv x = true) (k : PySem.W.keepIn K (.ref f) = true) (d : PySem.W.nsIn K D kw = some (some u)) (r : RelV v u) : FunAtK K mg x st kw v :=
  ⟨f, _, ⟨⟨oc, od, .none, .ref D, doc, pm, an, cdv, ct, osl, rfl, l, c, .inl ⟨rfl, rfl⟩, .inr ⟨D, rfl, fun q hq => by
    have e : q = (kw, v) := by simpa using hq
    subst e
    exact ⟨u, d, r⟩⟩⟩, k⟩, PySem.W.mg_of X G a⟩
section
variable {Pr : Program} {w : World} {K : PySem.W.Frag} {mg : Str → Option Value} {base : Heap}
theorem calK_of {x kw : Str} {st : Stmt} {N ps : List Str} {v : V} {d : Dt} {k : Nat} {R : Rel} (F : FunAtK K mg x st kw v) (hd : ∀ B, Is K B d v) (S : FnScope N (ps ++ [kw]) (defScope st)) (hlen : ∀ ds L P, R ds L P → ds.length = (ps ++ [kw]).length)
    (hb : ∀ (D : Addr) (doc pm : Value) (an : Option Addr) (cdv ct : Value) (us ks : List Value), us.length = ps.length → ks.length = 1 →
      KwChain D ([kw].zip ks) (bindArgs (PySem.W.fnOf x x (defArgs st) (defBody st) (defScope st) .none (.ref D) doc pm an cdv ct) ⟨us, []⟩) ((ps ++ [kw]).zip (us ++ ks)))
    (hb2 : ∀ (D : Addr) (doc pm : Value) (an : Option Addr) (cdv ct : Value) (us ks : List Value), us.length = ps.length → ks.length = 1 →
      bindArgs (PySem.W.fnOf x x (defArgs st) (defBody st) (defScope st) .none (.ref D) doc pm an cdv ct) ⟨us, [kw].zip ks⟩ = pure ((ps ++ [kw]).zip (us ++ ks)))
    (body : ∀ (f : Addr) (cdv : Value) (A : Around) (outer : List Env) (s : Shared) (H : Hp) (E : XK), Room k (fX Pr w K mg base N x (defScope st) f cdv A outer s H E).A → ∀ ds L P, R ds L P →
      DSs (fX Pr w K mg base N x (defScope st) f cdv A outer s H E) (defBody st) (startD N ds) L ⟨fun _ L' => P .non L', P, fun _ _ => False, fun _ _ => False⟩) : CalK Pr w K mg base x (k + 1) ps kw d R := by
  obtain ⟨f, fd, F, hm⟩ := F.ex
  obtain ⟨us, r, b⟩ := F.binds0 (ps := ps ++ [kw]) ps.length (by simp) (by simp) fun D doc pm an cdv ct us ks h1 h2 => hb D doc pm an cdv ct us ks h1 h2
  refine ⟨f, fd, us, v, ?_, hm, F.kp, r, hd, b, ⟨fun s us ws X h1 h2 => ?_, fun r1 r2 => r1.append r2⟩⟩
  · refine F.ok S (fun vs H Q E h => ?_) fun cdv A outer s H vs Q E hr h => ?_
    · obtain ⟨B, ds, L, P, i, _, r, _⟩ := h
      rw [i.length]
      exact hlen _ _ _ r
    · obtain ⟨B, ds, L, P, i, hl, r, q⟩ := h
      refine ⟨_, PSs.nox pss_w, (body f cdv A outer s H E hr ds L P r).run (L2.start N vs) H B _ (sl_start i) hl ⟨?_, ?_, ?_, ?_⟩⟩
      · exact fun ds L σ B2 H2 p e _ hl2 => q .non L _ B2 H2 p e hl2 rfl
      · exact fun d L v B2 H2 p e hl2 iv => q d L v B2 H2 p e hl2 iv
      · exact fun _ _ _ _ _ p => p.elim
      · exact fun _ _ _ _ _ p => p.elim
  · obtain ⟨oc, od, dV, kV, doc, pm, an, cdv, ct, osl, rfl, lk, hcd, hD, hK⟩ := F.ex
    rcases hD with ⟨_, rfl⟩ | ⟨e, _⟩
    · rcases hK with e | ⟨D, rfl, hq⟩
      · simp at e
      · exact .of_eq (hb2 D doc pm an cdv ct us ws h1 h2)
    · exact absurd rfl e
theorem CalK.mono {x kw : Str} {j k : Nat} {ps : List Str} {d : Dt} {R : Rel} (C : CalK Pr w K mg base x j ps kw d R) (h : j ≤ k) : CalK Pr w K mg base x k ps kw d R := by
  obtain ⟨f, fd, us, v, h1, r⟩ := C.ex
  exact ⟨f, fd, us, v, h1.mono h, r⟩
end
section
variable {X : Cx} {x kw : Str} {k j : Nat} {ps : List Str} {R : Rel} {e e2 : Expr} {es : List Expr} {ds : DS} {L : MS} {P : DK} {pos p kp : Pos} {d : Dt}
/-- f(e, ..), the default fills up -/
theorem dp_callD (C : CalK X.prog X.w X.K X.mg X.base x k ps kw d R) (hr : Room j X.A) (hk : k ≤ j) (h : DA X (e :: es) ds L fun xs L1 => R (xs ++ [d]) L1 P) (hg : Gl X x := by rfl) (hdb : (x == ("__debug__" : Str)) = false := by decide)
    (he : starEach (e :: es) X.env = (false, eval e X.env) :: starEach es X.env := by rfl) (hpl : (backTo pos (starEach es X.env)).any (·.1) = false := by rfl) : DP X (.Call (.Name x p) (e :: es) [] pos) ds L P := .mk fun σ H B hs hl Q q => by
  obtain ⟨f, fd, us, v, F, hm, hkp, r, hd, hb, _⟩ := C.ex
  refine PE.to (pe_call F (hr.mono hk) hg hm hkp hb r pass0 pa_w hdb he hpl) (h.run σ H B hs hl _ fun xs L1 vs B1 H1 r e1 hl1 ixs => ?_)
  exact ⟨B1, xs ++ [d], L1, P, ixs.append (IsL.one (hd B1)), hl1, r, fun d L' z B2 H2 p2 e2 => q d L' z B2 H2 p2 (e1.trans e2)⟩
/-- f(e, .., kw = e2) -/
theorem dp_callW (C : CalK X.prog X.w X.K X.mg X.base x k ps kw d R) (hr : Room j X.A) (hk : k ≤ j) (h : DA X (e :: es) ds L fun xs L1 => xs.length = ps.length ∧ DP X e2 ds L1 fun z L2 => R (xs ++ [z]) L2 P) (hg : Gl X x := by rfl) (hdb : (x == ("__debug__" : Str)) = false := by decide)
    (he : starEach (e :: es) X.env = (false, eval e X.env) :: starEach es X.env := by rfl)
    (hall : (backToKw pos (keywordEach [⟨some kw, e2, kp⟩] X.env)).all (·.1.isSome) = true := by rfl) (hks : (backToKw pos (keywordEach [⟨some kw, e2, kp⟩] X.env)).filterMap (·.1) = [kw] := by rfl)
    (hpl : ((backTo pos (starEach (e :: es) X.env)).any (·.1) || (backToKw pos (keywordEach [⟨some kw, e2, kp⟩] X.env)).any (·.1.isNone)) = false := by rfl) : DP X (.Call (.Name x p) (e :: es) [⟨some kw, e2, kp⟩] pos) ds L P := .mk fun σ H B hs hl Q q => by
  obtain ⟨f, fd, us, v, F, hm, hkp, r, hd, _, hb⟩ := C.ex
  refine PE.to (pe_callN F (hr.mono hk) hg hm hkp hb pass0 pa_w (pk_cons pe_w pk_nil) hall hks hdb he hpl) (h.run σ H B hs hl _ fun xs L1 vs B1 H1 ⟨hn, r⟩ e1 hl1 ixs => ?_)
  refine r.run σ H1 B1 (hs.mono e1) hl1 _ fun z L2 u B2 H2 r2 e2 hl2 iz => ⟨by rw [ixs.length, hn], rfl, ?_⟩
  exact ⟨B2, xs ++ [z], L2, P, (ixs.mono e2).append (IsL.one iz), hl2, r2, fun d L' z B3 H3 p2 e3 => q d L' z B3 H3 p2 ((e1.trans e2).trans e3)⟩
end
end Z
namespace Z
open PySem PySem.Spec PyProof.Rows L2
/-! ### a text of two signs, taken apart -/
theorem unpack2 {P : Program} {w : World} {A : Around} {E : Value → Shared → Prop} {s : Shared} {a b : Nat} {t : Tok} {Q : List Value → Shared → Prop} (hh : A.handled = none) (ha : a < 128) (hb : b < 128)
    (hQ : ∀ (h' : Heap) (u v tk : Tok), (∀ x o, x < s.heap.objs.size → s.heap.get? x = some o → h'.get? x = some o) → Q [.str ⟨#[a]⟩ u, .str ⟨#[b]⟩ v] { s with heap := h', toks := tk }) : wpAny (model P w) A (unpackItems (.str ⟨#[a, b]⟩ t) 2 none) Q E s := by
  have asc : (⟨#[a, b]⟩ : Str).cps.all (· < 128) = true := by simp [ha, hb]
  have ty : s.TypeIs (.str ⟨#[a, b]⟩ t) "str" := rfl
  unfold unpackItems
  refine wpAny_bind ?_
  unfold notIterableAtAll
  refine wpAny_bind (wpAny_specialOf ty F.slot_str_iter.lookup ?_)
  refine wpAny_pure ?_
  simp only [Bool.false_eq_true, if_false]
  refine wpAny_bind (wpAny_holding (wpAny_pyIter_ascii asc ?_))
  generalize hz : s.heap.objs.size = z
  generalize hs1 : ({ s with heap := s.heap.push { cls := .type "str_ascii_iterator", data := .fields #[.str ⟨#[a, b]⟩ t, .int 0 0] } } : Shared) = s1
  have i1 : s1.heap.IsStrIter z "str_ascii_iterator" ⟨#[a, b]⟩ t 0 := by
    rw [← hs1, ← hz]
    exact ⟨_, Heap.get?_push_size _ rfl, rfl, rfl⟩
  refine wpAny_bind (wpAny_holding ?_)
  show wpAny _ _ (pyNext (.ref z) >>= _) _ _ s1
  refine wpAny_bind (wpAny_pyNext_ascii_item i1 (c := a) rfl fun h2 i2 e2 => ?_)
  refine wpAny_bind (wpAny_holding ?_)
  show wpAny _ _ (pyNext (.ref z) >>= _) _ _ _
  refine wpAny_bind (wpAny_pyNext_ascii_item i2 (c := b) rfl fun h3 i3 e3 => ?_)
  refine wpAny_bind (wpAny_holding ?_)
  show wpAny _ _ (pure []) _ _ _
  refine wpAny_pure (wpAny_pure (wpAny_pure ?_))
  rw [if_neg (by simp)]
  refine wpAny_bind (wpAny_holding (wpAny_pyNext_ascii_end hh i3 rfl fun h4 e4 => ?_))
  simp only [Option.isSome_none, Bool.false_eq_true, if_false]
  have fin := hQ h4 s1.toks (s1.toks + 1) (s1.toks + 1 + 1) fun x o hx e => ?_
  · rw [← hs1] at fin ⊢
    exact wpAny_pure fin
  have nz : x ≠ z := by omega
  refine e4 x o nz ?_
  rw [e3.2 x nz, e2.2 x nz, ← hs1]
  exact Heap.get?_push_of_some _ e
def gSigns (t : TGs) : TG := fun v σ H Q => ∃ a b : Nat, v = .str ⟨#[a, b]⟩ ∧ a < 128 ∧ b < 128 ∧ t [.str ⟨#[a]⟩, .str ⟨#[b]⟩] σ H Q
theorem pg_signs {X : Cx} {es : List Expr} {k : Nat} {pos : Pos} {t : TGs} (hc : X.calm = true) (h : PGs X es t) (hn : (assignEach es X.env).length = 2 := by rfl) (hst : (assignEach es X.env).findIdx? (·.1) = none := by rfl) : PG X (.Tuple es k pos) (gSigns t) := by
  refine ⟨fun pins s σ H v u Q I r hw => ?_⟩
  obtain ⟨a, b, rfl, ha, hb, hw⟩ := hw
  obtain ⟨tk, rfl⟩ := r
  rw [arm_assign_Tuple]
  refine wpAny_bind (wpAny_standAt ?_)
  unfold unpack
  rw [hn, hst]
  refine wpAny_bind (wpAny_holding (unpack2 (I.ok.hd hc) ha hb fun h' u v tk' hx => ?_))
  have I1 : Inv X pins σ H { s with heap := h', toks := tk' } := I.kept (t' := tk') fun x o e => hx x o (Heap.lt_size e) e
  have v1 : RelV (V.str ⟨#[a]⟩) (Value.str ⟨#[a]⟩ u) := ⟨_, rfl⟩
  have v2 : RelV (V.str ⟨#[b]⟩) (Value.str ⟨#[b]⟩ v) := ⟨_, rfl⟩
  exact h.run pins _ σ H _ _ Q I1 (.cons v1 (.cons v2 .nil)) hw
section
variable {X : Cx} {ds : DS} {L : MS} {pos : Pos}
theorem dg_signs {es : List Expr} {k a b : Nat} {P : DS → MS → Prop} (ha : a < 128) (hb : b < 128) (h : DGs X es [.str [a], .str [b]] ds L P) (hl' : (assignEach es X.env).length = 2 := by rfl) (hc : X.calm = true := by rfl) (hst : (assignEach es X.env).findIdx? (·.1) = none := by rfl) : DG X (.Tuple es k pos) (.str [a, b]) ds L P := .mk fun σ H B v hs hl iv Q q => by
  have iv : v = .str ⟨#[a, b]⟩ := iv
  subst iv
  refine PG.to (pg_signs (t := fun vs' σ H Q => ∀ (pins : List (Addr × Obj)) (s : Shared) (us : List Value), Inv X pins σ H s → Vals vs' us → wpAny (model X.prog X.w) X.A (assignInOrder ((assignEach es X.env).map (·.2)) us) (fun _ s' => ∃ σ' H', Inv X pins σ' H' s' ∧ Q σ' H') X.xe s) hc ⟨fun pins s σ H vs us Q I r h => h pins s us I r⟩ hl' hst) ?_
  exact ⟨a, b, rfl, ha, hb, h.run σ H B _ hs hl ⟨_, _, rfl, rfl, _, _, rfl, rfl, rfl⟩ Q q⟩
end
end Z
namespace Z
open PySem PySem.Spec PyProof.Rows L2
section
variable {X : Cx}
/-! ### [.. for x, y in ..], nothing changed: from xs the values g of those that f lets through -/
def DLs (X : Cx) (elt tg iter : Expr) (ifs : List Expr) (sp : Scope) (t : TG) (vs : List Nat) (ds : DS) (L : MS) (P : List Dt → MS → Prop) : Prop :=
  DI X tg iter ds L fun xs L1 => ∃ (f : Dt → Bool) (g : Dt → Dt), xs.length ≤ 100000 ∧ (∀ d, d ∈ xs → ∃ ds', TgOk X t vs (wipeD ds vs) d ds' ∧ ∀ (T : Addr × MO), ∀ s H C cl fp,
    DTs (bX X sp s H C cl fp) ifs ds' (T :: L1) fun c L4 => L4 = T :: L1 ∧ c = f d ∧ (c = true → ∀ s H C cl fp, DP (bX X sp s H C cl fp) elt ds' L4 fun y L5 => L5 = L4 ∧ y = g d)) ∧ P ((xs.filter f).map g) L1
theorem ls_read {elt tg iter : Expr} {ifs : List Expr} {sp : Scope} {t : TG} {vs : List Nat} {ds : DS} {L : MS} {P : List Dt → MS → Prop} {σ : L2.St} {H B : Hp} {Q : VK} (hs0 : Sl X.K B ds σ) (hl0 : Hs X.K B L H) (h : DLs X elt tg iter ifs sp t vs ds L P)
    (q : ∀ ys L' a B2 H2, P ys L' → Same B B2 → Hs X.K B2 ((a, .lst ys) :: L') H2 → Q (.ref a) H2) : tLc (IW X tg iter) t (ttB X sp ifs) (teB X sp elt) vs σ H Q := by
  refine h.run σ H B hs0 hl0 _ fun xs L1 J B1 H1 ⟨f, g, hz, hstep, hend⟩ e1 hl1 hy D hD => ?_
  refine ⟨fun n k H' => n + k = xs.length ∧ ∃ B', Same B1 B' ∧ Hs X.K B' ((D, .lst (((xs.take n).filter f).map g)) :: L1) H', ⟨xs.length, Nat.zero_add _, B1, Same.refl _, hl1.newM hD ⟨[], rfl, rfl⟩⟩, ?_⟩
  rintro n k H' ⟨hn, B', e2, hl2⟩
  obtain ⟨y1, y2⟩ := hy n B' H' _ e2 hl2
  by_cases hi : n < xs.length
  · have hx : xs[n]? = some xs[n] := List.getElem?_eq_getElem hi
    obtain ⟨g1, g2⟩ := y1 _ hx
    refine .inr ⟨g1, fun H3 => ∃ B', Same B1 B' ∧ Hs X.K B' ((D, .lst (((xs.take (n + 1)).filter f).map g)) :: L1) H3, fun H3 hN => ⟨k - 1, by omega, by omega, hN⟩, fun v H2 hv => ?_⟩
    obtain ⟨B2, e3, hl3, iv⟩ := g2 v H2 hv
    have eB : Same B1 B2 := e2.trans e3
    obtain ⟨ds', htg, hbody⟩ := hstep _ (List.getElem_mem hi)
    refine htg _ H2 B2 _ v (sl_wipe (hs0.mono (e1.trans eB)) vs) hl3 iv _ fun σ2 hw hs2 => ⟨hw.trans (wipe_idem σ vs vs fun _ h => h), fun s H0 C cl fp => ?_⟩
    refine (hbody (D, .lst (((xs.take n).filter f).map g)) s H0 C cl fp).run σ2 H2 B2 hs2 hl3 _ fun c L4 B3 H3 ⟨eL, ec, p3⟩ e5 hl4 => ?_
    have tk : (xs.take (n + 1)).filter f = (xs.take n).filter f ++ if f xs[n] = true then [xs[n]] else [] := by
      rw [List.take_add_one, hx, List.filter_append, Option.toList_some]
      congr 1
      by_cases z : f xs[n] = true
      · rw [if_pos z, List.filter_cons_of_pos z]; rfl
      · rw [if_neg z, List.filter_cons_of_neg z]; rfl
    have lenM : (((xs.take n).filter f).map g).length ≤ n := by
      rw [List.length_map]
      refine Nat.le_trans (List.length_filter_le _ _) ?_
      rw [List.length_take]
      omega
    subst eL
    cases c with
    | true =>
      simp only [if_true]
      intro s' H0' C' cl' fp'
      refine (p3 rfl s' H0' C' cl' fp').run σ2 H3 B3 (hs2.mono e5) hl4 _ fun y L5 u B4 H4 ⟨eL, ey⟩ e7 hl5 iy => ?_
      subst eL ey
      obtain ⟨ws, hD', ivs⟩ := hl5.lst ML.hd
      refine ⟨ws, hD', by rw [ivs.length, sizeLine_eq]; omega, B4, (eB.trans e5).trans e7, ?_⟩
      rw [tk, if_pos ec.symm, List.map_append]
      exact hl5.put .hd ⟨_, rfl, ivs.append (IsL.one iy)⟩
    | false =>
      simp only [Bool.false_eq_true, if_false]
      refine ⟨B3, eB.trans e5, ?_⟩
      rw [tk, if_neg (by rw [← ec]; decide), List.append_nil]
      exact hl4
  · have ei : n = xs.length := by omega
    refine .inl ⟨y2 (by omega), ?_⟩
    subst ei
    rw [List.take_length] at hl2
    exact q _ L1 D _ H' hend (e1.trans e2) hl2
section
variable {elt iter : Expr} {ifs : List Expr} {sp : Scope} {ds : DS} {L : MS} {pos spos py p1 p2 pt : Pos} {i j kt : Nat} {x z : Str}
theorem dp_lsG {tg : Expr} {t : TG} {vs : List Nat} {P : DK} (own : List (Str × Nat)) (ok : BlkOk X.N X.env.scope sp own) (hN : X.N.Nodup) (hg : ∀ s H C cl fp, PG (bX X sp s H C cl fp) tg t) (h : DLs X elt tg iter ifs sp t vs ds L fun ys L1 => P (.lst ys) L1)
    (ho : own.map (·.2) = vs) (hc : X.calm = true) (hs : ∀ x, foldedSetIterable iter X.env x = pure x) : DP X (.ListComp elt [⟨tg, iter, ifs, 0⟩] sp pos) ds L P := .mk fun σ H B hs0 hl0 Q q => by
  refine PE.to (pe_lc (tt := ttB X sp ifs) (te := teB X sp elt) hc hN pi_w ok hg (fun s H C cl fp => ⟨fun pins s1 σ H Q I h => h s _ C cl fp pins s1 I⟩) (fun s H C cl fp => ⟨fun pins s1 σ H Q I h => h s _ C cl fp pins s1 I⟩) hs) ?_
  rw [ho]
  refine ls_read hs0 hl0 h fun ys L' a B2 H2 p e hl => ?_
  obtain ⟨ws, hD, iv⟩ := hl.lst ML.hd
  obtain ⟨sb, hl5⟩ := hl.freeze MDel.hd hD
  exact q (.lst ys) L' _ _ _ p (e.trans sb) hl5 ⟨a, ws, rfl, upd_same, iv.mono sb⟩
theorem dp_ls1 {P : DK} (own : List (Str × Nat)) (ok : BlkOk X.N X.env.scope sp own) (hN : X.N.Nodup) (hg : ∀ s H C cl fp, PG (bX X sp s H C cl fp) (.Name x p1) (gName i)) (h : DLs X elt (.Name x p1) iter ifs sp (gName i) [i] ds L fun ys L1 => P (.lst ys) L1)
    (ho : own.map (·.2) = [i] := by rfl) (hc : X.calm = true := by rfl) (hs : ∀ x, foldedSetIterable iter X.env x = pure x := by intro _; rfl) : DP X (.ListComp elt [⟨.Name x p1, iter, ifs, 0⟩] sp pos) ds L P := dp_lsG own ok hN hg h ho hc hs
theorem dp_ls2 {P : DK} (own : List (Str × Nat)) (ok : BlkOk X.N X.env.scope sp own) (hN : X.N.Nodup) (hg : ∀ s H C cl fp, PG (bX X sp s H C cl fp) (.Tuple [.Name x p1, .Name z p2] kt pt) (gPair X.K i j)) (h : DLs X elt (.Tuple [.Name x p1, .Name z p2] kt pt) iter ifs sp (gPair X.K i j) [i, j] ds L fun ys L1 => P (.lst ys) L1)
    (ho : own.map (·.2) = [i, j] := by rfl) (hc : X.calm = true := by rfl) (hs : ∀ x, foldedSetIterable iter X.env x = pure x := by intro _; rfl) : DP X (.ListComp elt [⟨.Tuple [.Name x p1, .Name z p2] kt pt, iter, ifs, 0⟩] sp pos) ds L P := dp_lsG own ok hN hg h ho hc hs
end
end
section
variable {X : Cx} {K : PySem.W.Frag} {e o : Expr} {ds : DS} {L : MS} {P : DK} {pos p apos cpos kp : Pos}
/-! ### all, count, sorted -/
theorem IsL.bls {B : Hp} : ∀ {bs : List Bool} {vs : List V}, IsL K B (bs.map Dt.bl) vs → vs = bs.map V.bl
  | [], _, h => h
  | n :: ns, _, ⟨_, _, rfl, h2, h3⟩ => by
    have h2 : _ = V.bl n := h2
    rw [h2, IsL.bls h3]
    rfl
def allK : KC := fun xs L P => ∃ bs : List Bool, xs = [.lst (bs.map Dt.bl)] ∧ P (.bl (bs.all id)) L
theorem kc_all : KRC K (rAll K) allK := by
  intro B H L xs vs Q P hl ixs hk q
  obtain ⟨bs, rfl, p⟩ := hk
  obtain ⟨u, rfl, a, us, rfl, ha, ia⟩ := ixs.one_inv
  have e := ia.bls
  subst e
  exact ⟨a, bs, rfl, SqL.of (hl.sub _ _ ha), Fin.here q hl p rfl⟩
theorem dp_all (hm : X.mg "all" = none) (h : DP X e ds L fun x L1 => allK [x] L1 P) (hc : X.calm = true := by rfl) (hg : Gl X "all" := by rfl) (hs1 : starEach [e] X.env = (false, eval e X.env) :: starEach [] X.env := by rfl) (hpl : (backTo pos (starEach [] X.env)).any (·.1) = false := by rfl) : DP X (.Call (.Name "all" p) [e] [] pos) ds L P :=
  dp_callB (cr_all hc) kc_all hm (by decide +kernel) (da_cons (DP.imp h fun x L1 h1 => da_nil h1) hs1) hg (by decide) (by decide) hs1 hpl
theorem cnt_eq (c : Nat) : ∀ l : List Nat, PyProof.Rows.cnt c l = (l.count c : Nat)
  | [] => rfl
  | n :: r => by
    rw [PyProof.Rows.cnt_cons, cnt_eq c r, List.count_cons]
    by_cases q : n = c
    · subst q
      simp
      omega
    · simp [q]
/-- text.count(sign) -/
def countK : KM := fun x xs L P => match x, xs with
  | .str l, [.str [c]] => P (.int (l.count c : Nat)) L
  | _, _ => False
theorem km_count : KRM K (fun x xs H Q => ∃ a b, x = .str a ∧ xs = [.str b] ∧ Q (.int (Txt.count a b)) H) countK := by
  intro B H L x v xs vs Q P hl ix ixs hk q
  unfold countK at hk
  split at hk
  · rename_i l c
    obtain ⟨u, rfl, iu⟩ := ixs.one_inv
    obtain rfl : v = _ := ix
    obtain rfl : u = _ := iu
    refine ⟨_, _, rfl, rfl, ?_⟩
    rw [show (⟨[c].toArray⟩ : Str) = ⟨#[c]⟩ from rfl, PyProof.Rows.count_cnt, cnt_eq]
    exact Fin.here q hl hk rfl
  · exact hk.elim
theorem dp_count (h : DP X o ds L fun x L1 => tyM "str" x L1 ∧ DP X e ds L1 fun d L2 => countK x [d] L2 P)
    (hbase : attributeBase o "count" X.env (eval o X.env) = eval o X.env := by rfl)
    (hfew : ((backTo cpos (starEach [e] X.env)).all (fun x => !x.1) && (backToKw cpos (keywordEach [] X.env)).all (fun x => x.1.isSome)
      && decide ([e].length + ([] : List Keyword).length + (if ([] : List Keyword).isEmpty then 0 else 1) < 30)) = true := by rfl)
    (hline : (apos.endLine == cpos.line) = true := by rfl) (hs1 : starEach [e] X.env = (false, eval e X.env) :: starEach [] X.env := by rfl) (hplain : (backTo cpos (starEach [] X.env)).any (·.1) = false := by rfl) : DP X (.Call (.Attribute o "count" apos) [e] [] cpos) ds L P :=
  dp_bm PySem.F.plainAttrs_str PySem.F.slot_str_count PySem.F.type_str_count mt_count km_count (DP.imp h fun x L1 ⟨ht, h1⟩ => ⟨ht, da_cons (DP.imp h1 fun d L2 h2 => da_nil h2) hs1⟩) hbase hfew hline hs1 hplain
/-- sorted(list of ints) -/
def sortK (up : List Int → Prop) : KC := fun xs L P => ∃ ns : List Int, xs = [.lst (ns.map Dt.int)] ∧ ∀ ns' : List Int, ns'.Perm ns → up ns' → P (.lst (ns'.map Dt.int)) L
theorem kc_sortI : KRC K (rSortedI K) (sortK fun ns => ns.Pairwise (· ≤ ·)) := by
  intro B H L xs vs Q P hl ixs hk q
  obtain ⟨ns, rfl, p⟩ := hk
  obtain ⟨u, rfl, a, us, rfl, ha, ia⟩ := ixs.one_inv
  have e := ia.ints
  subst e
  exact ⟨a, ns, rfl, SqL.of (hl.sub _ _ ha), fun ns' l h1 h2 hn => Fin.lst q hl (p ns' h1 h2) .of_ints hn⟩
theorem dp_sortI (hm : X.mg "sorted" = none) (h : DP X e ds L fun x L1 => sortK (fun ns => ns.Pairwise (· ≤ ·)) [x] L1 P) (hg : Gl X "sorted" := by rfl) (hs1 : starEach [e] X.env = (false, eval e X.env) :: starEach [] X.env := by rfl) (hpl : (backTo pos (starEach [] X.env)).any (·.1) = false := by rfl) : DP X (.Call (.Name "sorted" p) [e] [] pos) ds L P :=
  dp_callB cr_sortedI kc_sortI hm (by decide +kernel) (da_cons (DP.imp h fun x L1 h1 => da_nil h1) hs1) hg (by decide) (by decide) hs1 hpl
/-- sorted(list of ints, reverse = True) -/
theorem dp_sortR {k1 : Nat} {p1 : Pos} (hm : X.mg "sorted" = none) (h : DP X e ds L fun x L1 => sortK (fun ns => ns.Pairwise (· ≥ ·)) [x] L1 P) (hg : Gl X "sorted" := by rfl)
    (he : backTo pos (starEach [e] X.env) = (false, eval e X.env) :: backTo pos (starEach [] X.env) := by rfl) (hpl : (backTo pos (starEach [e] X.env)).any (·.1) = false := by rfl)
    (hs1 : starEach [e] X.env = (false, eval e X.env) :: starEach [] X.env := by rfl)
    (hall : (backToKw pos (keywordEach [⟨some (Str.ofString "reverse"), .Constant (.bool true) k1 p1, kp⟩] X.env)).all (·.1.isSome) = true := by rfl) (hnone : (backToKw pos (keywordEach [⟨some (Str.ofString "reverse"), .Constant (.bool true) k1 p1, kp⟩] X.env)).any (·.1.isNone) = false := by rfl)
    (hks : (backToKw pos (keywordEach [⟨some (Str.ofString "reverse"), .Constant (.bool true) k1 p1, kp⟩] X.env)).filterMap (·.1) = [Str.ofString "reverse"] := by rfl) : DP X (.Call (.Name "sorted" p) [e] [⟨some (Str.ofString "reverse"), .Constant (.bool true) k1 p1, kp⟩] pos) ds L P := .mk fun σ H B hs hl Q q =>
  PE.to (pe_callBK (cr_sortedRev (b := true)) hg hm (by decide +kernel) (pa_cons pe_w pa_nil hs1) (pk_cons pe_bl pk_nil) (by decide) (by decide) he hpl hall hnone hks) (h.run σ H B hs hl _ fun x L1 v B1 H1 hp e1 hl1 ix => by
    obtain ⟨ns, ex, p⟩ := hp
    cases ex
    obtain ⟨a, us, rfl, ha, ia⟩ := ix
    have e := ia.ints
    subst e
    exact ⟨a, ns, rfl, rfl, SqL.of (hl1.sub _ _ ha), fun ns' l h1 h2 hn => Fin.lst (fun d L' z B2 H2 p2 e2 => q d L' z B2 H2 p2 (e1.trans e2)) hl1 (p ns' h1 h2) .of_ints hn⟩)
end
end Z
namespace Z
open PySem PySem.Spec PyProof.Rows L2
/-! ### sorted of what isn't a list -/
section
variable {prog : Program} {w : World} {A : Around} {E : Value → Shared → Prop} {s : Shared}
/-- the sorted list: new, all else stays -/
structure NewList (h h' : Heap) (z : Addr) (xs : Array Value) : Prop where
  keep : ∀ b o, h.get? b = some o → h'.get? b = some o
  at' : ∃ e, h'.get? z = some (seqObj "list" xs e)
theorem newList_sorted {h : Heap} {us : List Value} {xs : Array Value} : NewList h (sortedHeap (h.push (seqObj "list" us.toArray 0)) h.objs.size us xs) h.objs.size xs := by
  have ho : (h.push (seqObj "list" us.toArray 0)).get? h.objs.size = some (seqObj "list" us.toArray 0) := Heap.get?_push_size _ rfl
  refine ⟨fun b o e => ?_, sortedHeap_at ho⟩
  have lt := Heap.lt_size e
  rw [sortedHeap_old (Nat.ne_of_lt lt) (by rw [Heap.size_push]; exact Nat.lt_succ_of_lt lt)]
  exact Heap.get?_push_of_some _ e
theorem sortC {v : Value} {Q : Value → Shared → Prop} {ltv : List Value → Value → Value → Bool}
    (hcol : wpAny (model prog w) A.in1 (collect v) (fun us s1 => us.length ≤ sizeLine ∧ SrtO.Swo (ltv us) ∧ (2 ≤ us.length → ∀ (h1 : Heap) (a : Addr), h1.get? a = some (seqObj "list" us.toArray 0) → (∀ b o, s1.heap.get? b = some o → b ≠ a ∧ h1.get? b = some o) → SrtO.SortableO prog w A.in1.in1 { s1 with heap := h1 } a us (ltv us)) ∧
      ∀ out h', SrtO.Srtd (ltv us) out → SrtO.Stb (ltv us) out us → NewList s1.heap h' s1.heap.objs.size out.toArray → Q (.ref s1.heap.objs.size) { s1 with heap := h' }) E s)
    (ha : argsOk "sorted" ⟨[v], []⟩) : wpAny (model prog w) A (call (.builtin "sorted") [v]) Q E s := by
  refine Calls.call_function_entry kind_sorted plain_sorted entry_sorted ha ?_
  unfold Builtin.«sorted»
  refine wpAny_bind (m := checkCount "sorted" 1 1 _) (wpAny_pure ?_)
  refine wpAny_bind (wpAny_mono hcol (fun us s1 ⟨hz, O, hS, h⟩ => ?_) fun _ _ e => e)
  refine wpAny_bind (wpAny_newList ?_ hz)
  have hoL : (s1.heap.push (seqObj "list" us.toArray 0)).get? s1.heap.objs.size = some (seqObj "list" us.toArray 0) := Heap.get?_push_size _ rfl
  have keep : ∀ b o, s1.heap.get? b = some o → b ≠ s1.heap.objs.size ∧ (s1.heap.push (seqObj "list" us.toArray 0)).get? b = some o := fun b o q => ⟨Nat.ne_of_lt (Heap.lt_size q), Heap.get?_push_of_some _ q⟩
  show wpAny _ _ _ _ _ { s1 with heap := s1.heap.push (seqObj "list" us.toArray 0) }
  refine wpAny_bind (wpAny_holding (wpAny_call_entry slot_list_sort ⟨_, hoL, rfl⟩ entry_list_sort (SrtO.list_sort_ord O hoL hz (fun h2 => hS h2 _ _ hoL keep) fun out hs hb => ⟨_, rfl, ?_⟩) (args_list_sort _)))
  exact wpAny_pure ⟨_, rfl, h out _ hs hb newList_sorted⟩
theorem sortCR {v : Value} {b : Bool} {Q : Value → Shared → Prop} {ltv : List Value → Value → Value → Bool}
    (hcol : wpAny (model prog w) A.in1 (collect v) (fun us s1 => us.length ≤ sizeLine ∧ SrtO.Swo (ltv us) ∧ (2 ≤ us.length → ∀ (h1 : Heap) (a : Addr), h1.get? a = some (seqObj "list" us.toArray 0) → (∀ b o, s1.heap.get? b = some o → b ≠ a ∧ h1.get? b = some o) → SrtO.SortableO prog w A.in1.in1 { s1 with heap := h1 } a us (ltv us)) ∧
      ∀ out h', SrtO.Srtd (ltv us) out → SrtO.Stb (ltv us) out (if b = true then us.reverse else us) → NewList s1.heap h' s1.heap.objs.size (if b = true then out.toArray.reverse else out.toArray) → Q (.ref s1.heap.objs.size) { s1 with heap := h' }) E s)
    (ha : argsOk "sorted" ⟨[v], [(Str.ofString "reverse", .bool b)]⟩) : wpAny (model prog w) A (call (.builtin "sorted") [v] [(Str.ofString "reverse", .bool b)]) Q E s := by
  refine call_function_entry_kw kind_sorted plain_sorted entry_sorted ha ?_
  unfold Builtin.«sorted»
  refine wpAny_bind (m := checkCount "sorted" 1 1 _) (wpAny_pure ?_)
  refine wpAny_bind (wpAny_mono hcol (fun us s1 ⟨hz, O, hS, h⟩ => ?_) fun _ _ e => e)
  refine wpAny_bind (wpAny_newList ?_ hz)
  have hoL : (s1.heap.push (seqObj "list" us.toArray 0)).get? s1.heap.objs.size = some (seqObj "list" us.toArray 0) := Heap.get?_push_size _ rfl
  have keep : ∀ b o, s1.heap.get? b = some o → b ≠ s1.heap.objs.size ∧ (s1.heap.push (seqObj "list" us.toArray 0)).get? b = some o := fun b o q => ⟨Nat.ne_of_lt (Heap.lt_size q), Heap.get?_push_of_some _ q⟩
  show wpAny _ _ _ _ _ { s1 with heap := s1.heap.push (seqObj "list" us.toArray 0) }
  refine wpAny_bind (wpAny_holding (wpAny_call_entry_kw slot_list_sort ⟨_, hoL, rfl⟩ entry_list_sort ?_ (PyProof.Rows.args_list_sort_rev _ _)))
  refine SrtR.list_sort_ordR O hoL hz (fun h2 => hS h2 _ _ hoL keep) fun out hs hb => ⟨_, rfl, ?_⟩
  exact wpAny_pure ⟨_, rfl, h out _ hs hb newList_sorted⟩
end
section
variable {prog : Program} {w : World} {A : Around} {E : Value → Shared → Prop} {s : Shared}
theorem sortCS {v : Value} {Q : Value → Shared → Prop} (ss : List Str)
    (hcol : wpAny (model prog w) A.in1 (collect v) (fun us s1 => us.length ≤ sizeLine ∧ StrsAre us ss ∧ ∀ (out : Array Value) (ss' : List Str) h', StrsAre out.toList ss' → ss'.Perm ss → sortedS ss' = true → NewList s1.heap h' s1.heap.objs.size out → Q (.ref s1.heap.objs.size) { s1 with heap := h' }) E s)
    (ha : argsOk "sorted" ⟨[v], []⟩) : wpAny (model prog w) A (call (.builtin "sorted") [v]) Q E s := by
  refine Calls.call_function_entry kind_sorted plain_sorted entry_sorted ha ?_
  unfold Builtin.«sorted»
  refine wpAny_bind (m := checkCount "sorted" 1 1 _) (wpAny_pure ?_)
  refine wpAny_bind (wpAny_mono hcol (fun us s1 ⟨hz, hS, h⟩ => ?_) fun _ _ e => e)
  refine wpAny_bind (wpAny_newList ?_ hz)
  have hoL : (s1.heap.push (seqObj "list" us.toArray 0)).get? s1.heap.objs.size = some (seqObj "list" us.toArray 0) := Heap.get?_push_size _ rfl
  show wpAny _ _ _ _ _ { s1 with heap := s1.heap.push (seqObj "list" us.toArray 0) }
  refine wpAny_bind (wpAny_holding (wpAny_call_entry slot_list_sort ⟨_, hoL, rfl⟩ entry_list_sort (list_sort_treeKAny strKind_oneLt hoL hS.keysOf (fun v₁ v₂ rest e => keyKind_strs (by rw [← e]; exact hS)) hz fun st' a1 a2 => ⟨_, rfl, ?_⟩) (args_list_sort _)))
  obtain ⟨ss', h1, h2, h3⟩ := sorted_out_str hS a1 a2
  exact wpAny_pure ⟨_, rfl, h _ ss' _ h1 h2 h3 newList_sorted⟩
end
section
variable {X : Cx}
/-- sorted(tuple of ints, reverse = b) -/
def rSortTR (K : PySem.W.Frag) (b : Bool) : List V → List V → Hp → VK → Prop := fun vs zs H Q => ∃ (a : Addr) (ns : List Int), vs = [V.ref a] ∧ zs = [.bl b] ∧ SqT K H a (ns.map V.int) ∧
  ∀ (ns' : List Int) (p : Addr), ns'.Perm ns → OrdB b ns' → H p = none → Q (.ref p) (upd H p (.lst (ns'.map V.int)))
theorem cr_sortTR {b : Bool} : CallRK X (.builtin "sorted") [Str.ofString "reverse"] (rSortTR X.K b) := by
  intro pins s σ H vs zs us ws Q I r rz h
  obtain ⟨a, ns, rfl, rfl, hs, q⟩ := h
  obtain rfl := Vals.ref1 r
  obtain ⟨w1, rfl, e1⟩ := vals1 rz
  obtain rfl : w1 = Value.bool b := e1
  obtain ⟨its, rv, ⟨o, ho, hc, n, hd⟩, hz⟩ := I.tuple hs
  have hi := rv.ints
  have hzi : its.length ≤ sizeLine := by rw [← rv.length]; exact hz
  refine sortCR (ltv := fun _ => SrtO.ltIv) (wpAny_collect_seq a (.inr rfl) ho hc hd (fun h1 kp => ?_) (by rw [List.size_toArray]; exact hzi)) (PyProof.Rows.args_sorted_rev _ _)
  rw [List.toList_toArray]
  refine ⟨hzi, SrtO.swo_int, fun h2 h₁ a' _ _ => SrtO.ints_sortable hi h2, fun out h' o1 o2 nl => ?_⟩
  obtain ⟨ns', k1, k2, k3⟩ := SrtR.ints_outR hi o1 o2
  have J : Inv X pins σ H { s with heap := h1 } := I.kept (t' := s.toks) kp
  obtain ⟨ep, he'⟩ := nl.at'
  have hlen : (ns'.map V.int).length ≤ sizeLine := by
    rw [List.length_map, k2.length_eq]
    rw [List.length_map] at hz
    exact hz
  have e0 : ((if b = true then out.toArray.reverse else out.toArray).toList).toArray = (if b = true then out.toArray.reverse else out.toArray) := by rw [Array.toArray_toList]
  exact ⟨.ref _, upd H h1.objs.size (.lst (ns'.map V.int)), J.laid (t' := s.toks) (fun _ _ e => nl.keep _ _ e) (Nat.le_refl _) ⟨hlen, _, ep, vals_of_ints k1, by rw [e0]; exact he'⟩, rfl, q _ _ k2 k3 (J.hok.fresh (Nat.le_refl _))⟩
/-- sorted(text): its signs -/
def rSortTx : List V → Hp → VK → Prop := fun vs H Q => ∃ x : Str, vs = [.str x] ∧ x.length ≤ sizeLine ∧ ∀ (ss : List Str) (p : Addr), ss.Perm (x.cps.toList.map fun c => ⟨#[c]⟩) → sortedS ss = true → H p = none → Q (.ref p) (upd H p (.lst (ss.map V.str)))
theorem strs_vals : ∀ {us : List Value} {ss : List Str}, StrsAre us ss → Vals (ss.map V.str) us
  | _, _, .nil => .nil
  | _, _, .cons y t h => .cons ⟨t, rfl⟩ (strs_vals h)
theorem strs_of : ∀ {vs : List Value} {cs : List Nat}, vs.length = cs.length → (∀ (j : Nat) (v : Value), vs[j]? = some v → ∃ c u, cs[j]? = some c ∧ v = .str ⟨#[c]⟩ u) → StrsAre vs (cs.map fun c => (⟨#[c]⟩ : Str))
  | [], [], _, _ => .nil
  | _ :: _, [], h, _ => by simp at h
  | [], _ :: _, h, _ => by simp at h
  | v :: vs, c :: cs, h, k => by
    obtain ⟨c', u, e1, rfl⟩ := k 0 v rfl
    obtain rfl := Option.some.inj e1
    exact .cons _ u (strs_of (by simpa using h) fun j w e => by simpa using k (j + 1) w (by simpa using e))
theorem cr_sortTx (hc : X.calm = true) : CallR X (.builtin "sorted") rSortTx := by
  intro pins s σ H vs us Q I r h
  obtain ⟨x, rfl, hz, q⟩ := h
  obtain ⟨u, rfl, t, rfl⟩ := vals1 r
  have hzi : x.cps.size ≤ sizeLine := hz
  refine sortCS (x.cps.toList.map fun c => (⟨#[c]⟩ : Str)) (wpAny_collect_str (A := X.A.in1) (show X.A.in1.handled = none from I.ok.hd hc) x t (fun s' acc kp h1 h2 h3 it => ?_) hzi) (args_sorted1 _)
  obtain ⟨i1, i2⟩ := it
  refine ⟨by simpa [i1] using hzi, strs_of (by simp [i1]) fun j v e => ?_, fun out ss' h' k1 k2 k3 nl => ?_⟩
  · obtain ⟨c, u, e1, e2⟩ := i2 j v (by simpa using e)
    exact ⟨c, u, by simpa using e1, e2⟩
  · have es : s' = { s with heap := s'.heap, toks := s'.toks } := by
      obtain ⟨a1, a2, a3, a4, a5⟩ := s'
      obtain rfl : a2 = s.gens := h1
      obtain rfl : a3 = s.drawn := h2
      obtain rfl : a5 = s.os := h3
      rfl
    have J : Inv X pins σ H { s with heap := s'.heap, toks := s'.toks } := I.kept (t' := s'.toks) kp
    rw [← es] at J
    obtain ⟨ep, he'⟩ := nl.at'
    have hlen : (ss'.map V.str).length ≤ sizeLine := by
      rw [List.length_map, k2.length_eq, List.length_map, Array.length_toList]
      exact hzi
    exact ⟨.ref _, upd H s'.heap.objs.size (.lst (ss'.map V.str)), J.laid (t' := s'.toks) (fun _ _ e => nl.keep _ _ e) (Nat.le_refl _) ⟨hlen, out.toList, ep, strs_vals k1, by simpa using he'⟩, rfl, q _ _ k2 k3 (J.hok.fresh (Nat.le_refl _))⟩
end
section
variable {X : Cx} {K : PySem.W.Frag} {e : Expr} {ds : DS} {L : MS} {P : DK} {pos p kp : Pos}
theorem dp_sortTR {k1 : Nat} {p1 : Pos} (hm : X.mg "sorted" = none) (h : DP X e ds L fun x L1 => ∃ ns : List Int, x = .tup (ns.map Dt.int) ∧ ∀ ns' : List Int, ns'.Perm ns → ns'.Pairwise (· ≥ ·) → P (.lst (ns'.map Dt.int)) L1) (hg : Gl X "sorted" := by rfl)
    (he : backTo pos (starEach [e] X.env) = (false, eval e X.env) :: backTo pos (starEach [] X.env) := by rfl) (hpl : (backTo pos (starEach [e] X.env)).any (·.1) = false := by rfl)
    (hs1 : starEach [e] X.env = (false, eval e X.env) :: starEach [] X.env := by rfl)
    (hall : (backToKw pos (keywordEach [⟨some (Str.ofString "reverse"), .Constant (.bool true) k1 p1, kp⟩] X.env)).all (·.1.isSome) = true := by rfl) (hnone : (backToKw pos (keywordEach [⟨some (Str.ofString "reverse"), .Constant (.bool true) k1 p1, kp⟩] X.env)).any (·.1.isNone) = false := by rfl)
    (hks : (backToKw pos (keywordEach [⟨some (Str.ofString "reverse"), .Constant (.bool true) k1 p1, kp⟩] X.env)).filterMap (·.1) = [Str.ofString "reverse"] := by rfl) : DP X (.Call (.Name "sorted" p) [e] [⟨some (Str.ofString "reverse"), .Constant (.bool true) k1 p1, kp⟩] pos) ds L P := .mk fun σ H B hs hl Q q =>
  PE.to (pe_callBK (cr_sortTR (b := true)) hg hm (by decide +kernel) (pa_cons pe_w pa_nil hs1) (pk_cons pe_bl pk_nil) (by decide) (by decide) he hpl hall hnone hks) (h.run σ H B hs hl _ fun x L1 v B1 H1 hp e1 hl1 ix => by
    obtain ⟨ns, rfl, p⟩ := hp
    obtain ⟨a, us, rfl, ha, ia⟩ := ix
    have e := ia.ints
    subst e
    exact ⟨a, ns, rfl, rfl, SqT.of (hl1.sub _ _ ha), fun ns' l h1 h2 hn => Fin.lst (fun d L' z B2 H2 p2 e2 => q d L' z B2 H2 p2 (e1.trans e2)) hl1 (p ns' h1 h2) .of_ints hn⟩)
/-- sorted(text): a rearrangement of its signs that hangs on how many there are of each alone -/
def sortTxK : KC := fun xs L P => ∃ l : List Nat, xs = [.str l] ∧ l.length ≤ sizeLine ∧ ∀ ss : List Str, ss.Perm (l.map fun c => ⟨#[c]⟩) → sortedS ss = true → P (.lst ((ss.map fun x => x.cps.toList).map Dt.str)) L
theorem kc_sortTx : KRC K rSortTx sortTxK := by
  intro B H L xs vs Q P hl ixs hk q
  obtain ⟨l, rfl, hz, p⟩ := hk
  obtain ⟨v, rfl, iv⟩ := ixs.one_inv
  have iv : v = .str ⟨l.toArray⟩ := iv
  subst iv
  refine ⟨_, rfl, by rw [txt_len]; exact hz, fun ss l' h1 h2 hn => ?_⟩
  have e0 : (ss.map fun x => x.cps.toList).map (fun l => (⟨l.toArray⟩ : Str)) = ss := by
    rw [List.map_map]
    refine (List.map_congr_left (g := id) fun x _ => ?_).trans (List.map_id ss)
    obtain ⟨c⟩ := x
    simp
  have e : ss.map V.str = (((ss.map fun x => x.cps.toList).map fun l => (⟨l.toArray⟩ : Str))).map V.str := by rw [e0]
  rw [e]
  exact Fin.lst q hl (p ss h1 h2) .of_strs hn
theorem dp_sortTx (hm : X.mg "sorted" = none) (h : DP X e ds L fun x L1 => sortTxK [x] L1 P) (hc : X.calm = true := by rfl) (hg : Gl X "sorted" := by rfl) (hs1 : starEach [e] X.env = (false, eval e X.env) :: starEach [] X.env := by rfl) (hpl : (backTo pos (starEach [] X.env)).any (·.1) = false := by rfl) : DP X (.Call (.Name "sorted" p) [e] [] pos) ds L P :=
  dp_callB (cr_sortTx hc) kc_sortTx hm (by decide +kernel) (da_cons (DP.imp h fun x L1 h1 => da_nil h1) hs1) hg (by decide) (by decide) hs1 hpl
end
section
variable {X : Cx} {e : Expr} {ds : DS} {L : MS} {P : DK} {pos : Pos}
theorem dp_neg (h : DP X e ds L fun x L1 => ∃ i, x = .int i ∧ P (.int (-i)) L1) : DP X (.UnaryOp .USub e pos) ds L P := .mk fun σ H B hs hl Q q =>
  PE.to (pe_un un_neg pe_w) (h.run σ H B hs hl _ fun x L1 v B1 H1 hp e1 hl1 ix => by
    obtain ⟨i, rfl, p⟩ := hp
    have ix : v = .int i := ix
    subst ix
    exact ⟨i, rfl, q _ L1 _ B1 H1 p e1 hl1 rfl⟩)
end
/-! ### two texts of the same signs, sorted -/
theorem rising_nat : ∀ (p : Nat) (cs : List Nat), risingS ⟨#[p]⟩ (cs.map fun c => (⟨#[c]⟩ : Str)) = true → (p :: cs).Pairwise (· ≤ ·)
  | p, [], _ => by simp
  | p, x :: cs, h => by
    rw [List.map_cons, risingS, Bool.and_eq_true] at h
    obtain ⟨h1, h2⟩ := h
    have ih := rising_nat x cs h2
    have hx : p ≤ x := by
      have h1 : (!ltCps [x] [p]) = true := h1
      simp [ltCps] at h1
      omega
    refine List.pairwise_cons.mpr ⟨fun y hy => ?_, ih⟩
    rcases List.mem_cons.mp hy with e | hy
    · rw [e]; exact hx
    · exact Nat.le_trans hx ((List.pairwise_cons.mp ih).1 y hy)
theorem sorted_nat {cs : List Nat} (h : sortedS (cs.map fun c => (⟨#[c]⟩ : Str)) = true) : cs.Pairwise (· ≤ ·) := by
  cases cs with
  | nil => exact .nil
  | cons c r => exact rising_nat c r h
theorem strs_nat {ss : List Str} {l : List Nat} (p : ss.Perm (l.map fun c => (⟨#[c]⟩ : Str))) : ∃ cs : List Nat, ss = cs.map (fun c => (⟨#[c]⟩ : Str)) ∧ cs.Perm l := by
  have f : ∀ x ∈ ss, ∃ c : Nat, x = ⟨#[c]⟩ := fun x hx => by
    obtain ⟨c, _, rfl⟩ := List.mem_map.mp (p.subset hx)
    exact ⟨c, rfl⟩
  refine ⟨ss.map fun x => x.cps.toList.headD 0, ?_, ?_⟩
  · rw [List.map_map]
    refine ((List.map_congr_left (g := id) fun x hx => ?_).trans (List.map_id ss)).symm
    obtain ⟨c, rfl⟩ := f x hx
    rfl
  · have q := p.map fun x : Str => x.cps.toList.headD 0
    rw [List.map_map] at q
    have e : l.map ((fun x : Str => x.cps.toList.headD 0) ∘ fun c => (⟨#[c]⟩ : Str)) = l := (List.map_congr_left (g := id) fun c _ => rfl).trans (List.map_id l)
    rwa [e] at q
theorem tx_uniq {ss ss' : List Str} {l l' : List Nat} (h : l.Perm l') (p : ss.Perm (l.map fun c => (⟨#[c]⟩ : Str))) (p' : ss'.Perm (l'.map fun c => (⟨#[c]⟩ : Str))) (s : sortedS ss = true) (s' : sortedS ss' = true) : ss = ss' := by
  obtain ⟨cs, rfl, q⟩ := strs_nat p
  obtain ⟨cs', rfl, q'⟩ := strs_nat p'
  have e : cs = cs' := List.Perm.eq_of_pairwise (fun a b _ _ q1 q2 => Nat.le_antisymm q1 q2) (sorted_nat s) (sorted_nat s') ((q.trans h).trans q'.symm)
  rw [e]
/-! ### one def, two promises -/
theorem Cal.or {Pr : Program} {w : World} {K : PySem.W.Frag} {mg : Str → Option Value} {base : Heap} {x : Str} {k : Nat} {ps : List Str} {R R' : Rel} (C : Cal Pr w K mg base x k ps R) (C' : Cal Pr w K mg base x k ps R') : Cal Pr w K mg base x k ps (fun ds L P => R ds L P ∨ R' ds L P) := by
  obtain ⟨f, fd, h1, h2, h3, h4, h5⟩ := C.ex
  obtain ⟨f', fd', h1', h2', _, _, h5'⟩ := C'.ex
  have e : f' = f := by
    have := h2'.symm.trans h2
    cases this
    rfl
  subst e
  have e : fd' = fd := by
    obtain ⟨_, _, _, q⟩ := h5
    obtain ⟨_, _, _, q'⟩ := h5'
    have := q'.symm.trans q
    cases this
    rfl
  subst e
  refine ⟨f', fd', ⟨fun vs H Q E ⟨B, ds, L, P, i, hl, r, q⟩ => ?_, fun A outer s H args us vs Q E hr he hb hv ⟨B, ds, L, P, i, hl, r, q⟩ => ?_⟩, h2, h3, h4, h5⟩
  · rcases r with r | r
    · exact h1.len vs H Q E ⟨B, ds, L, P, i, hl, r, q⟩
    · exact h1'.len vs H Q E ⟨B, ds, L, P, i, hl, r, q⟩
  · rcases r with r | r
    · exact h1.run A outer s H args us vs Q E hr he hb hv ⟨B, ds, L, P, i, hl, r, q⟩
    · exact h1'.run A outer s H args us vs Q E hr he hb hv ⟨B, ds, L, P, i, hl, r, q⟩
end Z
namespace Z
open PySem PySem.Spec PyProof.Rows L2
/-! ### instances (under way) -/
/-- the field f of an instance, at the level of data -/
def fldD : List Str → List Dt → Str → Option Dt
  | n :: ns, d :: ds, f => if f == n then some d else fldD ns ds f
  | _, _, _ => none
theorem fld_is {K : PySem.W.Frag} {B : Hp} : ∀ {ns : List Str} {ds : List Dt} {vs : List V} {f : Str} {d : Dt}, IsL K B ds vs → fldD ns ds f = some d → ∃ v, (ns.zip vs).lookup f = some v ∧ Is K B d v
  | [], _, _, _, _, _, h => by cases h
  | _ :: _, [], _, _, _, _, h => by cases h
  | n :: ns, d0 :: ds, vs, f, d, i, h => by
    obtain ⟨v, r, rfl, i1, i2⟩ := i
    rw [fldD] at h
    rw [List.zip_cons_cons, List.lookup_cons]
    by_cases q : (f == n) = true
    · rw [if_pos q] at h
      rw [q]
      cases h
      exact ⟨v, rfl, i1⟩
    · rw [if_neg q] at h
      rw [show (f == n) = false by cases z : (f == n) with | true => exact absurd z q | false => rfl]
      exact fld_is i2 h
theorem fld_none {K : PySem.W.Frag} {B : Hp} : ∀ {ns : List Str} {ds : List Dt} {vs : List V} {f : Str}, IsL K B ds vs → fldD ns ds f = none → (ns.zip vs).lookup f = none
  | [], _, _, _, _, _ => rfl
  | _ :: _, [], vs, _, i, _ => by
    obtain rfl : vs = [] := i
    rfl
  | n :: ns, d0 :: ds, vs, f, i, h => by
    obtain ⟨v, r, rfl, i1, i2⟩ := i
    rw [fldD] at h
    rw [List.zip_cons_cons, List.lookup_cons]
    by_cases q : (f == n) = true
    · rw [if_pos q] at h
      cases h
    · rw [if_neg q] at h
      rw [show (f == n) = false by cases z : (f == n) with | true => exact absurd z q | false => rfl]
      exact fld_none i2 h
theorem putF_new {f : Str} {v : V} : ∀ {ns : List Str} {vs : List V}, ns.length = vs.length → f ∉ ns → putF f v (ns.zip vs) = (ns ++ [f]).zip (vs ++ [v])
  | [], [], _, _ => rfl
  | n :: ns, u :: vs, hl, hf => by
    rw [List.zip_cons_cons, putF, if_neg (fun e => hf (by rw [e]; exact List.mem_cons_self)), putF_new (Nat.succ.inj hl) (fun h => hf (List.mem_cons_of_mem _ h))]
    rfl
section
variable {X : Cx} {e : Expr} {ds : DS} {L : MS} {P : DK} {pos : Pos}
theorem ds_fld {f : Str} {o v : Expr} {D : DEnds} {pos' : Pos} (h : DP X v ds L fun d L1 => DP X o ds L1 fun x L2 => ∃ a C ns xs L3, x = .adr a ∧ ML L2 a (.ins C ns xs) ∧ Cls X.K C ∧ NoAttr X.K C f ∧ ns.length < 1000 ∧ f ∉ ns ∧ MSt L2 a (.ins C (ns ++ [f]) (xs ++ [d])) L3 ∧ D.nx ds L3)
    (hs' : swapsWith v (some (.Attribute o f pos')) pos.line X.env = pure false := by rfl) : DSt X (.Assign [.Attribute o f pos'] v pos) ds L D := .mk fun σ H B E hs hl m =>
  PS.to (ps_fld pe_w pe_w hs') (h.run σ H B hs hl _ fun d L1 z B1 H1 h1 e1 hl1 iz => h1.run σ H1 B1 (hs.mono e1) hl1 _ fun x L2 x' B2 H2 h2 e2 hl2 ix => by
    obtain ⟨a, C, ns, xs, L3, rfl, hm, hc, hn, hlen, hf, ht, p⟩ := h2
    have ix : x' = .ref a := ix
    subst ix
    obtain ⟨_, ob, hu, dx, vs, rfl, en, iv⟩ := hl2.own a _ hm
    have ev : ns.length = vs.length := by rw [iv.length]; exact en
    refine ⟨a, C, dx, _, rfl, hu, hc, hn, by rw [List.length_zip]; omega, m.nx ds L3 σ B2 _ p (e1.trans e2) (hs.mono (e1.trans e2)) (hl2.put ht ⟨dx, vs ++ [z], ?_, ?_, ?_⟩)⟩
    · rw [putF_new ev hf]
    · rw [List.length_append, List.length_append, en]
      rfl
    · exact iv.append ⟨z, _, rfl, iz.mono e2, rfl⟩)
theorem dp_fld {f : Str} (h : DP X e ds L fun x L1 => ∃ a C ns xs d, x = .adr a ∧ ML L1 a (.ins C ns xs) ∧ Cls X.K C ∧ NoAttr X.K C f ∧ fldD ns xs f = some d ∧ P d L1) (hb : attributeBase e f X.env (eval e X.env) = eval e X.env := by rfl) : DP X (.Attribute e f pos) ds L P := .mk fun σ H B hs hl Q q =>
  PE.to (pe_fld pe_w hb) (h.run σ H B hs hl _ fun x L1 v B1 H1 p e1 hl1 ix => by
    obtain ⟨a, C, ns, xs, d, rfl, hm, hc, hn, hf, p⟩ := p
    obtain rfl : v = V.ref a := ix
    obtain ⟨_, o, ho, dx, vs, rfl, _, i⟩ := hl1.own a _ hm
    obtain ⟨u, hu, iu⟩ := fld_is i hf
    exact ⟨a, C, dx, _, u, rfl, ho, hc, hn, hu, q d L1 u B1 H1 p e1 hl1 iu⟩)
/-- a method of the class at C, by its contract (self ahead) -/
structure CalM (Pr : Program) (w : World) (K : PySem.W.Frag) (mg : Str → Option Value) (base : Heap) (C : Addr) (x : Str) (k : Nat) (ps : List Str) (R : Rel) : Prop where
  ex : ∃ (f : Addr) (fd : FuncData), FnOk Pr w K mg base CX0 k f fd ps (spP K R) ∧ Meth K C x f ∧ Binds K fd ps []
theorem dp_meth {k j : Nat} {C : Addr} {x : Str} {ps : List Str} {R : Rel} {o : Expr} {es : List Expr} {apos : Pos} (M : CalM X.prog X.w X.K X.mg X.base C x k ps R) (hc : Cls X.K C) (hr : Room j X.A) (hk : k ≤ j)
    (h : DP X o ds L fun y L1 => ∃ a ns xs, y = .adr a ∧ ML L1 a (.ins C ns xs) ∧ fldD ns xs x = none ∧ DA X (e :: es) ds L1 fun zs L2 => R (.adr a :: zs) L2 P)
    (hst : starEach (e :: es) X.env = (false, eval e X.env) :: starEach es X.env := by rfl) (hpl : (backTo pos (starEach es X.env)).any (·.1) = false := by rfl) {pl : Sem Bool}
    (ht : eval (.Call (.Attribute o x apos) (e :: es) [] pos) X.env = (do
      let ov ← eval o X.env
      standAt apos.atName
      let (f, first) ← holding [ov] (getMethod ov x pl)
      callWith pos f first (backTo pos (starEach (e :: es) X.env)) (backToKw pos (keywordEach [] X.env))) := by rfl) : DP X (.Call (.Attribute o x apos) (e :: es) [] pos) ds L P := .mk fun σ H B hs hl Q q => by
  obtain ⟨f, fd, F, hm, hb⟩ := M.ex
  refine PE.to (pe_meth pe_w hc hm F (hr.mono hk) hb .nil pass0 pa_w hst hpl ht) (h.run σ H B hs hl _ fun y L1 v B1 H1 p e1 hl1 ix => ?_)
  obtain ⟨a, ns, xs, rfl, hml, hf, p⟩ := p
  obtain rfl : v = V.ref a := ix
  obtain ⟨_, ob, ho, dx, vs, rfl, en, iv⟩ := hl1.own a _ hml
  refine ⟨a, dx, _, rfl, ho, fld_none iv hf, p.run σ H1 B1 (hs.mono e1) hl1 _ fun zs L2 us B2 H2 r e2 hl2 izs => ?_⟩
  show spP X.K R (V.ref a :: (us ++ [])) H2 Q E0
  rw [List.append_nil]
  exact ⟨B2, .adr a :: zs, L2, P, ⟨V.ref a, us, rfl, rfl, izs⟩, hl2, r, fun d L' z B3 H3 p3 e3 => q d L' z B3 H3 p3 ((e1.trans e2).trans e3)⟩
theorem dp_meth0 {k j : Nat} {C : Addr} {x : Str} {ps : List Str} {R : Rel} {o : Expr} {apos : Pos} (M : CalM X.prog X.w X.K X.mg X.base C x k ps R) (hc : Cls X.K C) (hr : Room j X.A) (hk : k ≤ j)
    (h : DP X o ds L fun y L1 => ∃ a ns xs, y = .adr a ∧ ML L1 a (.ins C ns xs) ∧ fldD ns xs x = none ∧ R [.adr a] L1 P) {pl : Sem Bool}
    (ht : eval (.Call (.Attribute o x apos) [] [] pos) X.env = (do
      let ov ← eval o X.env
      standAt apos.atName
      let (f, first) ← holding [ov] (getMethod ov x pl)
      callWith pos f first (backTo pos (starEach [] X.env)) (backToKw pos (keywordEach [] X.env))) := by rfl) : DP X (.Call (.Attribute o x apos) [] [] pos) ds L P := .mk fun σ H B hs hl Q q => by
  obtain ⟨f, fd, F, hm, hb⟩ := M.ex
  refine PE.to (pe_meth0 pe_w hc hm F (hr.mono hk) hb .nil pass0 ht) (h.run σ H B hs hl _ fun y L1 v B1 H1 p e1 hl1 ix => ?_)
  obtain ⟨a, ns, xs, rfl, hml, hf, p⟩ := p
  obtain rfl : v = V.ref a := ix
  obtain ⟨_, ob, ho, dx, vs, rfl, en, iv⟩ := hl1.own a _ hml
  refine ⟨a, dx, _, rfl, ho, fld_none iv hf, ?_⟩
  exact ⟨B1, [.adr a], L1, P, ⟨V.ref a, [], rfl, rfl, rfl⟩, hl1, p, fun d L' z B3 H3 p3 e3 => q d L' z B3 H3 p3 (e1.trans e3)⟩
/-- a class of the text that can be made: its __init__ by its contract -/
structure CalC (Pr : Program) (w : World) (K : PySem.W.Frag) (mg : Str → Option Value) (base : Heap) (x : Str) (C : Addr) (k : Nat) (ps : List Str) (R : Rel) : Prop where
  at_ : mg x = some (.ref C)
  ex : ∃ (f : Addr) (fd : FuncData), FnOk Pr w K mg base CX0 k f fd ps (spP K R) ∧ Mk K C f ∧ Binds K fd ps []
theorem dp_make {k j : Nat} {C : Addr} {x : Str} {p : Pos} {ps : List Str} {R : Rel} {es : List Expr} (M : CalC X.prog X.w X.K X.mg X.base x C k ps R) (hr : Room j X.A) (hk : k + 1 ≤ j)
    (h : DA X (e :: es) ds L fun zs L2 => ∀ a, R (.adr a :: zs) ((a, .ins C [] []) :: L2) fun d L3 => d = .non ∧ P (.adr a) L3) (hg : Gl X x := by rfl) (hdb : (x == ("__debug__" : Str)) = false := by decide)
    (he : starEach (e :: es) X.env = (false, eval e X.env) :: starEach es X.env := by rfl) (hpl : (backTo pos (starEach es X.env)).any (·.1) = false := by rfl) : DP X (.Call (.Name x p) (e :: es) [] pos) ds L P := .mk fun σ H B hs hl Q q => by
  obtain ⟨f, fd, F, hm, hb⟩ := M.ex
  refine PE.to (pe_make hm F (hr.mono hk) hg M.at_ hb .nil pass0 pa_w hdb he hpl) (h.run σ H B hs hl _ fun zs L2 us B2 H2 r e2 hl2 izs => ?_)
  intro a dx ha hd hne
  rw [List.append_nil]
  obtain ⟨e3, hl3⟩ := hl2.new (o := .own a) hd
  have ha3 : upd H2 dx (.own a) a = none := by rw [upd_ne (Ne.symm hne)]; exact ha
  have hl4 := hl3.newM (m := .ins C [] []) ha3 ⟨dx, [], rfl, rfl, rfl⟩
  refine ⟨_, .adr a :: zs, _, _, ⟨V.ref a, us, rfl, rfl, izs.mono e3⟩, hl4, r a, fun d L' z B4 H4 p4 e4 hl5 iz => ?_⟩
  obtain ⟨rfl, p4⟩ := p4
  exact ⟨iz, q (.adr a) L' (.ref a) B4 H4 p4 ((e2.trans e3).trans e4) hl5 rfl⟩
end
structure MethAt (K : PySem.W.Frag) (C : Addr) (x q : Str) (st : Stmt) : Prop where
  ex : ∃ (f : Addr) (fd : FuncData), Fun K x q st f fd ∧ Meth K C x f
section
variable {Pr : Program} {w : World} {K : PySem.W.Frag} {mg : Str → Option Value} {base : Heap}
theorem calM_of {C : Addr} {x qn : Str} {st : Stmt} {N ps : List Str} {k : Nat} {R : Rel} (F : MethAt K C x qn st) (S : FnScope N ps (defScope st)) (hlen : ∀ ds L P, R ds L P → ds.length = ps.length)
    (hb : ∀ (kV doc pm : Value) (an : Option Addr) (cdv ct : Value) (us : List Value), us.length = ps.length → bindArgs (PySem.W.fnOf x qn (defArgs st) (defBody st) (defScope st) .none kV doc pm an cdv ct) ⟨us, []⟩ = pure (ps.zip us))
    (body : ∀ (f : Addr) (cdv : Value) (A : Around) (outer : List Env) (s : Shared) (H : Hp) (E : XK), Room k (fX Pr w K mg base N qn (defScope st) f cdv A outer s H E).A → ∀ ds L P, R ds L P →
      DSs (fX Pr w K mg base N qn (defScope st) f cdv A outer s H E) (defBody st) (startD N ds) L ⟨fun _ L' => P .non L', P, fun _ _ => False, fun _ _ => False⟩) : CalM Pr w K mg base C x (k + 1) ps R := by
  obtain ⟨f, fd, F, hm⟩ := F.ex
  refine ⟨f, fd, ?_, hm, F.binds hb⟩
  refine F.ok S (fun vs H Q E h => ?_) fun cdv A outer s H vs Q E hr h => ?_
  · obtain ⟨B, ds, L, P, i, _, r, _⟩ := h
    rw [i.length]
    exact hlen _ _ _ r
  · obtain ⟨B, ds, L, P, i, hl, r, q⟩ := h
    refine ⟨_, pss_w, (body f cdv A outer s H E hr ds L P r).run (L2.start N vs) H B _ (sl_start i) hl ⟨?_, ?_, ?_, ?_⟩⟩
    · exact fun ds L σ B2 H2 p e _ hl2 => q .non L _ B2 H2 p e hl2 rfl
    · exact fun d L v B2 H2 p e hl2 iv => q d L v B2 H2 p e hl2 iv
    · exact fun _ _ _ _ _ p => p.elim
    · exact fun _ _ _ _ _ p => p.elim
end
theorem meth_at {K : PySem.W.Frag} {C f : Addr} {x q : Str} {st : Stmt} {od an : Option Addr} {sl : Array (Option Value)} {oc kV dc pm cd ct : Value} (a : PySem.W.findIn K (.ref C) x = some (some (.ref f))) (i : PySem.W.isFn K (.ref f) = true)
    (l : K.lookup f = some ⟨oc, od, .func (PySem.W.fnOf x q (defArgs st) (defBody st) (defScope st) .none kV dc pm an cd ct), sl⟩) (c : PySem.W.codeIn K cd q = true) (k : PySem.W.keepIn K (.ref f) = true) : MethAt K C x q st :=
  ⟨f, _, ⟨⟨oc, od, kV, dc, pm, an, cd, ct, sl, rfl, l, c⟩, k⟩, ⟨a, i, k⟩⟩
/-- what a class of the text is: its name, and that it can be made -/
structure ClsT (K : PySem.W.Frag) (mg : Str → Option Value) (x : Str) (C : Addr) : Prop where
  at_ : mg x = some (.ref C)
  cl : Cls K C
  mks : PySem.W.makesIn K C = true
  kp : PySem.W.keepIn K (.ref C) = true
theorem calC_of {Pr : Program} {w : World} {K : PySem.W.Frag} {mg : Str → Option Value} {base : Heap} {x : Str} {C : Addr} {k : Nat} {ps : List Str} {R : Rel} (T : ClsT K mg x C) (M : CalM Pr w K mg base C "__init__" k ps R) : CalC Pr w K mg base x C k ps R := by
  obtain ⟨f, fd, F, hm, hb⟩ := M.ex
  exact ⟨T.at_, f, fd, F, ⟨T.mks, hm.at_, hm.fn, T.kp⟩, hb⟩
end Z
namespace Z
open PySem PySem.Spec PyProof.Rows L2
/-! ### dicts of tuple keys: a copy, the least key, pop, != {} -/
theorem KT_fst {H : Hp} : ∀ {kvs : List (List Key × V)} {xs : List (List Key × Addr × Value)}, KT H kvs xs → xs.map (·.1) = kvs.map (·.1)
  | _, _, .nil => rfl
  | _, _, .cons h t => by rw [List.map_cons, List.map_cons, KT_fst t, h.1]
section
variable {X : Cx}
def rCopyT (P : Program) (w : World) : List V → Hp → VK → Prop := fun xs H Q => ∃ (a : Addr) (kvs : List (List L2.Key × V)), xs = [.ref a] ∧ Rd H a (.dT kvs) ∧ (kvs.map fun e => tupleKeyHash (mixKind P w) e.1).Nodup ∧ ∀ p, H p = none → Q (.ref p) (upd H p (.dT kvs))
theorem call_dictT (hu : X.A.units + 64 < cLine) : CallR X (.type "dict") (rCopyT X.prog X.w) := by
  intro pins s σ H xs us Q I r q
  obtain ⟨a, kvs, rfl, hd, hn, q⟩ := q
  obtain ⟨u, rfl, rx⟩ := vals1 r
  cases rx
  have kp : ∀ b o, s.heap.get? b = some o → (s.heap.push { cls := .type "dict", data := .dict #[] }).get? b = some o := fun b o e => Heap.get?_push_of_some _ e
  have J : Inv X pins σ H { s with heap := s.heap.push { cls := .type "dict", data := .dict #[] } } := I.kept (t' := s.toks) kp
  obtain ⟨z, lo, vs, rel, dd⟩ := dt_rd J.hok hd
  have hlt : a < s.heap.objs.size := by
    obtain ⟨_, _, _, _, h1⟩ := dt_rd I.hok hd
    obtain ⟨_, _, _, h2, _⟩ := h1
    exact Heap.lt_size h2
  refine PySem.callType_codes (Q₁ := fun obj s₁ => obj = .ref s.heap.objs.size ∧ s₁ = { s with heap := s.heap.push { cls := .type "dict", data := .dict #[] } }) PySem.F.kt_called_dict (PySem.F.kt_typeCall_dict_1 _) PySem.F.entry_dict_init (PySem.kt_code_dict_new _ ⟨rfl, rfl⟩) ?_
  rintro obj s₁ ⟨rfl, rfl⟩
  have hnew : (s.heap.push { cls := .type "dict", data := .dict #[] }).DictOfH (tupleKind (mixKind X.prog X.w)) s.heap.objs.size [] := Heap.DictOfH.new s.heap
  refine ⟨hnew.typeIs, PySem.F.args_dict_init_2 _ _, ?_⟩
  unfold Builtin.«dict.__init__»
  refine wpAny_bind ?_
  unfold Builtin.Dict.selfAndRest
  refine wpAny_bind (wpAny_notOrdered_dict hnew.typeIs ?_)
  show wpAny _ _ (pure (s.heap.objs.size, [Value.ref a])) _ _ _
  refine wpAny_pure ?_
  have hlen : vs.length = kvs.length := (Paired.length rel).symm
  refine updateFrom_dictH (A := X.A.in1) (knd := tupleKind (mixKind X.prog X.w)) .none (show X.A.in1.in1.units < cLine by unfold Around.in1 Around.units at *; simp at *; omega) (Nat.ne_of_gt hlt) lo hnew dd (.inr ⟨fun x hx => ?_, ?_⟩) (by simpa [hlen] using z) fun h' hd' _ hs' => ?_
  · obtain ⟨_, _, _, _, _, _, _, his, _⟩ := dd
    exact (his x hx).typeIs
  · have e : (vs.map fun x => (tupleKind (mixKind X.prog X.w)).hash x.1) = kvs.map fun e => tupleKeyHash (mixKind X.prog X.w) e.1 := by
      have := congrArg (List.map fun k => tupleKeyHash (mixKind X.prog X.w) k) (KT_fst rel)
      rw [List.map_map, List.map_map] at this
      exact this
    rw [e]
    exact hn
  · rw [storedAllH_nil_of_nodup vs dd.nodup] at hd'
    have hf : H s.heap.objs.size = none := I.hok.fresh (Nat.le_refl _)
    obtain ⟨o, es, ep, hq, h2, h3, h4, _, h5⟩ := hd'
    have hm : (s.heap.objs.size == sysModules) = false := beq_eq_false_iff_ne.mpr (Nat.ne_of_gt I.big)
    exact ⟨rfl, .ref s.heap.objs.size, upd H s.heap.objs.size (.dT kvs), I.laid (t' := s.toks) (fun b u e => (hs'.2 b (Nat.ne_of_lt (Heap.lt_size e))).trans (Heap.get?_push_of_some _ e)) (Nat.le_refl _)
      ⟨z, hm, vs, rel.keeps (fun c ys ec => by rw [upd_ne (ne_of_none ec hf)]; exact ec), o, es, ep, hq, h2, h3, h4, h5⟩, rfl, q _ hf⟩
/-- min(d): one of its keys -/
def rMinT : List V → Hp → VK → Prop := fun vs H Q => ∃ (a : Addr) (kvs : List (List L2.Key × V)), vs = [V.ref a] ∧ Rd H a (.dT kvs) ∧ (∀ e ∈ kvs, ∃ c : Cell, e.1 = cK c) ∧ kvs ≠ [] ∧ ∀ q e, e ∈ kvs → H q = some (.tup (e.1.map kV)) → Q (.ref q) H
theorem ints_cK {P : Program} {w : World} {c : Cell} {vs : List Value} (h : ItemsAre (mixKind P w) (cK c) vs) : IntsAre vs [c.1, c.2] := by
  cases h with
  | cons h1 t =>
    cases t with
    | cons h2 t2 =>
      cases t2
      obtain ⟨u, rfl⟩ := Value.isInt_shape (k := c.1) h1
      obtain ⟨u2, rfl⟩ := Value.isInt_shape (k := c.2) h2
      exact .cons _ _ (.cons _ _ .nil)
def keyI : List L2.Key → List Int := fun ks => ks.filterMap fun k => match k with
  | .inl i => some i
  | .inr _ => none
theorem keyI_cK (c : Cell) : keyI (cK c) = [c.1, c.2] := rfl
theorem cr_minT (hc : X.calm = true) (hu : X.A.units + 64 < cLine) : CallR X (.builtin "min") rMinT := by
  intro pins s σ H vs us Q I r h
  obtain ⟨a, kvs, rfl, ha, hv, hne, q⟩ := h
  rw [Vals.ref1 r]
  obtain ⟨z, hsys, xs, rel, dd⟩ := dt_rd I.hok ha
  obtain ⟨es, ep, hraw, hsz, hent⟩ := dd.raw
  have hlt : a < s.heap.objs.size := by
    obtain ⟨_, h1, _⟩ := id hraw
    exact Heap.lt_size h1
  have hkey : ∀ (i : Nat) y, xs[i]? = some y → ∃ e, kvs[i]? = some e ∧ e.1 = y.1 ∧ H y.2.1 = some (.tup (e.1.map kV)) := fun i y hy => by
    obtain ⟨e, h1, h2⟩ := L2.DX.pget rel hy
    exact ⟨e, h1, h2.1, h2.2.1⟩
  have hn0 : 0 < es.size := by
    rw [hsz, ← Paired.length rel]
    exact List.length_pos_iff.mpr hne
  refine call_min_walkH (wpAny_pyIter_dict_raw hsys hraw ?_)
  refine ⟨_, _, _, _, _, fun i v => ∃ y, xs[i]? = some y ∧ v = .ref y.2.1, _, s.heap, fun i j => HT.lexLt (keyI ((xs.map (·.1)).getD i [])) (keyI ((xs.map (·.1)).getD j [])), rfl,
    (Walks.keysH (K := List Key) (A := X.A.in1) (xs := xs) (I.ok.hd hc) s.heap.objs.size a (Nat.ne_of_lt hlt) es ep fun i hi => ?_).toS, ⟨⟨_, Heap.get?_push_size _ rfl, rfl, rfl⟩, hraw.push _⟩, fun b hb => ?_, hn0, fun b o e => ?_, fun b o e => Heap.get?_push_of_some _ e, ?_, fun v s' hP hm => ?_⟩
  · obtain ⟨y, h1, h2, h3, _⟩ := hent i hi
    exact ⟨y, h1, h2, h3⟩
  · show b < (s.heap.push _).objs.size
    rw [Heap.size_push]
    rcases List.mem_cons.mp hb with e | hb
    · rw [e]
      exact Nat.lt_succ_self _
    · rw [List.mem_singleton.mp hb]
      exact Nat.lt_succ_of_lt hlt
  · intro hm
    rw [List.mem_singleton.mp hm] at e
    exact absurd (Heap.lt_size e) (Nat.lt_irrefl _)
  · intro i j vi vj s2 Q2 E2 hk hi hj hQ2
    obtain ⟨yi, hyi, rfl⟩ := hi
    obtain ⟨yj, hyj, rfl⟩ := hj
    have tk : ∀ (i : Nat) y, xs[i]? = some y → ∃ items, IsTup s2.heap y.2.1 items ∧ IntsAre items.toList (keyI ((xs.map (·.1)).getD i [])) := fun i y hy => by
      obtain ⟨e, h1, h2, h3⟩ := hkey i y hy
      obtain ⟨c, hc2⟩ := hv e (List.mem_of_getElem? h1)
      obtain ⟨o, items, n, g1, g2, g3, g4⟩ := key_of I.hok h3
      rw [hc2] at g4
      refine ⟨items, ⟨o, hk _ _ g1, g2, n, g3⟩, ?_⟩
      rw [List.getD_eq_getElem?_getD, List.getElem?_map, hy]
      show IntsAre _ (keyI y.1)
      rw [← h2, hc2, keyI_cK]
      exact ints_cK g4
    obtain ⟨it1, a1, a2⟩ := tk i yi hyi
    obtain ⟨it2, b1, b2⟩ := tk j yj hyj
    exact HT.lt_tupInts (s := s2) a1 b1 a2 b2 (show X.A.in1.units < cLine by unfold Around.in1 Around.units at *; simp at *; omega) hQ2
  · obtain ⟨y, hy, rfl⟩ := hP
    obtain ⟨e, h1, h2, h3⟩ := hkey _ y hy
    have es' : s' = { s with heap := s'.heap, toks := s'.toks } := by
      obtain ⟨m1, m2, m3, m4, m5⟩ := hm
      obtain ⟨a1, a2, a3, a4, a5⟩ := s'
      obtain rfl : a2 = s.gens := m2
      obtain rfl : a3 = s.drawn := m3
      obtain rfl : a5 = s.os := m4
      rfl
    have J : Inv X pins σ H { s with heap := s'.heap, toks := s'.toks } := I.kept (t' := s'.toks) fun b u e => hm.heap b u (fun hmem => by
      rw [List.mem_singleton.mp hmem] at e
      exact absurd (Heap.lt_size e) (Nat.lt_irrefl _)) (Heap.get?_push_of_some _ e)
    rw [← es'] at J
    exact ⟨.ref y.2.1, H, J, rfl, q _ e (List.mem_of_getElem? h1) h3⟩
end
section
variable {prog : Program} {w : World} {K : Type} [DecidableEq K] {knd : HeapKind prog w K} {A : Around} {E : Value → Shared → Prop} {s : Shared}
theorem meetsPop1 {d b : Addr} {k : K} (hd : (d == sysModules) = false) :
    MeetsIn prog w (Builtin.«dict.pop» ⟨[.ref d, .ref b], []⟩) (fun A R s => ∃ xs p, knd.room A.in1 ∧ knd.is s.heap k b ∧ s.heap.DictOfH knd d xs ∧ xs.length ≤ sizeLine ∧ atKey xs k = some p ∧
      ∀ h' tk, h'.DictOfH knd d (DT.dropH xs k) → Heap.SameBut d s.heap h' → R (.ok (.ret p.2)) { s with heap := h', toks := tk }) :=
  .of_wp fun A R s ⟨xs, p, hu, hkey, hm, hsz, hat, hsome⟩ => by
    obtain ⟨o, es, ep, ho, hc, hdat, he, his, hn⟩ := id hm
    have hes : es.size = xs.length := size_of_entries he
    have hpart : (keyPart (Value.ref b)).isSome = false := rfl
    unfold Builtin.«dict.pop»
    refine wpAny_bind ?_
    unfold Builtin.Dict.keyAndDefault
    refine wpAny_bind (wpAny_notOrdered_dict hm.typeIs ?_)
    show wpAny _ _ (pure (d, Value.ref b, none)) _ _ s
    refine wpAny_pure ?_
    simp only [hpart, Bool.false_eq_true, if_false]
    refine wpAny_bind (wpAny_dictEntries ho hdat (wpAny_bind (wpAny_pure ?_)))
    cases hem : es.isEmpty with
    | true =>
      exfalso
      have z : es.size = 0 := by simpa using hem
      have h0 : xs = [] := List.length_eq_zero_iff.mp (by omega)
      rw [h0] at hat
      cases hat
    | false =>
      simp only [Bool.false_eq_true, if_false]
      refine wpAny_bind (DT.takeH hu hkey hm hsz (fun hno => by rw [hno] at hat; cases hat) fun p' e hp hev h' hm' hs' => ?_)
      rw [hat] at hp
      obtain rfl := Option.some.inj hp
      simp only [Option.isNone_some, Bool.false_eq_true, if_false]
      exact wpAny_bind (wpAny_letGo (wpAny_pure ⟨e.val, rfl, by rw [hev]; exact hsome h' _ hm' hs'⟩))
theorem samePairs0 {nm : String} {a b : Addr} {xs : List (K × Addr × Value)} {Q : Bool → Shared → Prop} (ha : (a == sysModules) = false) (hb : (b == sysModules) = false)
    (da : s.heap.DictOfH knd a xs) (db : s.heap.DictOfH knd b []) (h : Q xs.isEmpty s) : wpAny (model prog w) A (Builtin.Dict.samePairs nm a b) Q E s := by
  obtain ⟨oa, es, ep, hoa, _, hda, hea, _⟩ := da
  obtain ⟨ob, es', ep', hob, _, hdb, heb, _⟩ := db
  have h0 : es'.size = 0 := size_of_entries heb
  have hl : es.size = xs.length := size_of_entries hea
  unfold Builtin.Dict.samePairs Builtin.Dict.showsAll
  rw [if_neg (show ¬ (a == sysModules) = true by rw [ha]; exact Bool.false_ne_true), if_neg (show ¬ (b == sysModules) = true by rw [hb]; exact Bool.false_ne_true)]
  refine wpAny_bind (wpAny_pure (wpAny_bind (wpAny_pure ?_)))
  refine wpAny_bind (wpAny_dictEntries hoa hda ?_)
  dsimp only
  refine wpAny_bind (wpAny_dictEntries hob hdb ?_)
  cases xs with
  | cons x r =>
    have hl : es.size = r.length + 1 := hl
    rw [if_pos (by simp [hl, h0])]
    exact wpAny_bind (wpAny_rule (wpAny_pure h))
  | nil =>
    have hl : es.size = 0 := hl
    rw [if_neg (by rw [hl, h0]; simp)]
    refine wpAny_bind (wpAny_dictEpoch hoa hda ?_)
    refine wpAny_bind ?_
    rw [hl, Std.Legacy.Range.forIn_eq_forIn_range']
    simp only [Std.Legacy.Range.size, Nat.sub_zero, Nat.add_sub_cancel, Nat.div_one]
    exact wpAny_pure (wpAny_pure h)
theorem ne_dict0 {a b : Addr} {xs : List (K × Addr × Value)} {Q : Value → Shared → Prop} (ha : (a == sysModules) = false) (hb : (b == sysModules) = false)
    (da : s.heap.DictOfH knd a xs) (db : s.heap.DictOfH knd b []) (hu : A.units < cLine) (h : Q (.bool (!xs.isEmpty)) s) : wpAny (model prog w) A (richCompare .NotEq (.ref a) (.ref b)) Q E s := by
  refine wpAny_richCompare_same_room (op := .NotEq) da.typeIs db.typeIs PySem.F.slot_dict_ne (wpAny_call_entry PySem.F.slot_dict_ne da.typeIs PySem.F.entry_dict_ne ?_ (PySem.F.args_dict_ne_2 _ _)) hu
  show wpAny _ _ (Builtin.Dict.dictSlotArgs "__ne__" ⟨[.ref a, .ref b], []⟩ >>= _) _ _ s
  refine wpAny_bind ?_
  unfold Builtin.Dict.dictSlotArgs
  refine wpAny_bind (wpAny_notOrdered_dict da.typeIs ?_)
  show wpAny _ _ (pure (Value.ref a, Value.ref b)) _ _ s
  refine wpAny_pure ?_
  refine wpAny_bind (wpAny_isInstance (T := "dict") db.typeIs PySem.F.sub_dict_dict ?_)
  simp only [Bool.not_true, Bool.false_eq_true, if_false]
  refine wpAny_bind (wpAny_pure (wpAny_bind (wpAny_pure ?_)))
  refine wpAny_bind (samePairs0 ha hb da db ?_)
  refine wpAny_pure ⟨_, rfl, ?_, ?_⟩
  · exact fun x => nomatch x
  · have e : (xs.isEmpty == false) = !xs.isEmpty := by cases xs.isEmpty <;> rfl
    rw [e]
    exact h
end
section
variable {X : Cx}
def rPopT1 : V → List V → Hp → VK → Prop := fun x xs H Q => ∃ (a : Addr) (kvs : List (List L2.Key × V)) (k : List L2.Key) (b : Addr) (v : V), x = .ref a ∧ xs = [.ref b] ∧ H a = some (.dT kvs) ∧ H b = some (.tup (k.map kV)) ∧ valV kvs k = some v ∧ Q v (upd H a (.dT (dropK kvs k)))
theorem mt_popT1 (hu : X.A.units + 1 < cLine) : MtR X "dict.pop" rPopT1 := by
  intro pins s σ H x xs v us Q I rx rxs h
  obtain ⟨a, kvs, k, b, v0, rfl, rfl, ha, hb, ev, q1⟩ := h
  cases rx
  obtain ⟨u1, rfl, r1⟩ := vals1 rxs
  cases r1
  obtain ⟨z, hd, xs', rel, dd⟩ := dt_of I.hok ha
  have hz : xs'.length ≤ sizeLine := by rw [← Paired.length rel]; exact z
  have r := rel.val k
  rw [ev] at r
  obtain ⟨p, hp, rv⟩ : ∃ p, atKey xs' k = some p ∧ RelV v0 p.2 := by
    cases e : atKey xs' k with
    | none =>
      rw [e] at r
      exact (show False from r).elim
    | some p =>
      rw [e] at r
      exact ⟨p, rfl, r⟩
  refine call_meetsIn PySem.F.slot_dict_pop dd.typeIs PySem.F.entry_dict_pop (PySem.F.args_dict_pop_2 _ _) (meetsPop1 (knd := tupleKind (mixKind X.prog X.w)) (k := k) hd)
    ⟨xs', p, tupleKind_room_in1 hu, key_of I.hok hb, dd, hz, hp, fun h' tk dd' hs => ?_⟩
  obtain ⟨o, es, ep, hq, h2, h3, h4, _, h5⟩ := dd'
  have I2 : Inv X pins σ (upd H a (.dT (dropK kvs k))) { s with heap := h', toks := tk } :=
    d_write I (by rw [ha]; exact True.intro) hs ⟨o, hq⟩ ⟨Nat.le_trans (dropK_le kvs k) z, hd, _, (L2.DX.KT_drop k rel).keeps (fun c ys ec => (by rw [upd_ne (ne_of ec ha (fun z => nomatch z))]; exact ec)), o, es, ep, hq, h2, h3, h4, h5⟩
  show EP X pins σ Q p.2 _
  exact ⟨v0, _, I2, rv, q1⟩
def tDPopT (td ty : TE) : TE := fun σ H Q => td σ H fun x H1 => ∃ a, x = .ref a ∧ IsD H1 a ∧ ty σ H1 fun y H2 => ∃ kvs k b v, H2 a = some (.dT kvs) ∧ y = .ref b ∧ H2 b = some (.tup (k.map kV)) ∧ valV kvs k = some v ∧ Q v (upd H2 a (.dT (dropK kvs k)))
theorem pe_dpopT {o e : Expr} {td ty : TE} {apos cpos : Pos} (hu : X.A.units + 1 < cLine) (ho : PE X o td) (he : PE X e ty) (m : M1 X o "pop" apos e cpos) : PE X (.Call (.Attribute o "pop" apos) [e] [] cpos) (tDPopT td ty) := by
  refine ⟨fun pins s σ H Q I h => ?_⟩
  refine wpAny_Call_method m.base m.few m.line PySem.F.plainAttrs_dict PySem.F.slot_dict_pop PySem.F.type_dict_pop (thn (ho.run pins s σ H _ I h) fun u s1 ⟨x, H1, I1, rx, a, ex, d, q1⟩ => ?_)
  subst ex
  obtain rfl : u = Value.ref a := rx
  obtain ⟨t1, t2, _⟩ := isD_at I1 d
  refine ⟨t1, t2, ?_⟩
  rw [m.trees]
  refine Calls.callWith_builtin rfl (Calls.evalArgs_plain (Calls.spliced_cons (thn (he.run pins s1 σ H1 _ I1 q1) fun iv s2 ⟨y, H2, I2, ry, kvs, k, b, v, ea, ey, eb, l, q2⟩ => Calls.spliced_nil ?_)))
  subst ey
  exact mt_popT1 hu pins s2 σ H2 (.ref a) [.ref b] (.ref a) [iv] Q I2 rfl (.cons ry .nil) ⟨a, kvs, k, b, v, rfl, rfl, ea, eb, l, q2⟩
def rNeT0 : R2 := fun x y H Q => ∃ a b kvs, x = .ref a ∧ y = .ref b ∧ Rd H a (.dT kvs) ∧ Rd H b (.dT []) ∧ Q (.bl (!kvs.isEmpty)) H
theorem op_neT0 (hu : X.A.units < cLine) : OpR X (compareOp .NotEq) rNeT0 := by
  intro pins s σ H x y v u Q I rx ry h
  obtain ⟨a, b, kvs, rfl, rfl, ha, hb, q⟩ := h
  cases rx
  cases ry
  obtain ⟨_, ha2, xs, rel, da⟩ := dt_rd I.hok ha
  obtain ⟨_, hb2, ys, rel2, db⟩ := dt_rd I.hok hb
  cases rel2
  refine ne_dict0 ha2 hb2 da db hu ⟨.bl (!kvs.isEmpty), H, I, ?_, q⟩
  have e : xs.isEmpty = kvs.isEmpty := by
    cases rel <;> rfl
  rw [e]
  rfl
end
/-! ### at the level of data -/
def drop (m : AL) (c : Cell) : AL := m.filter fun e => decide (e.1 ≠ c)
section
variable {K : PySem.W.Frag} {B : Hp}
theorem RM.drop {c : Cell} : ∀ {m : AL} {u : List (List Key × V)}, RM K B m u → RM K B (Z.drop m c) (dropK u (cK c)) := by
  intro m
  induction m with
  | nil =>
    intro u h
    obtain rfl : u = [] := h
    exact rfl
  | cons e m ih =>
    intro u h
    obtain ⟨vs, h1, h2⟩ := h.is
    subst h1
    obtain ⟨v, r, h3, h4, h5⟩ := h2
    subst h3
    have t : RM K B (Z.drop m c) (dropK ((m.map fun e => cK e.1).zip r) (cK c)) := ih (RM.of h5)
    by_cases q : e.1 = c
    · have e1 : Z.drop (e :: m) c = Z.drop m c := List.filter_cons_of_neg (by simp [q])
      have e2 : dropK (((e :: m).map fun e => cK e.1).zip (v :: r)) (cK c) = dropK ((m.map fun e => cK e.1).zip r) (cK c) := List.filter_cons_of_neg (by simp [q])
      rw [e1, e2]
      exact t
    · have e1 : Z.drop (e :: m) c = e :: Z.drop m c := List.filter_cons_of_pos (by simp [q])
      have q2 : ¬ cK e.1 = cK c := fun z => q (cK_inj.mp z)
      have e2 : dropK (((e :: m).map fun e => cK e.1).zip (v :: r)) (cK c) = (cK e.1, v) :: dropK ((m.map fun e => cK e.1).zip r) (cK c) := List.filter_cons_of_pos (decide_eq_true q2)
      rw [e1, e2]
      obtain ⟨vs, h6, h7⟩ := t.is
      rw [h6]
      exact RM.of (m := e :: Z.drop m c) ⟨v, vs, rfl, h4, h7⟩
end
/-- the hashes of a tray's cells are apart -/
def hashC (c : Cell) : Int := reduceHash (Builtin.Tuple.tupleHashOf [hashInt c.1, hashInt c.2])
def cells12 : List Cell := (List.range 12).flatMap fun i : Nat => (List.range 12).map fun j : Nat => ((i : Int), (j : Int))
def nodupB : List Int → Bool
  | [] => true
  | x :: l => !l.contains x && nodupB l
theorem nodupB_ok : ∀ {l : List Int}, nodupB l = true → l.Nodup
  | [], _ => List.nodup_nil
  | x :: l, h => by
    rw [nodupB, Bool.and_eq_true] at h
    exact List.nodup_cons.mpr ⟨by simpa using h.1, nodupB_ok h.2⟩
theorem hash12 : (cells12.map hashC).Nodup := nodupB_ok (by decide +kernel)
theorem mem12 {c : Cell} (h : 0 ≤ c.1 ∧ c.1 < 12 ∧ 0 ≤ c.2 ∧ c.2 < 12) : c ∈ cells12 := by
  obtain ⟨a, b⟩ := c
  obtain ⟨h1, h2, h3, h4⟩ := h
  unfold cells12
  refine List.mem_flatMap.mpr ⟨a.toNat, List.mem_range.mpr (by simp at *; omega), List.mem_map.mpr ⟨b.toNat, List.mem_range.mpr (by simp at *; omega), ?_⟩⟩
  simp at *
  omega
theorem nodup_inj {α β : Type} {f : α → β} : ∀ {l : List α}, (l.map f).Nodup → ∀ {a b : α}, a ∈ l → b ∈ l → f a = f b → a = b
  | [], _, _, _, h, _, _ => by cases h
  | x :: l, n, a, b, ha, hb, e => by
    rw [List.map_cons, List.nodup_cons] at n
    rcases List.mem_cons.mp ha with q | ha
    · rcases List.mem_cons.mp hb with q2 | hb
      · rw [q, q2]
      · exact absurd (List.mem_map.mpr ⟨b, hb, by rw [← e, q]⟩) n.1
    · rcases List.mem_cons.mp hb with q2 | hb
      · exact absurd (List.mem_map.mpr ⟨a, ha, by rw [e, q2]⟩) n.1
      · exact nodup_inj n.2 ha hb e
theorem hash_cells {P : Program} {w : World} {m : AL} {u : List (List Key × V)} {K : PySem.W.Frag} {B : Hp} (r : RM K B m u) (nd : (m.map (·.1)).Nodup) (hr : ∀ e ∈ m, 0 ≤ e.1.1 ∧ e.1.1 < 12 ∧ 0 ≤ e.1.2 ∧ e.1.2 < 12) : (u.map fun e => tupleKeyHash (mixKind P w) e.1).Nodup := by
  obtain ⟨vs, h1, h2⟩ := r.is
  have hl := h2.length
  rw [List.length_map] at hl
  have e : (u.map fun e => tupleKeyHash (mixKind P w) e.1) = m.map fun e => hashC e.1 := by
    subst h1
    refine List.ext_getElem (by rw [List.length_map, List.length_map, List.length_zip, List.length_map, hl, Nat.min_self]) fun i a1 a2 => ?_
    rw [List.getElem_map, List.getElem_map, List.getElem_zip, List.getElem_map]
    rfl
  rw [e, List.nodup_iff_pairwise_ne, List.pairwise_map]
  rw [List.nodup_iff_pairwise_ne, List.pairwise_map] at nd
  exact List.Pairwise.imp_of_mem (fun {a b} ha hb n z => n (nodup_inj hash12 (mem12 (hr a ha)) (mem12 (hr b hb)) z)) nd
section
variable {X : Cx} {e o i a b : Expr} {ds : DS} {L : MS} {P : DK} {PB : Bool → MS → Prop} {pos pos' p apos : Pos} {k : Nat}
/-- dict(d): a new one that may change -/
theorem dp_dcopy (hr : Room k X.A) (hm : X.mg "dict" = none) (h : DP X e ds L fun x L1 => ∃ m, x = mD m ∧ (m.map (·.1)).Nodup ∧ (∀ e ∈ m, 0 ≤ e.1.1 ∧ e.1.1 < 12 ∧ 0 ≤ e.1.2 ∧ e.1.2 < 12) ∧ ∀ a, P (.adr a) ((a, mM m) :: L1)) (hg : Gl X "dict" := by rfl)
    (he : starEach (e :: []) X.env = (false, eval e X.env) :: starEach [] X.env := by rfl) (hpl : (backTo pos (starEach [] X.env)).any (·.1) = false := by rfl) : DP X (.Call (.Name "dict" p) [e] [] pos) ds L P := .mk fun σ H B hs hl Q q =>
  PE.to (pe_callTy (call_dictT hr.units) hg hm (by decide +kernel) (pa_cons (hs := he) pe_w pa_nil) (he := he) (hpl := hpl)) (h.run σ H B hs hl _ fun d L1 v B1 H1 h1 e1 hl1 iv => by
    obtain ⟨m, rfl, nd, hr2, p⟩ := h1
    obtain ⟨a, ob, u, rfl, ha, r⟩ := is_mD iv
    refine ⟨a, u, rfl, .inr ⟨ob, hl1.sub _ _ ha⟩, hash_cells r nd hr2, fun z hz => ?_⟩
    exact q _ _ _ B1 _ (p z) e1 (hl1.newM hz (RM.rep' r)) rfl)
/-- min(d), d a dict that may change -/
theorem dp_dmin (hr : Room k X.A) (hm : X.mg "min" = none) (h : DP X e ds L fun x L1 => ∃ a m, x = .adr a ∧ ML L1 a (mM m) ∧ m ≠ [] ∧ ∀ c, c ∈ m.map (·.1) → P (cD c) L1) (hc : X.calm = true := by rfl) (hg : Gl X "min" := by rfl)
    (he : starEach (e :: []) X.env = (false, eval e X.env) :: starEach [] X.env := by rfl) (hpl : (backTo pos (starEach [] X.env)).any (·.1) = false := by rfl) : DP X (.Call (.Name "min" p) [e] [] pos) ds L P := .mk fun σ H B hs hl Q q =>
  PE.to (pe_callB (cr_minT hc hr.units) hg hm (by decide +kernel) (pa_cons (hs := he) pe_w pa_nil) (he := he) (hpl := hpl)) (h.run σ H B hs hl _ fun d L1 v B1 H1 h1 e1 hl1 iv => by
    obtain ⟨a, m, rfl, hml, hne, p⟩ := h1
    obtain rfl : v = V.ref a := iv
    obtain ⟨u, hu, r⟩ := hl1.mm hml
    obtain ⟨vs, rfl, h2⟩ := r.is
    have hl2 := h2.length
    rw [List.length_map] at hl2
    have key : ∀ x ∈ (m.map fun e => cK e.1).zip vs, ∃ c ∈ m.map (·.1), x.1 = cK c := fun x hx => by
      obtain ⟨y, hy, e⟩ := List.mem_map.mp (List.of_mem_zip hx).1
      exact ⟨y.1, List.mem_map.mpr ⟨y, hy, rfl⟩, e.symm⟩
    refine ⟨a, _, rfl, .inl hu, fun x hx => ?_, fun z => hne ?_, fun t x hx ht => ?_⟩
    · obtain ⟨c, _, e⟩ := key x hx
      exact ⟨c, e⟩
    · have := congrArg List.length z
      rw [List.length_zip, List.length_map, hl2, Nat.min_self] at this
      exact List.length_eq_zero_iff.mp this
    · obtain ⟨c, hc2, e⟩ := key x hx
      rw [e] at ht
      obtain ⟨sb, hl3⟩ := hl1.adopt ht
      exact q (cD c) L1 (.ref t) _ H1 (p c hc2) (e1.trans sb) hl3 (is_cD upd_same))
/-- d.pop(k), k is there -/
theorem dp_dpop (hr : Room k X.A) (h : DP X o ds L fun x L1 => ∃ a m0, x = .adr a ∧ ML L1 a (mM m0) ∧ DP X e ds L1 fun y L2 => ∃ m c d L3, ML L2 a (mM m) ∧ y = cD c ∧ get m c = some d ∧ MSt L2 a (mM (drop m c)) L3 ∧ P d L3) (m : M1 X o "pop" apos e pos := by exact ⟨rfl, rfl, rfl, rfl⟩) :
    DP X (.Call (.Attribute o "pop" apos) [e] [] pos) ds L P := .mk fun σ H B hs hl Q q =>
  PE.to (pe_dpopT (hu_of hr) pe_w pe_w m) (h.run σ H B hs hl _ fun x L1 v B1 H1 h1 e1 hl1 iv => by
    obtain ⟨a, m0, rfl, hm0, h1⟩ := h1
    obtain rfl : v = V.ref a := iv
    obtain ⟨u0, hu0, _⟩ := hl1.mm hm0
    refine ⟨a, rfl, .inr ⟨u0, .inl hu0⟩, h1.run σ H1 B1 (hs.mono e1) hl1 _ fun y L2 y' B2 H2 h2 e2 hl2 iy => ?_⟩
    obtain ⟨m, c, d, L3, hm, rfl, hg, hst, p⟩ := h2
    obtain ⟨b, rfl, hb⟩ := cD_is iy
    obtain ⟨u, hu, r⟩ := hl2.mm hm
    obtain ⟨v, ev, iv⟩ := (r.val (c := c)).1 d hg
    exact ⟨u, cK c, b, v, hu, rfl, hl2.sub _ _ hb, ev, q d L3 v B2 _ p (e1.trans e2) (hl2.put hst (RM.rep' r.drop)) iv⟩)
/-- k in d, d a dict that may change -/
theorem dt_dinM (hr : Room k X.A) (h : DP X i ds L fun y L1 => DP X o ds L1 fun x L2 => ∃ a m c, x = .adr a ∧ ML L2 a (mM m) ∧ y = cD c ∧ PB (get m c).isSome L2) (hb : behindInMarks .In o = false := by rfl) : DT X (.Compare i [.In] [o] pos) ds L PB := .mk fun σ H B hs hl Q q =>
  PT.to (pt_cmp (pc_din (hu_of hr) pe_w pe_w) hb) (h.run σ H B hs hl _ fun y L1 y' B1 H1 h1 e1 hl1 iy => h1.run σ H1 B1 (hs.mono e1) hl1 _ fun x L2 x' B2 H2 h2 e2 hl2 ix => by
    obtain ⟨a, m, c, rfl, hm, rfl, p⟩ := h2
    obtain rfl : x' = V.ref a := ix
    obtain ⟨b, rfl, hb2⟩ := cD_is (iy.mono e2)
    obtain ⟨u, hu, r⟩ := hl2.mm hm
    have hv := r.val (c := c)
    have er : (valV u (cK c)).isSome = (get m c).isSome := by
      cases e : get m c with
      | none => rw [hv.2 e]; rfl
      | some d => obtain ⟨v, e3, _⟩ := hv.1 d e; rw [e3]; rfl
    exact ⟨a, _, rfl, .inr ⟨u, cK c, b, .inl hu, rfl, hl2.sub _ _ hb2, rfl⟩, _, rfl, by rw [er]; exact q _ L2 B2 H2 p (e1.trans e2) hl2⟩)
/-- d != {} -/
theorem dt_dne0 (hr : Room k X.A) (h : DP X a ds L fun x L1 => ∃ q m, x = .adr q ∧ ML L1 q (mM m) ∧ PB (!m.isEmpty) L1) (hb : behindInMarks .NotEq (.Dict [] [] pos') = false := by rfl) : DT X (.Compare a [.NotEq] [.Dict [] [] pos'] pos) ds L PB := .mk fun σ H B hs hl Q q =>
  PT.to (pt_cmpR (op_neT0 (show X.A.units < cLine by have := hr.units; omega)) pe_w pe_dnewT hb) (h.run σ H B hs hl _ fun x L1 v B1 H1 h1 e1 hl1 iv => by
    obtain ⟨d, m, rfl, hm, p⟩ := h1
    obtain rfl : v = V.ref d := iv
    obtain ⟨u, hu, r⟩ := hl1.mm hm
    intro z hz
    have e : u.isEmpty = m.isEmpty := by
      have := r.len
      cases u <;> cases m <;> simp_all
    have hl2 := hl1.newM (m := mM []) hz (RM.rep' (m := []) (u := []) rfl)
    refine ⟨d, z, u, rfl, rfl, .inl (by rw [upd_ne (ne_of_none hu hz)]; exact hu), .inl upd_same, _, rfl, ?_⟩
    rw [e]
    exact q _ L1 B1 _ p e1 ⟨hl2.sub, fun b x hbx => hl2.own b x (List.mem_cons_of_mem _ hbx), (List.nodup_cons.mp hl2.nd).2, hl2.nt⟩)
end
end Z
namespace Z
open PySem PySem.Spec PyProof.Rows L2
/-! ### an object that is no longer looked at -/
theorem Hs.forget {K : PySem.W.Frag} {B H : Hp} {L L2 : MS} {a : Addr} {m : MO} (h : Hs K B L H) (s : MDel L a m L2) : Hs K B L2 H := ⟨h.sub, fun b x hb => h.own b x (s.sub _ hb), (s.nd h.nd).1, h.nt⟩
theorem dss_del {X : Cx} {sts : List Stmt} {ds : DS} {L L2 : MS} {D : DEnds} {a : Addr} {m : MO} (s : MDel L a m L2) (h : DSs X sts ds L2 D) : DSs X sts ds L D := .mk fun σ H B E hs hl mt => h.run σ H B E hs (hl.forget s) mt
end Z
namespace Z
open PySem PySem.Spec PyProof.Rows L2
/-! ### a dict of the module: texts to ints -/
structure KDctAt (K : PySem.W.Frag) (w : World) (mg : Str → Option Value) (x : Str) (a b c d : Str) (i j k l : Int) : Prop where
  ex : ∃ p, mg x = some (.ref p) ∧ KDct K w p a (.int i) ∧ KDct K w p b (.int j) ∧ KDct K w p c (.int k) ∧ KDct K w p d (.int l)
theorem kdct_at {K : PySem.W.Frag} {w : World} {h : Heap} {mg : Str → Option Value} {x a b c d : Str} {i j k l : Int} {p : Addr} {es : Array DictEntry} {n : Nat} {t1 t2 t3 t4 : Tok} (X : K.In h) (G : h.Ns mainGlobals mg)
    (at_ : PySem.W.nsIn K mainGlobals x = some (some (.ref p))) (lk : K.lookup p = some ⟨.type "dict", none, .dict es n, #[]⟩) (ks : PySem.W.KeysLit w.params es.toList)
    (e1 : PySem.W.nsIn K p a = some (some (.int i t1))) (e2 : PySem.W.nsIn K p b = some (some (.int j t2))) (e3 : PySem.W.nsIn K p c = some (some (.int k t3))) (e4 : PySem.W.nsIn K p d = some (some (.int l t4))) : KDctAt K w mg x a b c d i j k l :=
  ⟨p, PySem.W.mg_of X G at_, ⟨es, n, _, lk, ks, e1, t1, rfl⟩, ⟨es, n, _, lk, ks, e2, t2, rfl⟩, ⟨es, n, _, lk, ks, e3, t3, rfl⟩, ⟨es, n, _, lk, ks, e4, t4, rfl⟩⟩
theorem clsT_at {K : PySem.W.Frag} {h : Heap} {mg : Str → Option Value} {x : Str} {C : Addr} (X : K.In h) (G : h.Ns mainGlobals mg) (a : PySem.W.nsIn K mainGlobals x = some (some (.ref C))) (pg : PySem.W.plainGet K C Str.empty = true) (hd : PySem.W.hasDictIn K C = true)
    (po : PySem.W.plainOver K C = true) (sa : PySem.W.findIn K (.ref C) "__setattr__" = some (some (.builtin "object.__setattr__"))) (mk : PySem.W.makesIn K C = true) (kc : PySem.W.keepIn K (.ref C) = true) : ClsT K mg x C :=
  ⟨PySem.W.mg_of X G a, ⟨pg, hd, po, sa⟩, mk, kc⟩
section
variable {X : Cx} {e : Expr} {ds : DS} {L : MS} {P : DK} {pos np : Pos}
/-- X[key], X a dict of the module -/
theorem dp_kd4 {x a b c d : Str} {i j k l : Int} (D : KDctAt X.K X.w X.mg x a b c d i j k l) (h : DP X e ds L fun y L1 => ∃ cs z v, y = .str cs ∧ z = (⟨cs.toArray⟩ : Str) ∧ (z, v) ∈ [(a, i), (b, j), (c, k), (d, l)] ∧ P (.int v) L1) (hg : Gl X x := by rfl) (hdb : (x == ("__debug__" : Str)) = false := by decide)
    (hs' : NoSl e := by intro _ _; rfl) : DP X (.Subscript (.Name x np) e pos) ds L P := .mk fun σ H B hs hl Q q => by
  obtain ⟨p, hp, k1, k2, k3, k4⟩ := D.ex
  refine PE.to (pe_ix ix_kdict (pe_glob hg hp (v := .ref p) rfl hdb) pe_w hs') (h.run σ H B hs hl _ fun y L1 v B1 H1 h1 e1 hl1 iy => ?_)
  obtain ⟨cs, z, v0, rfl, rfl, hm, hq⟩ := h1
  obtain rfl : v = V.str ⟨cs.toArray⟩ := iy
  simp only [List.mem_cons, List.not_mem_nil, or_false, Prod.mk.injEq] at hm
  rcases hm with ⟨ez, rfl⟩ | ⟨ez, rfl⟩ | ⟨ez, rfl⟩ | ⟨ez, rfl⟩
  · exact ⟨p, _, _, rfl, rfl, ez ▸ k1, q (.int v0) L1 _ B1 H1 hq e1 hl1 rfl⟩
  · exact ⟨p, _, _, rfl, rfl, ez ▸ k2, q (.int v0) L1 _ B1 H1 hq e1 hl1 rfl⟩
  · exact ⟨p, _, _, rfl, rfl, ez ▸ k3, q (.int v0) L1 _ B1 H1 hq e1 hl1 rfl⟩
  · exact ⟨p, _, _, rfl, rfl, ez ▸ k4, q (.int v0) L1 _ B1 H1 hq e1 hl1 rfl⟩
end
end Z
namespace Z
open PySem PySem.Spec PyProof.Rows L2
theorem dp_del {X : Cx} {e : Expr} {ds : DS} {L : MS} {P : DK} (h : DP X e ds L fun d L1 => ∃ a m L2, MDel L1 a m L2 ∧ P d L2) : DP X e ds L P := .mk fun σ H B hs hl Q q =>
  h.run σ H B hs hl Q fun d L1 v B1 H1 ⟨_, _, L2, s, p⟩ e1 hl1 iv => q d L2 v B1 H1 p e1 (hl1.forget s) iv
end Z
namespace Z
open PySem PySem.Spec PyProof.Rows L2
/-! ### sorted of cells: a dict's keys, its values -/
def cle (a b : Cell) : Prop := a.1 < b.1 ∨ (a.1 = b.1 ∧ a.2 ≤ b.2)
def pairH : Option HO → Cell
  | some (.tup [.int i, .int j]) => (i, j)
  | _ => (0, 0)
def adrV : Value → Addr
  | .ref a => a
  | _ => 0
abbrev TupC (H : Hp) (q : Addr) (c : Cell) : Prop := H q = some (.tup ((cK c).map kV))
theorem pairH_of {H : Hp} {q : Addr} {c : Cell} (h : TupC H q c) : pairH (H q) = c := by rw [h]; rfl
section
variable {X : Cx}
theorem sort_cells {pins : List (Addr × Obj)} {σ : L2.St} {H : Hp} {s : Shared} {Q : VK} {v : Value} (I : Inv X pins σ H s) (ps : List (Addr × Cell)) (hp : ∀ p ∈ ps, TupC H p.1 p.2) (hz : ps.length ≤ sizeLine)
    (hcol : ∀ R : List Value → Shared → Prop, (∀ h' tk, (∀ b o, s.heap.get? b = some o → h'.get? b = some o) → R (ps.map fun p => Value.ref p.1) { s with heap := h', toks := tk }) → wpAny (model X.prog X.w) X.A.in1 (collect v) R X.xe s)
    (q : ∀ (L' : List (Addr × Cell)) p, L'.Perm ps → (L'.map (·.2)).Pairwise cle → H p = none → Q (.ref p) (upd H p (.lst (L'.map fun x => V.ref x.1)))) :
    wpAny (model X.prog X.w) X.A (call (.builtin "sorted") [v]) (EP X pins σ Q) X.xe s := by
  refine sortC (ltv := fun _ v u => SrtO.lexB (pairH (H (adrV v))) (pairH (H (adrV u)))) (hcol _ fun h' tk kp => ?_) (args_sorted1 _)
  have J : Inv X pins σ H { s with heap := h', toks := tk } := I.kept kp
  refine ⟨by rw [List.length_map]; exact hz, SrtO.swo_lex _, fun h2 h1 a ha kk => ?_, fun out h2 o1 o2 nl => ?_⟩
  · refine SrtO.pairs_sortableO (k := fun v => pairH (H (adrV v))) (by omega) (fun u hu => ?_) fun o e => ?_
    · obtain ⟨p, hm, rfl⟩ := List.mem_map.mp hu
      have ht := hp p hm
      obtain ⟨_, its2, r2, o, ho, hc, n, hd⟩ := J.hok _ _ ht
      obtain ⟨u1, u2, rfl, ri, rj⟩ := vals2 r2
      obtain ⟨t1, rfl⟩ := ri
      obtain ⟨t2, rfl⟩ := rj
      show Srt.IsPair _ _ (pairH (H p.1)).1 (pairH (H p.1)).2
      rw [pairH_of ht]
      exact ⟨p.1, o, t1, t2, n, rfl, (kk _ _ ho).2, hc, hd⟩
    · have e' : some o = some (seqObj "list" (ps.map fun p => Value.ref p.1).toArray 0) := e.symm.trans ha
      cases e'
      intro c
      have c : Value.type "list" = Value.type "tuple" := c
      exact absurd (Value.type.inj c) (by decide)
  · have pm := o2.perm
    have e0 : (ps.map fun p => Value.ref p.1).map (fun v => (adrV v, pairH (H (adrV v)))) = ps := by
      rw [List.map_map]
      conv => rhs; rw [← List.map_id ps]
      refine List.map_congr_left fun p hm => ?_
      show (p.1, pairH (H p.1)) = p
      rw [pairH_of (hp p hm)]
    have pm2 : (out.map fun v => (adrV v, pairH (H (adrV v)))).Perm ps := by
      have := pm.map fun v => (adrV v, pairH (H (adrV v)))
      rwa [e0] at this
    have eo : ((out.map fun v => (adrV v, pairH (H (adrV v)))).map fun x => V.ref x.1) = out.map fun v => V.ref (adrV v) := by
      rw [List.map_map]
      rfl
    have hv : Vals (out.map fun v => V.ref (adrV v)) out := by
      have : ∀ u ∈ out, ∃ a, u = Value.ref a := fun u hu => by
        obtain ⟨p, _, rfl⟩ := List.mem_map.mp (pm.mem_iff.mp hu)
        exact ⟨p.1, rfl⟩
      clear o1 o2 nl pm pm2 eo
      induction out with
      | nil => exact .nil
      | cons u out ih =>
        obtain ⟨a, rfl⟩ := this u List.mem_cons_self
        exact .cons rfl (ih fun u hu => this u (List.mem_cons_of_mem _ hu))
    obtain ⟨ep, he'⟩ := nl.at'
    have hlen : (out.map fun v => V.ref (adrV v)).length ≤ sizeLine := by
      rw [List.length_map, pm.length_eq, List.length_map]
      exact hz
    have hn : H h'.objs.size = none := J.hok.fresh (Nat.le_refl _)
    refine ⟨.ref h'.objs.size, upd H h'.objs.size (.lst (out.map fun v => V.ref (adrV v))), J.laid (t' := tk) (fun _ _ e => nl.keep _ _ e) (Nat.le_refl _) ⟨hlen, _, ep, hv, he'⟩, rfl, ?_⟩
    rw [← eo]
    refine q _ _ pm2 ?_ hn
    rw [List.map_map, List.pairwise_map]
    refine o1.imp fun {x y} h => ?_
    have := SrtO.lexB_no.mp h
    show cle (pairH (H (adrV x))) (pairH (H (adrV y)))
    unfold cle
    omega
/-- the keys of a dict -/
def rSortKT : List V → Hp → VK → Prop := fun vs H Q => ∃ (a : Addr) (kvs : List (List L2.Key × V)), vs = [V.ref a] ∧ Rd H a (.dT kvs) ∧ (∀ e ∈ kvs, ∃ c : Cell, e.1 = cK c) ∧
  ∀ (L' : List (Addr × Cell)) p, (L'.map fun x => cK x.2).Perm (kvs.map (·.1)) → (∀ x ∈ L', TupC H x.1 x.2) → (L'.map (·.2)).Pairwise cle → H p = none → Q (.ref p) (upd H p (.lst (L'.map fun x => V.ref x.1)))
theorem kt_pairs {H : Hp} : ∀ {kvs : List (List Key × V)} {xs : List (List Key × Addr × Value)}, KT H kvs xs → (∀ e ∈ kvs, ∃ c : Cell, e.1 = cK c) → ∃ ps : List (Addr × Cell), ps.map (·.1) = xs.map (·.2.1) ∧ (ps.map fun p => cK p.2) = kvs.map (·.1) ∧ ∀ p ∈ ps, TupC H p.1 p.2
  | _, _, .nil, _ => ⟨[], rfl, rfl, fun _ h => nomatch h⟩
  | _, _, .cons (a := e) (b := y) h t, hk => by
    obtain ⟨ps, h1, h2, h3⟩ := kt_pairs t fun e he => hk e (List.mem_cons_of_mem _ he)
    obtain ⟨c, hc⟩ := hk e List.mem_cons_self
    refine ⟨(y.2.1, c) :: ps, by rw [List.map_cons, List.map_cons, h1], by rw [List.map_cons, List.map_cons, h2, hc], fun p hp => ?_⟩
    rcases List.mem_cons.mp hp with rfl | hp
    · have := h.2.1
      rw [hc] at this
      exact this
    · exact h3 p hp
theorem cr_sortKT (hc : X.calm = true) : CallR X (.builtin "sorted") rSortKT := by
  intro pins s σ H vs us Q I r h
  obtain ⟨a, kvs, rfl, ha, hk, q⟩ := h
  rw [Vals.ref1 r]
  obtain ⟨z, lo, xs, rel, dd⟩ := dt_rd I.hok ha
  obtain ⟨es, ep, hraw, hsz, hent⟩ := dd.raw
  obtain ⟨ps, p1, p2, p3⟩ := kt_pairs rel hk
  have hl : ps.length = es.size := by
    have := congrArg List.length p1
    rw [List.length_map, List.length_map] at this
    rw [this, hsz]
  refine sort_cells I ps p3 (by rw [hl, hsz, ← Paired.length rel]; exact z) (fun R hR => ?_) fun L' p pm pw hn => q L' p ?_ (fun x hx => p3 x (pm.mem_iff.mp hx)) pw hn
  · refine PySem.W.kdu_collect (A := X.A.in1) (KdlSrc.rawDict lo) (I.ok.hd hc) hraw (by rw [hsz, ← Paired.length rel]; exact z) fun h' tk acc kp items => ?_
    have e : acc.toList = ps.map fun p => Value.ref p.1 := by
      refine List.ext_getElem? fun i => ?_
      rw [Array.getElem?_toList, List.getElem?_map]
      by_cases hi : i < es.size
      · obtain ⟨y, h1, h2, h3, _⟩ := hent i hi
        have hia : i < acc.size := by rw [items.1]; exact hi
        obtain ⟨hi2, e1⟩ := items.2 i acc[i] (Array.getElem?_eq_getElem hia)
        have e2 : (ps.map (·.1))[i]? = some y.2.1 := by rw [p1, List.getElem?_map, h1]; rfl
        rw [List.getElem?_map] at e2
        obtain ⟨p, hp1, hp2⟩ := Option.map_eq_some_iff.mp e2
        rw [Array.getElem?_eq_getElem hia, e1, h2, hp1]
        show _ = some (Value.ref p.1)
        rw [hp2]
      · rw [Array.getElem?_eq_none (by rw [items.1]; omega), List.getElem?_eq_none (by omega)]
        rfl
    rw [e]
    exact hR h' tk kp
  · have := pm.map fun p => cK p.2
    rw [p2] at this
    exact this
/-! the view of a dict's values -/
def valuesO (p d : Addr) : HO := .ext fun h => h.IsValuesView p d
theorem valuesO_ok {P : Program} {w : World} {H : Hp} {h : Heap} {p d : Addr} (e : h.get? p = some { cls := .type "dict_values", data := .fields #[.ref d] }) : ObjOk P w H h p (valuesO p d) :=
  ⟨⟨_, e, rfl, rfl⟩, ⟨_, e⟩, fun h1 h2 x k => let ⟨o, ho, r⟩ := x; ⟨o, k o ho, r⟩⟩
def tVals (td : TE) : TE := fun σ H Q => td σ H fun x H1 => ∃ a kvs, x = .ref a ∧ Rd H1 a (.dT kvs) ∧ ∀ p, H1 p = none → Q (.ref p) (upd H1 p (valuesO p a))
theorem pe_valsT {o : Expr} {td : TE} {apos cpos : Pos} (ho : PE X o td) (hbase : attributeBase o "values" X.env (eval o X.env) = eval o X.env := by rfl) (hline : (apos.endLine == cpos.line) = true := by rfl) : PE X (.Call (.Attribute o "values" apos) [] [] cpos) (tVals td) := by
  refine ⟨fun pins s σ H Q I h => ?_⟩
  refine wpAny_Call_method0_late hbase hline (thn (ho.run pins s σ H _ I h) fun v s1 ⟨x, H1, I1, r1, a, kvs, ex, hd, q1⟩ => ?_)
  subst ex
  obtain rfl : v = Value.ref a := r1
  obtain ⟨t1, t2, lo⟩ := isD_at I1 (.inr ⟨kvs, hd⟩)
  obtain ⟨z, _, xs, rel, dd⟩ := dt_rd I1.hok hd
  obtain ⟨es, ep, hraw, _⟩ := dd.raw
  refine ⟨"dict", "dict.values", PySem.F.plainAttrs_dict, PySem.F.slot_dict_values, PySem.F.type_dict_values, t1, t2, Calls.callWith_builtin rfl (PySem.evalArgs_none ?_)⟩
  refine call_meetsIn PySem.F.slot_dict_values t1 PySem.F.entry_dict_values (PySem.F.args_dict_values_1 _) (meets_dict_values_raw a lo) ⟨⟨es, ep, hraw⟩, ?_⟩
  exact ⟨.ref s1.heap.objs.size, upd H1 s1.heap.objs.size (valuesO s1.heap.objs.size a), I1.laid (t' := s1.toks) (fun b u e => Heap.get?_push_of_some _ e) (Nat.le_refl _) (valuesO_ok (Heap.get?_push_size _ rfl)), rfl, q1 _ (I1.hok.fresh (Nat.le_refl _))⟩
def rSortVT : List V → Hp → VK → Prop := fun vs H Q => ∃ (v a : Addr) (kvs : List (List L2.Key × V)) (ps : List (Addr × Cell)), vs = [V.ref v] ∧ H v = some (valuesO v a) ∧ Rd H a (.dT kvs) ∧ kvs.map (·.2) = ps.map (fun p => V.ref p.1) ∧ (∀ p ∈ ps, TupC H p.1 p.2) ∧
  ∀ (L' : List (Addr × Cell)) p, L'.Perm ps → (L'.map (·.2)).Pairwise cle → H p = none → Q (.ref p) (upd H p (.lst (L'.map fun x => V.ref x.1)))
theorem kt_vals {H : Hp} {kvs : List (List Key × V)} {xs : List (List Key × Addr × Value)} (rel : KT H kvs xs) {ps : List (Addr × Cell)} (h : kvs.map (·.2) = ps.map (fun p => V.ref p.1)) : (xs.map fun x => x.2.2) = ps.map fun p => Value.ref p.1 := by
  induction rel generalizing ps with
  | nil =>
    cases ps with
    | nil => rfl
    | cons p ps => cases h
  | cons h1 t ih =>
    cases ps with
    | nil => cases h
    | cons p ps =>
      rw [List.map_cons, List.map_cons] at h
      injection h with e1 e2
      rw [List.map_cons, List.map_cons, ih e2]
      have := h1.2.2
      rw [e1] at this
      have this : _ = Value.ref p.1 := this
      rw [this]
theorem cr_sortVT (hc : X.calm = true) : CallR X (.builtin "sorted") rSortVT := by
  intro pins s σ H vs us Q I r h
  obtain ⟨v, a, kvs, ps, rfl, hv, ha, hk, hp, q⟩ := h
  rw [Vals.ref1 r]
  obtain ⟨z, lo, xs, rel, dd⟩ := dt_rd I.hok ha
  obtain ⟨es, ep, hraw, hsz, hent⟩ := dd.raw
  have hview : s.heap.IsValuesView v a := (I.hok v _ hv).1
  have hl2 := kt_vals rel hk
  have hl : ps.length = es.size := by
    have := congrArg List.length hl2
    rw [List.length_map, List.length_map] at this
    rw [← this, hsz]
  refine sort_cells I ps hp (by rw [hl, hsz, ← Paired.length rel]; exact z) (fun R hR => ?_) q
  refine PySem.W.kdu_collect (A := X.A.in1) (KdlSrc.rawValues (r := v) (d := a)) (I.ok.hd hc) ⟨hview, hraw⟩ (by rw [hsz, ← Paired.length rel]; exact z) fun h' tk acc kp items => ?_
  have e : acc.toList = ps.map fun p => Value.ref p.1 := by
    refine List.ext_getElem? fun i => ?_
    rw [Array.getElem?_toList]
    by_cases hi : i < es.size
    · obtain ⟨y, h1, h2, h3, _⟩ := hent i hi
      have hia : i < acc.size := by rw [items.1]; exact hi
      obtain ⟨hi2, e1⟩ := items.2 i acc[i] (Array.getElem?_eq_getElem hia)
      rw [Array.getElem?_eq_getElem hia, e1, h3, ← hl2, List.getElem?_map, h1]
      rfl
    · rw [Array.getElem?_eq_none (by rw [items.1]; omega), List.getElem?_eq_none (by rw [List.length_map]; omega)]
  rw [e]
  exact hR h' tk kp
end
section
variable {K : PySem.W.Frag} {B H : Hp} {L : MS}
theorem Hs.adoptL : ∀ {ps : List (Addr × Cell)} {B : Hp}, Hs K B L H → (∀ p ∈ ps, TupC H p.1 p.2) → ∃ B', Same B B' ∧ Hs K B' L H ∧ IsL K B' (ps.map fun p => cD p.2) (ps.map fun p => V.ref p.1)
  | [], B, h, _ => ⟨B, Same.refl B, h, rfl⟩
  | p :: ps, B, h, hp => by
    obtain ⟨sb, h2⟩ := h.adopt (hp p List.mem_cons_self)
    obtain ⟨B', s2, h3, h4⟩ := Hs.adoptL (ps := ps) h2 fun x hx => hp x (List.mem_cons_of_mem _ hx)
    exact ⟨B', sb.trans s2, h3, _, _, rfl, (is_cD (c := p.2) (upd_same (H := B) (a := p.1))).mono s2, h4⟩
theorem isL_cells : ∀ {cs : List Cell} {vs : List V}, IsL K B (cs.map cD) vs → ∃ ps : List (Addr × Cell), vs = ps.map (fun p => V.ref p.1) ∧ ps.map (·.2) = cs ∧ ∀ p ∈ ps, TupC B p.1 p.2
  | [], _, h => ⟨[], h, rfl, fun _ h => nomatch h⟩
  | c :: cs, _, ⟨v, r, rfl, i1, i2⟩ => by
    obtain ⟨a, rfl, ha⟩ := cD_is i1
    obtain ⟨ps, rfl, h2, h3⟩ := isL_cells i2
    refine ⟨(a, c) :: ps, rfl, by rw [List.map_cons, h2], fun p hp => ?_⟩
    rcases List.mem_cons.mp hp with rfl | hp
    · exact ha
    · exact h3 p hp
theorem cK_perm {a b : List Cell} (h : (a.map cK).Perm (b.map cK)) : a.Perm b := by
  have e : ∀ l : List Cell, (l.map cK).map (fun ks => match ks with
    | [.inl i, .inl j] => (i, j)
    | _ => ((0, 0) : Cell)) = l := fun l => by
    rw [List.map_map]
    conv => rhs; rw [← List.map_id l]
    exact List.map_congr_left fun c _ => rfl
  have := h.map (fun ks => match ks with
    | [.inl i, .inl j] => (i, j)
    | _ => ((0, 0) : Cell))
  rwa [e, e] at this
end
section
variable {X : Cx} {e : Expr} {ds : DS} {L : MS} {P : DK} {pos p apos mpos : Pos}
/-- sorted(d), d a dict that may change or not -/
theorem dp_sortK (hm : X.mg "sorted" = none) (h : DP X e ds L fun x L1 => ∃ m, (x = mD m ∨ ∃ a, x = .adr a ∧ ML L1 a (mM m)) ∧ ∀ cs : List Cell, cs.Perm (m.map (·.1)) → cs.Pairwise cle → P (.lst (cs.map cD)) L1) (hc : X.calm = true := by rfl) (hg : Gl X "sorted" := by rfl)
    (he : starEach (e :: []) X.env = (false, eval e X.env) :: starEach [] X.env := by rfl) (hpl : (backTo pos (starEach [] X.env)).any (·.1) = false := by rfl) : DP X (.Call (.Name "sorted" p) [e] [] pos) ds L P := .mk fun σ H B hs hl Q q =>
  PE.to (pe_callB (cr_sortKT hc) hg hm (by decide +kernel) (pa_cons (hs := he) pe_w pa_nil) (he := he) (hpl := hpl)) (h.run σ H B hs hl _ fun d L1 v B1 H1 h1 e1 hl1 iv => by
    obtain ⟨m, hx, p⟩ := h1
    obtain ⟨a, u, rfl, hu, r⟩ : ∃ a u, v = .ref a ∧ Rd H1 a (.dT u) ∧ RM X.K B1 m u := by
      rcases hx with rfl | ⟨a, rfl, hml⟩
      · obtain ⟨a, ob, u, rfl, ha, r⟩ := is_mD iv
        exact ⟨a, u, rfl, .inr ⟨ob, hl1.sub _ _ ha⟩, r⟩
      · obtain rfl : v = V.ref a := iv
        obtain ⟨u, hu, r⟩ := hl1.mm hml
        exact ⟨a, u, rfl, .inl hu, r⟩
    obtain ⟨vs, rfl, h2⟩ := r.is
    have hl2 := h2.length
    rw [List.length_map] at hl2
    have ek : (((m.map fun e => cK e.1).zip vs).map (·.1)) = (m.map (·.1)).map cK := by
      rw [List.map_fst_zip (by rw [List.length_map, hl2]; exact Nat.le_refl _), List.map_map]
      rfl
    refine ⟨a, _, rfl, hu, fun x hx => ?_, fun L' z pm ht pw hz => ?_⟩
    · obtain ⟨y, hy, e⟩ := List.mem_map.mp (List.of_mem_zip hx).1
      exact ⟨y.1, e.symm⟩
    · rw [ek] at pm
      have pm : ((L'.map (·.2)).map cK).Perm ((m.map (·.1)).map cK) := by rw [List.map_map]; exact pm
      obtain ⟨B', sb, hl3, il⟩ := hl1.adoptL ht
      have il : IsL X.K B' ((L'.map (·.2)).map cD) (L'.map fun p => V.ref p.1) := by rw [List.map_map]; exact il
      exact Fin.lst (fun d L2 z2 B2 H2 p2 e2 => q d L2 z2 B2 H2 p2 ((e1.trans sb).trans e2)) hl3 (p _ (cK_perm pm) pw) il hz)
/-- sorted(d.values()), d a frozen dict of cells -/
theorem dp_sortV (hm : X.mg "sorted" = none) (h : DP X e ds L fun x L1 => ∃ m vs, x = mD m ∧ m.map (·.2) = vs.map cD ∧ ∀ cs : List Cell, cs.Perm vs → cs.Pairwise cle → P (.lst (cs.map cD)) L1) (hc : X.calm = true := by rfl) (hg : Gl X "sorted" := by rfl)
    (hb : attributeBase e "values" X.env (eval e X.env) = eval e X.env := by rfl) (hline : (apos.endLine == mpos.line) = true := by rfl)
    (he : starEach ((.Call (.Attribute e "values" apos) [] [] mpos) :: []) X.env = (false, eval (.Call (.Attribute e "values" apos) [] [] mpos) X.env) :: starEach [] X.env := by rfl) (hpl : (backTo pos (starEach [] X.env)).any (·.1) = false := by rfl) : DP X (.Call (.Name "sorted" p) [.Call (.Attribute e "values" apos) [] [] mpos] [] pos) ds L P := .mk fun σ H B hs hl Q q =>
  PE.to (pe_callB (cr_sortVT hc) hg hm (by decide +kernel) (pa_cons (hs := he) (pe_valsT pe_w hb hline) pa_nil) (he := he) (hpl := hpl)) (h.run σ H B hs hl _ fun d L1 v B1 H1 h1 e1 hl1 iv => by
    obtain ⟨m, cs, rfl, hv, p⟩ := h1
    obtain ⟨a, ob, u, rfl, ha, r⟩ := is_mD iv
    obtain ⟨vs, rfl, h2⟩ := r.is
    rw [hv] at h2
    have hl2 := h2.length
    rw [List.length_map] at hl2
    have hl4 : m.length = cs.length := by
      have := congrArg List.length hv
      rwa [List.length_map, List.length_map] at this
    obtain ⟨ps, rfl, e2, ht⟩ := isL_cells h2
    refine ⟨a, _, rfl, .inr ⟨ob, hl1.sub _ _ ha⟩, fun w hw => ?_⟩
    have hl5 := hl1.new (o := valuesO w a) hw
    refine ⟨w, a, _, ps, rfl, upd_same, .inr ⟨ob, by rw [upd_ne (ne_of_none (hl1.sub _ _ ha) hw)]; exact hl1.sub _ _ ha⟩, ?_, fun p hp => ?_, fun L' z pm pw hz => ?_⟩
    · rw [List.map_snd_zip (by rw [List.length_map, List.length_map]; rw [List.length_map] at hl2; omega)]
    · have := hl1.sub _ _ (ht p hp)
      show upd H1 w (valuesO w a) p.1 = _
      rw [upd_ne (ne_of_none this hw)]
      exact this
    · have ht2 : ∀ x ∈ L', TupC (upd H1 w (valuesO w a)) x.1 x.2 := fun x hx => by
        have := hl1.sub _ _ (ht x (pm.mem_iff.mp hx))
        show upd H1 w (valuesO w a) x.1 = _
        rw [upd_ne (ne_of_none this hw)]
        exact this
      obtain ⟨B', sb, hl3, il⟩ := hl5.2.adoptL ht2
      have il : IsL X.K B' ((L'.map (·.2)).map cD) (L'.map fun p => V.ref p.1) := by rw [List.map_map]; exact il
      have pm2 : (L'.map (·.2)).Perm cs := by
        have := pm.map (·.2)
        rwa [e2] at this
      exact Fin.lst (fun d L2 z2 B2 H2 p2 e3 => q d L2 z2 B2 H2 p2 (((e1.trans hl5.1).trans sb).trans e3)) hl3 (p _ pm2 pw) il hz)
end
end Z
namespace Z
open PySem PySem.Spec PyProof.Rows L2
section
variable {X : Cx} {elt iter : Expr} {ifs : List Expr} {sp : Scope} {ds : DS} {L : MS} {D : DEnds} {pos spos py p1 p2 pt : Pos} {i j l kt : Nat} {x z y : Str} {ds' : Dt → DS}
/-- name = [.. for x, z in ..], nothing changed -/
theorem ds_setLs2 (hset : ∀ d, SetAt ds l d (ds' d)) (own : List (Str × Nat)) (ok : BlkOk X.N X.env.scope sp own) (hN : X.N.Nodup) (hg : ∀ s H C cl fp, PG (bX X sp s H C cl fp) (.Tuple [.Name x p1, .Name z p2] kt pt) (gPair X.K i j))
    (hsw : swapsWith (.ListComp elt [⟨.Tuple [.Name x p1, .Name z p2] kt pt, iter, ifs, 0⟩] sp pos) (some (.Name y py)) spos.line X.env = pure true) (h : DLs X elt (.Tuple [.Name x p1, .Name z p2] kt pt) iter ifs sp (gPair X.K i j) [i, j] ds L fun ys L1 => D.nx (ds' (.lst ys)) L1)
    (hy : X.N[l]? = some y := by rfl) (hyl : X.env.scope.names.lookup y = some .local := by rfl) (ho : own.map (·.2) = [i, j] := by rfl) (hc : X.calm = true := by rfl) (hs : ∀ x, foldedSetIterable iter X.env x = pure x := by intro _; rfl) :
    DSt X (.Assign [.Name y py] (.ListComp elt [⟨.Tuple [.Name x p1, .Name z p2] kt pt, iter, ifs, 0⟩] sp pos) spos) ds L D := .mk fun σ H B E hs0 hl0 m => by
  refine PS.to (ps_setLc (i := l) (tt := ttB X sp ifs) (te := teB X sp elt) hc hN hy hyl hsw pi_w ok hg (fun s H C cl fp => ⟨fun pins s1 σ H Q I h => h s _ C cl fp pins s1 I⟩) (fun s H C cl fp => ⟨fun pins s1 σ H Q I h => h s _ C cl fp pins s1 I⟩) hs) ?_
  rw [ho]
  refine ls_read hs0 hl0 h fun ys L' a B2 H2 p e hl => ?_
  obtain ⟨ws, hD, iv⟩ := hl.lst ML.hd
  obtain ⟨sb, hl5⟩ := hl.freeze MDel.hd hD
  refine m.nx (ds' (.lst ys)) L' _ _ H2 p (e.trans sb) ?_ hl5
  rw [← hset (.lst ys)]
  exact (hs0.mono (e.trans sb)).set l ⟨a, ws, rfl, upd_same, iv.mono sb⟩
end
/-! ### enumerate of a list; min, max of a list of ints -/
theorem yields_enumL {K : PySem.W.Frag} {B : Hp} {a : Addr} {xs : List Dt} {vs : List V} (ha : SqL K B a vs) (h : IsL K B xs vs) : Yields K B (Ite K a) (enm xs) := fun i B' H' L' e hl => ⟨fun d q => by
  obtain ⟨x, hx, rfl⟩ := enm_get q
  obtain ⟨v, e1, e2⟩ := h.get hx
  have e3 : SqL K H' a vs := (e.trans hl.sub).seq ha
  refine ⟨⟨vs, v, e3, e1⟩, fun u H2 hy => ?_⟩
  obtain ⟨T, y, rfl, hT, rfl, hy⟩ := hy
  have e4 := hy vs e3
  rw [e1] at e4
  obtain rfl := Option.some.inj e4
  obtain ⟨sb, h2⟩ := hl.new (o := .tup [.int (i : Nat), v]) hT
  exact ⟨_, sb, h2, T, _, rfl, upd_same, ⟨_, _, rfl, rfl, _, _, rfl, (e2.mono e).mono sb, rfl⟩⟩, fun hi => ⟨vs, (e.trans hl.sub).seq ha, by rw [h.length, ← enm_len]; exact hi⟩⟩
section
variable {X : Cx} {e : Expr} {ds : DS} {L : MS} {pos p : Pos}
theorem di_enumL {P : List Dt → MS → Prop} {elts : List Expr} {kk : Nat} {tpos : Pos} (hm : X.mg "enumerate" = none) (h : DP X e ds L fun x L1 => ∃ xs, x = .lst xs ∧ P (enm xs) L1) (hg : Gl X "enumerate" := by rfl) (hs' : starEach [e] X.env = [(false, eval e X.env)] := by rfl) :
    DI X (.Tuple elts kk tpos) (.Call (.Name "enumerate" p) [e] [] pos) ds L P := .mk fun σ H B hs hl R q => by
  refine PI.to (pi_enum hg hm (pa_cons pe_w pa_nil hs') hs') (h.run σ H B hs hl _ fun x L1 v B1 H1 hp e1 hl1 ix => ?_)
  obtain ⟨xs, rfl, p⟩ := hp
  obtain ⟨a, us, rfl, ha, ia⟩ := ix
  exact ⟨a, us, rfl, SqL.of (hl1.sub _ _ ha), q _ L1 _ B1 H1 p e1 hl1 (yields_enumL (SqL.of ha) ia)⟩
theorem dp_minI {P : DK} (hm : X.mg "min" = none) (h : DP X e ds L fun x L1 => ∃ ns : List Int, x = .lst (ns.map Dt.int) ∧ 0 < ns.length ∧ ∀ m, m ∈ ns → (∀ y, y ∈ ns → m ≤ y) → P (.int m) L1) (hc : X.calm = true := by rfl) (hg : Gl X "min" := by rfl)
    (he : starEach (e :: []) X.env = (false, eval e X.env) :: starEach [] X.env := by rfl) (hpl : (backTo pos (starEach [] X.env)).any (·.1) = false := by rfl) : DP X (.Call (.Name "min" p) [e] [] pos) ds L P := .mk fun σ H B hs hl Q q =>
  PE.to (pe_callB (cr_min hc) hg hm (by decide +kernel) (pa_cons (hs := he) pe_w pa_nil) (he := he) (hpl := hpl)) (h.run σ H B hs hl _ fun d L1 v B1 H1 h1 e1 hl1 iv => by
    obtain ⟨ns, rfl, h0, p⟩ := h1
    obtain ⟨a, us, rfl, ha, ia⟩ := iv
    have e := ia.ints
    subst e
    exact ⟨a, ns, rfl, SqL.of (hl1.sub _ _ ha), h0, fun m h2 h3 => q (.int m) L1 _ B1 H1 (p m h2 h3) e1 hl1 rfl⟩)
theorem dp_maxI {P : DK} (hm : X.mg "max" = none) (h : DP X e ds L fun x L1 => ∃ ns : List Int, x = .lst (ns.map Dt.int) ∧ 0 < ns.length ∧ ∀ m, m ∈ ns → (∀ y, y ∈ ns → y ≤ m) → P (.int m) L1) (hc : X.calm = true := by rfl) (hg : Gl X "max" := by rfl)
    (he : starEach (e :: []) X.env = (false, eval e X.env) :: starEach [] X.env := by rfl) (hpl : (backTo pos (starEach [] X.env)).any (·.1) = false := by rfl) : DP X (.Call (.Name "max" p) [e] [] pos) ds L P := .mk fun σ H B hs hl Q q =>
  PE.to (pe_callB (cr_max hc) hg hm (by decide +kernel) (pa_cons (hs := he) pe_w pa_nil) (he := he) (hpl := hpl)) (h.run σ H B hs hl _ fun d L1 v B1 H1 h1 e1 hl1 iv => by
    obtain ⟨ns, rfl, h0, p⟩ := h1
    obtain ⟨a, us, rfl, ha, ia⟩ := iv
    have e := ia.ints
    subst e
    exact ⟨a, ns, rfl, SqL.of (hl1.sub _ _ ha), h0, fun m h2 h3 => q (.int m) L1 _ B1 H1 (p m h2 h3) e1 hl1 rfl⟩)
end
end Z
namespace Z
open PySem PySem.Spec PyProof.Rows L2
/-! ### an int in a tuple of ints -/
def inIK (neg : Bool) : K2 := fun x y L P => ∃ (i : Int) (ns : List Int), x = .int i ∧ y = .tup (ns.map Dt.int) ∧ P (.bl (if neg = true then !decide (i ∈ ns) else decide (i ∈ ns))) L
theorem inV_ints (i : Int) : ∀ ns : List Int, inV (V.int i) (ns.map V.int) = decide (i ∈ ns)
  | [] => rfl
  | n :: ns => by
    have ih := inV_ints i ns
    unfold inV at ih ⊢
    rw [List.map_cons, List.any_cons, ih]
    have e : eqV (V.int n) (V.int i) = decide (n = i) := by
      show (n == i) = _
      by_cases q : n = i <;> simp [q]
    rw [e]
    by_cases q : n = i
    · subst q
      simp
    · have q2 : ¬ i = n := fun z => q z.symm
      simp [q, q2]
theorem flat_ints (ns : List Int) : (ns.map V.int).all flatV = true := by
  induction ns with
  | nil => rfl
  | cons n ns ih => rw [List.map_cons, List.all_cons, ih]; rfl
theorem kr_inI {K : PySem.W.Frag} (neg : Bool) : KR2 K (rIn K neg) (inIK neg) := by
  intro B H L x y v u Q P hl ix iy hk q
  obtain ⟨i, ns, rfl, rfl, p⟩ := hk
  obtain rfl : v = V.int i := ix
  obtain ⟨a, us, rfl, ha, ia⟩ := iy
  have e := ia.ints
  subst e
  refine ⟨a, _, rfl, .inr (SqT.of (hl.sub _ _ ha)), rfl, flat_ints ns, ?_⟩
  rw [inV_ints]
  cases neg with
  | false => exact Fin.here q hl p rfl
  | true => exact Fin.here q hl p rfl
section
variable {X : Cx} {a b : Expr} {ds : DS} {L : MS} {PB : Bool → MS → Prop} {pos : Pos}
theorem dt_inI (h : DP X a ds L fun x L1 => DP X b ds L1 fun y L2 => inIK false x y L2 fun d L3 => ∃ c, d = .bl c ∧ PB c L3) (hm : behindInMarks .In b = false := by rfl) : DT X (.Compare a [.In] [b] pos) ds L PB := dt_cmp op_in_seq (kr_inI false) h hm
theorem dt_notInI (h : DP X a ds L fun x L1 => DP X b ds L1 fun y L2 => inIK true x y L2 fun d L3 => ∃ c, d = .bl c ∧ PB c L3) (hm : behindInMarks .NotIn b = false := by rfl) : DT X (.Compare a [.NotIn] [b] pos) ds L PB := dt_cmp op_notIn_seq (kr_inI true) h hm
/-- x in a list of what may be compared -/
def inDK : K2 := fun x y L P => ∃ ds, y = .lst ds ∧ OkE x ∧ OkE y ∧ ∀ c, (c = true ↔ x ∈ ds) → P (.bl c) L
theorem kr_inD {K : PySem.W.Frag} : KR2 K (rInD K) inDK := by
  intro B H L x y v u Q P hl ix iy hk q
  obtain ⟨es, rfl, h1, h2, p⟩ := hk
  have hy := h2.dp hl.sub iy
  have sh := h2.shaped
  have e0 : pd (.lst es) = .list (es.map pd) := by rw [pd, pdL_map]
  rw [e0] at hy sh
  refine ⟨_, _, h1.dp hl.sub ix, hy, h1.shaped, sh, Fin.here q hl (p _ ?_) rfl⟩
  rw [List.any_map, List.any_eq_true]
  obtain ⟨n, hn, hz⟩ := h2
  have hz2 := okE_lst hz
  obtain ⟨k, rfl, hz3⟩ := hz2
  constructor
  · rintro ⟨z, hz4, e⟩
    have := (OkE.eqv ⟨k, by omega, hz3 z hz4⟩ h1).mp e
    rw [← this]
    exact hz4
  · intro hm
    exact ⟨x, hm, (OkE.eqv ⟨k, by omega, hz3 x hm⟩ h1).mpr rfl⟩
theorem dt_inD {k : Nat} (hr : Room k X.A) (h : DP X a ds L fun x L1 => DP X b ds L1 fun y L2 => inDK x y L2 fun d L3 => ∃ c, d = .bl c ∧ PB c L3) (hm : behindInMarks .In b = false := by rfl) : DT X (.Compare a [.In] [b] pos) ds L PB := dt_cmp (op_inD (show X.A.units + 65 < cLine by have := hr.un; omega)) kr_inD h hm
end
end Z
namespace Z
open PySem PySem.Spec PyProof.Rows L2
/-! ### {'..': i, ..}[text] -/
theorem upd_twice (H : Hp) (p : Addr) (a b : HO) : upd (upd H p a) p b = upd H p b := by
  funext q
  by_cases e : q = p
  · subst e
    rw [upd_same, upd_same]
  · rw [upd_ne e, upd_ne e, upd_ne e]
section
variable {X : Cx} {e : Expr} {ds : DS} {L : MS} {P : DK} {pos dpos : Pos}
theorem dp_disp4 {a b c d : Str} {i j k l : Int} {t1 t2 t3 t4 t5 t6 t7 t8 : Nat} {p1 p2 p3 p4 p5 p6 p7 p8 : Pos} {r : Nat} (hr : Room r X.A)
    (hv : ∀ q ∈ [(a, i), (b, j), (c, k), (d, l)], valV (mergeK [] [(Sum.inr a, V.int i), (Sum.inr b, V.int j), (Sum.inr c, V.int k), (Sum.inr d, V.int l)]) (Sum.inr q.1) = some (V.int q.2))
    (h : DP X e ds L fun y L1 => ∃ cs v, y = .str cs ∧ ((⟨cs.toArray⟩ : Str), v) ∈ [(a, i), (b, j), (c, k), (d, l)] ∧ P (.int v) L1) (hs' : NoSl e := by intro _ _; rfl) :
    DP X (.Subscript (.Dict [some (.Constant (.str a) t1 p1), some (.Constant (.str b) t2 p2), some (.Constant (.str c) t3 p3), some (.Constant (.str d) t4 p4)] [.Constant (.int i) t5 p5, .Constant (.int j) t6 p6, .Constant (.int k) t7 p7, .Constant (.int l) t8 p8] dpos) e pos) ds L P := .mk fun σ H B hs hl Q q => by
  refine PE.to (pe_dget (hu_of hr) (pe_disp (pps_cons pe_str pe_int <| pps_cons pe_str pe_int <| pps_cons pe_str pe_int <| pps_cons pe_str pe_int pps_nil) rfl rfl (by simp) (by simp)) pe_w hs') ?_
  intro p hp
  refine ⟨upd_same, [(Sum.inr a, V.int i), (Sum.inr b, V.int j), (Sum.inr c, V.int k), (Sum.inr d, V.int l)], rfl, by simp, ?_⟩
  rw [upd_twice]
  obtain ⟨sb, hl2⟩ := hl.new (o := .dK (mergeK [] [(Sum.inr a, V.int i), (Sum.inr b, V.int j), (Sum.inr c, V.int k), (Sum.inr d, V.int l)])) hp
  refine h.run σ _ _ (hs.mono sb) hl2 _ fun y L1 v B1 H1 h1 e1 hl1 iy => ?_
  obtain ⟨cs, n, rfl, hm, hq⟩ := h1
  obtain rfl : v = V.str ⟨cs.toArray⟩ := iy
  refine ⟨p, V.int n, rfl, .inl ⟨_, .inr ⟨cs.toArray⟩, .inl (hl1.sub _ _ (e1 _ _ upd_same)), rfl, (hv _ hm).symm⟩, ?_⟩
  exact q (.int n) L1 _ B1 H1 hq (sb.trans e1) hl1 rfl
end
end Z
namespace Z
open PySem PySem.Spec PyProof.Rows L2
/-! ### sum of a tuple of ints -/
section
variable {X : Cx}
def rSumT (K : PySem.W.Frag) : List V → Hp → VK → Prop := fun vs H Q => ∃ (a : Addr) (ns : List Int), vs = [V.ref a] ∧ SqT K H a (ns.map V.int) ∧ Q (.int ns.sum) H
theorem cr_sumT (hc : X.calm = true) : CallR X (.builtin "sum") (rSumT X.K) := by
  intro pins s σ H vs us Q I r h
  obtain ⟨a, ns, rfl, hs, q⟩ := h
  obtain ⟨its, rv, ht, _⟩ := I.tuple hs
  rw [Vals.ref1 r]
  have hi : IntsAre its ns := rv.ints
  obtain ⟨xs, e⟩ := hi.allInts.items
  have hn : numsOf (intItems xs).toList = ns := by rw [← e]; exact hi.numsOf
  rw [nums_intItems] at hn
  rw [e] at ht
  have ht : s.heap.IsTuple a (intItems xs) := ht
  have hlt : a < s.heap.objs.size := by
    obtain ⟨o, ho, _⟩ := ht
    exact Heap.lt_size ho
  refine call_sum_walkG (wpAny_pyIter_tuple ht ?_)
  refine ⟨_, _, _, _, _, _, numAt xs, rfl, Walks.tuple (A := X.A.in1) (I.ok.hd hc) s.heap.objs.size a (Nat.ne_of_lt hlt) (intItems xs), ⟨⟨_, Heap.get?_push_size _ rfl, rfl, rfl⟩, ?_⟩, fun b hb => ?_, (fun _ _ => intItems_at), fun h' tk t' hk => ?_⟩
  · obtain ⟨o, ho, hr⟩ := ht
    exact ⟨o, Heap.get?_push_of_some _ ho, hr⟩
  · show b < (s.heap.push _).objs.size
    rw [Heap.size_push]
    rcases List.mem_cons.mp hb with e | hb
    · rw [e]
      exact Nat.lt_succ_self _
    · rw [List.mem_singleton.mp hb]
      exact Nat.lt_succ_of_lt hlt
  · have q2 : preSum (numAt xs) (intItems xs).size = ns.sum := by
      rw [preSum_eq, List.take_of_length_le (by simp [intItems]), hn]
    rw [q2]
    refine ⟨.int _, H, I.kept (t' := tk) fun b u e => hk b u (fun hm => ?_) (Heap.get?_push_of_some _ e), ⟨_, rfl⟩, q⟩
    rw [List.mem_singleton.mp hm] at e
    exact absurd (Heap.lt_size e) (Nat.lt_irrefl _)
theorem dp_sumT {e : Expr} {ds : DS} {L : MS} {pos p : Pos} {P : DK} (hm : X.mg "sum" = none) (h : DP X e ds L fun x L1 => ∃ ns : List Int, x = .tup (ns.map Dt.int) ∧ P (.int ns.sum) L1) (hc : X.calm = true := by rfl) (hg : Gl X "sum" := by rfl)
    (he : starEach (e :: []) X.env = (false, eval e X.env) :: starEach [] X.env := by rfl) (hpl : (backTo pos (starEach [] X.env)).any (·.1) = false := by rfl) : DP X (.Call (.Name "sum" p) [e] [] pos) ds L P := .mk fun σ H B hs hl Q q =>
  PE.to (pe_callB (cr_sumT hc) hg hm (by decide +kernel) (pa_cons (hs := he) pe_w pa_nil) (he := he) (hpl := hpl)) (h.run σ H B hs hl _ fun d L1 v B1 H1 h1 e1 hl1 iv => by
    obtain ⟨ns, rfl, p⟩ := h1
    obtain ⟨a, us, rfl, ha, ia⟩ := iv
    have e := ia.ints
    subst e
    exact ⟨a, ns, rfl, SqT.of (hl1.sub _ _ ha), q (.int ns.sum) L1 _ B1 H1 p e1 hl1 rfl⟩)
end
end Z
namespace SSZ
open PySem PySem.Spec PyProof.Rows
/-- the one sign as a text -/
def sg (c : Nat) : Str := ⟨#[c]⟩
theorem sg_inj {a b : Nat} (h : sg a = sg b) : a = b := by
  have := congrArg Str.cps h
  simpa [sg] using this
def addC (zs : List Nat) (c : Nat) : List Nat := if c ∈ zs then zs else zs ++ [c]
theorem addC_mem {zs : List Nat} {c d : Nat} : d ∈ addC zs c ↔ d ∈ zs ∨ d = c := by
  unfold addC
  split
  · constructor
    · exact Or.inl
    · rintro (h | rfl)
      · exact h
      · assumption
  · simp
theorem addC_nodup {zs : List Nat} {c : Nat} (h : zs.Nodup) : (addC zs c).Nodup := by
  unfold addC
  split
  · exact h
  · refine List.nodup_append.mpr ⟨h, by simp, fun a ha b hb => ?_⟩
    rw [List.mem_singleton.mp hb]
    rintro rfl
    contradiction
def dist (cs : List Nat) : List Nat := cs.foldl addC []
theorem foldC_mem : ∀ (cs zs : List Nat) {d : Nat}, d ∈ cs.foldl addC zs ↔ d ∈ zs ∨ d ∈ cs
  | [], zs, d => by simp
  | c :: cs, zs, d => by
    rw [List.foldl_cons, foldC_mem cs, addC_mem, List.mem_cons]
    constructor
    · rintro ((h | h) | h)
      · exact .inl h
      · exact .inr (.inl h)
      · exact .inr (.inr h)
    · rintro (h | h | h)
      · exact .inl (.inl h)
      · exact .inl (.inr h)
      · exact .inr h
theorem foldC_nodup : ∀ (cs zs : List Nat), zs.Nodup → (cs.foldl addC zs).Nodup
  | [], _, h => h
  | _ :: cs, _, h => foldC_nodup cs _ (addC_nodup h)
theorem foldC_len : ∀ (cs zs : List Nat), (cs.foldl addC zs).length ≤ zs.length + cs.length
  | [], zs => by simp
  | c :: cs, zs => by
    have h := foldC_len cs (addC zs c)
    have h2 : (addC zs c).length ≤ zs.length + 1 := by
      unfold addC
      split
      · omega
      · simp
    rw [List.foldl_cons]
    simp only [List.length_cons]
    omega
theorem dist_mem {cs : List Nat} {d : Nat} : d ∈ dist cs ↔ d ∈ cs := by
  unfold dist
  rw [foldC_mem]
  simp
theorem dist_nodup (cs : List Nat) : (dist cs).Nodup := foldC_nodup cs [] .nil
theorem dist_len (cs : List Nat) : (dist cs).length ≤ cs.length := by
  have := foldC_len cs []
  simpa [dist] using this
theorem dist_snoc (cs : List Nat) (c : Nat) : dist (cs ++ [c]) = addC (dist cs) c := by
  unfold dist
  rw [List.foldl_append]
  rfl
theorem sub_len {xs ys : List Nat} (h : xs.Nodup) (hs : ∀ x, x ∈ xs → x ∈ ys) : xs.length ≤ ys.length := by
  induction xs generalizing ys with
  | nil => simp
  | cons x xs ih =>
    rw [List.nodup_cons] at h
    have hx := hs x (.head _)
    have h2 := ih (ys := ys.erase x) h.2 fun z hz => by
      have : z ≠ x := by
        rintro rfl
        exact h.1 hz
      exact (List.mem_erase_of_ne this).mpr (hs z (.tail _ hz))
    have h3 := List.length_erase_of_mem hx
    have h4 : 0 < ys.length := List.length_pos_of_mem hx
    simp only [List.length_cons]
    omega
section
variable {prog : Program} {w : World} {A : Around} {R : Result → Shared → Prop} {I : Addr} {fp wr : List Addr} {G : Array GenState → Array GenState → Prop} {St : Nat → Shared → Prop}
theorem loopC {x : Str} (W : WalksS prog w A.in1 I fp wr G x.cps.size (SignAt x) St) (S : Addr) (hSf : S ∉ fp) (hb : x.cps.size + 1 < scanBound) :
    ∀ (k i : Nat) (s : Shared), x.cps.size - i = k → i ≤ x.cps.size → St i s →
      s.heap.SetOf (PySem.strKind prog w) S (fun k' => decide (k' ∈ (dist (x.cps.toList.take i)).map sg)) (dist (x.cps.toList.take i)).length →
      (∀ s', Moved (S :: wr) G s s' → s'.heap.SetOf (PySem.strKind prog w) S (fun k' => decide (k' ∈ (dist x.cps.toList).map sg)) (dist x.cps.toList).length → R (.ok (.ret .none)) s') →
      codeAny (model prog w) A (.builtin "set.update.loop" ⟨[.ref S, .ref I], []⟩) R s := by
  have hSw : S ∉ wr := fun h => hSf (W.sub _ h)
  have hsub : ∀ b ∈ wr, b ∈ S :: wr := fun b hb => List.mem_cons_of_mem _ hb
  intro k
  induction k with
  | zero =>
    intro i s hk hi hst hS hR
    have hin : i = x.cps.size := by omega
    subst hin
    rw [List.take_of_length_le (by simp)] at hS
    refine codeAny_builtin PyProof.Rows.F.entry_set_update_loop ?_
    rw [Around.under_plainId PyProof.Rows.F.plain_set_update_loop _]
    show wpAny _ A.in1 (pyNext (.ref I) >>= _) _ _ s
    refine wpAny_bind (W.done s _ _ hst fun s' hm => ?_)
    show wpAny _ A.in1 (ret Value.none) _ _ s'
    exact wpAny_pure (hR s' (hm.mono hsub) (by
      obtain ⟨o, es, ep, t, ho, rest⟩ := hS
      exact ⟨o, es, ep, t, hm.heap S _ hSw ho, rest⟩))
  | succ k ih =>
    intro i s hk hi hst hS hR
    have hlt : i < x.cps.size := by omega
    refine codeAny_builtin PyProof.Rows.F.entry_set_update_loop ?_
    rw [Around.under_plainId PyProof.Rows.F.plain_set_update_loop _]
    show wpAny _ A.in1 (pyNext (.ref I) >>= _) _ _ s
    refine wpAny_bind (W.item i s _ _ hlt hst fun v s' hP hst' hm => ?_)
    obtain ⟨c, t, hc, rfl⟩ := hP
    have hS' : s'.heap.SetOf (PySem.strKind prog w) S (fun k' => decide (k' ∈ (dist (x.cps.toList.take i)).map sg)) (dist (x.cps.toList.take i)).length := by
      obtain ⟨o, es, ep, tb, ho, rest⟩ := hS
      exact ⟨o, es, ep, tb, hm.heap S _ hSw ho, rest⟩
    show wpAny _ A.in1 (holding [Value.str (sg c) t] (setAdd S (.str (sg c) t)) >>= _) _ _ s'
    refine wpAny_bind (wpAny_holding ?_)
    unfold setAdd
    refine wpAny_holding ?_
    refine wpAny_bind ((PySem.strKind prog w).pyHash (k := sg c) (strKind_is _ _ _ _) ?_)
    have hbd : (dist (x.cps.toList.take i)).length + 1 < scanBound := by
      have h1 := dist_len (x.cps.toList.take i)
      have h2 : (x.cps.toList.take i).length ≤ i := by simp; omega
      omega
    refine wpAny_setAddHashed_of (knd := PySem.strKind prog w) (s := { s' with toks := s'.toks + 1 }) (strKind_is _ _ _ _) rfl hS' hbd fun h' hsb hS2 => ?_
    have etk : x.cps.toList.take (i + 1) = x.cps.toList.take i ++ [c] := by
      have hc2 : x.cps.toList[i]? = some c := by rw [Array.getElem?_toList]; exact hc
      rw [List.take_succ, hc2]
      rfl
    have hSi : h'.SetOf (PySem.strKind prog w) S (fun k' => decide (k' ∈ (dist (x.cps.toList.take (i + 1))).map sg)) (dist (x.cps.toList.take (i + 1))).length := by
      rw [etk, dist_snoc]
      generalize dist (x.cps.toList.take i) = zs at hS2 ⊢
      have hin : sg c ∈ zs.map sg ↔ c ∈ zs := by
        rw [List.mem_map]
        constructor
        · rintro ⟨d, hd, e⟩
          rw [← sg_inj e]
          exact hd
        · exact fun h => ⟨c, h, rfl⟩
      refine SetOf_congr hS2 (fun k' => ?_) ?_
      · rw [Bool.eq_iff_iff]
        simp only [Bool.or_eq_true, decide_eq_true_eq]
        constructor
        · rintro (h | rfl)
          · obtain ⟨d, hd, rfl⟩ := List.mem_map.mp h
            exact List.mem_map.mpr ⟨d, addC_mem.mpr (.inl hd), rfl⟩
          · exact List.mem_map.mpr ⟨c, addC_mem.mpr (.inr rfl), rfl⟩
        · intro h
          obtain ⟨d, hd, rfl⟩ := List.mem_map.mp h
          rcases addC_mem.mp hd with hd | rfl
          · exact .inl (List.mem_map.mpr ⟨d, hd, rfl⟩)
          · exact .inr rfl
      · unfold addC
        by_cases hz : c ∈ zs
        · rw [if_pos (decide_eq_true (hin.mpr hz)), if_pos hz]
        · rw [if_neg (by rw [decide_eq_true_eq]; exact fun h => hz (hin.mp h)), if_neg hz]
          simp
    refine wpAny_pure ⟨plainId_quiet PyProof.Rows.F.plain_set_update_loop _, ih (i + 1) _ (by omega) hlt (W.frame _ s' _ _ hst' (Nat.le_succ _) fun b hb o e => ?_) hSi fun s'' hm'' hS'' => ?_⟩
    · rw [hsb.2 b (fun h : b = S => hSf (by rw [← h]; exact hb))]; exact e
    · refine hR s'' (Moved.trans W.gtrans ((hm.mono hsub).then_heap (Nat.le_succ _) fun b o hb e => ?_) hm'') hS''
      rw [hsb.2 b (fun h : b = S => hb (by rw [h]; exact List.mem_cons_self))]; exact e
end
section
variable {prog : Program} {w : World} {A : Around} {E : Value → Shared → Prop} {s : Shared}
theorem call_set_str {x : Str} {t : Tok} {Q : Value → Shared → Prop}
    (hh : A.handled = none) (hb : x.cps.size + 1 < scanBound)
    (h : ∀ (h' : Heap) (tk : Nat), h'.SetOf (PySem.strKind prog w) s.heap.objs.size (fun k' => decide (k' ∈ (dist x.cps.toList).map sg)) (dist x.cps.toList).length →
      (∀ b o, b < s.heap.objs.size → s.heap.get? b = some o → h'.get? b = some o) → Q (.ref s.heap.objs.size) { s with heap := h', toks := tk }) :
    wpAny (model prog w) A (call (.type "set") [.str x t]) Q E s := by
  obtain ⟨c, tl, hmro⟩ := PySem.F.called_set.mro
  have hmade := PySem.F.called_set.made
  have hsub := PySem.F.called_set.sub
  refine wpAny_call (codeAny_of_tree ?_)
  show wpAny _ _ (callAny (.type "set") _) _ _ _
  refine wpAny_pure ⟨Code.quiet_builtin _ (by decide +kernel), codeAny_builtin PySem.F.entry_type_call ?_⟩
  rw [Around.under_plain (weight_type_call_type "set" [.str x t] []) rfl]
  have h1 := PySem.F.called_set.notType
  have h2 := PySem.F.called_set.canCreate
  have hct := PySem.F.typeCall_set_1 (.str x t)
  repeat (any_goals (first | assumption | wp_step))

  refine codeAny_mono (code_set_new_1 (.str x t) (E := E) (Q₁ := fun obj s₁ => ∃ led : Bool, obj = .ref s.heap.objs.size ∧ s₁ = { s with heap := s.heap.push { cls := .type "set", dict := none, data := .set #[] 0 (.fresh 0 0 led) } }) fun led => ⟨led, rfl, rfl⟩) fun r s₁ hr => ?_
  cases r with
  | error e => exact hr
  | ok fl =>
    cases fl with
    | ret obj =>
      obtain ⟨led, rfl, rfl⟩ := hr
      have hS : (s.heap.push { cls := .type "set", dict := none, data := .set #[] 0 (.fresh 0 0 led) }).get? s.heap.objs.size = some { cls := .type "set", dict := none, data := .set #[] 0 (.fresh 0 0 led) } := Heap.get?_push_size _ rfl
      have hT : Shared.TypeIs { s with heap := s.heap.push { cls := .type "set", dict := none, data := .set #[] 0 (.fresh 0 0 led) } } (.ref s.heap.objs.size) "set" := ⟨_, hS, rfl⟩
      have hli := PySem.F.called_set.init.lookup
      have hbi := PySem.F.called_set.init.bind (.ref s.heap.objs.size)
      repeat (any_goals (first | assumption | wp_step))

      refine codeAny_mono (codeAny_call_builtin (R := wants (fun r s₂ => r = .none ∧ ∃ h' tk, s₂ = { s with heap := h', toks := tk } ∧
          h'.SetOf (PySem.strKind prog w) s.heap.objs.size (fun k' => decide (k' ∈ (dist x.cps.toList).map sg)) (dist x.cps.toList).length ∧
          (∀ b o, b < s.heap.objs.size → s.heap.get? b = some o → h'.get? b = some o)) E) PySem.F.called_set.init.plain PySem.F.entry_set_init (check_set_init_1 hT ?_)) fun r₂ s₂ hr₂ => ?_
      · have hsls := PySem.F.sub_str_set
        have hslf := PySem.F.sub_str_frozenset
        have hne : (Value.type "str" == Value.type "dict") = false := by decide
        unfold Builtin.«set.__init__» noKeywords Builtin.Frozenset.updateFrom
        generalize hPI : pyIter = PI
        wp_walk
        subst hPI

        refine wpAny_pyIter_str fun o St W hst => ?_
        refine wpAny_bind (wpAny_runValue ?_)
        have hh3 : A.in1.in1.in1.handled = none := by simp [hh]
        have hSf : s.heap.objs.size ∉ [(s.heap.push { cls := .type "set", dict := none, data := .set #[] 0 (.fresh 0 0 led) }).objs.size] := by
          rw [Heap.size_push]; simp only [List.mem_singleton]
          exact Nat.ne_of_lt (Nat.lt_succ_self _)
        refine loopC ((W _ hh3).toS) s.heap.objs.size
          hSf hb (x.cps.size - 0) 0 _ rfl (Nat.zero_le _)
          hst ?hS0 ?hR
        case hS0 =>
          have hget : ((s.heap.push { cls := .type "set", dict := none, data := .set #[] 0 (.fresh 0 0 led) }).push o).get? s.heap.objs.size
              = some { cls := .type "set", dict := none, data := .set #[] 0 (.fresh 0 0 led) } := Heap.get?_push_of_some _ hS
          exact PyProof.Rows.SetOf_congr ((PyProof.Rows.setObjOf_fresh (knd := PySem.strKind prog w) led).setOf hget (by unfold scanBound; omega)) (fun _ => rfl) rfl
        case hR =>
          intro s' hm hS'
          obtain ⟨h', g', d', tk', os'⟩ := s'
          have eg : g' = s.gens := hm.gens
          have ed : d' = s.drawn := hm.drawn
          have eo : os' = s.os := hm.os
          subst eg; subst ed; subst eo
          show wpAny _ _ _ _ _ _
          refine wpAny_pure ?_
          show wpAny _ _ (ret Value.none) _ _ _
          refine wpAny_pure ⟨rfl, h', tk', rfl, hS', fun b o hb e => ?_⟩
          have hb1 : b ≠ s.heap.objs.size := Nat.ne_of_lt hb
          have hb2 : b ≠ (s.heap.push { cls := .type "set", dict := none, data := .set #[] 0 (.fresh 0 0 led) }).objs.size := by
            rw [Heap.size_push]; exact Nat.ne_of_lt (Nat.lt_succ_of_lt hb)
          exact hm.heap b o (by simp only [List.mem_cons, List.mem_singleton, List.not_mem_nil, or_false, not_or]; exact ⟨hb1, hb2⟩) (Heap.get?_push_of_some _ (Heap.get?_push_of_some _ e))

      · cases r₂ with
        | error e => exact hr₂
        | ok fl₂ =>
          cases fl₂ with
          | ret r =>
            obtain ⟨rfl, h', tk, rfl, hS', hk'⟩ := hr₂
            repeat (any_goals (first | assumption | wp_step))
            exact h _ _ hS' hk'
          | _ => exact hr₂.elim
    | _ => exact hr.elim
end
end SSZ
namespace L2
open PySem PySem.Spec PyProof.Rows
/-- len(set(a text)) -/
def tLenSetC (ta : TE) : TE := fun σ H Q => ta σ H fun x H1 => ∃ y : Str, x = .str y ∧ y.cps.size < 4000 ∧ Q (.int (SSZ.dist y.cps.toList).length) H1
section
variable {X : Cx}
theorem pe_lenSetC {a : Expr} {ta : TE} {p p2 q pos : Pos} (hc : X.calm = true) (hg : Gl X "len") (hm : X.mg "len" = none) (hg2 : Gl X "set") (hm2 : X.mg "set" = none) (ha : PE X a ta)
    (na : starEach [a] X.env = (false, eval a X.env) :: starEach [] X.env := by rfl) : PE X (.Call (.Name "len" p) [.Call (.Name "set" p2) [a] [] q] [] pos) (tLenSetC ta) := by
  refine ⟨fun pins s σ H Q I h => ?_⟩
  refine Call_ (ld_blt I hg hm boot_len ?_)
  refine PyProof.Rows.callWith_builtin1 (PyProof.Rows.args_cons ?_ rfl) rfl rfl
  refine Call_ (ld_blt I hg2 hm2 boot_set ?_)
  refine PyProof.Rows.callWith_type1 (PyProof.Rows.args_cons (thn (ha.run pins s σ H _ I h) fun v s1 ⟨x, H1, I1, r1, q1⟩ => PyProof.Rows.args_nil ?_) na) na rfl
  obtain ⟨y, rfl, hy, q1⟩ := q1
  obtain ⟨tk0, rfl⟩ := r1
  refine SSZ.call_set_str (I1.ok.hd hc) (by unfold scanBound; omega) fun h' tk hS hk => ?_
  refine PyProof.Rows.args_nil ?_
  obtain ⟨o, es, ep, t, ho, hex, hd, _, _, _, hf, hn⟩ := hS
  have I2 : Inv X pins σ H1 { s1 with heap := h', toks := tk } := I1.kept fun b o e => hk b o (Heap.lt_size e) e
  have hz := SSZ.dist_len y.cps.toList
  have hz2 : y.cps.toList.length = y.cps.size := by simp
  refine call_len_set ho hex hd hf (by rw [hn]; omega) ⟨.int (SSZ.dist y.cps.toList).length, H1, I2.tok _, ⟨_, by rw [hn]⟩, q1⟩
end
end L2
namespace Z
open PySem PySem.Spec PyProof.Rows L2
section
variable {X : Cx} {a : Expr} {ds : DS} {L : MS} {pos p p2 q : Pos}
theorem dp_lenSetC {P : DK} (hm : X.mg "len" = none) (hm2 : X.mg "set" = none) (h : DP X a ds L fun x L1 => ∃ cs : List Nat, x = .str cs ∧ cs.length < 4000 ∧ ∀ ks : List Nat, ks.Nodup → (∀ c, c ∈ ks ↔ c ∈ cs) → P (.int (ks.length : Nat)) L1) (hc : X.calm = true := by rfl) (hg : Gl X "len" := by rfl) (hg2 : Gl X "set" := by rfl)
    (na : starEach [a] X.env = (false, eval a X.env) :: starEach [] X.env := by rfl) : DP X (.Call (.Name "len" p) [.Call (.Name "set" p2) [a] [] q] [] pos) ds L P := .mk fun σ H B hs hl Q k =>
  PE.to (pe_lenSetC hc hg hm hg2 hm2 pe_w na) (h.run σ H B hs hl _ fun d L1 v B1 H1 h1 e1 hl1 iv => by
    obtain ⟨cs, rfl, h0, p⟩ := h1
    obtain rfl : v = V.str ⟨cs.toArray⟩ := iv
    exact ⟨_, rfl, by simpa using h0, k _ L1 _ B1 H1 (p (SSZ.dist cs) (SSZ.dist_nodup _) fun c => SSZ.dist_mem) e1 hl1 rfl⟩)
end
end Z
namespace Z
open PySem PySem.Spec PyProof.Rows L2
section
variable {X : Cx} {K : PySem.W.Frag} {o e : Expr} {ds : DS} {L : MS} {P : DK} {apos cpos pos p : Pos}
/-! ### xs.pop(), text.index(e), list(a text) -/
def popK : KM := fun x xs L P => match x, xs with
  | .adr a, [] => ∃ ys d, ML L a (.lst (ys ++ [d])) ∧ ∃ L2, MSt L a (.lst ys) L2 ∧ P d L2
  | _, _ => False
theorem IsL.snoc {B : Hp} : ∀ {ys : List Dt} {d : Dt} {us : List V}, IsL K B (ys ++ [d]) us → ∃ vs v, us = vs ++ [v] ∧ IsL K B ys vs ∧ Is K B d v
  | [], _, _, ⟨v, _, rfl, h2, h3⟩ => by
    obtain rfl := h3
    exact ⟨[], v, rfl, rfl, h2⟩
  | _ :: ys, _, _, ⟨v, vs, rfl, h2, h3⟩ => by
    obtain ⟨ws, z, rfl, h4, h5⟩ := IsL.snoc (ys := ys) h3
    exact ⟨v :: ws, z, rfl, ⟨v, ws, rfl, h2, h4⟩, h5⟩
theorem km_pop : KRM K rPop popK := by
  intro B H L x v xs vs Q P hl ix ixs hk q
  unfold popK at hk
  split at hk
  · obtain rfl : v = _ := ix
    obtain rfl : vs = [] := ixs
    obtain ⟨ys, d, hm, L2, hst, p⟩ := hk
    obtain ⟨us, ha, ia⟩ := hl.lst hm
    obtain ⟨ws, z, rfl, i1, i2⟩ := IsL.snoc ia
    refine ⟨_, _, z, rfl, rfl, ha, by simp, ?_⟩
    rw [List.dropLast_concat]
    exact q d L2 z B _ p (Same.refl B) (hl.put hst ⟨_, rfl, i1⟩) i2
  · exact hk.elim
theorem dp_lpop (h : DP X o ds L fun x L1 => tyM "list" x L1 ∧ popK x [] L1 P)
    (hbase : attributeBase o "pop" X.env (eval o X.env) = eval o X.env := by rfl) (hline : (apos.endLine == cpos.line) = true := by rfl) : DP X (.Call (.Attribute o "pop" apos) [] [] cpos) ds L P :=
  dp_bm0 PySem.F.plainAttrs_list PySem.F.slot_list_pop PySem.F.type_list_pop (fun pins s σ H x vs v us Q I rx rv h => mt_pop pins s σ H x vs v us Q I rx rv h) km_pop h hbase hline
def sidxR : V → List V → Hp → VK → Prop := fun x xs H Q => ∃ a b i rest, x = .str a ∧ xs = [.str b] ∧ Builtin.Str.occurrences a b 0 a.length 1 = i :: rest ∧ Q (.int (i : Nat)) H
def sidxK : KM := fun x xs L P => match x, xs with
  | .str a, [.str b] => ∃ i rest, Builtin.Str.occurrences (⟨a.toArray⟩ : Str) (⟨b.toArray⟩ : Str) 0 a.length 1 = i :: rest ∧ P (.int (i : Nat)) L
  | _, _ => False
theorem km_sidx : KRM K sidxR sidxK := by
  intro B H L x v xs vs Q P hl ix ixs hk q
  unfold sidxK at hk
  split at hk
  · obtain ⟨u, rfl, iu⟩ := ixs.one_inv
    obtain rfl : v = _ := ix
    obtain rfl : u = _ := iu
    obtain ⟨i, rest, ho, p⟩ := hk
    exact ⟨_, _, i, rest, rfl, rfl, by rw [txt_len]; exact ho, q _ L _ B H p (Same.refl B) hl rfl⟩
  · exact hk.elim
theorem dp_sindex (h : DP X o ds L fun x L1 => tyM "str" x L1 ∧ DP X e ds L1 fun d L2 => sidxK x [d] L2 P)
    (hbase : attributeBase o "index" X.env (eval o X.env) = eval o X.env := by rfl)
    (hfew : ((backTo cpos (starEach [e] X.env)).all (fun x => !x.1) && (backToKw cpos (keywordEach [] X.env)).all (fun x => x.1.isSome)
      && decide ([e].length + ([] : List Keyword).length + (if ([] : List Keyword).isEmpty then 0 else 1) < 30)) = true := by rfl)
    (hline : (apos.endLine == cpos.line) = true := by rfl) (hs1 : starEach [e] X.env = (false, eval e X.env) :: starEach [] X.env := by rfl) (hplain : (backTo cpos (starEach [] X.env)).any (·.1) = false := by rfl) : DP X (.Call (.Attribute o "index" apos) [e] [] cpos) ds L P :=
  dp_bm PySem.F.plainAttrs_str PySem.F.slot_str_index PySem.F.type_str_index (r := sidxR) (fun pins s σ H x xs v us Q I rx rv h => mt_sindex pins s σ H x xs v us Q I rx rv h) km_sidx (DP.imp h fun x L1 ⟨ht, h1⟩ => ⟨ht, da_cons (DP.imp h1 fun d L2 h2 => da_nil h2) hs1⟩) hbase hfew hline hs1 hplain
end
end Z

namespace Z
open PySem PySem.Spec PyProof.Rows L2
section
variable {X : Cx} {K : PySem.W.Frag} {o e : Expr} {ds : DS} {L : MS} {P : DK} {apos cpos pos p : Pos}
def rListS : List V → Hp → VK → Prop := fun xs H Q => ∃ y : Str, xs = [.str y] ∧ y.cps.size ≤ 10000 ∧ ∀ l, H l = none → Q (.ref l) (upd H l (.lst ((y.cps.toList.map fun c => (⟨#[c]⟩ : Str)).map V.str)))
theorem call_list_sgn (hc : X.calm = true) : CallR X (.type "list") rListS := by
  intro pins s σ H xs us Q I r h
  obtain ⟨y, rfl, hy, q⟩ := h
  obtain ⟨u, rfl, rx⟩ := vals1 r
  obtain ⟨t, rfl⟩ := rx
  have hz : y.cps.size ≤ sizeLine := by rw [sizeLine_eq]; omega
  refine call_list_str (I.ok.hd hc) y t (hn := hz) fun h' tk acc c' hk e' hi => ?_
  have hl : acc.toList.length = y.cps.size := by rw [Array.length_toList]; exact hi.1
  refine ⟨.ref s.heap.objs.size, _, I.laid hk (Nat.le_refl _) (show ObjOk X.prog X.w _ _ _ (.lst ((y.cps.toList.map fun c => (⟨#[c]⟩ : Str)).map V.str)) from ⟨?_, acc.toList, c', ?_, ?_⟩), rfl, q _ (I.hok.fresh (Nat.le_refl _))⟩
  · simpa using hz
  · refine vals_of_at (by simp [hl]) fun j x u h1 h2 => ?_
    obtain ⟨c, w, hc2, rfl⟩ := hi.2 j u (by rw [← h2, Array.getElem?_toList])
    rw [List.getElem?_map, List.getElem?_map, Array.getElem?_toList, hc2] at h1
    obtain rfl := Option.some.inj h1
    exact ⟨w, rfl⟩
  · rw [Array.toArray_toList]; exact e'
def lstSK : KC := fun xs L P => match xs with
  | [.str cs] => cs.length ≤ 10000 ∧ ∀ a, P (.adr a) ((a, .lst ((cs.map fun c => [c]).map Dt.str)) :: L)
  | _ => False
theorem kc_lstS : KRC K rListS lstSK := by
  intro B H L xs vs Q P hl ixs hk q
  unfold lstSK at hk
  split at hk
  · obtain ⟨v, rfl, i⟩ := ixs.one_inv
    obtain rfl : v = _ := i
    obtain ⟨h1, p⟩ := hk
    rename_i cs
    refine ⟨_, rfl, by simpa using h1, fun l hn => Fin.lstM q hl p ?_ hn⟩
    have h2 : (cs.map fun c : Nat => (⟨#[c]⟩ : Str)) = (cs.map fun c : Nat => [c]).map fun l : List Nat => (⟨l.toArray⟩ : Str) := by
      rw [List.map_map]
      rfl
    show IsL K B ((cs.map fun c => [c]).map Dt.str) ((cs.map fun c : Nat => (⟨#[c]⟩ : Str)).map V.str)
    rw [h2]
    exact IsL.of_strs
  · exact hk.elim
theorem dp_listS (hm : X.mg "list" = none) (h : DP X e ds L fun x L1 => lstSK [x] L1 P) (hc : X.calm = true := by rfl) (hg : Gl X "list" := by rfl) (hs1 : starEach [e] X.env = (false, eval e X.env) :: starEach [] X.env := by rfl) (hpl : (backTo pos (starEach [] X.env)).any (·.1) = false := by rfl) : DP X (.Call (.Name "list" p) [e] [] pos) ds L P :=
  dp_callTy (call_list_sgn hc) kc_lstS hm (by decide +kernel) (da_cons (DP.imp h fun x L1 h1 => da_nil h1) hs1) hg (by decide) (by decide) hs1 hpl
end
end Z
namespace Z
open PySem PySem.Spec PyProof.Rows L2
section
variable {X : Cx} {a b : Expr} {ds : DS} {L : MS} {PB : Bool → MS → Prop} {pos : Pos}
/-- a <= b < c of ints, as a test -/
theorem dt_chain_lelt {c : Expr} (h : DP X a ds L fun x L1 => DP X b ds L1 fun y L2 => ∃ i j, x = .int i ∧ y = .int j ∧ two (decide (i ≤ j)) (DP X c ds L2 fun z L3 => ∃ k, z = .int k ∧ PB (decide (j < k)) L3) (PB false L2)) (hm : lastMarks [CmpOp.LtE, CmpOp.Lt] [b, c] = false := by with_unfolding_all rfl) : DT X (.Compare a [.LtE, .Lt] [b, c] pos) ds L PB := .mk fun σ H B hs hl Q q =>
  PT.to (pt_chain op_le op_lt pe_w pe_w pe_w hm) (h.run σ H B hs hl _ fun x L1 v B1 H1 hb e1 hl1 ix => hb.run σ H1 B1 (hs.mono e1) hl1 _ fun y L2 u B2 H2 hp e2 hl2 iy => by
    obtain ⟨i, j, rfl, rfl, p⟩ := hp
    refine ⟨i, j, ix.mono e2, iy, decide (i ≤ j), rfl, ?_⟩
    cases e : decide (i ≤ j) with
    | true =>
      rw [e] at p
      refine (p.1 rfl).run σ H2 B2 ((hs.mono e1).mono e2) hl2 _ fun z L3 w B3 H3 hp3 e3 hl3 iz => ?_
      obtain ⟨k, rfl, p3⟩ := hp3
      exact ⟨j, k, by rw [show u = V.int j from iy], iz, _, rfl, q _ L3 B3 H3 p3 ((e1.trans e2).trans e3) hl3⟩
    | false =>
      rw [e] at p
      exact ⟨false, rfl, q _ L2 B2 H2 (p.2 rfl) (e1.trans e2) hl2⟩)
end
end Z
namespace Z
open PySem PySem.Spec PyProof.Rows L2
theorem fold_app (arr : Array Nat) : ∀ (n : Nat) (acc : Array Nat), ((List.replicate n arr).foldl (· ++ ·) acc).toList = acc.toList ++ (List.replicate n arr.toList).flatten
  | 0, acc => by simp
  | n + 1, acc => by
    rw [List.replicate_succ, List.foldl_cons, fold_app arr n, List.replicate_succ, List.flatten_cons, Array.toList_append, List.append_assoc]
theorem flat_nil : ∀ n : Nat, (List.replicate n ([] : List Nat)).flatten = []
  | 0 => rfl
  | n + 1 => by rw [List.replicate_succ, List.flatten_cons, flat_nil n]; rfl
theorem mul_list (cs : List Nat) (n : Nat) : Txt.mul (⟨cs.toArray⟩ : Str) (n : Int) = ⟨(List.replicate n cs).flatten.toArray⟩ := by
  unfold Txt.mul
  by_cases h0 : ((n : Nat) : Int) < 1
  · have : n = 0 := by omega
    subst this
    rfl
  rw [if_neg h0]
  by_cases h1 : (((n : Nat) : Int) == 1 || (⟨cs.toArray⟩ : Str).length == 0) = true
  · rw [if_pos h1]
    rw [Bool.or_eq_true] at h1
    rcases h1 with h1 | h1
    · have : n = 1 := by have := eq_of_beq h1; omega
      subst this
      simp
    · have h2 : cs.length = 0 := by have := eq_of_beq h1; rwa [txt_len] at this
      have : cs = [] := List.length_eq_zero_iff.mp h2
      subst this
      rw [flat_nil]
  · rw [if_neg h1, Int.toNat_natCast]
    have e : (List.replicate n (⟨cs.toArray⟩ : Str).cps).foldl (· ++ ·) #[] = (List.replicate n cs).flatten.toArray := by
      apply Array.ext'
      rw [fold_app]
      simp
    rw [e]
def rRepS : R2 := fun x y H Q => ∃ (a : Str) (k : Nat), x = .str a ∧ y = .int (k : Int) ∧ k ≤ 1000 ∧ a.length ≤ 10000 ∧ Q (.str (Txt.mul a k)) H
def repSK : K2 := fun x y L P => match x, y with
  | .str cs, .int k => ∃ n : Nat, k = (n : Int) ∧ n ≤ 1000 ∧ cs.length ≤ 10000 ∧ P (.str (List.replicate n cs).flatten) L
  | _, _ => False
section
variable {X : Cx} {K : PySem.W.Frag}
theorem op_repS : OpR X (binaryOp .Mult) rRepS := by
  intro pins s σ H x y v u Q I rx ry h
  obtain ⟨a, k, rfl, rfl, hk, ha, q⟩ := h
  obtain ⟨t, rfl⟩ := rx
  obtain ⟨t', rfl⟩ := ry
  refine SB.mul ⟨?_, fun h1 _ => ?_, fun h1 _ => ?_⟩ fun t2 k2 => ⟨.str (Txt.mul a k), H, I.tok _, ⟨_, rfl⟩, q⟩
  · rw [decide_eq_false (by omega), decide_eq_false (by omega)]
    rfl
  · have hk1 : 0 < ((k : Nat) : Int) := by omega
    have h2 : ((a.length : Nat) : Int) ≤ (2 ^ 63 - 1) / ((k : Nat) : Int) := by
      rw [Int.le_ediv_iff_mul_le hk1]
      have h3 : a.length * k ≤ 10000 * 1000 := Nat.mul_le_mul ha hk
      have h4 : ((a.length : Nat) : Int) * ((k : Nat) : Int) = ((a.length * k : Nat) : Int) := (Int.natCast_mul _ _).symm
      rw [h4]
      omega
    omega
  · rw [Int.toNat_natCast]
    have h3 : a.length * k ≤ 10000 * 1000 := Nat.mul_le_mul ha hk
    unfold Builtin.Str.tooLong
    rw [decide_eq_false]
    rw [sizeLine_eq]
    omega
theorem kr_repS : KR2 K rRepS repSK := by
  intro B H L x y v u Q P hl ix iy hk q
  cases x <;> cases y <;> try exact False.elim hk
  obtain ⟨n, rfl, h1, h2, p⟩ := hk
  refine ⟨_, n, ix, iy, h1, by rw [txt_len]; exact h2, ?_⟩
  rw [mul_list]
  exact Fin.here q hl p rfl
end
section
variable {X : Cx} {a b : Expr} {ds : DS} {L : MS} {P : DK} {pos : Pos}
theorem dp_repS (h : DP X a ds L fun x L1 => DP X b ds L1 fun y L2 => repSK x y L2 P) : DP X (.BinOp a .Mult b pos) ds L P := dp_bin op_repS kr_repS h
end
end Z
namespace L2
open PySem PySem.Spec PyProof.Rows
section
variable {X : Cx}
/-- l.count(x), items of any depth -/
def rCountD (K : PySem.W.Frag) : V → List V → Hp → VK → Prop := fun x xs H Q => ∃ (a : Addr) (y : V) (d : PyData) (ds : List PyData), x = V.ref a ∧ xs = [y] ∧ Dp K H (V.ref a) (.list ds) ∧ Dp K H y d ∧
  SeqAt.shaped (.list ds) = true ∧ SeqAt.shaped d = true ∧ Q (.int (ds.countP fun z => PyData.eqv z d : Nat)) H
theorem mt_countD (hu : X.A.units + 65 < cLine) : MtR X "list.count" (rCountD X.K) := by
  intro pins s σ H x xs v us Q I rx rxs h
  obtain ⟨a, y, d, ds, rfl, rfl, hl, hy, sl, sd, q⟩ := h
  cases rx
  cases rxs with
  | cons ry rt =>
    rename_i uy ut
    cases rt
    obtain ⟨bs, r1⟩ := Dp.reads I d y uy hy ry
    have hxs : PyData.canLayAll0 ds = true := SeqAt.canLay_of_shaped sl
    have hroom : X.A.units + 1 + min (PyData.depthAll ds) d.depth < cLine := room_in_shaped sd hu
    cases hl with
    | lst hs ha =>
      obtain ⟨its, rv, ⟨⟨cls, dd, data, sls⟩, n, ho, hc, hdn, hdt⟩, hlen⟩ := I.list hs
      simp only at hc hdt
      subst hc hdt
      obtain ⟨as, h4⟩ := Dp.readsAll I ds _ its ha rv
      have hmap : its.map (SeqAt.readOf s.heap) = ds := SeqAt.readsAll_map ds its as hxs h4
      refine call_meets PySem.F.slot_list_count ⟨_, ho, rfl⟩ PySem.F.entry_list_count (PySem.F.args_list_count_2 _ _)
        (SeqAt.list_countAt a its.toArray n dd sls uy (fun u => PyData.eqv (SeqAt.readOf s.heap u) d)) ⟨ho, SeqAt.items_eqAt (vs := its.toArray) (show ReadsAll s.heap its.toArray.toList ds as from h4) r1 hxs (SeqAt.canLay_of_shaped sd) hroom, ?_⟩
      have ec : its.toArray.toList.countP (fun u => PyData.eqv (SeqAt.readOf s.heap u) d) = ds.countP fun z => PyData.eqv z d := by
        rw [← hmap, List.countP_map]
        rfl
      refine ⟨.int (ds.countP fun z => PyData.eqv z d : Nat), H, I.tok _, ⟨s.toks, ?_⟩, q⟩
      show Value.int ((its.toArray.toList.countP (fun u => PyData.eqv (SeqAt.readOf s.heap u) d) : Nat) : Int) s.toks = _
      rw [ec]
end
end L2
namespace Z
open PySem PySem.Spec PyProof.Rows L2
section
variable {X : Cx} {K : PySem.W.Frag} {o e : Expr} {ds : DS} {L : MS} {P : DK} {apos cpos : Pos}
theorem countP_le1 {α : Type} {p : α → Bool} {d : α} : ∀ {l : List α}, l.Nodup → (∀ z, z ∈ l → p z = true → z = d) → l.countP p ≤ 1
  | [], _, _ => Nat.zero_le _
  | a :: l, hn, h => by
    rw [List.nodup_cons] at hn
    have ih := countP_le1 hn.2 fun z hz => h z (.tail _ hz)
    cases e : p a with
    | false =>
      rw [List.countP_cons_of_neg (by rw [e]; exact Bool.false_ne_true)]
      exact ih
    | true =>
      rw [List.countP_cons_of_pos e]
      have h0 : l.countP p = 0 := by
        rw [List.countP_eq_zero]
        intro z hz hp
        have e1 := h z (.tail _ hz) hp
        have e2 := h a (.head _) e
        rw [e1, ← e2] at hz
        exact hn.1 hz
      omega
/-- xs.count(x) of what may be compared -/
def countDK : KM := fun x xs L P => ∃ es d, x = .lst es ∧ xs = [d] ∧ OkE d ∧ OkE (.lst es) ∧ ∀ k : Nat, (es.Nodup → k ≤ 1) → P (.int (k : Nat)) L
theorem km_countD : KRM K (rCountD K) countDK := by
  intro B H L x v xs vs Q P hl ix ixs hk q
  obtain ⟨es, d, rfl, rfl, h1, h2, p⟩ := hk
  obtain ⟨u, rfl, iu⟩ := ixs.one_inv
  have hy := h2.dp hl.sub ix
  have sh := h2.shaped
  have e0 : pd (.lst es) = .list (es.map pd) := by rw [pd, pdL_map]
  rw [e0] at hy sh
  obtain ⟨a, us, rfl, ha, ia⟩ := ix
  refine ⟨a, u, _, _, rfl, rfl, hy, h1.dp hl.sub iu, sh, h1.shaped, q _ L _ B H (p _ fun hn => ?_) (Same.refl B) hl rfl⟩
  rw [List.countP_map]
  obtain ⟨n, hn2, hz⟩ := h2
  obtain ⟨k, rfl, hz3⟩ := okE_lst hz
  exact countP_le1 (d := d) hn fun z hz4 e => (OkE.eqv ⟨k, by omega, hz3 z hz4⟩ h1).mp e
theorem dp_lcount {k : Nat} (hr : Room k X.A) (h : DP X o ds L fun x L1 => tyM "list" x L1 ∧ DP X e ds L1 fun d L2 => countDK x [d] L2 P)
    (hbase : attributeBase o "count" X.env (eval o X.env) = eval o X.env := by rfl)
    (hfew : ((backTo cpos (starEach [e] X.env)).all (fun x => !x.1) && (backToKw cpos (keywordEach [] X.env)).all (fun x => x.1.isSome)
      && decide ([e].length + ([] : List Keyword).length + (if ([] : List Keyword).isEmpty then 0 else 1) < 30)) = true := by rfl)
    (hline : (apos.endLine == cpos.line) = true := by rfl) (hs1 : starEach [e] X.env = (false, eval e X.env) :: starEach [] X.env := by rfl) (hplain : (backTo cpos (starEach [] X.env)).any (·.1) = false := by rfl) : DP X (.Call (.Attribute o "count" apos) [e] [] cpos) ds L P :=
  dp_bm PySem.F.plainAttrs_list PySem.F.slot_list_count PySem.F.type_list_count (mt_countD (show X.A.units + 65 < cLine by have := hr.un; omega)) km_countD (DP.imp h fun x L1 ⟨ht, h1⟩ => ⟨ht, da_cons (DP.imp h1 fun d L2 h2 => da_nil h2) hs1⟩) hbase hfew hline hs1 hplain
end
end Z
namespace Z
open PySem PySem.Spec PyProof.Rows L2
/-! ### rows of statements behind which a token is out -/
def SSWT (X : Cx) (sts : List Stmt) : TS := fun D σ H => ∀ (pins : List (Addr × Obj)) (s : Shared), 1 ≤ s.toks → Inv X pins σ H s → wpAny (model X.prog X.w) X.A (execs sts X.env) (SP X pins D) X.xe s
structure DSsT (X : Cx) (sts : List Stmt) (ds : DS) (L : MS) (D : DEnds) : Prop where
  run : ∀ σ H B (E : Ends), Sl X.K B ds σ → Hs X.K B L H → Meets X.K B D E → SSWT X sts E σ H
section
variable {X : Cx} {st : Stmt} {rest : List Stmt} {ds : DS} {L : MS} {D : DEnds} {P : DK} {pos : Pos}
theorem psst_w : PSsT X rest (SSWT X rest) := fun pins s σ H D h0 I q => q pins s h0 I
theorem dssT_of (h : DSs X rest ds L D) : DSsT X rest ds L D := .mk fun σ H B E hs hl m pins s _ I => h.run σ H B E hs hl m pins s I
theorem dssT_cons (h : DSt X st ds L { D with nx := fun ds' L' => DSsT X rest ds' L' D }) : DSsT X (st :: rest) ds L D := .mk fun σ H B E hs hl m pins s h0 I =>
  psst_cons (PST.of ps_w) psst_w pins s σ H E h0 I (h.run σ H B { E with nx := SSWT X rest E } hs hl ⟨fun ds' L' σ' B2 H2 h2 e2 hs2 hl2 => h2.run σ' H2 B2 E hs2 hl2 (m.mono e2), m.rt, m.bk, m.ct⟩)
/-- x = '..'.join(e): behind it a token is out -/
theorem dss_joinT {i j : Nat} {x : Str} {c : Str} {cp apos cpos pos' : Pos} {e : Expr} {ds' : Dt → DS} (hset : ∀ d, SetAt ds i d (ds' d)) (h : DP X e ds L fun d L1 => joinK (.str c.cps.toList) [d] L1 fun d2 L2 => DSsT X rest (ds' d2) L2 D) (hN : X.N.Nodup) (hi : X.N[i]? = some x := by rfl) (hx : Loc X.env.scope x := by first | exact .inl rfl | exact .inr rfl)
    (hw : swapsWith (.Call (.Attribute (.Constant (.str c) j cp) "join" apos) [e] [] cpos) (some (.Name x pos')) pos.line X.env = pure false := by rfl) (hf : X.fn x = true ∨ X.env.scope.names.lookup x = some .local := by first | exact .inl rfl | exact .inr rfl)
    (hbase : attributeBase (.Constant (.str c) j cp) "join" X.env (eval (.Constant (.str c) j cp) X.env) = eval (.Constant (.str c) j cp) X.env := by rfl)
    (hfew : ((backTo cpos (starEach [e] X.env)).all (fun x => !x.1) && (backToKw cpos (keywordEach [] X.env)).all (fun x => x.1.isSome)
      && decide ([e].length + ([] : List Keyword).length + (if ([] : List Keyword).isEmpty then 0 else 1) < 30)) = true := by rfl)
    (hline : (apos.endLine == cpos.line) = true := by rfl) (hs1 : starEach [e] X.env = (false, eval e X.env) :: starEach [] X.env := by rfl) (hplain : (backTo cpos (starEach [] X.env)).any (·.1) = false := by rfl) :
    DSs X (.Assign [.Name x pos'] (.Call (.Attribute (.Constant (.str c) j cp) "join" apos) [e] [] cpos) pos :: rest) ds L D := .mk fun σ H B E hs hl m pins s I => by
  refine wpAny_execs_cons (wpAny_Assign_Name ?_ hw)
  refine wpAny_Call_method_late hbase hfew hline rfl (Calls.Constant_str ?_)
  refine ⟨"str", "str.join", PySem.F.plainAttrs_str, PySem.F.slot_str_join, PySem.F.type_str_join, typeIs_str _ _ _, (fun _ e => nomatch e), ?_⟩
  have q1 : AW X [e] σ H fun xs H2 => ∃ a p, ∃ ys : List Str, V.str c = .str a ∧ xs = [.ref p] ∧ (SqL X.K H2 p (ys.map V.str) ∨ SqT X.K H2 p (ys.map V.str)) ∧
      (ys.map (·.length)).sum + ys.length * a.length ≤ 16777216 ∧ (fun v H3 => SSWT X rest E (σ.set i (some v)) H3) (.str (Txt.join a ys)) H2 := by
    refine PA.to (pa_cons pe_w pa_nil hs1) (h.run σ H B hs hl _ fun d L1 v B1 H1 h1 e1 hl1 iv => ?_)
    have hc : V.str c = V.str (⟨c.cps.toList.toArray⟩ : Str) := by
      cases c
      simp
    refine km_join B1 H1 L1 (.str c.cps.toList) (.str c) [d] [v] (fun v H3 => SSWT X rest E (σ.set i (some v)) H3) (fun d2 L2 => DSsT X rest (ds' d2) L2 D) hl1 hc ⟨v, [], rfl, iv, rfl⟩ h1 fun d2 L2 z B2 H2 p2 e2 hl2 iz => ?_
    refine p2.run _ H2 B2 E ?_ hl2 (m.mono (e1.trans e2))
    rw [← hset d2]
    exact ((hs.mono e1).mono e2).set i iz
  have hA := (show PA X [e] (AW X [e]) from pa_w).run cpos pins _ σ H _ (I.tok (s.toks + 1)) q1
  rw [hs1] at hA ⊢
  refine Calls.callWith_builtin (by show (false || (backTo cpos (starEach [] X.env)).any (·.1)) = false; rw [hplain] <;> rfl) (Calls.evalArgs_plain ?_)
  refine wpAny_mono (PySem.wpAny_toks hA) (fun us s2 q2 => ?_) fun _ _ z => z.2
  obtain ⟨hk, vs, H2, I2, r2, q2⟩ := q2
  refine wpAny_mono (PySem.wpAny_toks (mt_join pins s2 σ H2 (.str c) vs _ us (fun v H3 => SSWT X rest E (σ.set i (some v)) H3) I2 ⟨_, rfl⟩ r2 q2)) (fun v s3 q3 => ?_) fun _ _ z => z.2
  obtain ⟨hk2, y, H3, I3, r3, q3⟩ := q3
  refine wpAny_mono (PySem.wpAny_toks (store_ok (Q := fun _ s4 => Inv X pins (σ.set i (some y)) H3 s4) I3 hN hi hx r3 (fun s4 I4 => I4) hf)) (fun _ s4 q4 => ?_) fun _ _ z => z.2
  have h4 : s.toks + 1 ≤ s2.toks := hk
  exact q3 pins s4 (by have := q4.1; omega) q4.2
/-- x = y.replace('a', 'b').replace('c', 'd'), a token out -/
def replK (a b : Str) (l : List Nat) : List Nat := PySem.StrLaws.replL a.cps.toList b.cps.toList l
theorem repl_txt {a b : Str} (h : 1 ≤ a.length) (l : List Nat) : Txt.replace (⟨l.toArray⟩ : Str) a b = ⟨(replK a b l).toArray⟩ := by
  have e := PySem.StrLaws.replace_list (x := (⟨l.toArray⟩ : Str)) (y := a) (z := b) h
  refine TL.ext_tl ?_
  show (Txt.replace (⟨l.toArray⟩ : Str) a b).cps.toList = _
  rw [e]
  rfl
theorem dssT_repl {i : Nat} {x : Str} {a b c d : Str} {j1 j2 j3 j4 : Nat} {p1 p2 p3 p4 ap1 ap2 cp1 cp2 pos' : Pos} {e : Expr} {ds' : Dt → DS} (hset : ∀ d, SetAt ds i d (ds' d))
    (h : DP X e ds L fun z L1 => ∃ l, z = .str l ∧ l.length + (l.length + 1) * b.length ≤ 16777216 ∧ (replK a b l).length + ((replK a b l).length + 1) * d.length ≤ 16777216 ∧ DSsT X rest (ds' (.str (replK c d (replK a b l)))) L1 D) (hN : X.N.Nodup)
    (ha : 1 ≤ a.length := by decide) (hc : 1 ≤ c.length := by decide) (hab : (a == b) = false := by decide) (hcd : (c == d) = false := by decide) (hi : X.N[i]? = some x := by rfl) (hx : Loc X.env.scope x := by first | exact .inl rfl | exact .inr rfl)
    (hw : swapsWith (.Call (.Attribute (.Call (.Attribute e "replace" ap1) [.Constant (.str a) j1 p1, .Constant (.str b) j2 p2] [] cp1) "replace" ap2) [.Constant (.str c) j3 p3, .Constant (.str d) j4 p4] [] cp2) (some (.Name x pos')) pos.line X.env = pure false := by rfl) (hf : X.fn x = true ∨ X.env.scope.names.lookup x = some .local := by first | exact .inl rfl | exact .inr rfl)
    (s1 : starEach [.Constant (.str a) j1 p1, .Constant (.str b) j2 p2] X.env = [(false, eval (.Constant (.str a) j1 p1) X.env), (false, eval (.Constant (.str b) j2 p2) X.env)] := by rfl)
    (s2 : starEach [.Constant (.str c) j3 p3, .Constant (.str d) j4 p4] X.env = [(false, eval (.Constant (.str c) j3 p3) X.env), (false, eval (.Constant (.str d) j4 p4) X.env)] := by rfl)
    (b1 : attributeBase e "replace" X.env (eval e X.env) = eval e X.env := by rfl) (l1 : (ap1.endLine == cp1.line) = true := by rfl)
    (b2 : attributeBase (.Call (.Attribute e "replace" ap1) [.Constant (.str a) j1 p1, .Constant (.str b) j2 p2] [] cp1) "replace" X.env (eval (.Call (.Attribute e "replace" ap1) [.Constant (.str a) j1 p1, .Constant (.str b) j2 p2] [] cp1) X.env) = eval (.Call (.Attribute e "replace" ap1) [.Constant (.str a) j1 p1, .Constant (.str b) j2 p2] [] cp1) X.env := by rfl) (l2 : (ap2.endLine == cp2.line) = true := by rfl) :
    DSsT X (.Assign [.Name x pos'] (.Call (.Attribute (.Call (.Attribute e "replace" ap1) [.Constant (.str a) j1 p1, .Constant (.str b) j2 p2] [] cp1) "replace" ap2) [.Constant (.str c) j3 p3, .Constant (.str d) j4 p4] [] cp2) pos :: rest) ds L D := .mk fun σ H B E hs hl m pins s h0 I => by
  have T := CwR.pet_replT (X := X) (CwR.pet_replC (X := X) (pe_w (X := X) (e := e)) hab s1 b1 l1) hcd s2 b2 l2
  refine wpAny_execs_cons (wpAny_Assign_Name (wpAny_mono (PySem.wpAny_toks (T pins s σ H (fun v H3 => SSWT X rest E (σ.set i (some v)) H3) h0 I ?_)) (fun v s3 q3 => ?_) fun _ _ z => z.2) hw)
  · refine h.run σ H B hs hl _ fun z L1 v B1 H1 h1 e1 hl1 iv => ?_
    obtain ⟨l, rfl, z1, z2, p⟩ := h1
    obtain rfl : v = _ := iv
    refine ⟨_, rfl, by rw [txt_len]; exact z1, _, rfl, ?_, ?_⟩
    · rw [repl_txt ha, txt_len]
      exact z2
    · rw [repl_txt ha, repl_txt hc]
      refine p.run _ H1 B1 E ?_ hl1 (m.mono e1)
      rw [← hset (.str (replK c d (replK a b l)))]
      exact (hs.mono e1).set i rfl
  · obtain ⟨hk, y, H3, I3, r3, q3⟩ := q3
    refine wpAny_mono (PySem.wpAny_toks (store_ok (Q := fun _ s4 => Inv X pins (σ.set i (some y)) H3 s4) I3 hN hi hx r3 (fun s4 I4 => I4) hf)) (fun _ s4 q4 => ?_) fun _ _ z => z.2
    exact q3 pins s4 (by have := q4.1; omega) q4.2
end
end Z
namespace Z
open PySem PySem.Spec PyProof.Rows L2
section
variable {X : Cx} {K : PySem.W.Frag} {o e : Expr} {ds : DS} {L : MS} {P : DK} {apos cpos : Pos}
/-- xs.index(x) of what may be compared: the first place -/
def idxDK : KM := fun x xs L P => ∃ es d, ∃ j : Nat, x = .lst es ∧ xs = [d] ∧ OkE d ∧ OkE (.lst es) ∧ es[j]? = some d ∧ (∀ m, m < j → es[m]? ≠ some d) ∧ P (.int (j : Nat)) L
theorem km_indexD : KRM K (rIndexD K) idxDK := by
  intro B H L x v xs vs Q P hl ix ixs hk q
  obtain ⟨es, d, j, rfl, rfl, h1, h2, hj, hno, p⟩ := hk
  obtain ⟨u, rfl, iu⟩ := ixs.one_inv
  have hy := h2.dp hl.sub ix
  have sh := h2.shaped
  have e0 : pd (.lst es) = .list (es.map pd) := by rw [pd, pdL_map]
  rw [e0] at hy sh
  obtain ⟨a, us, rfl, ha, ia⟩ := ix
  obtain ⟨n, hn2, hz⟩ := h2
  obtain ⟨k, rfl, hz3⟩ := okE_lst hz
  refine ⟨a, u, _, _, j, pd d, rfl, rfl, hy, h1.dp hl.sub iu, sh, h1.shaped, by rw [List.getElem?_map, hj]; rfl, (OkE.eqv h1 h1).mpr rfl, fun m z' hm hz' => ?_, q _ L _ B H p (Same.refl B) hl rfl⟩
  rw [List.getElem?_map] at hz'
  obtain ⟨z, hz4, rfl⟩ := Option.map_eq_some_iff.mp hz'
  rw [Bool.eq_false_iff]
  intro e
  have := (OkE.eqv ⟨k, by omega, hz3 z (List.mem_of_getElem? hz4)⟩ h1).mp e
  rw [this] at hz4
  exact hno m hm hz4
theorem dp_lindex {k : Nat} (hr : Room k X.A) (h : DP X o ds L fun x L1 => tyM "list" x L1 ∧ DP X e ds L1 fun d L2 => idxDK x [d] L2 P)
    (hbase : attributeBase o "index" X.env (eval o X.env) = eval o X.env := by rfl)
    (hfew : ((backTo cpos (starEach [e] X.env)).all (fun x => !x.1) && (backToKw cpos (keywordEach [] X.env)).all (fun x => x.1.isSome)
      && decide ([e].length + ([] : List Keyword).length + (if ([] : List Keyword).isEmpty then 0 else 1) < 30)) = true := by rfl)
    (hline : (apos.endLine == cpos.line) = true := by rfl) (hs1 : starEach [e] X.env = (false, eval e X.env) :: starEach [] X.env := by rfl) (hplain : (backTo cpos (starEach [] X.env)).any (·.1) = false := by rfl) : DP X (.Call (.Attribute o "index" apos) [e] [] cpos) ds L P :=
  dp_bm PySem.F.plainAttrs_list PySem.F.slot_list_index PySem.F.type_list_index (mt_indexD (show X.A.units + 65 < cLine by have := hr.un; omega)) km_indexD (DP.imp h fun x L1 ⟨ht, h1⟩ => ⟨ht, da_cons (DP.imp h1 fun d L2 h2 => da_nil h2) hs1⟩) hbase hfew hline hs1 hplain
end
end Z
/-! tuple * int, for none and one, too -/
namespace L2
open PySem PySem.Spec PyProof.Rows
theorem tuple_mul1 (l : Addr) (items : Array Value) (n : Nat) (dd : Option Addr) (sl : Array (Option Value)) (u : Tok) :
    Meets (Builtin.«tuple.__mul__» ⟨[.ref l, .int 1 u], []⟩) (fun _ R s => s.heap.get? l = some { cls := .type "tuple", dict := dd, data := .seq items n, slots := sl } ∧ R (.ok (.ret (Value.ref l))) s) :=
  .of_wp fun prog w A R s h => by
    obtain ⟨hp, g, d, tk, os⟩ := s
    obtain ⟨hl, h⟩ := h
    have f1 := AutoSeq1.idx_int
    have c0 : (decide ((1 : Int) < -(2 ^ 63)) || decide ((1 : Int) ≥ 2 ^ 63)) = false := by decide
    have c1 : (items.isEmpty || (1 : Int) == 1) = true := by rw [Bool.or_eq_true]; exact .inr rfl
    wp_walk using wpAny_loadPart' hl
    repeat (first
      | (refine wpAny_ite_false (decide_eq_false (by rw [c0]; exact Bool.false_ne_true)) ?_; wp_walk using wpAny_loadPart' hl)
      | (refine wpAny_ite_true (decide_eq_true (by rw [c1])) ?_; wp_walk using wpAny_loadPart' hl))
    exact ⟨_, rfl, h⟩
theorem tuple_mul0 (l : Addr) (items : Array Value) (n : Nat) (dd : Option Addr) (sl : Array (Option Value)) (u : Tok) (he : items.isEmpty = false) :
    Meets (Builtin.«tuple.__mul__» ⟨[.ref l, .int 0 u], []⟩) (fun _ R s => s.heap.get? l = some { cls := .type "tuple", dict := dd, data := .seq items n, slots := sl } ∧
      R (.ok (.ret (Value.ref s.heap.objs.size))) { s with heap := s.heap.push { cls := Value.type "tuple", data := Data.seq #[] }, toks := s.toks }) :=
  .of_wp fun prog w A R s h => by
    obtain ⟨hp, g, d, tk, os⟩ := s
    obtain ⟨hl, h⟩ := h
    have f1 := AutoSeq1.idx_int
    have c0 : (decide ((0 : Int) < -(2 ^ 63)) || decide ((0 : Int) ≥ 2 ^ 63)) = false := by decide
    have c1 : (items.isEmpty || (0 : Int) == 1) = false := by rw [he]; rfl
    have c2 : (decide ((0 : Int) ≤ 0) || items.isEmpty) = true := by rfl
    wp_walk using wpAny_loadPart' hl
    repeat (first
      | (refine wpAny_ite_false (decide_eq_false (by rw [c0]; exact Bool.false_ne_true)) ?_; wp_walk using wpAny_loadPart' hl)
      | (refine wpAny_ite_false (decide_eq_false (by rw [c1]; exact Bool.false_ne_true)) ?_; wp_walk using wpAny_loadPart' hl)
      | (refine wpAny_ite_true (decide_eq_true (by rw [c2])) ?_; wp_walk using wpAny_loadPart' hl))
    exact ⟨_, rfl, h⟩
def rRepT01 (K : PySem.W.Frag) : R2 := fun x y H Q => ∃ l xs, x = .ref l ∧ SqT K H l xs ∧ xs ≠ [] ∧ ((y = .int 1 ∧ Q (.ref l) H) ∨ (y = .int 0 ∧ ∀ p, H p = none → Q (.ref p) (upd H p (.tup []))))
section
variable {X : Cx}
theorem op_repT01 : OpR X (binaryOp .Mult) (rRepT01 X.K) := by
  intro pins s σ H x y v u Q I rx ry h
  obtain ⟨l, xs, rfl, hT, hne, h⟩ := h
  cases rx
  obtain ⟨its, r, ⟨⟨cls, dd, data, sl⟩, ho, hc, n, hd⟩, hs⟩ := I.tuple hT
  simp only at hc hd
  subst hc hd
  have hle : its.length = xs.length := r.length.symm
  have hn : its ≠ [] := fun e => hne (by
    rw [e] at hle
    exact List.eq_nil_of_length_eq_zero hle.symm)
  have hi : its.toArray.isEmpty = false := by
    cases its with
    | nil => exact absurd rfl hn
    | cons a b => rfl
  rcases h with ⟨rfl, q⟩ | ⟨rfl, q⟩
  · obtain ⟨t, rfl⟩ := ry
    refine wpAny_binaryOp_repeat_ref (T := "tuple") (U := "int") (by decide) ⟨_, ho, rfl⟩ (fun s' => typeIs_int s' 1 t) noFill_tuple_mul F.fills_int_mul F.slot_int_rmul repeat_tuple F.slot_int_index.lookup
      (call_meets F.slot_int_rmul (typeIs_int s 1 t) F.entry_int_rmul (F.args_int_rmul_2 _ _) (int_rmul_tuple 1 t l its.toArray n dd sl)
        ⟨ho, rfl, ⟨_, ho, rfl⟩, call_meets F.slot_tuple_mul ⟨_, ho, rfl⟩ F.entry_tuple_mul (F.args_tuple_mul_2 _ _) (tuple_mul1 l its.toArray n dd sl t) ⟨ho, ?_⟩⟩)
    exact ⟨.ref l, H, I, rfl, q⟩
  · obtain ⟨t, rfl⟩ := ry
    refine wpAny_binaryOp_repeat_ref (T := "tuple") (U := "int") (by decide) ⟨_, ho, rfl⟩ (fun s' => typeIs_int s' 0 t) noFill_tuple_mul F.fills_int_mul F.slot_int_rmul repeat_tuple F.slot_int_index.lookup
      (call_meets F.slot_int_rmul (typeIs_int s 0 t) F.entry_int_rmul (F.args_int_rmul_2 _ _) (int_rmul_tuple 0 t l its.toArray n dd sl)
        ⟨ho, rfl, ⟨_, ho, rfl⟩, call_meets F.slot_tuple_mul ⟨_, ho, rfl⟩ F.entry_tuple_mul (F.args_tuple_mul_2 _ _) (tuple_mul0 l its.toArray n dd sl t hi) ⟨ho, ?_⟩⟩)
    refine ⟨.ref s.heap.objs.size, _, I.laid (t' := s.toks) (o := .tup []) (fun b ob q => Heap.get?_push_of_some _ q) (Nat.le_refl _) ?_, rfl, q _ (I.hok.fresh (Nat.le_refl _))⟩
    exact ⟨by rw [sizeLine_eq]; decide, [], .nil, IsTup.new _ _⟩
end
end L2
namespace Z
open PySem PySem.Spec PyProof.Rows L2
/-- tuple * int -/
def repTK : K2 := fun x y L P => match x, y with
  | .tup xs, .int k => ∃ n : Nat, k = (n : Int) ∧ n ≤ 1000 ∧ 1 ≤ xs.length ∧ xs.length ≤ 1000 ∧ P (.tup (List.replicate n xs).flatten) L
  | _, _ => False
def rRepTA (K : PySem.W.Frag) : R2 := fun x y H Q => rRepT01 K x y H Q ∨ rRepT K x y H Q
section
variable {X : Cx} {K : PySem.W.Frag}
theorem op_repTA : OpR X (binaryOp .Mult) (rRepTA X.K) := op_repT01.or op_repT
theorem rep_is {B : Hp} {xs : List Dt} {vs : List V} (h : IsL K B xs vs) : ∀ n : Nat, IsL K B (List.replicate n xs).flatten (List.replicate n vs).flatten
  | 0 => rfl
  | n + 1 => by
    rw [List.replicate_succ, List.replicate_succ, List.flatten_cons, List.flatten_cons]
    exact h.append (rep_is h n)
theorem kr_repT : KR2 K (rRepTA K) repTK := by
  intro B H L x y v u Q P hl ix iy hk q
  cases x <;> cases y <;> try exact False.elim hk
  obtain ⟨n, rfl, h1, h2, h3, p⟩ := hk
  obtain ⟨a, vs, rfl, ha, ia⟩ := ix
  obtain rfl : u = _ := iy
  have hne : vs ≠ [] := fun e => by
    have := ia.length
    rw [e] at this
    simp at this
    omega
  match n, h1, p with
  | 0, _, p =>
    refine .inl ⟨a, vs, rfl, SqT.of (hl.sub _ _ ha), hne, .inr ⟨rfl, fun c hc => ?_⟩⟩
    exact Fin.tup q hl p (vs := []) rfl hc
  | 1, _, p =>
    refine .inl ⟨a, vs, rfl, SqT.of (hl.sub _ _ ha), hne, .inl ⟨rfl, ?_⟩⟩
    have e : (List.replicate 1 ‹List Dt›).flatten = ‹List Dt› := by simp
    rw [e] at p
    exact Fin.here q hl p ⟨a, vs, rfl, ha, ia⟩
  | n + 2, h1, p =>
    refine .inr ⟨a, _, vs, rfl, rfl, SqT.of (hl.sub _ _ ha), hne, by omega, by omega, by rw [ia.length]; exact h3, fun c hc => ?_⟩
    rw [Int.toNat_natCast]
    exact Fin.tup q hl p (rep_is ia _) hc
end
section
variable {X : Cx} {a b : Expr} {ds : DS} {L : MS} {P : DK} {pos : Pos}
theorem dp_repT (h : DP X a ds L fun x L1 => DP X b ds L1 fun y L2 => repTK x y L2 P) : DP X (.BinOp a .Mult b pos) ds L P := dp_bin op_repTA kr_repT h
end
end Z
/-! text[::-1]; {text: text, ..}[text]; {text: text, ..}.get(text, text) -/
namespace L2
open PySem PySem.Spec PyProof.Rows
section
variable {X : Cx}
def tRevS (te : TE) : TE := fun σ H Q => te σ H fun x H1 => ∃ z : Str, x = .str z ∧ z.length ≤ sizeLine ∧ Q (.str ⟨z.cps.toList.reverse.toArray⟩) H1
theorem rev_pick (z : Str) : (Builtin.Str.strSliceIndices none none (-1) z.length).filterMap (z.cps[·]?) = z.cps.toList.reverse := by
  have e : Builtin.Str.strSliceIndices none none (-1) z.length = sliceRange ((z.cps.size : Int) - 1) (-1) (-1) := rfl
  rw [e, PySem.W.krv_sliceRange, PySem.W.krv_range, List.filterMap_reverse, PySem.W.krv_all]
theorem pe_revS {e : Expr} {te : TE} {k : Nat} {p1 p2 p3 pos : Pos} (he : PE X e te) : PE X (.Subscript e (.Slice none none (some (.UnaryOp .USub (.Constant (.int 1) k p1) p2)) p3) pos) (tRevS te) := by
  refine ⟨fun pins s σ H Q I h => ?_⟩
  refine Subscript_ (thn (he.run pins s σ H _ I h) fun v s1 ⟨x, H1, I1, r1, q1⟩ => ?_)
  obtain ⟨z, ex, hz, q⟩ := q1
  subst ex
  obtain ⟨t, rfl⟩ := r1
  have hst : PO X (some (.UnaryOp .USub (.Constant (.int 1) k p1) p2)) (tPart (tUn (rU fun i => .int (-i)) (tC (.int 1)))) := po_some (pe_un un_neg pe_int)
  refine wpAny_Slice (thn (po_none.run pins s1 σ H1 (fun o H2 => o = none ∧ H2 = H1) I1 ⟨rfl, rfl⟩) fun vl s2 ⟨l, H2, I2, pl, el, e2⟩ => ?_)
  subst el e2
  refine thn (po_none.run pins s2 σ H2 (fun o H3 => o = none ∧ H3 = H2) I2 ⟨rfl, rfl⟩) fun vu s3 ⟨u, H3, I3, pu, eu, e3⟩ => ?_
  subst eu e3
  refine thn (hst.run pins s3 σ H3 (fun o H4 => o = some (-1) ∧ H4 = H3) I3 ⟨1, rfl, -1, rfl, rfl, rfl⟩) fun vs s4 ⟨o, H4, I4, ps, eo, e4⟩ => ?_
  subst eo e4
  have I5 : Inv X pins σ H4 { s4 with heap := s4.heap.push { cls := .type "slice", data := .fields #[vl, vu, vs] } } := I4.kept (t' := s4.toks) fun b ob q => Heap.get?_push_of_some _ q
  show wpAny (model X.prog X.w) X.A (subscriptTail e (.Slice none none (some (.UnaryOp .USub (.Constant (.int 1) k p1) p2)) p3) (.str z t) (.ref s4.heap.objs.size)) (EP X pins σ Q) X.xe { s4 with heap := s4.heap.push { cls := .type "slice", data := .fields #[vl, vu, vs] } }
  obtain ⟨l0, rfl, e5⟩ := IsPart.raw pl
  obtain ⟨u0, rfl, e6⟩ := IsPart.raw pu
  obtain ⟨s0, rfl, e7⟩ := IsPart.raw ps
  obtain rfl : l0 = none := by cases l0 <;> simp_all
  obtain rfl : u0 = none := by cases u0 <;> simp_all
  refine tail_any (T := "str") (ops := [.str z t, .ref s4.heap.objs.size]) (typeIs_str _ _ _) F.slot_str_getitem.lookup ?_ (by with_unfolding_all rfl)
  refine wpAny_getItem_str_slice (l := none) (u := none) (st := s0) ⟨_, Heap.get?_push_size _ rfl, rfl, rfl⟩ (by rw [e7]; rfl) ?_
  cases s0 with
  | none => simp at e7
  | some st =>
    obtain ⟨i, t2⟩ := st
    obtain rfl : i = -1 := by simpa using e7
    show Made.post (if ((-1 : Int) == 1 && (Builtin.Str.strSliceIndices none none (-1) z.length).length == z.length) = true then Made.val (.str z t)
      else Made.str ⟨((Builtin.Str.strSliceIndices none none (-1) z.length).filterMap (z.cps[·]?)).toArray⟩) (EP X pins σ Q) _
    rw [if_neg (by simp), rev_pick]
    refine ⟨?_, .str _, H4, I5.tok _, ⟨_, rfl⟩, q⟩
    show z.cps.toList.reverse.toArray.size ≤ sizeLine
    rw [List.size_toArray, List.length_reverse]
    exact hz
end
end L2
namespace Z
open PySem PySem.Spec PyProof.Rows L2
section
variable {X : Cx} {e f : Expr} {ds : DS} {L : MS} {P : DK} {pos dpos pos' : Pos}
theorem dp_revS {k : Nat} {p1 p2 p3 : Pos} (h : DP X e ds L fun x L1 => ∃ l, x = .str l ∧ l.length ≤ sizeLine ∧ P (.str l.reverse) L1) : DP X (.Subscript e (.Slice none none (some (.UnaryOp .USub (.Constant (.int 1) k p1) p2)) p3) pos) ds L P := .mk fun σ H B hs hl Q q =>
  PE.to (pe_revS pe_w) (h.run σ H B hs hl _ fun x L1 v B1 H1 h1 e1 hl1 ix => by
    obtain ⟨l, rfl, hz, p⟩ := h1
    obtain rfl : v = V.str ⟨l.toArray⟩ := ix
    exact ⟨⟨l.toArray⟩, rfl, by rw [txt_len]; exact hz, q (.str l.reverse) L1 _ B1 H1 p e1 hl1 rfl⟩)
theorem str_back (v : Str) : V.str v = V.str ⟨v.cps.toList.toArray⟩ := by
  obtain ⟨a⟩ := v
  simp
theorem dp_dispS4 {a b c d i j k l : Str} {t1 t2 t3 t4 t5 t6 t7 t8 : Nat} {p1 p2 p3 p4 p5 p6 p7 p8 : Pos} {r : Nat} (hr : Room r X.A)
    (hv : ∀ q ∈ [(a, i), (b, j), (c, k), (d, l)], valV (mergeK [] [(Sum.inr a, V.str i), (Sum.inr b, V.str j), (Sum.inr c, V.str k), (Sum.inr d, V.str l)]) (Sum.inr q.1) = some (V.str q.2))
    (h : DP X e ds L fun y L1 => ∃ cs v, y = .str cs ∧ ((⟨cs.toArray⟩ : Str), v) ∈ [(a, i), (b, j), (c, k), (d, l)] ∧ P (.str v.cps.toList) L1) (hs' : NoSl e := by intro _ _; rfl) :
    DP X (.Subscript (.Dict [some (.Constant (.str a) t1 p1), some (.Constant (.str b) t2 p2), some (.Constant (.str c) t3 p3), some (.Constant (.str d) t4 p4)] [.Constant (.str i) t5 p5, .Constant (.str j) t6 p6, .Constant (.str k) t7 p7, .Constant (.str l) t8 p8] dpos) e pos) ds L P := .mk fun σ H B hs hl Q q => by
  refine PE.to (pe_dget (hu_of hr) (pe_disp (pps_cons pe_str pe_str <| pps_cons pe_str pe_str <| pps_cons pe_str pe_str <| pps_cons pe_str pe_str pps_nil) rfl rfl (by simp) (by simp)) pe_w hs') ?_
  intro p hp
  refine ⟨upd_same, [(Sum.inr a, V.str i), (Sum.inr b, V.str j), (Sum.inr c, V.str k), (Sum.inr d, V.str l)], rfl, by simp, ?_⟩
  rw [upd_twice]
  obtain ⟨sb, hl2⟩ := hl.new (o := .dK (mergeK [] [(Sum.inr a, V.str i), (Sum.inr b, V.str j), (Sum.inr c, V.str k), (Sum.inr d, V.str l)])) hp
  refine h.run σ _ _ (hs.mono sb) hl2 _ fun y L1 v B1 H1 h1 e1 hl1 iy => ?_
  obtain ⟨cs, n, rfl, hm, hq⟩ := h1
  obtain rfl : v = V.str ⟨cs.toArray⟩ := iy
  refine ⟨p, V.str n, rfl, .inl ⟨_, .inr ⟨cs.toArray⟩, .inl (hl1.sub _ _ (e1 _ _ upd_same)), rfl, (hv _ hm).symm⟩, ?_⟩
  exact q (.str n.cps.toList) L1 _ B1 H1 hq (sb.trans e1) hl1 (str_back n)
theorem dp_disp2get (qs : List (Str × Option Str)) {a b i j : Str} {t1 t2 t5 t6 : Nat} {p1 p2 p5 p6 : Pos} {r : Nat} (hr : Room r X.A)
    (hv : ∀ q ∈ qs, valV (mergeK [] [(Sum.inr a, V.str i), (Sum.inr b, V.str j)]) (Sum.inr q.1) = q.2.map V.str)
    (h : DP X e ds L fun y L1 => DP X f ds L1 fun z L2 => ∃ cs zs o, y = .str cs ∧ z = .str zs ∧ ((⟨cs.toArray⟩ : Str), o) ∈ qs ∧ P (.str ((o.map fun v : Str => v.cps.toList).getD zs)) L2)
    (m2 : M2 X (.Dict [some (.Constant (.str a) t1 p1), some (.Constant (.str b) t2 p2)] [.Constant (.str i) t5 p5, .Constant (.str j) t6 p6] dpos) "get" pos' e f pos := by exact ⟨rfl, rfl, rfl, rfl⟩) :
    DP X (.Call (.Attribute (.Dict [some (.Constant (.str a) t1 p1), some (.Constant (.str b) t2 p2)] [.Constant (.str i) t5 p5, .Constant (.str j) t6 p6] dpos) "get" pos') [e, f] [] pos) ds L P := .mk fun σ H B hs hl Q q => by
  refine PE.to (pe_dget2 (hu_of hr) (pe_disp (pps_cons pe_str pe_str <| pps_cons pe_str pe_str pps_nil) rfl rfl (by simp) (by simp)) pe_w pe_w m2) ?_
  intro p hp
  refine ⟨upd_same, [(Sum.inr a, V.str i), (Sum.inr b, V.str j)], rfl, by simp, ?_⟩
  rw [upd_twice]
  obtain ⟨sb, hl2⟩ := hl.new (o := .dK (mergeK [] [(Sum.inr a, V.str i), (Sum.inr b, V.str j)])) hp
  refine ⟨p, rfl, .inl ⟨_, .inl upd_same⟩, h.run σ _ _ (hs.mono sb) hl2 _ fun y L1 y' B1 H1 h1 e1 hl1 iy => h1.run σ H1 B1 ((hs.mono sb).mono e1) hl1 _ fun z L2 z' B2 H2 h2 e2 hl2' iz => ?_⟩
  obtain ⟨cs, zs, o, rfl, rfl, hm, hq⟩ := h2
  have iy' : y' = V.str ⟨cs.toArray⟩ := iy
  have iz' : z' = V.str ⟨zs.toArray⟩ := iz
  subst iy' iz'
  refine ⟨_, .inl ⟨_, .inr ⟨cs.toArray⟩, .inl (hl2'.sub _ _ (e2 _ _ (e1 _ _ upd_same))), rfl, rfl⟩, ?_⟩
  rw [hv _ hm]
  cases o with
  | none => exact q (.str zs) L2 _ B2 H2 hq ((sb.trans e1).trans e2) hl2' rfl
  | some n => exact q (.str n.cps.toList) L2 _ B2 H2 hq ((sb.trans e1).trans e2) hl2' (str_back n)
end
end Z
/-! lists of lists that change; fields that are changed -/
namespace Z
open PySem PySem.Spec PyProof.Rows L2
section
variable {K : PySem.W.Frag} {B H : Hp} {L L2 : MS}
theorem Hs.perm (h : Hs K B L H) (p : L.Perm L2) : Hs K B L2 H := ⟨h.sub, fun a m ha => h.own a m (p.mem_iff.mpr ha), ((p.map (·.1)).nodup_iff).mp h.nd, h.nt⟩
/-- lists, each in its own place -/
def lay (os : List (Addr × List Dt)) : MS := os.map fun p => (p.1, MO.lst p.2)
theorem lay_ml {os : List (Addr × List Dt)} {r : Nat} {p : Addr × List Dt} (h : os[r]? = some p) : ML (lay os ++ L) p.1 (.lst p.2) :=
  List.mem_append_left _ (List.mem_map.mpr ⟨p, List.mem_of_getElem? h, rfl⟩)
theorem lay_st : ∀ {os : List (Addr × List Dt)} {r : Nat} {p : Addr × List Dt}, os[r]? = some p → ∀ ys : List Dt, MSt (lay os ++ L) p.1 (.lst ys) (lay (os.set r (p.1, ys)) ++ L)
  | q :: os, 0, p, h, ys => by
    obtain rfl : q = p := Option.some.inj h
    exact .hd
  | q :: os, r + 1, p, h, ys => .tl (lay_st (os := os) (r := r) h ys)
theorem Hs.melt : ∀ {os : List (Addr × List Dt)} {B : Hp}, Hs K B (lay os ++ L) H → ∃ B', Same B B' ∧ Hs K B' L H ∧ IsL K B' (os.map fun p => Dt.lst p.2) (os.map fun p => V.ref p.1)
  | [], B, h => ⟨B, Same.refl B, h, rfl⟩
  | p :: os, B, h => by
    obtain ⟨vs, h1, h2⟩ := h.lst (a := p.1) (xs := p.2) .hd
    obtain ⟨sb, h3⟩ := h.freeze (a := p.1) (m := .lst p.2) .hd h1
    obtain ⟨B', s2, h4, h5⟩ := Hs.melt (os := os) h3
    exact ⟨B', sb.trans s2, h4, _, _, rfl, ⟨p.1, vs, rfl, s2 _ _ upd_same, h2.mono (sb.trans s2)⟩, h5⟩
theorem adrs_refs : ∀ {os : List (Addr × List Dt)} {vs : List V}, IsL K B (os.map fun p => Dt.adr p.1) vs → vs = os.map fun p => V.ref p.1
  | [], _, h => h
  | p :: os, _, h => by
    obtain ⟨v, r, rfl, i1, i2⟩ := h
    obtain rfl : v = _ := i1
    rw [List.map_cons, adrs_refs i2]
end
section
variable {X : Cx} {a b e : Expr} {ds : DS} {L : MS} {P : DK} {pos : Pos}
theorem dp_perm (h : DP X e ds L fun d L1 => ∃ L2, L1.Perm L2 ∧ P d L2) : DP X e ds L P := .mk fun σ H B hs hl Q q =>
  h.run σ H B hs hl Q fun d L1 v B1 H1 ⟨L2, s, p⟩ e1 hl1 iv => q d L2 v B1 H1 p e1 (hl1.perm s) iv
theorem dss_perm {sts : List Stmt} {L2 : MS} {D : DEnds} (s : L.Perm L2) (h : DSs X sts ds L2 D) : DSs X sts ds L D := .mk fun σ H B E hs hl mt => h.run σ H B E hs (hl.perm s) mt
/-- the lists of a list, from here on as they are -/
theorem dp_melt {x : Str} {i : Nat} {os : List (Addr × List Dt)} (hg : Get ds i (.lst (os.map fun p => Dt.adr p.1))) (p : P (.lst (os.map fun p => Dt.lst p.2)) L) (hN : X.N[i]? = some x := by rfl) (hv : Vis X.env.scope x := by first | exact Or.inl rfl | exact Or.inr (Or.inl rfl) | exact Or.inr (Or.inr rfl))
    (h0 : (x == ("__debug__" : Str)) = false := by decide) (hcd : (x == ("__classdict__" : Str)) = false := by decide) : DP X (.Name x pos) ds (lay os ++ L) P := .mk fun σ H B hs hl Q q => by
  obtain ⟨v, e1, e2⟩ := hs.2 i _ hg
  obtain ⟨a, vs, rfl, ha, iv⟩ := e2
  have ev := adrs_refs iv
  subst ev
  obtain ⟨B', sb, h4, h5⟩ := hl.melt
  exact PE.to (pe_var hN hv h0 hcd) ⟨_, e1, q _ L _ B' H p sb h4 ⟨a, _, rfl, sb _ _ ha, h5⟩⟩
/-- a list so many times: a new one, that may change -/
def repKM : K2 := fun x y L P => match x, y with
  | .lst xs, .int k => -(2 ^ 63) ≤ k ∧ k < 2 ^ 63 ∧ xs.length * k.toNat ≤ sizeLine ∧ ∀ a, P (.adr a) ((a, .lst (List.replicate k.toNat xs).flatten) :: L)
  | _, _ => False
theorem kr_repM {K : PySem.W.Frag} : KR2 K rRep repKM := by
  intro B H L x y v u Q P hl ix iy hk q
  cases x <;> cases y <;> try exact False.elim hk
  obtain ⟨a, vs, rfl, ha, ia⟩ := ix
  obtain ⟨h1, h2, h3, p⟩ := hk
  exact ⟨a, _, vs, rfl, iy, hl.sub _ _ ha, h1, h2, by rw [ia.length]; exact h3, fun c hc => Fin.lstM q hl p (ia.rep _) hc⟩
theorem dp_repM (h : DP X a ds L fun x L1 => DP X b ds L1 fun y L2 => repKM x y L2 P) : DP X (.BinOp a .Mult b pos) ds L P := dp_bin op_rep kr_repM h
end
/-! a field that stands is changed -/
def setF {α : Type} : List Str → List α → Str → α → List α
  | n :: ns, x :: xs, f, v => if n = f then v :: xs else x :: setF ns xs f v
  | _, xs, _, _ => xs
theorem setF_len {α : Type} {f : Str} {v : α} : ∀ {ns : List Str} {xs : List α}, (setF ns xs f v).length = xs.length
  | [], xs => by cases xs <;> rfl
  | n :: ns, [] => rfl
  | n :: ns, x :: xs => by
    unfold setF
    split
    · rfl
    · rw [List.length_cons, List.length_cons, setF_len]
theorem putF_old {f : Str} {v : V} : ∀ {ns : List Str} {vs : List V}, ns.length = vs.length → f ∈ ns → putF f v (ns.zip vs) = ns.zip (setF ns vs f v)
  | n :: ns, u :: vs, hl, hf => by
    rw [List.zip_cons_cons, putF]
    unfold setF
    by_cases e : n = f
    · rw [if_pos e, if_pos e, List.zip_cons_cons]
    · rw [if_neg e, if_neg e, List.zip_cons_cons, putF_old (Nat.succ.inj hl) ((List.mem_cons.mp hf).resolve_left fun z => e z.symm)]
theorem IsL.setF {K : PySem.W.Frag} {B : Hp} {f : Str} {d : Dt} {v : V} (i : Is K B d v) : ∀ {ns : List Str} {xs : List Dt} {vs : List V}, IsL K B xs vs → IsL K B (setF ns xs f d) (setF ns vs f v)
  | [], xs, vs, h => by
    rw [show Z.setF [] xs f d = xs by cases xs <;> rfl, show Z.setF [] vs f v = vs by cases vs <;> rfl]
    exact h
  | n :: ns, [], vs, h => by
    obtain rfl : vs = [] := h
    exact rfl
  | n :: ns, x :: xs, vs, h => by
    obtain ⟨u, r, rfl, i1, i2⟩ := h
    unfold Z.setF
    split
    · exact ⟨v, r, rfl, i, i2⟩
    · exact ⟨u, _, rfl, i1, IsL.setF i i2⟩
section
variable {X : Cx} {e : Expr} {ds : DS} {L : MS} {P : DK} {pos : Pos}
theorem ds_fldU {f : Str} {o v : Expr} {D : DEnds} {pos' : Pos} (h : DP X v ds L fun d L1 => DP X o ds L1 fun x L2 => ∃ a C ns xs L3, x = .adr a ∧ ML L2 a (.ins C ns xs) ∧ Cls X.K C ∧ NoAttr X.K C f ∧ ns.length < 1000 ∧ f ∈ ns ∧ MSt L2 a (.ins C ns (setF ns xs f d)) L3 ∧ D.nx ds L3)
    (hs' : swapsWith v (some (.Attribute o f pos')) pos.line X.env = pure false := by rfl) : DSt X (.Assign [.Attribute o f pos'] v pos) ds L D := .mk fun σ H B E hs hl m =>
  PS.to (ps_fld pe_w pe_w hs') (h.run σ H B hs hl _ fun d L1 z B1 H1 h1 e1 hl1 iz => h1.run σ H1 B1 (hs.mono e1) hl1 _ fun x L2 x' B2 H2 h2 e2 hl2 ix => by
    obtain ⟨a, C, ns, xs, L3, rfl, hm, hc, hn, hlen, hf, ht, p⟩ := h2
    have ix : x' = .ref a := ix
    subst ix
    obtain ⟨_, ob, hu, dx, vs, rfl, en, iv⟩ := hl2.own a _ hm
    have ev : ns.length = vs.length := by rw [iv.length]; exact en
    refine ⟨a, C, dx, _, rfl, hu, hc, hn, by rw [List.length_zip]; omega, m.nx ds L3 σ B2 _ p (e1.trans e2) (hs.mono (e1.trans e2)) (hl2.put ht ⟨dx, setF ns vs f z, ?_, ?_, ?_⟩)⟩
    · rw [putF_old ev hf]
    · rw [setF_len, en]
    · exact iv.setF (iz.mono e2))
/-- a list that may change, and what it's compared with -/
def eqMK (g : Bool → Bool) : K2 := fun x y L P => ∃ a xs, x = .adr a ∧ ML L a (.lst xs) ∧ OkE (.lst xs) ∧ OkE y ∧ ∀ b, (b = true ↔ Dt.lst xs = y) → P (.bl (g b)) L
theorem okM_dp {K : PySem.W.Frag} {B H : Hp} {a : Addr} {xs : List Dt} (hl : Hs K B L H) (hm : ML L a (.lst xs)) (h : OkE (.lst xs)) : Dp K H (.ref a) (pd (.lst xs)) := by
  obtain ⟨n, _, h⟩ := h
  obtain ⟨k, rfl, h⟩ := okE_lst h
  obtain ⟨vs, ha, ia⟩ := hl.lst hm
  rw [pd]
  exact .lst (SqL.of ha) (okE_dpL hl.sub h ia)
theorem kr_eqM {K : PySem.W.Frag} : KR2 K (rEqD K) (eqMK id) := by
  intro B H L x y v u Q P hl ix iy hk q
  obtain ⟨a, xs, rfl, hm, h1, h2, p⟩ := hk
  obtain rfl : v = V.ref a := ix
  exact ⟨_, _, okM_dp hl hm h1, h2.dp hl.sub iy, h1.shaped, h2.shaped, Fin.here q hl (p _ (h1.eqv h2)) rfl⟩
theorem dt_eqM {a b : Expr} {k : Nat} {PB : Bool → MS → Prop} (hr : Room k X.A) (h : DP X a ds L fun x L1 => DP X b ds L1 fun y L2 => eqMK id x y L2 fun d L3 => ∃ c, d = .bl c ∧ PB c L3) : DT X (.Compare a [.Eq] [b] pos) ds L PB := dt_cmp (op_eqD hr.units) kr_eqM h
end
end Z
namespace Z
open PySem PySem.Spec PyProof.Rows L2
/-! is True; a list that may change, gone through while nothing changes -/
section
variable {X : Cx} {K : PySem.W.Frag} {a b : Expr} {ds : DS} {L : MS} {P : DK} {PB : Bool → MS → Prop} {pos : Pos}
def isBK (g : Bool → Bool) : K2 := fun x y L P => match x, y with
  | .bl a, .bl b => P (.bl (g (decide (a = b)))) L
  | _, _ => False
theorem kr_isB : KR2 K rIsB (isBK id) := by
  intro B H L x y v u Q P hl ix iy hk q
  cases x <;> cases y <;> try exact False.elim hk
  obtain rfl : v = _ := ix
  obtain rfl : u = _ := iy
  exact ⟨_, _, rfl, rfl, Fin.here q hl hk rfl⟩
theorem kr_notB : KR2 K rNotB (isBK not) := by
  intro B H L x y v u Q P hl ix iy hk q
  cases x <;> cases y <;> try exact False.elim hk
  obtain rfl : v = _ := ix
  obtain rfl : u = _ := iy
  exact ⟨_, _, rfl, rfl, Fin.here q hl hk rfl⟩
theorem dt_isB (h : DP X a ds L fun x L1 => DP X b ds L1 fun y L2 => isBK id x y L2 fun d L3 => ∃ c, d = .bl c ∧ PB c L3) (hm : behindInMarks .Is b = false := by first | exact nomark _ | rfl) : DT X (.Compare a [.Is] [b] pos) ds L PB := dt_cmp op_isBl kr_isB h hm
theorem dt_notB (h : DP X a ds L fun x L1 => DP X b ds L1 fun y L2 => isBK not x y L2 fun d L3 => ∃ c, d = .bl c ∧ PB c L3) (hm : behindInMarks .IsNot b = false := by first | exact nomark _ | rfl) : DT X (.Compare a [.IsNot] [b] pos) ds L PB := dt_cmp op_notBl kr_notB h hm
theorem dp_isB (h : DP X a ds L fun x L1 => DP X b ds L1 fun y L2 => isBK id x y L2 P) (hm : behindInMarks .Is b = false := by first | exact nomark _ | rfl) : DP X (.Compare a [.Is] [b] pos) ds L P := dp_cmp op_isBl kr_isB h hm
end
def YieldsM (K : PySem.W.Frag) (B : Hp) (L : MS) (J : It) (xs : List Dt) : Prop := ∀ i B' H' T, Same B B' → Hs K B' (T :: L) H' →
  (∀ d, xs[i]? = some d → J.go i H' ∧ ∀ v H2, J.yld i H' v H2 → ∃ B2, Same B' B2 ∧ Hs K B2 (T :: L) H2 ∧ Is K B2 d v) ∧ (xs.length ≤ i → J.stop i H')
structure DIM (X : Cx) (tg iter : Expr) (ds : DS) (L : MS) (P : List Dt → MS → Prop) : Prop where
  run : ∀ σ H B, Sl X.K B ds σ → Hs X.K B L H → ∀ R : It → Hp → Prop,
  (∀ xs L' J B2 H2, P xs L' → Same B B2 → Hs X.K B2 L' H2 → YieldsM X.K B2 L' J xs → R J H2) → IW X tg iter σ H R
section
variable {X : Cx}
def DLsM (X : Cx) (elt tg iter : Expr) (ifs : List Expr) (sp : Scope) (t : TG) (vs : List Nat) (ds : DS) (L : MS) (P : List Dt → MS → Prop) : Prop :=
  DIM X tg iter ds L fun xs L1 => ∃ (f : Dt → Bool) (g : Dt → Dt), xs.length ≤ 100000 ∧ (∀ d, d ∈ xs → ∃ ds', TgOk X t vs (wipeD ds vs) d ds' ∧ ∀ (T : Addr × MO), ∀ s H C cl fp,
    DTs (bX X sp s H C cl fp) ifs ds' (T :: L1) fun c L4 => L4 = T :: L1 ∧ c = f d ∧ (c = true → ∀ s H C cl fp, DP (bX X sp s H C cl fp) elt ds' L4 fun y L5 => L5 = L4 ∧ y = g d)) ∧ P ((xs.filter f).map g) L1
theorem ls_readM {elt tg iter : Expr} {ifs : List Expr} {sp : Scope} {t : TG} {vs : List Nat} {ds : DS} {L : MS} {P : List Dt → MS → Prop} {σ : L2.St} {H B : Hp} {Q : VK} (hs0 : Sl X.K B ds σ) (hl0 : Hs X.K B L H) (h : DLsM X elt tg iter ifs sp t vs ds L P)
    (q : ∀ ys L' a B2 H2, P ys L' → Same B B2 → Hs X.K B2 ((a, .lst ys) :: L') H2 → Q (.ref a) H2) : tLc (IW X tg iter) t (ttB X sp ifs) (teB X sp elt) vs σ H Q := by
  refine h.run σ H B hs0 hl0 _ fun xs L1 J B1 H1 ⟨f, g, hz, hstep, hend⟩ e1 hl1 hy D hD => ?_
  refine ⟨fun n k H' => n + k = xs.length ∧ ∃ B', Same B1 B' ∧ Hs X.K B' ((D, .lst (((xs.take n).filter f).map g)) :: L1) H', ⟨xs.length, Nat.zero_add _, B1, Same.refl _, hl1.newM hD ⟨[], rfl, rfl⟩⟩, ?_⟩
  rintro n k H' ⟨hn, B', e2, hl2⟩
  obtain ⟨y1, y2⟩ := hy n B' H' _ e2 hl2
  by_cases hi : n < xs.length
  · have hx : xs[n]? = some xs[n] := List.getElem?_eq_getElem hi
    obtain ⟨g1, g2⟩ := y1 _ hx
    refine .inr ⟨g1, fun H3 => ∃ B', Same B1 B' ∧ Hs X.K B' ((D, .lst (((xs.take (n + 1)).filter f).map g)) :: L1) H3, fun H3 hN => ⟨k - 1, by omega, by omega, hN⟩, fun v H2 hv => ?_⟩
    obtain ⟨B2, e3, hl3, iv⟩ := g2 v H2 hv
    have eB : Same B1 B2 := e2.trans e3
    obtain ⟨ds', htg, hbody⟩ := hstep _ (List.getElem_mem hi)
    refine htg _ H2 B2 _ v (sl_wipe (hs0.mono (e1.trans eB)) vs) hl3 iv _ fun σ2 hw hs2 => ⟨hw.trans (wipe_idem σ vs vs fun _ h => h), fun s H0 C cl fp => ?_⟩
    refine (hbody (D, .lst (((xs.take n).filter f).map g)) s H0 C cl fp).run σ2 H2 B2 hs2 hl3 _ fun c L4 B3 H3 ⟨eL, ec, p3⟩ e5 hl4 => ?_
    have tk : (xs.take (n + 1)).filter f = (xs.take n).filter f ++ if f xs[n] = true then [xs[n]] else [] := by
      rw [List.take_add_one, hx, List.filter_append, Option.toList_some]
      congr 1
      by_cases z : f xs[n] = true
      · rw [if_pos z, List.filter_cons_of_pos z]; rfl
      · rw [if_neg z, List.filter_cons_of_neg z]; rfl
    have lenM : (((xs.take n).filter f).map g).length ≤ n := by
      rw [List.length_map]
      refine Nat.le_trans (List.length_filter_le _ _) ?_
      rw [List.length_take]
      omega
    subst eL
    cases c with
    | true =>
      simp only [if_true]
      intro s' H0' C' cl' fp'
      refine (p3 rfl s' H0' C' cl' fp').run σ2 H3 B3 (hs2.mono e5) hl4 _ fun y L5 u B4 H4 ⟨eL, ey⟩ e7 hl5 iy => ?_
      subst eL ey
      obtain ⟨ws, hD', ivs⟩ := hl5.lst ML.hd
      refine ⟨ws, hD', by rw [ivs.length, sizeLine_eq]; omega, B4, (eB.trans e5).trans e7, ?_⟩
      rw [tk, if_pos ec.symm, List.map_append]
      exact hl5.put .hd ⟨_, rfl, ivs.append (IsL.one iy)⟩
    | false =>
      simp only [Bool.false_eq_true, if_false]
      refine ⟨B3, eB.trans e5, ?_⟩
      rw [tk, if_neg (by rw [← ec]; decide), List.append_nil]
      exact hl4
  · have ei : n = xs.length := by omega
    refine .inl ⟨y2 (by omega), ?_⟩
    subst ei
    rw [List.take_length] at hl2
    exact q _ L1 D _ H' hend (e1.trans e2) hl2
section
variable {elt iter : Expr} {ifs : List Expr} {sp : Scope} {ds : DS} {L : MS} {pos spos py p1 p2 pt : Pos} {i j kt : Nat} {x z : Str}
theorem dp_lsGM {tg : Expr} {t : TG} {vs : List Nat} {P : DK} (own : List (Str × Nat)) (ok : BlkOk X.N X.env.scope sp own) (hN : X.N.Nodup) (hg : ∀ s H C cl fp, PG (bX X sp s H C cl fp) tg t) (h : DLsM X elt tg iter ifs sp t vs ds L fun ys L1 => P (.lst ys) L1)
    (ho : own.map (·.2) = vs) (hc : X.calm = true) (hs : ∀ x, foldedSetIterable iter X.env x = pure x) : DP X (.ListComp elt [⟨tg, iter, ifs, 0⟩] sp pos) ds L P := .mk fun σ H B hs0 hl0 Q q => by
  refine PE.to (pe_lc (tt := ttB X sp ifs) (te := teB X sp elt) hc hN pi_w ok hg (fun s H C cl fp => ⟨fun pins s1 σ H Q I h => h s _ C cl fp pins s1 I⟩) (fun s H C cl fp => ⟨fun pins s1 σ H Q I h => h s _ C cl fp pins s1 I⟩) hs) ?_
  rw [ho]
  refine ls_readM hs0 hl0 h fun ys L' a B2 H2 p e hl => ?_
  obtain ⟨ws, hD, iv⟩ := hl.lst ML.hd
  obtain ⟨sb, hl5⟩ := hl.freeze MDel.hd hD
  exact q (.lst ys) L' _ _ _ p (e.trans sb) hl5 ⟨a, ws, rfl, upd_same, iv.mono sb⟩
theorem dp_ls2M {P : DK} (own : List (Str × Nat)) (ok : BlkOk X.N X.env.scope sp own) (hN : X.N.Nodup) (hg : ∀ s H C cl fp, PG (bX X sp s H C cl fp) (.Tuple [.Name x p1, .Name z p2] kt pt) (gPair X.K i j)) (h : DLsM X elt (.Tuple [.Name x p1, .Name z p2] kt pt) iter ifs sp (gPair X.K i j) [i, j] ds L fun ys L1 => P (.lst ys) L1)
    (ho : own.map (·.2) = [i, j] := by rfl) (hc : X.calm = true := by rfl) (hs : ∀ x, foldedSetIterable iter X.env x = pure x := by intro _; rfl) : DP X (.ListComp elt [⟨.Tuple [.Name x p1, .Name z p2] kt pt, iter, ifs, 0⟩] sp pos) ds L P := dp_lsGM own ok hN hg h ho hc hs
theorem di_listM {tg e : Expr} {P : List Dt → MS → Prop} (h : DP X e ds L fun x L1 => ∃ a xs, x = .adr a ∧ ML L1 a (.lst xs) ∧ P xs L1) : DIM X tg e ds L P := .mk fun σ H B hs hl R q =>
  PI.to (pi_list pe_w) (h.run σ H B hs hl _ fun x L1 v B1 H1 h1 e1 hl1 ix => by
    obtain ⟨a, xs, rfl, hm, p⟩ := h1
    obtain rfl : v = V.ref a := ix
    obtain ⟨vs, ha, iv⟩ := hl1.lst hm
    refine ⟨a, rfl, ⟨vs, SqL.of ha⟩, q xs L1 _ B1 H1 p e1 hl1 fun i B' H' T e2 hl2 => ?_⟩
    obtain ⟨us, hu, iu⟩ := hl2.lst (a := a) (xs := xs) (ML.tl hm)
    refine ⟨fun d hd => ?_, fun hi => ⟨us, SqL.of hu, by rw [iu.length]; exact hi⟩⟩
    obtain ⟨w, e3, e4⟩ := iu.get hd
    refine ⟨⟨us, w, SqL.of hu, e3⟩, fun u H2 hy => ?_⟩
    obtain ⟨rfl, hy⟩ := hy
    have e5 := hy us (SqL.of hu)
    rw [e3] at e5
    obtain rfl := Option.some.inj e5
    exact ⟨B', Same.refl _, hl2, e4⟩)
end
end
/-- what stands in a slot is, from here on, as it is -/
theorem dss_freeze {X : Cx} {sts : List Stmt} {ds : DS} {L L2 : MS} {D : DEnds} {i : Nat} {a : Addr} {xs : List Dt} (hg : Get ds i (.adr a)) (s : MDel L a (.lst xs) L2) (h : DSs X sts (ds.set i (some (.lst xs))) L2 D) : DSs X sts ds L D := .mk fun σ H B E hs hl mt => by
  obtain ⟨v, e1, e2⟩ := hs.2 i _ hg
  obtain ⟨vs, hv1, hv2⟩ := hl.lst s.mem
  obtain ⟨sb, hl2⟩ := hl.freeze s hv1
  have hs2 := (hs.mono sb).set i (d := .lst xs) (v := v) ⟨a, vs, e2, upd_same, hv2.mono sb⟩
  have hst : σ.set i (some v) = σ := by
    refine List.ext_getElem? fun j => ?_
    rw [List.getElem?_set]
    split
    · rename_i z
      subst z
      split
      · exact e1.symm
      · rename_i z
        rw [List.getElem?_eq_none (by omega)]
    · rfl
  rw [hst] at hs2
  exact h.run σ H _ E hs2 hl2 (mt.mono sb)
end Z
namespace Z
open PySem PySem.Spec PyProof.Rows L2
/-! len of a dict of cells -/
def lenDK : KC := fun xs L P => ∃ m a, xs = [.adr a] ∧ ML L a (mM m) ∧ P (.int m.length) L
section
variable {X : Cx} {K : PySem.W.Frag} {e : Expr} {ds : DS} {L : MS} {P : DK} {pos p : Pos}
theorem kc_lenD : KRC K rLenT lenDK := by
  intro B H L xs vs Q P hl ixs hk q
  obtain ⟨m, a, rfl, hm, p⟩ := hk
  obtain ⟨v, rfl, i⟩ := ixs.one_inv
  obtain rfl : v = _ := i
  obtain ⟨u, hu, r⟩ := hl.mm hm
  refine ⟨a, u, rfl, hu, ?_⟩
  rw [r.len]
  exact Fin.here q hl p rfl
theorem dp_lenD (hm : X.mg "len" = none) (h : DP X e ds L fun x L1 => lenDK [x] L1 P) (hg : Gl X "len" := by rfl) (hs1 : starEach [e] X.env = (false, eval e X.env) :: starEach [] X.env := by rfl) (hpl : (backTo pos (starEach [] X.env)).any (·.1) = false := by rfl) : DP X (.Call (.Name "len" p) [e] [] pos) ds L P :=
  dp_callB call_len_dT kc_lenD hm PySem.boot_len (da_cons (DP.imp h fun x L1 h1 => da_nil h1) hs1) hg (by decide) (by decide) hs1 hpl
end
end Z
/-! refusals: an exception without fields of its own, out of calls -/
namespace Z
open PySem PySem.Spec PyProof.Rows L2
/-- what is let out: an exception of the class at D, without fields or with -/
inductive XV where
  | ref (D : Addr) | fld (D : Addr) (ns : List Str) (xs : List Dt)
/-- .. and the objects left -/
abbrev RK := XV → MS → Prop
abbrev RelX := List Dt → MS → DK → RK → Prop
inductive XOut (K : PySem.W.Frag) (Xr : RK) : Value → Option Addr → Hp → Prop where
  | ref {D : Addr} {B H : Hp} {L : MS} : Hs K B L H → Xr (.ref D) L → XOut K Xr (.ref D) none H
  | fld {D dd : Addr} {ns : List Str} {xs : List Dt} {B H : Hp} {L : MS} : Hs K B ((dd, .xd ns xs) :: L) H → Xr (.fld D ns xs) L → XOut K Xr (.ref D) (some dd) H
theorem XOut.imp {K : PySem.W.Frag} {Xr Xr' : RK} {c : Value} {d : Option Addr} {H : Hp} (x : XOut K Xr c d H) (h : ∀ v L, Xr v L → Xr' v L) : XOut K Xr' c d H := by
  cases x with
  | ref h1 h2 => exact .ref h1 (h _ _ h2)
  | fld h1 h2 => exact .fld h1 (h _ _ h2)
def spX (K : PySem.W.Frag) (R : RelX) : Sp := fun vs H Q E => ∃ B ds L P Xr, IsL K B ds vs ∧ Hs K B L H ∧ R ds L P Xr ∧ Fin K B P Q ∧ ∀ c d H2, XOut K Xr c d H2 → E c d H2
structure CalX (Pr : Program) (w : World) (K : PySem.W.Frag) (mg : Str → Option Value) (base : Heap) (x : Str) (k : Nat) (ps : List Str) (R : RelX) : Prop where
  ex : ∃ (f : Addr) (fd : FuncData), FnOk Pr w K mg base (L2.CX Pr w) k f fd ps (spX K R) ∧ mg x = some (.ref f) ∧ PySem.W.keepIn K (.ref f) = true ∧ Binds K fd ps [] ∧ ∃ oc od osl, K.lookup f = some ⟨oc, od, .func fd, osl⟩
/-- the wish of an exception -/
abbrev wX (K : PySem.W.Frag) (Xr : RK) : XK := fun cls d H => XOut K Xr cls d H
def RZ (X : Cx) (Xr : RK) : Prop := Takes X (fun cls d _ H => wX X.K Xr cls d H)
theorem RZ.imp {X : Cx} {Xr Xr' : RK} (r : RZ X Xr) (h : ∀ v L, Xr' v L → Xr v L) : RZ X Xr' := Takes.imp r fun _ _ _ _ x => XOut.imp x h
@[reducible] def gX (Pr : Program) (w : World) (K : PySem.W.Frag) (mg : Str → Option Value) (base : Heap) (N : List Str) (x : Str) (sc : Scope) (f : Addr) (cdv : Value) (A : Around) (outer : List Env) (s : Shared) (H : Hp) (E : XK) : Cx :=
  cxOf (L2.CX Pr w) Pr w K mg base N x sc f cdv A outer s H E
section
variable {Pr : Program} {w : World} {K : PySem.W.Frag} {mg : Str → Option Value} {base : Heap}
theorem calX_of {x : Str} {st : Stmt} {N ps : List Str} {k : Nat} {R : RelX} (F : FunAt K mg x st) (S : FnScope N ps (defScope st)) (hlen : ∀ ds L P Xr, R ds L P Xr → ds.length = ps.length)
    (hb : ∀ (kV doc pm : Value) (an : Option Addr) (cdv ct : Value) (us : List Value), us.length = ps.length → bindArgs (PySem.W.fnOf x x (defArgs st) (defBody st) (defScope st) .none kV doc pm an cdv ct) ⟨us, []⟩ = pure (ps.zip us))
    (body : ∀ (f : Addr) (cdv : Value) (A : Around) (outer : List Env) (s : Shared) (H : Hp) (E : XK), Room k (gX Pr w K mg base N x (defScope st) f cdv A outer s H E).A → ∀ ds L P Xr, R ds L P Xr → RZ (gX Pr w K mg base N x (defScope st) f cdv A outer s H E) Xr →
      DSs (gX Pr w K mg base N x (defScope st) f cdv A outer s H E) (defBody st) (startD N ds) L ⟨fun _ L' => P .non L', P, fun _ _ => False, fun _ _ => False⟩) : CalX Pr w K mg base x (k + 1) ps R := by
  obtain ⟨f, fd, F, hm⟩ := F.ex
  refine ⟨f, fd, ?_, hm, F.kp, F.binds hb, F.look⟩
  refine F.okX S (fun vs H Q E h => ?_) fun cdv A outer s H vs Q E hr h => ?_
  · obtain ⟨B, ds, L, P, Xr, i, _, r, _⟩ := h
    rw [i.length]
    exact hlen _ _ _ _ r
  · obtain ⟨B, ds, L, P, Xr, i, hl, r, q, hx⟩ := h
    have rz : RZ (gX Pr w K mg base N x (defScope st) f cdv A outer s H E) Xr := Takes.imp (takes_of (E := E) rfl rfl rfl rfl) fun cls d σ H' xo => hx cls d H' xo
    refine ⟨_, pss_w, (body f cdv A outer s H E hr ds L P Xr r rz).run (L2.start N vs) H B _ (sl_start i) hl ⟨?_, ?_, ?_, ?_⟩⟩
    · exact fun ds L σ B2 H2 p e _ hl2 => q .non L _ B2 H2 p e hl2 rfl
    · exact fun d L v B2 H2 p e hl2 iv => q d L v B2 H2 p e hl2 iv
    · exact fun _ _ _ _ _ p => p.elim
    · exact fun _ _ _ _ _ p => p.elim
theorem CalX.mono {x : Str} {j k : Nat} {ps : List Str} {R : RelX} (C : CalX Pr w K mg base x j ps R) (h : j ≤ k) : CalX Pr w K mg base x k ps R := by
  obtain ⟨f, fd, h1, h2, h3, h4, h5⟩ := C.ex
  exact ⟨f, fd, h1.mono h, h2, h3, h4, h5⟩
end
/-- a class of refusals, made with a text -/
structure ErrC (K : PySem.W.Frag) (mg : Str → Option Value) (x : Str) (C : Addr) : Prop where
  g : mg x = some (.ref C)
  q : PySem.W.excIn K C [.type "ValueError", .type "Exception", .type "BaseException", .type "object"] "ValueError.__new__" = true
  k : PySem.W.keepIn K (.ref C) = true
  b : PySem.W.subIn K (.ref C) (.type "BaseException") = some true
  t : PySem.W.typeIn K (.ref C) = some (.type "type")
section
variable {X : Cx} {x : Str} {k j : Nat} {ps : List Str} {R : RelX} {e : Expr} {es : List Expr} {ds : DS} {L : MS} {P : DK} {Xr : RK} {D : DEnds} {pos p : Pos}
theorem ds_raise {s : Str} {C : Addr} {jj : Nat} {p1 p2 p3 : Pos} (rz : RZ X Xr) (er : ErrC X.K X.mg x C) (h : Xr (.ref C) L) (hg : Gl X x := by rfl) (hc : X.calm = true := by rfl) (hdb : (x == ("__debug__" : Str)) = false := by decide) :
    DSt X (.Raise (some (.Call (.Name x p1) [.Constant (.str s) jj p2] [] p3)) none pos) ds L D := .mk fun σ H B E hs hl m =>
  PS.to (ps_raise hc rz (pmk_own PySem.F.excBase_ValueError er.q er.g er.k (raises_own er.b er.t) hg hdb)) (.ref hl h)
theorem dp_callX (C : CalX X.prog X.w X.K X.mg X.base x k ps R) (rz : RZ X Xr) (hr : Room j X.A) (hk : k ≤ j) (h : DA X (e :: es) ds L fun xs L1 => R xs L1 P Xr) (hg : Gl X x := by rfl) (hdb : (x == ("__debug__" : Str)) = false := by decide)
    (he : starEach (e :: es) X.env = (false, eval e X.env) :: starEach es X.env := by rfl) (hpl : (backTo pos (starEach es X.env)).any (·.1) = false := by rfl) : DP X (.Call (.Name x p) (e :: es) [] pos) ds L P := .mk fun σ H B hs hl Q q => by
  obtain ⟨f, fd, F, hm, hkp, hb, _⟩ := C.ex
  have hx : Passes (L2.CX X.prog X.w) X (wX X.K Xr) := passes_call rz fun _ _ _ _ h => h
  refine PE.to (pe_call F (hr.mono hk) hg hm hkp hb .nil hx pa_w hdb he hpl) (h.run σ H B hs hl _ fun xs L1 vs B1 H1 r e1 hl1 ixs => ?_)
  show spX X.K R (vs ++ []) H1 Q (wX X.K Xr)
  rw [List.append_nil]
  exact ⟨B1, xs, L1, P, Xr, ixs, hl1, r, fun d L' z B2 H2 p2 e2 => q d L' z B2 H2 p2 (e1.trans e2), fun c d H2 xo => xo⟩
theorem CalX.or {Pr : Program} {w : World} {K : PySem.W.Frag} {mg : Str → Option Value} {base : Heap} {R1 R2 : RelX} (C1 : CalX Pr w K mg base x k ps R1) (C2 : CalX Pr w K mg base x k ps R2) : CalX Pr w K mg base x k ps fun ds L P Xr => R1 ds L P Xr ∨ R2 ds L P Xr := by
  obtain ⟨f, fd, h1, h2, h3, h4, oc, od, osl, h5⟩ := C1.ex
  obtain ⟨f', fd', g1, g2, _, _, oc', od', osl', g5⟩ := C2.ex
  have e : f' = f := by
    have := g2.symm.trans h2
    cases this
    rfl
  subst e
  have e : fd' = fd := by
    have := g5.symm.trans h5
    cases this
    rfl
  subst e
  refine ⟨f', fd', ⟨fun vs H Q E h => ?_, fun A outer s H args us vs Q E hr e0 hb hv h => ?_⟩, h2, h3, h4, oc, od, osl, h5⟩
  · obtain ⟨B, ds, L, P, Xr, i, hl, r | r, q⟩ := h
    · exact h1.len vs H Q E ⟨B, ds, L, P, Xr, i, hl, r, q⟩
    · exact g1.len vs H Q E ⟨B, ds, L, P, Xr, i, hl, r, q⟩
  · obtain ⟨B, ds, L, P, Xr, i, hl, r | r, q⟩ := h
    · exact h1.run A outer s H args us vs Q E hr e0 hb hv ⟨B, ds, L, P, Xr, i, hl, r, q⟩
    · exact g1.run A outer s H args us vs Q E hr e0 hb hv ⟨B, ds, L, P, Xr, i, hl, r, q⟩
/-- what lets nothing out -/
theorem Cal.toX {Pr : Program} {w : World} {K : PySem.W.Frag} {mg : Str → Option Value} {base : Heap} {R : Rel} (C : Cal Pr w K mg base x k ps R) : CalX Pr w K mg base x k ps fun ds L P _ => R ds L P := by
  obtain ⟨f, fd, h1, h2, h3, h4, h5⟩ := C.ex
  refine ⟨f, fd, ⟨fun vs H Q E h => ?_, fun A outer s H args us vs Q E hr e0 hb hv h => ?_⟩, h2, h3, h4, h5⟩
  · obtain ⟨B, ds, L, P, Xr, i, hl, r, q, _⟩ := h
    exact h1.len vs H Q E ⟨B, ds, L, P, i, hl, r, q⟩
  · obtain ⟨B, ds, L, P, Xr, i, hl, r, q, _⟩ := h
    refine codeAny_mono (h1.run A outer s H args us vs Q E hr e0 hb hv ⟨B, ds, L, P, i, hl, r, q⟩) fun r s' hq => ?_
    cases r with
    | error e => exact (show False from hq).elim
    | ok fl =>
      cases fl with
      | ret u => exact hq
      | next => exact hq
      | brk => exact hq
      | cont => exact hq
theorem CalX.imp {Pr : Program} {w : World} {K : PySem.W.Frag} {mg : Str → Option Value} {base : Heap} {R R' : RelX} (C : CalX Pr w K mg base x k ps R) (h : ∀ ds L P Xr, R' ds L P Xr → R ds L P Xr) : CalX Pr w K mg base x k ps R' := by
  obtain ⟨f, fd, h1, h2, h3, h4, h5⟩ := C.ex
  exact ⟨f, fd, h1.imp fun vs H Q E ⟨B, ds, L, P, Xr, i, hl, r, q⟩ => ⟨B, ds, L, P, Xr, i, hl, h _ _ _ _ r, q⟩, h2, h3, h4, h5⟩
end
/-! isinstance in the suite of an except -/
def isEK (K : PySem.W.Frag) (D a : Addr) : KC := fun xs L P => ∃ T b, xs = [.adr a, .adr T] ∧ PySem.W.kitOne K (.ref D) (.ref T) = some b ∧ P (.bl b) L
theorem kc_isE {K : PySem.W.Frag} {D a : Addr} : KRC K (rIsE K D a) (isEK K D a) := by
  intro B H L xs vs Q P hl ixs hk q
  obtain ⟨T, b, rfl, hb, p⟩ := hk
  obtain ⟨v, v', rfl, i1, i2⟩ := ixs.two_inv
  obtain rfl : v = V.ref a := i1
  obtain rfl : v' = V.ref T := i2
  exact ⟨V.ref T, .ref T, b, rfl, fun u h => h, hb, Fin.here q hl p rfl⟩
theorem dp_isE {X : Cx} {a D : Addr} {oe : Obj} {pn : List (Addr × Obj)} {e1 e2 : Expr} {ds : DS} {L : MS} {P : DK} {p pos : Pos} (C : ExcC X.K D) (hz : Zc (.ref D) none oe) (hf : ∃ vs, oe.data = .fields vs) (hm : X.mg "isinstance" = none)
    (h : DA (X.suite a ((a, oe) :: pn)) [e1, e2] ds L fun xs L1 => isEK X.K D a xs L1 P) (hg : Gl (X.suite a ((a, oe) :: pn)) "isinstance" := by rfl)
    (he : starEach [e1, e2] (X.suite a ((a, oe) :: pn)).env = (false, eval e1 (X.suite a ((a, oe) :: pn)).env) :: starEach [e2] (X.suite a ((a, oe) :: pn)).env := by rfl) (hpl : (backTo pos (starEach [e2] (X.suite a ((a, oe) :: pn)).env)).any (·.1) = false := by rfl) :
    DP (X.suite a ((a, oe) :: pn)) (.Call (.Name "isinstance" p) [e1, e2] [] pos) ds L P :=
  dp_callB (X := X.suite a ((a, oe) :: pn)) (call_isE C hz hf) kc_isE hm (by decide +kernel) h hg (by decide) (by decide) he hpl
/-! lists of bools -/
section
variable {X : Cx} {K : PySem.W.Frag} {a b e o : Expr} {ds : DS} {L : MS} {P : DK} {PB : Bool → MS → Prop} {pos apos cpos : Pos}
/-- + of lists: a new one, that may change -/
def addMK : K2 := fun x y L P => match x, y with
  | .lst a, .lst b => a.length + b.length ≤ sizeLine ∧ ∀ c, P (.adr c) ((c, .lst (a ++ b)) :: L)
  | _, _ => False
theorem kr_addM : KR2 K (rPlus K) addMK := by
  intro B H L x y v u Q P hl ix iy hk q
  cases x <;> cases y <;> try exact False.elim hk
  obtain ⟨a, vs, rfl, ha, ia⟩ := ix
  obtain ⟨b, us, rfl, hb, ib⟩ := iy
  obtain ⟨hz, p⟩ := hk
  exact .inr (.inr (.inr ⟨a, b, vs, us, rfl, rfl, hl.sub _ _ ha, hl.sub _ _ hb, by rw [ia.length, ib.length]; exact hz, fun c hc => Fin.lstM q hl p (ia.append ib) hc⟩))
theorem dp_addM (h : DP X a ds L fun x L1 => DP X b ds L1 fun y L2 => addMK x y L2 P) : DP X (.BinOp a .Add b pos) ds L P := dp_bin op_plus kr_addM h
/-- xs.index(True) -/
def idxBK : KM := fun x xs L P => ∃ (a : Addr) (bs : List Bool) (j : Nat), x = .adr a ∧ xs = [.bl true] ∧ ML L a (.lst (bs.map Dt.bl)) ∧ bs[j]? = some true ∧ (∀ m, m < j → bs[m]? ≠ some true) ∧ P (.int (j : Nat)) L
theorem bls_inv {B : Hp} {bs : List Bool} {vs : List V} (h : IsL K B (bs.map Dt.bl) vs) : vs = bs.map V.bl := h.bls
theorem flat_bls (bs : List Bool) : (bs.map V.bl).all flatV = true := by
  induction bs with
  | nil => rfl
  | cons b bs ih => rw [List.map_cons, List.all_cons, ih]; rfl
theorem km_indexB : KRM K (rIndex K) idxBK := by
  intro B H L x v xs vs Q P hl ix ixs hk q
  obtain ⟨a, bs, j, rfl, rfl, hm, hj, hno, p⟩ := hk
  obtain ⟨u, rfl, iu⟩ := ixs.one_inv
  obtain rfl : v = V.ref a := ix
  obtain rfl : u = V.bl true := iu
  obtain ⟨us, hu, ius⟩ := hl.lst hm
  have eu := bls_inv ius
  subst eu
  refine ⟨a, _, .bl true, j, .bl true, rfl, rfl, SqL.of hu, rfl, flat_bls bs, by rw [List.getElem?_map, hj]; rfl, rfl, fun m z' hm' hz' => ?_, Fin.here q hl p rfl⟩
  rw [List.getElem?_map] at hz'
  obtain ⟨b, hb, rfl⟩ := Option.map_eq_some_iff.mp hz'
  cases b with
  | true => exact absurd hb (hno m hm')
  | false => rfl
theorem dp_indexB (h : DP X o ds L fun x L1 => tyM "list" x L1 ∧ DP X e ds L1 fun d L2 => idxBK x [d] L2 P)
    (hbase : attributeBase o "index" X.env (eval o X.env) = eval o X.env := by rfl)
    (hfew : ((backTo cpos (starEach [e] X.env)).all (fun x => !x.1) && (backToKw cpos (keywordEach [] X.env)).all (fun x => x.1.isSome)
      && decide ([e].length + ([] : List Keyword).length + (if ([] : List Keyword).isEmpty then 0 else 1) < 30)) = true := by rfl)
    (hline : (apos.endLine == cpos.line) = true := by rfl) (hs1 : starEach [e] X.env = (false, eval e X.env) :: starEach [] X.env := by rfl) (hplain : (backTo cpos (starEach [] X.env)).any (·.1) = false := by rfl) : DP X (.Call (.Attribute o "index" apos) [e] [] cpos) ds L P :=
  dp_bm PySem.F.plainAttrs_list PySem.F.slot_list_index PySem.F.type_list_index mt_index km_indexB (DP.imp h fun x L1 ⟨ht, h1⟩ => ⟨ht, da_cons (DP.imp h1 fun d L2 h2 => da_nil h2) hs1⟩) hbase hfew hline hs1 hplain
end
end Z
/-! a lambda handed to the def that tells what it gives, or that it refuses -/
namespace Z
open PySem PySem.Spec PyProof.Rows L2 LamX
open Classical in
/-- what is frozen, and the code objects of a table -/
noncomputable def withCodes (B H1 : Hp) (ps : Array Value) : Hp := fun b => if (∃ pos, codeAmong pos ps.toList = some (.ref b)) then H1 b else B b
theorem Hs.lam {K : PySem.W.Frag} {B B00 H H1 : Hp} {f : MO → MS} {P : Addr} {q : Str} (h : Hs K B (f (.tab q B00)) H) (s : Spot P f) (one : ∀ a q' B', (a, MO.tab q' B') ∈ f (.tab q B00) → a = P) (eN : ExtN H H1) (t1 : TabS H1 P q) :
    ∃ B1, Same B B1 ∧ Hs K B1 (f (.tab q B1)) H1 := by
  obtain ⟨ps, e1, e2, e3⟩ := t1
  have code : ∀ {b}, (∃ pos, codeAmong pos ps.toList = some (.ref b)) → H1 b = some (CodeO b q) := fun {b} ⟨pos, hp⟩ => by
    obtain ⟨c, ec, hc⟩ := e3 pos _ hp
    cases ec
    exact hc
  have keep : ∀ {b o}, B b = some o → H1 b = some o := fun {b o} e => eN b o (h.sub _ _ e) fun ps' z => h.nt b ps' (by rw [e, z])
  have sB : Same B (withCodes B H1 ps) := fun b o e => by
    unfold withCodes
    split
    · exact keep e
    · exact e
  have sH : Same (withCodes B H1 ps) H1 := fun b o e => by
    unfold withCodes at e
    split at e
    · exact e
    · exact keep e
  have nB : ∀ {b}, ¬ (∃ pos, codeAmong pos ps.toList = some (.ref b)) → withCodes B H1 ps b = B b := fun {b} z => by
    unfold withCodes
    rw [if_neg z]
  have yB : ∀ {b}, (∃ pos, codeAmong pos ps.toList = some (.ref b)) → withCodes B H1 ps b = H1 b := fun {b} z => by
    unfold withCodes
    rw [if_pos z]
  have mst := s.st (.tab q B00) (.tab q (withCodes B H1 ps))
  have nd2 : ((f (.tab q (withCodes B H1 ps))).map (·.1)).Nodup := by rw [mst.keys]; exact h.nd
  refine ⟨withCodes B H1 ps, sB, sH, fun a x hx => ?_, nd2, fun b ps' e => ?_⟩
  · by_cases ha : a = P
    · subst ha
      obtain rfl : x = .tab q (withCodes B H1 ps) := one_val nd2 hx mst.there
      have nc : ¬ (∃ pos, codeAmong pos ps.toList = some (.ref a)) := fun z => by
        have := code z
        rw [e1] at this
        cases this
      refine ⟨by rw [nB nc]; exact (h.own a _ (s.ml _)).1, _, e1, ⟨ps, rfl, e2, fun pos cv hc => ?_⟩, Same.refl _⟩
      obtain ⟨c, ec, hc2⟩ := e3 pos cv hc
      subst ec
      exact ⟨c, rfl, by rw [yB ⟨pos, hc⟩]; exact hc2⟩
    · have hx2 : (a, x) ∈ f (.tab q B00) := by
        rcases mst.cases a x hx with ⟨e, _⟩ | e
        · exact absurd e ha
        · exact e
      obtain ⟨n1, o, ho, r⟩ := h.own a x hx2
      have nt : ∀ ps', o ≠ .tbl ps' := fun ps' z => by
        subst z
        cases x with
        | lst ds => obtain ⟨_, e, _⟩ := r; cases e
        | dct ks ds => obtain ⟨_, e, _⟩ := r; cases e
        | ins C ns ds => obtain ⟨_, _, e, _⟩ := r; cases e
        | tab q' B' => exact ha (one a q' B' hx2)
        | sct ns ds => obtain ⟨_, e, _⟩ := r; cases e
        | xd ns ds => obtain ⟨_, e, _⟩ := r; cases e
        | gen R hm hgx => obtain ⟨⟨_, e⟩, _⟩ := hgx _ _ r; cases e
      have h1 : H1 a = some o := eN a o ho nt
      have nc : ¬ (∃ pos, codeAmong pos ps.toList = some (.ref a)) := fun z => by
        have := code z
        rw [h1] at this
        have := Option.some.inj this
        subst this
        cases x with
        | lst ds => obtain ⟨_, e, _⟩ := r; cases e
        | dct ks ds => obtain ⟨_, e, _⟩ := r; cases e
        | ins C ns ds => obtain ⟨_, _, e, _⟩ := r; cases e
        | tab q' B' => obtain ⟨⟨_, e, _⟩, _⟩ := r; cases e
        | sct ns ds => obtain ⟨_, e, _⟩ := r; cases e
        | xd ns ds => obtain ⟨_, e, _⟩ := r; cases e
        | gen R hm hgx => exact (hgx _ _ r).2 _ _ rfl
      exact ⟨by rw [nB nc]; exact n1, o, h1, r.mono sB⟩
  · unfold withCodes at e
    split at e
    · rename_i z
      rw [code z] at e
      cases e
    · exact h.nt b ps' e
/-- ("refused", name) -/
def refD (nm : List Nat) : Dt := .tup [.str [114, 101, 102, 117, 115, 101, 100], .str nm]
/-! a text in a tuple of texts; how many of a list are True -/
section
variable {X : Cx} {K : PySem.W.Frag} {a b e o : Expr} {ds : DS} {L : MS} {P : DK} {PB : Bool → MS → Prop} {pos apos cpos : Pos}
def inTK : K2 := fun x y L P => ∃ (i : List Nat) (ns : List (List Nat)), x = .str i ∧ y = .tup (ns.map Dt.str) ∧ P (.bl (decide (i ∈ ns))) L
theorem inV_txts (i : List Nat) : ∀ ns : List (List Nat), inV (V.str ⟨i.toArray⟩) (ns.map fun l => V.str ⟨l.toArray⟩) = decide (i ∈ ns)
  | [] => rfl
  | n :: ns => by
    have ih := inV_txts i ns
    unfold inV at ih ⊢
    rw [List.map_cons, List.any_cons, ih]
    have e : eqV (V.str ⟨n.toArray⟩) (V.str ⟨i.toArray⟩) = decide (n = i) := by
      show ((⟨n.toArray⟩ : Str) == ⟨i.toArray⟩) = _
      by_cases q : n = i
      · subst q
        simp
      · rw [decide_eq_false q, beq_eq_false_iff_ne]
        intro z
        have := congrArg (fun s : Str => s.cps.toList) z
        exact q (by simpa using this)
    rw [e]
    by_cases q : n = i
    · subst q
      simp
    · have q2 : ¬ i = n := fun z => q z.symm
      simp [q, q2]
theorem flat_txts (ns : List (List Nat)) : (ns.map fun l => V.str ⟨l.toArray⟩).all flatV = true := by
  induction ns with
  | nil => rfl
  | cons n ns ih => rw [List.map_cons, List.all_cons, ih]; rfl
theorem kr_inT : KR2 K (rIn K false) inTK := by
  intro B H L x y v u Q P hl ix iy hk q
  obtain ⟨i, ns, rfl, rfl, p⟩ := hk
  obtain rfl : v = V.str ⟨i.toArray⟩ := ix
  obtain ⟨a, us, rfl, ha, ia⟩ := iy
  have e := ia.strs
  rw [List.map_map] at e
  subst e
  refine ⟨a, _, rfl, .inr (SqT.of (hl.sub _ _ ha)), rfl, flat_txts ns, ?_⟩
  show Q (.bl (inV _ _)) H
  rw [show (ns.map (V.str ∘ fun l => (⟨l.toArray⟩ : Str))) = ns.map fun l => V.str ⟨l.toArray⟩ from rfl, inV_txts]
  exact Fin.here q hl p rfl
theorem dt_inT (h : DP X a ds L fun x L1 => DP X b ds L1 fun y L2 => inTK x y L2 fun d L3 => ∃ c, d = .bl c ∧ PB c L3) (hm : behindInMarks .In b = false := by rfl) : DT X (.Compare a [.In] [b] pos) ds L PB := dt_cmp op_in_seq kr_inT h hm
def cntBK : KM := fun x xs L P => ∃ (a : Addr) (bs : List Bool), x = .adr a ∧ xs = [.bl true] ∧ ML L a (.lst (bs.map Dt.bl)) ∧ P (.int (bs.count true : Nat)) L
theorem bools_all {H : Hp} : ∀ bs : List Bool, DpAll K H (bs.map V.bl) (bs.map PyData.bool)
  | [] => .nil
  | b :: bs => .cons (.bl b) (bools_all bs)
theorem bools_layL : ∀ bs : List Bool, PyData.canLayAll0 (bs.map PyData.bool) = true ∧ PyData.depthAll (bs.map PyData.bool) ≤ 0
  | [] => ⟨by rw [List.map_nil, PyData.canLayAll0], by rw [List.map_nil, PyData.depthAll]; exact Nat.zero_le _⟩
  | b :: bs => by
    obtain ⟨h1, h2⟩ := bools_layL bs
    refine ⟨by rw [List.map_cons, PyData.canLayAll0, h1, PyData.canLay0]; rfl, ?_⟩
    rw [List.map_cons, PyData.depthAll, PyData.depth]
    omega
theorem bools_shape (bs : List Bool) : SeqAt.shaped (.list (bs.map PyData.bool)) = true := by
  obtain ⟨h1, h2⟩ := bools_layL bs
  unfold SeqAt.shaped
  rw [PyData.canLay0, PyData.depth, h1, decide_eq_true (show PyData.depthAll (bs.map PyData.bool) + 1 ≤ 64 by omega)]
  rfl
theorem km_countB : KRM K (rCountD K) cntBK := by
  intro B H L x v xs vs Q P hl ix ixs hk q
  obtain ⟨a, bs, rfl, rfl, hm, p⟩ := hk
  obtain ⟨u, rfl, iu⟩ := ixs.one_inv
  obtain rfl : v = V.ref a := ix
  obtain rfl : u = V.bl true := iu
  obtain ⟨us, hu, ius⟩ := hl.lst hm
  have eu := ius.bls
  subst eu
  refine ⟨a, .bl true, .bool true, bs.map PyData.bool, rfl, rfl, .lst (SqL.of hu) (bools_all bs), .bl true, bools_shape bs, by decide +kernel, ?_⟩
  have e : (bs.map PyData.bool).countP (fun z => PyData.eqv z (.bool true)) = bs.count true := by
    rw [List.countP_map]
    unfold List.count
    congr 1
  rw [e]
  exact Fin.here q hl p rfl
theorem dp_countB (hu : X.A.units + 65 < cLine) (h : DP X o ds L fun x L1 => tyM "list" x L1 ∧ DP X e ds L1 fun d L2 => cntBK x [d] L2 P)
    (hbase : attributeBase o "count" X.env (eval o X.env) = eval o X.env := by rfl)
    (hfew : ((backTo cpos (starEach [e] X.env)).all (fun x => !x.1) && (backToKw cpos (keywordEach [] X.env)).all (fun x => x.1.isSome)
      && decide ([e].length + ([] : List Keyword).length + (if ([] : List Keyword).isEmpty then 0 else 1) < 30)) = true := by rfl)
    (hline : (apos.endLine == cpos.line) = true := by rfl) (hs1 : starEach [e] X.env = (false, eval e X.env) :: starEach [] X.env := by rfl) (hplain : (backTo cpos (starEach [] X.env)).any (·.1) = false := by rfl) : DP X (.Call (.Attribute o "count" apos) [e] [] cpos) ds L P :=
  dp_bm PySem.F.plainAttrs_list PySem.F.slot_list_count PySem.F.type_list_count (mt_countD hu) km_countB (DP.imp h fun x L1 ⟨ht, h1⟩ => ⟨ht, da_cons (DP.imp h1 fun d L2 h2 => da_nil h2) hs1⟩) hbase hfew hline hs1 hplain
end
end Z
/-! a law that makes lambdas: its code object, its table; refusals told -/
namespace Z
open PySem PySem.Spec PyProof.Rows L2 LamX
structure FunAtC (K : PySem.W.Frag) (mg : Str → Option Value) (x : Str) (st : Stmt) (c : Addr) : Prop where
  ex : ∃ (f : Addr) (oc : Value) (od : Option Addr) (kV doc pm : Value) (an : Option Addr) (ct : Value) (osl : Array (Option Value)),
    K.lookup f = some ⟨oc, od, .func (PySem.W.fnOf x x (defArgs st) (defBody st) (defScope st) .none kV doc pm an (.ref c) ct), osl⟩ ∧ PySem.W.codeIn K (.ref c) x = true ∧ PySem.W.keepIn K (.ref f) = true ∧ mg x = some (.ref f)
theorem fun_atC {K : PySem.W.Frag} {h : Heap} {mg : Str → Option Value} {x : Str} {st : Stmt} {f c : Addr} {oc : Value} {od an : Option Addr} {osl : Array (Option Value)} {kV doc pm ct : Value} (X : K.In h) (G : h.Ns mainGlobals mg)
    (a : PySem.W.nsIn K mainGlobals x = some (some (.ref f))) (l : K.lookup f = some ⟨oc, od, .func (PySem.W.fnOf x x (defArgs st) (defBody st) (defScope st) .none kV doc pm an (.ref c) ct), osl⟩)
    (e : PySem.W.codeIn K (.ref c) x = true) (k : PySem.W.keepIn K (.ref f) = true) : FunAtC K mg x st c := ⟨f, oc, od, kV, doc, pm, an, ct, osl, l, e, k, PySem.W.mg_of X G a⟩
section
variable {Pr : Program} {w : World} {K : PySem.W.Frag} {mg : Str → Option Value} {base : Heap}
theorem calC_law {x : Str} {st : Stmt} {N ps : List Str} {k : Nat} {R : Rel} {c : Addr} (F : FunAtC K mg x st c) (S : FnScope N ps (defScope st)) (hlen : ∀ ds L P, R ds L P → ds.length = ps.length)
    (hb : ∀ (kV doc pm : Value) (an : Option Addr) (cdv ct : Value) (us : List Value), us.length = ps.length → bindArgs (PySem.W.fnOf x x (defArgs st) (defBody st) (defScope st) .none kV doc pm an cdv ct) ⟨us, []⟩ = pure (ps.zip us))
    (body : ∀ (f : Addr) (A : Around) (outer : List Env) (s : Shared) (H : Hp) (E : XK), Room k (fX Pr w K mg base N x (defScope st) f (.ref c) A outer s H E).A → ∀ ds L P, R ds L P →
      DSs (fX Pr w K mg base N x (defScope st) f (.ref c) A outer s H E) (defBody st) (startD N ds) L ⟨fun _ L' => P .non L', P, fun _ _ => False, fun _ _ => False⟩) : Cal Pr w K mg base x (k + 1) ps R := by
  obtain ⟨f, oc, od, kV, doc, pm, an, ct, osl, lk, hcd, kp, hm⟩ := F.ex
  refine ⟨f, _, fn_of lk hcd S (fun vs H Q E h => ?_) fun A outer s H vs Q E hr hsp => ?_, hm, kp, .all (hb kV doc pm an (.ref c) ct), oc, od, osl, lk⟩
  · obtain ⟨B, ds, L, P, i, _, r, _⟩ := h
    rw [i.length]
    exact hlen _ _ _ r
  · obtain ⟨B, ds, L, P, i, hl, r, q⟩ := hsp
    have key : ∃ t, PSs (fX Pr w K mg base N x (defScope st) f (.ref c) A outer s H E) (defBody st) t ∧ t { nx := fun _ H' => Q .non H', rt := Q } (L2.start N vs) H := by
      refine ⟨_, pss_w, (body f A outer s H E hr ds L P r).run (L2.start N vs) H B _ (sl_start i) hl ⟨?_, ?_, ?_, ?_⟩⟩
      · exact fun ds L σ B2 H2 p e _ hl2 => q .non L _ B2 H2 p e hl2 rfl
      · exact fun d L v B2 H2 p e hl2 iv => q d L v B2 H2 p e hl2 iv
      · exact fun _ _ _ _ _ p => p.elim
      · exact fun _ _ _ _ _ p => p.elim
    obtain ⟨t, h2, h3⟩ := key
    exact ⟨t, h2.nox, h3⟩
end
/-- the law's relation: the script, the table of the law's lambdas -/
def R_lawT (P : Addr) (q : Str) : Rel := fun ds L D => ∃ (ns : List Int) (B0 : Hp), ds = [.frl (ns.map .int)] ∧ ns.length ≤ 63 ∧ L = [(P, .tab q B0)] ∧ ∀ L', D (.bl true) L'
theorem law_startT {K : PySem.W.Frag} {H : Hp} {a P : Addr} {q : Str} {ns : List Int} (hl : ns.length ≤ 63) (hP : H P = some (.tbl #[])) (hS : SqL K H a (ns.map V.int)) : spP K (R_lawT P q) [.ref a] H (fun v _ => v = .bl true) fun _ _ _ => False := by
  obtain ⟨s1, s2, s3⟩ := noTbl (K := K) H
  refine ⟨offTbl H, [.frl (ns.map .int)], [(P, .tab q (offTbl H))], fun d _ => d = .bl true, ⟨_, _, rfl, ⟨a, _, rfl, s3 hS, .of_ints⟩, rfl⟩, ⟨s1, fun b x hm => ?_, by simp, s2⟩, ⟨ns, _, rfl, hl, rfl, fun _ => rfl⟩, ?_⟩
  · have e : (b, x) = (P, MO.tab q (offTbl H)) := by simpa using hm
    cases e
    refine ⟨?_, _, hP, ⟨#[], rfl, True.intro, fun pos cv hc => ?_⟩, Same.refl _⟩
    · unfold offTbl
      rw [hP]
    · have z : codeAmong pos [] = some cv := hc
      simp [codeAmong] at z
  · intro d L' v B' H' p e hl' i
    subst p
    exact i
theorem law_endT {l : PySem.W.OpenLaw} {w : World} {K : PySem.W.Frag} {mg : Str → Option Value} {k : Nat} {fa c P : Addr} {x y q : Str} {st : Stmt} {h : Heap} (hfa : mg x = some (.ref fa)) (F : FunAtC K mg x st c)
    (hT : h.get? P = some { cls := .none, data := .fields #[] }) (nT : K.lookup P = none) (hc : PySem.W.CodeHd h c P)
    (C : ∀ base : Heap, K.In base → base.Ns mainGlobals mg → TabB base mg c P → Cal l.prog w K mg base x k [y] (R_lawT P q))
    (hb : ∀ (kV doc pm : Value) (an : Option Addr) (cdv ct : Value) (v : Value), bindArgs (PySem.W.fnOf x x (defArgs st) (defBody st) (defScope st) .none kV doc pm an cdv ct) ⟨[v], []⟩ = pure [(y, v)]) : LawAtS l w K L2.CX0 k 63 y mg fa h := by
  obtain ⟨f, oc, od, kV, doc, pm, an, ct, osl, lk, hcd, kp, hm⟩ := F.ex
  have e : f = fa := by
    have := hm.symm.trans hfa
    cases this
    rfl
  subst e
  refine ⟨_, [(c, P)], spP K (R_lawT P q), fun p hp => ?_, fun p hp => ?_, fun p hp => ?_, fun s v => .of_eq (hb kV doc pm an (.ref c) ct v), fun H a ns hl _ hH hS => law_startT hl (hH (c, P) List.mem_cons_self) hS, fun base X G TB => ?_⟩
  · rw [List.mem_singleton.mp hp]; exact hT
  · rw [List.mem_singleton.mp hp]; exact nT
  · rw [List.mem_singleton.mp hp]; exact hc
  · obtain ⟨f', fd', h1, h2, _, _, oc', od', osl', h5⟩ := (C base X G (TB (c, P) List.mem_cons_self)).ex
    have e : f' = f := by
      have := h2.symm.trans hm
      cases this
      rfl
    subst e
    have e : fd' = PySem.W.fnOf x x (defArgs st) (defBody st) (defScope st) .none kV doc pm an (.ref c) ct := by
      have := h5.symm.trans lk
      cases this
      rfl
    subst e
    exact h1
/-! what the suite asks of the classes -/
def ClsIs (K : PySem.W.Frag) (mg : Str → Option Value) (D : Addr) (x : Str) (b : Bool) : Prop := ∃ T, mg x = some (.ref T) ∧ PySem.W.kitOne K (.ref D) (.ref T) = some b
theorem clsIs_at {K : PySem.W.Frag} {h : Heap} {mg : Str → Option Value} {D T : Addr} {x : Str} {b : Bool} (X : K.In h) (G : h.Ns mainGlobals mg) (a : PySem.W.nsIn K mainGlobals x = some (some (.ref T))) (e : PySem.W.kitOne K (.ref D) (.ref T) = some b) : ClsIs K mg D x b := ⟨T, PySem.W.mg_of X G a, e⟩
structure ToldK (K : PySem.W.Frag) (mg : Str → Option Value) (D : Addr) (j : Nat) : Prop where
  e : ExcC K D
  m : ∃ T, mg "TrayError" = some (.ref T) ∧ PySem.W.exmOne K (.ref D) (.ref T) = some true
  c0 : ClsIs K mg D "BadTray" (decide (0 = j))
  c1 : ClsIs K mg D "BadTilts" (decide (1 = j))
  c2 : ClsIs K mg D "BadShape" (decide (2 = j))
  c3 : ClsIs K mg D "BadDeed" (decide (3 = j))
  c4 : ClsIs K mg D "BadCount" (decide (4 = j))
  c5 : ClsIs K mg D "BadCell" (decide (5 = j))
  c6 : ClsIs K mg D "NoBall" (decide (6 = j))
  c7 : ClsIs K mg D "Unsettled" (decide (7 = j))
  c8 : ClsIs K mg D "BadNumber" (decide (8 = j))
  c9 : ClsIs K mg D "Taken" (decide (9 = j))
  c10 : ClsIs K mg D "BadMark" (decide (10 = j))
  v : PySem.W.kitOne K (.ref D) (.type "ValueError") = some true
theorem dp_clsE {X : Cx} {a D : Addr} {oe : Obj} {pn : List (Addr × Obj)} {ds : DS} {L : MS} {P : DK} {i : Nat} {b : Bool} {x n : Str} {p p1 p2 pos : Pos} (C : ExcC X.K D) (hz : Zc (.ref D) none oe) (hf : ∃ vs, oe.data = .fields vs) (hm : X.mg "isinstance" = none)
    (c : ClsIs X.K X.mg D x b) (hi : Get ds i (.adr a)) (p0 : P (.bl b) L) (hN : X.N[i]? = some n := by rfl) (hv : Vis X.env.scope n := by first | exact Or.inl rfl | exact Or.inr (Or.inl rfl) | exact Or.inr (Or.inr rfl)) (hd : (n == ("__debug__" : Str)) = false := by decide) (hcd : (n == ("__classdict__" : Str)) = false := by decide)
    (hgx : Gl X x := by rfl) (hdb : (x == ("__debug__" : Str)) = false := by decide) (hg : Gl X "isinstance" := by rfl) :
    DP (X.suite a ((a, oe) :: pn)) (.Call (.Name "isinstance" p) [.Name n p1, .Name x p2] [] pos) ds L P := by
  obtain ⟨T, h1, h2⟩ := c
  exact dp_isE C hz hf hm (da_cons (dp_var (X := X.suite a ((a, oe) :: pn)) hi (da_cons (dp_glob (X := X.suite a ((a, oe) :: pn)) (v := .ref T) (d := .adr T) (da_nil ⟨T, b, rfl, h2, p0⟩) h1 rfl (fun B => rfl) hgx hdb)) hN hv hd hcd)) hg
/-- a class of refusals: what raises it, what tells it -/
def Refusal (K : PySem.W.Frag) (mg : Str → Option Value) (x : Str) (j : Nat) : Prop := ∃ D, ErrC K mg x D ∧ ToldK K mg D j
theorem refusal_at {K : PySem.W.Frag} {h : Heap} {mg : Str → Option Value} {x : Str} {j : Nat} {D TE T0 T1 T2 T3 T4 T5 T6 T7 T8 T9 T10 : Addr} (X : K.In h) (G : h.Ns mainGlobals mg) (a : PySem.W.nsIn K mainGlobals x = some (some (.ref D)))
    (q : PySem.W.excIn K D [.type "ValueError", .type "Exception", .type "BaseException", .type "object"] "ValueError.__new__" = true) (k : PySem.W.keepIn K (.ref D) = true) (b : PySem.W.subIn K (.ref D) (.type "BaseException") = some true) (t : PySem.W.typeIn K (.ref D) = some (.type "type"))
    (e1 : PySem.W.findIn K (.ref D) "__getattribute__" = some (some (.builtin "BaseException.__getattribute__"))) (e2 : PySem.W.findIn K (.ref D) "__getattr__" = some none) (e3 : PySem.W.hasDictIn K D = true) (e4 : PySem.W.findIn K (.ref D) "__class__" = some (some (.builtin "object.__class__")))
    (e5 : PySem.W.specialIn K (.builtin "object.__class__") "__get__" = some (some (.builtin "getset_descriptor.__get__"))) (e6 : PySem.W.takesIn K (.builtin "object.__class__") = some true) (e7 : PySem.W.mroIn K D (.type "object") = some true)
    (te : PySem.W.nsIn K mainGlobals "TrayError" = some (some (.ref TE))) (te1 : PySem.W.subIn K (.ref TE) (.type "BaseException") = some true) (te2 : PySem.W.hasDictIn K TE = true) (te3 : PySem.W.typeIn K (.ref TE) = some (.type "type")) (te4 : PySem.W.subIn K (.ref D) (.ref TE) = some true)
    (a0 : PySem.W.nsIn K mainGlobals "BadTray" = some (some (.ref T0))) (k0 : PySem.W.kitOne K (.ref D) (.ref T0) = some (decide (0 = j)))
    (a1 : PySem.W.nsIn K mainGlobals "BadTilts" = some (some (.ref T1))) (k1 : PySem.W.kitOne K (.ref D) (.ref T1) = some (decide (1 = j)))
    (a2 : PySem.W.nsIn K mainGlobals "BadShape" = some (some (.ref T2))) (k2 : PySem.W.kitOne K (.ref D) (.ref T2) = some (decide (2 = j)))
    (a3 : PySem.W.nsIn K mainGlobals "BadDeed" = some (some (.ref T3))) (k3 : PySem.W.kitOne K (.ref D) (.ref T3) = some (decide (3 = j)))
    (a4 : PySem.W.nsIn K mainGlobals "BadCount" = some (some (.ref T4))) (k4 : PySem.W.kitOne K (.ref D) (.ref T4) = some (decide (4 = j)))
    (a5 : PySem.W.nsIn K mainGlobals "BadCell" = some (some (.ref T5))) (k5 : PySem.W.kitOne K (.ref D) (.ref T5) = some (decide (5 = j)))
    (a6 : PySem.W.nsIn K mainGlobals "NoBall" = some (some (.ref T6))) (k6 : PySem.W.kitOne K (.ref D) (.ref T6) = some (decide (6 = j)))
    (a7 : PySem.W.nsIn K mainGlobals "Unsettled" = some (some (.ref T7))) (k7 : PySem.W.kitOne K (.ref D) (.ref T7) = some (decide (7 = j)))
    (a8 : PySem.W.nsIn K mainGlobals "BadNumber" = some (some (.ref T8))) (k8 : PySem.W.kitOne K (.ref D) (.ref T8) = some (decide (8 = j)))
    (a9 : PySem.W.nsIn K mainGlobals "Taken" = some (some (.ref T9))) (k9 : PySem.W.kitOne K (.ref D) (.ref T9) = some (decide (9 = j)))
    (a10 : PySem.W.nsIn K mainGlobals "BadMark" = some (some (.ref T10))) (k10 : PySem.W.kitOne K (.ref D) (.ref T10) = some (decide (10 = j))) (kv : PySem.W.kitOne K (.ref D) (.type "ValueError") = some true) : Refusal K mg x j :=
  ⟨D, ⟨PySem.W.mg_of X G a, q, k, b, t⟩, ⟨⟨e1, e2, b, e3, e4, e5, e6, e7⟩, ⟨TE, PySem.W.mg_of X G te, PySem.W.exm_ref te1 te2 te3 te4⟩, clsIs_at X G a0 k0, clsIs_at X G a1 k1, clsIs_at X G a2 k2, clsIs_at X G a3 k3, clsIs_at X G a4 k4, clsIs_at X G a5 k5, clsIs_at X G a6 k6, clsIs_at X G a7 k7, clsIs_at X G a8 k8, clsIs_at X G a9 k9, clsIs_at X G a10 k10, kv⟩⟩
end Z
/-! is None as a value; ''.join(..).replace(..) -/
namespace Z
open PySem PySem.Spec PyProof.Rows L2
section
variable {X : Cx} {K : PySem.W.Frag} {a b e o : Expr} {ds : DS} {L : MS} {P : DK} {PB : Bool → MS → Prop} {pos apos cpos : Pos}
def isNK (g : Bool → Bool) : K2 := fun x y L P => y = .non ∧ P (.bl (g (isNon x))) L
theorem non_is {B : Hp} {x : Dt} {v : V} (ix : Is K B x v) : decide (v = V.non) = isNon x := by
  cases x <;> first
    | (obtain rfl : v = _ := ix; rfl)
    | (obtain ⟨_, _, rfl, _⟩ := ix; rfl)
    | (obtain ⟨_, _, _, rfl, _⟩ := ix; rfl)
theorem kr_isN : KR2 K (fun x y H Q => y = .non ∧ Q (.bl (decide (x = .non))) H) (isNK id) := by
  intro B H L x y v u Q P hl ix iy hk q
  obtain ⟨rfl, p⟩ := hk
  obtain rfl : u = V.non := iy
  refine ⟨rfl, ?_⟩
  rw [non_is ix]
  exact Fin.here q hl p rfl
theorem dp_isN {k : Nat} {p2 : Pos} (h : DP X a ds L fun x L1 => P (.bl (isNon x)) L1) : DP X (.Compare a [.Is] [.Constant .none k p2] pos) ds L P :=
  dp_cmp op_isN kr_isN (DP.imp h fun x L1 h1 => dp_non ⟨rfl, h1⟩)
theorem ew_joinT {c : Str} {j : Nat} {cp ap1 cp1 : Pos} {σ : L2.St} {H B : Hp} {Q : VK} {pins : List (Addr × Obj)} {s : Shared} (h : DP X e ds L fun d L1 => joinK (.str c.cps.toList) [d] L1 P) (hs : Sl X.K B ds σ) (hl : Hs X.K B L H) (q : Fin X.K B P Q) (I : Inv X pins σ H s)
    (hbase : attributeBase (.Constant (.str c) j cp) "join" X.env (eval (.Constant (.str c) j cp) X.env) = eval (.Constant (.str c) j cp) X.env := by rfl)
    (hfew : ((backTo cp1 (starEach [e] X.env)).all (fun x => !x.1) && (backToKw cp1 (keywordEach [] X.env)).all (fun x => x.1.isSome)
      && decide ([e].length + ([] : List Keyword).length + (if ([] : List Keyword).isEmpty then 0 else 1) < 30)) = true := by rfl)
    (hline : (ap1.endLine == cp1.line) = true := by rfl) (hs1 : starEach [e] X.env = (false, eval e X.env) :: starEach [] X.env := by rfl) (hplain : (backTo cp1 (starEach [] X.env)).any (·.1) = false := by rfl) :
    wpAny (model X.prog X.w) X.A (eval (.Call (.Attribute (.Constant (.str c) j cp) "join" ap1) [e] [] cp1) X.env) (fun v s3 => s.toks + 1 ≤ s3.toks ∧ ∃ y H3, Inv X pins σ H3 s3 ∧ RelV y v ∧ Q y H3) X.xe s := by
  refine wpAny_Call_method_late hbase hfew hline rfl (Calls.Constant_str ?_)
  refine ⟨"str", "str.join", PySem.F.plainAttrs_str, PySem.F.slot_str_join, PySem.F.type_str_join, typeIs_str _ _ _, (fun _ e => nomatch e), ?_⟩
  have q1 : AW X [e] σ H fun xs H2 => ∃ a p, ∃ ys : List Str, V.str c = .str a ∧ xs = [.ref p] ∧ (SqL X.K H2 p (ys.map V.str) ∨ SqT X.K H2 p (ys.map V.str)) ∧
      (ys.map (·.length)).sum + ys.length * a.length ≤ 16777216 ∧ Q (.str (Txt.join a ys)) H2 := by
    refine PA.to (pa_cons pe_w pa_nil hs1) (h.run σ H B hs hl _ fun d L1 v B1 H1 h1 e1 hl1 iv => ?_)
    have hc : V.str c = V.str (⟨c.cps.toList.toArray⟩ : Str) := by
      cases c
      simp
    exact km_join B1 H1 L1 (.str c.cps.toList) (.str c) [d] [v] Q P hl1 hc ⟨v, [], rfl, iv, rfl⟩ h1 fun d2 L2 z B2 H2 p2 e2 hl2 iz => q d2 L2 z B2 H2 p2 (e1.trans e2) hl2 iz
  have hA := (show PA X [e] (AW X [e]) from pa_w).run cp1 pins _ σ H _ (I.tok (s.toks + 1)) q1
  rw [hs1] at hA ⊢
  refine Calls.callWith_builtin (by show (false || (backTo cp1 (starEach [] X.env)).any (·.1)) = false; rw [hplain] <;> rfl) (Calls.evalArgs_plain ?_)
  refine wpAny_mono (PySem.wpAny_toks hA) (fun us s2 q2 => ?_) fun _ _ z => z.2
  obtain ⟨hk, vs, H2, I2, r2, q2⟩ := q2
  refine wpAny_mono (PySem.wpAny_toks (mt_join pins s2 σ H2 (.str c) vs _ us Q I2 ⟨_, rfl⟩ r2 q2)) (fun v s3 q3 => ?_) fun _ _ z => z.2
  obtain ⟨hk2, y, H3, I3, r3, q3⟩ := q3
  have h4 : s.toks + 1 ≤ s2.toks := hk
  exact ⟨by omega, y, H3, I3, r3, q3⟩
theorem dp_joinRepl {c y z : Str} {j j1 j2 : Nat} {cp ap1 cp1 c0 c1 : Pos} (h : DP X e ds L fun d L1 => joinK (.str c.cps.toList) [d] L1 fun d2 L2 => ∃ l, d2 = .str l ∧ l.length + (l.length + 1) * z.length ≤ 16777216 ∧ P (.str (replK y z l)) L2)
    (hy : 1 ≤ y.length := by decide) (hyz : (y == z) = false := by decide)
    (hst : starEach [.Constant (.str y) j1 c0, .Constant (.str z) j2 c1] X.env = [(false, eval (.Constant (.str y) j1 c0) X.env), (false, eval (.Constant (.str z) j2 c1) X.env)] := by rfl)
    (hb2 : attributeBase (.Call (.Attribute (.Constant (.str c) j cp) "join" ap1) [e] [] cp1) "replace" X.env (eval (.Call (.Attribute (.Constant (.str c) j cp) "join" ap1) [e] [] cp1) X.env) = eval (.Call (.Attribute (.Constant (.str c) j cp) "join" ap1) [e] [] cp1) X.env := by rfl) (hl2 : (apos.endLine == pos.line) = true := by rfl)
    (hbase : attributeBase (.Constant (.str c) j cp) "join" X.env (eval (.Constant (.str c) j cp) X.env) = eval (.Constant (.str c) j cp) X.env := by rfl)
    (hfew : ((backTo cp1 (starEach [e] X.env)).all (fun x => !x.1) && (backToKw cp1 (keywordEach [] X.env)).all (fun x => x.1.isSome)
      && decide ([e].length + ([] : List Keyword).length + (if ([] : List Keyword).isEmpty then 0 else 1) < 30)) = true := by rfl)
    (hline : (ap1.endLine == cp1.line) = true := by rfl) (hs1 : starEach [e] X.env = (false, eval e X.env) :: starEach [] X.env := by rfl) (hplain : (backTo cp1 (starEach [] X.env)).any (·.1) = false := by rfl) :
    DP X (.Call (.Attribute (.Call (.Attribute (.Constant (.str c) j cp) "join" ap1) [e] [] cp1) "replace" apos) [.Constant (.str y) j1 c0, .Constant (.str z) j2 c1] [] pos) ds L P := .mk fun σ H B hs hl Q q pins s I => by
  refine PySem.Call_method2 hb2 hst hl2 (wpAny_mono (ew_joinT (P := fun d2 L2 => ∃ l, d2 = .str l ∧ l.length + (l.length + 1) * z.length ≤ 16777216 ∧ P (.str (replK y z l)) L2)
    (Q := fun v H1 => ∃ x, v = .str x ∧ x.length + (x.length + 1) * z.length ≤ 16777216 ∧ Q (.str (Txt.replace x y z)) H1) h hs hl (fun d2 L2 v B2 H2 p2 e2 hl2 iv => ?_) I hbase hfew hline hs1 hplain) (fun v s1 q2 => ?_) fun _ _ z => z)
  · obtain ⟨l, rfl, z1, p⟩ := p2
    obtain rfl : v = _ := iv
    refine ⟨_, rfl, by rw [txt_len]; exact z1, ?_⟩
    rw [repl_txt hy]
    exact q _ L2 _ B2 H2 p e2 hl2 rfl
  · obtain ⟨hk, v', H1, I1, r1, x, e1, hb, q3⟩ := q2
    subst e1
    obtain ⟨tx, e2⟩ := r1
    subst e2
    refine ⟨"str", _, PySem.F.plainAttrs_str, PySem.F.slot_str_replace, PySem.F.type_str_replace, typeIs_str _ _ _, (fun _ e => nomatch e), Calls.callWith_builtin rfl (Calls.evalArgs_plain (Calls.spliced_cons ?_))⟩
    refine Calls.Constant_str (Calls.spliced_cons (Calls.Constant_str (Calls.spliced_nil ?_)))
    exact PySem.SC.replace (by show s1.toks ≠ 0; omega) (by show s1.toks + 1 ≠ 0; omega) (by show s1.toks ≠ s1.toks + 1; omega) hyz hb fun t' k => ⟨.str (Txt.replace x y z), H1, I1.tok k, ⟨t', rfl⟩, q3⟩
theorem kr_notN : KR2 K (fun x y H Q => y = .non ∧ Q (.bl (!decide (x = .non))) H) (isNK not) := by
  intro B H L x y v u Q P hl ix iy hk q
  obtain ⟨rfl, p⟩ := hk
  obtain rfl : u = V.non := iy
  refine ⟨rfl, ?_⟩
  rw [non_is ix]
  exact Fin.here q hl p rfl
theorem dp_notN {k : Nat} {p2 : Pos} (h : DP X a ds L fun x L1 => P (.bl (!isNon x)) L1) : DP X (.Compare a [.IsNot] [.Constant .none k p2] pos) ds L P :=
  dp_cmp op_notN kr_notN (DP.imp h fun x L1 h1 => dp_non ⟨rfl, h1⟩)
/-- a text in a tuple or a list of texts -/
def inXK (neg : Bool) : K2 := fun x y L P => ∃ (i : List Nat) (ns : List (List Nat)), x = .str i ∧ (y = .tup (ns.map Dt.str) ∨ y = .lst (ns.map Dt.str)) ∧ P (.bl (if neg = true then !decide (i ∈ ns) else decide (i ∈ ns))) L
theorem kr_inX (neg : Bool) : KR2 K (rIn K neg) (inXK neg) := by
  intro B H L x y v u Q P hl ix iy hk q
  obtain ⟨i, ns, rfl, hy, p⟩ := hk
  obtain rfl : v = V.str ⟨i.toArray⟩ := ix
  have fin : ∀ us : List V, IsL K B (ns.map Dt.str) us → us.all flatV = true ∧ Q (.bl (if neg then !inV (V.str ⟨i.toArray⟩) us else inV (V.str ⟨i.toArray⟩) us)) H := fun us ia => by
    have e := ia.strs
    rw [List.map_map] at e
    subst e
    refine ⟨flat_txts ns, ?_⟩
    rw [show (ns.map (V.str ∘ fun l => (⟨l.toArray⟩ : Str))) = ns.map fun l => V.str ⟨l.toArray⟩ from rfl, inV_txts]
    exact Fin.here q hl p rfl
  rcases hy with rfl | rfl
  · obtain ⟨a, us, rfl, ha, ia⟩ := iy
    obtain ⟨f1, f2⟩ := fin us ia
    exact ⟨a, us, rfl, .inr (SqT.of (hl.sub _ _ ha)), rfl, f1, f2⟩
  · obtain ⟨a, us, rfl, ha, ia⟩ := iy
    obtain ⟨f1, f2⟩ := fin us ia
    exact ⟨a, us, rfl, .inl (SqL.of (hl.sub _ _ ha)), rfl, f1, f2⟩
theorem dt_inX (h : DP X a ds L fun x L1 => DP X b ds L1 fun y L2 => inXK false x y L2 fun d L3 => ∃ c, d = .bl c ∧ PB c L3) (hm : behindInMarks .In b = false := by rfl) : DT X (.Compare a [.In] [b] pos) ds L PB := dt_cmp op_in_seq (kr_inX false) h hm
theorem dt_notInX (h : DP X a ds L fun x L1 => DP X b ds L1 fun y L2 => inXK true x y L2 fun d L3 => ∃ c, d = .bl c ∧ PB c L3) (hm : behindInMarks .NotIn b = false := by rfl) : DT X (.Compare a [.NotIn] [b] pos) ds L PB := dt_cmp op_notIn_seq (kr_inX true) h hm
end
end Z
/-! methods that refuse; what is told may change; permuted lists of objects; get of a dict of the text; a try whose body does not refuse -/
namespace Z
open PySem PySem.Spec PyProof.Rows L2
theorem rz0 {X : Cx} : RZ X (fun _ _ => False) := Takes.imp LamX.takes0 fun cls d σ H' x => by
  cases x with
  | ref _ h => exact h
  | fld _ h => exact h
theorem dp_pre {X : Cx} {e : Expr} {ds : DS} {L L2 : MS} {P : DK} (s : L.Perm L2) (h : DP X e ds L2 P) : DP X e ds L P := .mk fun σ H B hs hl Q q => h.run σ H B hs (hl.perm s) Q q
/-! methods that refuse -/
structure CalMX (Pr : Program) (w : World) (K : PySem.W.Frag) (mg : Str → Option Value) (base : Heap) (C : Addr) (x : Str) (k : Nat) (ps : List Str) (R : RelX) : Prop where
  ex : ∃ (f : Addr) (fd : FuncData), FnOk Pr w K mg base (L2.CX Pr w) k f fd ps (spX K R) ∧ Meth K C x f ∧ Binds K fd ps []
/-- the objects in any order -/
def RP (R : Rel) : Rel := fun ds L P => ∃ L2, L.Perm L2 ∧ R ds L2 fun d L' => ∃ L3, L'.Perm L3 ∧ P d L3
def RPX (R : RelX) : RelX := fun ds L P Xr => ∃ L2, L.Perm L2 ∧ R ds L2 (fun d L' => ∃ L3, L'.Perm L3 ∧ P d L3) fun c L' => ∃ L3, L'.Perm L3 ∧ Xr c L3
section
variable {Pr : Program} {w : World} {K : PySem.W.Frag} {mg : Str → Option Value} {base : Heap}
theorem calMX_of {C : Addr} {x qn : Str} {st : Stmt} {N ps : List Str} {k : Nat} {R : RelX} (F : MethAt K C x qn st) (S : FnScope N ps (defScope st)) (hlen : ∀ ds L P Xr, R ds L P Xr → ds.length = ps.length)
    (hb : ∀ (kV doc pm : Value) (an : Option Addr) (cdv ct : Value) (us : List Value), us.length = ps.length → bindArgs (PySem.W.fnOf x qn (defArgs st) (defBody st) (defScope st) .none kV doc pm an cdv ct) ⟨us, []⟩ = pure (ps.zip us))
    (body : ∀ (f : Addr) (cdv : Value) (A : Around) (outer : List Env) (s : Shared) (H : Hp) (E : XK), Room k (gX Pr w K mg base N qn (defScope st) f cdv A outer s H E).A → ∀ ds L P Xr, R ds L P Xr → RZ (gX Pr w K mg base N qn (defScope st) f cdv A outer s H E) Xr →
      DSs (gX Pr w K mg base N qn (defScope st) f cdv A outer s H E) (defBody st) (startD N ds) L ⟨fun _ L' => P .non L', P, fun _ _ => False, fun _ _ => False⟩) : CalMX Pr w K mg base C x (k + 1) ps R := by
  obtain ⟨f, fd, F, hm⟩ := F.ex
  refine ⟨f, fd, ?_, hm, F.binds hb⟩
  refine F.okX S (fun vs H Q E h => ?_) fun cdv A outer s H vs Q E hr h => ?_
  · obtain ⟨B, ds, L, P, Xr, i, _, r, _⟩ := h
    rw [i.length]
    exact hlen _ _ _ _ r
  · obtain ⟨B, ds, L, P, Xr, i, hl, r, q, hx⟩ := h
    have rz : RZ (gX Pr w K mg base N qn (defScope st) f cdv A outer s H E) Xr := Takes.imp (takes_of (E := E) rfl rfl rfl rfl) fun cls d σ H' xo => hx cls d H' xo
    refine ⟨_, pss_w, (body f cdv A outer s H E hr ds L P Xr r rz).run (L2.start N vs) H B _ (sl_start i) hl ⟨?_, ?_, ?_, ?_⟩⟩
    · exact fun ds L σ B2 H2 p e _ hl2 => q .non L _ B2 H2 p e hl2 rfl
    · exact fun d L v B2 H2 p e hl2 iv => q d L v B2 H2 p e hl2 iv
    · exact fun _ _ _ _ _ p => p.elim
    · exact fun _ _ _ _ _ p => p.elim
theorem Cal.perm {x : Str} {k : Nat} {ps : List Str} {R : Rel} (C : Cal Pr w K mg base x k ps R) : Cal Pr w K mg base x k ps (RP R) := by
  obtain ⟨f, fd, h1, h2, h3, h4, h5⟩ := C.ex
  exact ⟨f, fd, h1.imp fun vs H Q E ⟨B, ds, L, P, i, hl, ⟨L2, s, r⟩, q⟩ => ⟨B, ds, L2, _, i, hl.perm s, r, fun d L' v B2 H2 ⟨L3, s3, p⟩ e hl2 iv => q d L3 v B2 H2 p e (hl2.perm s3) iv⟩, h2, h3, h4, h5⟩
theorem CalM.perm {C : Addr} {x : Str} {k : Nat} {ps : List Str} {R : Rel} (M : CalM Pr w K mg base C x k ps R) : CalM Pr w K mg base C x k ps (RP R) := by
  obtain ⟨f, fd, h1, h2, h3⟩ := M.ex
  exact ⟨f, fd, h1.imp fun vs H Q E ⟨B, ds, L, P, i, hl, ⟨L2, s, r⟩, q⟩ => ⟨B, ds, L2, _, i, hl.perm s, r, fun d L' v B2 H2 ⟨L3, s3, p⟩ e hl2 iv => q d L3 v B2 H2 p e (hl2.perm s3) iv⟩, h2, h3⟩
theorem CalX.perm {x : Str} {k : Nat} {ps : List Str} {R : RelX} (C : CalX Pr w K mg base x k ps R) : CalX Pr w K mg base x k ps (RPX R) := by
  obtain ⟨f, fd, h1, h2, h3, h4, h5⟩ := C.ex
  exact ⟨f, fd, h1.imp fun vs H Q E ⟨B, ds, L, P, Xr, i, hl, ⟨L2, s, r⟩, q, hx⟩ => ⟨B, ds, L2, _, _, i, hl.perm s, r, fun d L' v B2 H2 ⟨L3, s3, p⟩ e hl2 iv => q d L3 v B2 H2 p e (hl2.perm s3) iv, fun c d H2 xo => hx c d H2 (by
    cases xo with
    | ref h6 h7 =>
      obtain ⟨L3, s3, xr⟩ := h7
      exact .ref (h6.perm s3) xr
    | fld h6 h7 =>
      obtain ⟨L3, s3, xr⟩ := h7
      exact .fld (h6.perm (s3.cons _)) xr)⟩, h2, h3, h4, h5⟩
end
section
variable {X : Cx} {e : Expr} {es : List Expr} {ds : DS} {L : MS} {P : DK} {Xr : RK} {D : DEnds} {pos np : Pos}
theorem dp_methX {k j : Nat} {C : Addr} {x : Str} {ps : List Str} {R : RelX} {o : Expr} {apos : Pos} (M : CalMX X.prog X.w X.K X.mg X.base C x k ps R) (rz : RZ X Xr) (hc : Cls X.K C) (hr : Room j X.A) (hk : k ≤ j)
    (h : DP X o ds L fun y L1 => ∃ a ns xs, y = .adr a ∧ ML L1 a (.ins C ns xs) ∧ fldD ns xs x = none ∧ DA X (e :: es) ds L1 fun zs L2 => R (.adr a :: zs) L2 P Xr)
    (hst : starEach (e :: es) X.env = (false, eval e X.env) :: starEach es X.env := by rfl) (hpl : (backTo pos (starEach es X.env)).any (·.1) = false := by rfl) {pl : Sem Bool}
    (ht : eval (.Call (.Attribute o x apos) (e :: es) [] pos) X.env = (do
      let ov ← eval o X.env
      standAt apos.atName
      let (f, first) ← holding [ov] (getMethod ov x pl)
      callWith pos f first (backTo pos (starEach (e :: es) X.env)) (backToKw pos (keywordEach [] X.env))) := by rfl) : DP X (.Call (.Attribute o x apos) (e :: es) [] pos) ds L P := .mk fun σ H B hs hl Q q => by
  obtain ⟨f, fd, F, hm, hb⟩ := M.ex
  have hx : Passes (L2.CX X.prog X.w) X (wX X.K Xr) := passes_call rz fun _ _ _ _ h => h
  refine PE.to (pe_meth pe_w hc hm F (hr.mono hk) hb .nil hx pa_w hst hpl ht) (h.run σ H B hs hl _ fun y L1 v B1 H1 p e1 hl1 ix => ?_)
  obtain ⟨a, ns, xs, rfl, hml, hf, p⟩ := p
  obtain rfl : v = V.ref a := ix
  obtain ⟨_, ob, ho, dx, vs, rfl, en, iv⟩ := hl1.own a _ hml
  refine ⟨a, dx, _, rfl, ho, fld_none iv hf, p.run σ H1 B1 (hs.mono e1) hl1 _ fun zs L2 us B2 H2 r e2 hl2 izs => ?_⟩
  show spX X.K R (V.ref a :: (us ++ [])) H2 Q (wX X.K Xr)
  rw [List.append_nil]
  exact ⟨B2, .adr a :: zs, L2, P, Xr, ⟨V.ref a, us, rfl, rfl, izs⟩, hl2, r, fun d L' z B3 H3 p3 e3 => q d L' z B3 H3 p3 ((e1.trans e2).trans e3), fun c d H2 xo => xo⟩
/-- try: a body that does not refuse -/
theorem ds_tryQ {i : Nat} {n x : Str} {c : Value} {body suite : List Stmt} {b₀ : Stmt} {pos' : Pos} (hc : X.mg x = some c) (h : ∀ pn xe, DSs (X.tr pn xe) body ds L D) (hN : X.N.Nodup) (hs : X.stack = X.env :: X.outer := by rfl) (hf : X.env.frame = some X.env.locals := by rfl) (hi : X.N[i]? = some n := by rfl) (hln : X.env.kindOf n = some .local := by rfl) (hg : Gl X x := by rfl) (hdb : (x == ("__debug__" : Str)) = false := by decide) :
    DSt X (.Try body [.ExceptHandler (some (.Name x np)) (some n) (b₀ :: suite) pos'] [] [] pos) ds L D := .mk fun σ H B E hs' hl m =>
  PS.to (ps_try_as (i := i) (c := c) (tb := fun W D σ H => ∀ pn xe, SSW (X.tr pn xe) body D σ H) (ts := fun _ _ _ _ _ _ => False) hs hf hN hi hln ⟨hg, hdb, .inl hc⟩ LamX.takes0 (fun W pn xe _ _ => ⟨fun pins s σ H D I h => h pn xe pins s I⟩) (fun _ _ _ _ _ _ _ => ⟨fun _ _ _ _ _ _ h => h.elim⟩))
    (fun pn xe => (h pn xe).run σ H B E hs' hl m)
/-- d.get(k, ..) of a dict of the text, the key there -/
def KLow (mg : Str → Option Value) (x : Str) : Prop := ∀ p, mg x = some (.ref p) → (p == sysModules) = false
theorem klow_at {K : PySem.W.Frag} {h : Heap} {mg : Str → Option Value} {x : Str} {p : Addr} (KX : K.In h) (G : h.Ns mainGlobals mg) (a : PySem.W.nsIn K mainGlobals x = some (some (.ref p))) (l : (p == sysModules) = false) : KLow mg x := fun p' hp => by
  have e := (PySem.W.mg_of KX G a).symm.trans hp
  cases e
  exact l
theorem dp_kget4 {x a b c d : Str} {i j k l : Int} {f : Expr} {apos : Pos} (D : KDctAt X.K X.w X.mg x a b c d i j k l) (lo : KLow X.mg x) (h : DP X e ds L fun y L1 => ∃ cs z v, y = .str cs ∧ z = (⟨cs.toArray⟩ : Str) ∧ (z, v) ∈ [(a, i), (b, j), (c, k), (d, l)] ∧ DP X f ds L1 fun _ L2 => P (.int v) L2)
    (hg : Gl X x := by rfl) (hdb : (x == ("__debug__" : Str)) = false := by decide) (m : M2 X (.Name x np) "get" apos e f pos := by exact ⟨rfl, rfl, rfl, rfl⟩) : DP X (.Call (.Attribute (.Name x np) "get" apos) [e, f] [] pos) ds L P := .mk fun σ H B hs hl Q q pins s I => by
  obtain ⟨p, hp, k1, k2, k3, k4⟩ := D.ex
  have kk : ∀ {z : Str} {v : Int}, (z, v) ∈ [(a, i), (b, j), (c, k), (d, l)] → KDct X.K X.w p z (.int v) := fun {z v} hm => by
    simp only [List.mem_cons, List.not_mem_nil, or_false, Prod.mk.injEq] at hm
    rcases hm with ⟨ez, rfl⟩ | ⟨ez, rfl⟩ | ⟨ez, rfl⟩ | ⟨ez, rfl⟩
    · exact ez ▸ k1
    · exact ez ▸ k2
    · exact ez ▸ k3
    · exact ez ▸ k4
  have low := lo p hp
  refine wpAny_Call_method m.base m.few m.line PySem.F.plainAttrs_dict PySem.F.slot_dict_get PySem.F.type_dict_get (thn ((pe_glob (v := .ref p) hg hp rfl hdb).run pins s σ H (fun v H1 => v = .ref p ∧ H1 = H) I ⟨rfl, rfl⟩) fun u s1 ⟨vx, H1, I1, rx, ex, eH⟩ => ?_)
  subst ex eH
  obtain rfl : u = Value.ref p := rx
  obtain ⟨es0, n0, u0, lk0, kl0, _, _⟩ := k1
  have hm1 := PySem.W.mapOf_K (prog := X.prog) (w := X.w) I1.kIn lk0 kl0
  refine ⟨hm1.typeIs, fun b' q' => ?_, ?_⟩
  · cases q'
    exact ⟨_, I1.kIn _ _ lk0, rfl⟩
  · rw [m.trees]
    refine Calls.callWith_builtin rfl (Calls.evalArgs_plain (Calls.spliced_cons (thn ((h.run σ H1 B hs hl (fun y H2 => ∃ zs v, y = .str zs ∧ KDct X.K X.w p zs (.int v) ∧ EW X f σ H2 fun _ H3 => Q (.int v) H3) fun y L1 v B1 H2 h1 e1 hl1 iy => ?_) pins s1 I1) fun iv s2 ⟨y, H2, I2, ry, zs, v, ey, kd, q2⟩ =>
      Calls.spliced_cons (thn (q2 pins s2 I2) fun fv s3 ⟨z, H3, I3, rz, q3⟩ => Calls.spliced_nil ?_))))
    · obtain ⟨cs, z, v0, rfl, rfl, hm, hq⟩ := h1
      obtain rfl : v = V.str ⟨cs.toArray⟩ := iy
      exact ⟨_, v0, rfl, kk hm, hq.run σ H2 B1 (hs.mono e1) hl1 _ fun _ L2 _ B2 H4 p2 e2 hl2 _ => q (.int v0) L2 _ B2 H4 p2 (e1.trans e2) hl2 rfl⟩
    · subst ey
      obtain ⟨t, rfl⟩ := (show ∃ t, iv = Value.str zs t from ry)
      obtain ⟨es, n, u1, lk, kl, ens, ru⟩ := kd
      have hm2 := PySem.W.mapOf_K (prog := X.prog) (w := X.w) I3.kIn lk kl
      refine call_meetsIn PySem.F.slot_dict_get hm2.typeIs PySem.F.entry_dict_get (PySem.F.args_dict_get_3 _ _ _) (meets_dict_get_default (strKind X.prog X.w) p (strKind_is X.prog X.w zs t) low fv) ⟨_, hm2, ?_⟩
      rw [PySem.W.find_K lk ens]
      exact ⟨_, H3, I3.tok _, ru, q3⟩
end
end Z
/-! a dict with two texts for keys that changes; join of a text -/
namespace Z
open PySem PySem.Spec PyProof.Rows L2
section
variable {K : PySem.W.Frag} {B H : Hp} {L : MS}
theorem sct_two {p : Addr} {a b : Str} {x y : Dt} (hl : Hs K B L H) (hm : ML L p (.sct [a, b] [x, y])) : ∃ v u, H p = some (.dK [(Sum.inr a, v), (Sum.inr b, u)]) ∧ Is K B x v ∧ Is K B y u := by
  obtain ⟨_, o, ho, vs, rfl, _, iv⟩ := hl.own p _ hm
  obtain ⟨v, u, rfl, i1, i2⟩ := iv.two_inv
  exact ⟨v, u, ho, i1, i2⟩
theorem str_cps (a : Str) : (⟨a.cps.toList.toArray⟩ : Str) = a := by
  cases a
  simp
end
section
variable {X : Cx} {K : PySem.W.Frag} {v o i e : Expr} {ds : DS} {L : MS} {P : DK} {D : DEnds} {pos pos' : Pos} {k : Nat}
theorem dp_sdisp2 {a b : Str} {va vb : Expr} {t1 t2 : Nat} {p1 p2 : Pos} (hab : (Sum.inr a : Key) ≠ Sum.inr b)
    (h : ∀ p, DP X va ds ((p, .sct [] []) :: L) fun d1 L1 => DP X vb ds L1 fun d2 L2 => ∃ L3, ML L2 p (.sct [] []) ∧ MSt L2 p (.sct [a, b] [d1, d2]) L3 ∧ P (.adr p) L3) :
    DP X (.Dict [some (.Constant (.str a) t1 p1), some (.Constant (.str b) t2 p2)] [va, vb] pos) ds L P := .mk fun σ H B hs hl Q q => by
  refine PE.to (pe_disp (pps_cons pe_str pe_w <| pps_cons pe_str pe_w pps_nil) rfl rfl (by simp) (by simp)) ?_
  intro p hp
  have hl1 := hl.newM (m := .sct [] []) (o := .dK []) hp ⟨[], rfl, rfl, rfl⟩
  refine (h p).run σ _ B hs hl1 _ fun d1 L1 v1 B1 H1 h1 e1 hl2 i1 => h1.run σ H1 B1 (hs.mono e1) hl2 _ fun d2 L2 v2 B2 H2 h2 e2 hl3 i2 => ?_
  obtain ⟨L3, hm, ht, p2⟩ := h2
  obtain ⟨_, o, ho, vs, rfl, _, iv⟩ := hl3.own p _ hm
  refine ⟨ho, [(Sum.inr a, v1), (Sum.inr b, v2)], rfl, by simp, ?_⟩
  have em : mergeK [] [((Sum.inr a : Key), v1), (Sum.inr b, v2)] = [(Sum.inr a, v1), (Sum.inr b, v2)] := by
    show putK (putK [] (Sum.inr a) v1) (Sum.inr b) v2 = _
    have e1 : putK ([] : List (Key × V)) (Sum.inr a) v1 = [(Sum.inr a, v1)] := rfl
    rw [e1]
    unfold putK
    rw [if_neg (by simpa using hab)]
    rfl
  rw [em]
  exact q (.adr p) L3 _ B2 _ p2 (e1.trans e2) (hl3.put ht ⟨[v1, v2], rfl, rfl, ⟨v1, [v2], rfl, i1.mono e2, v2, [], rfl, i2, rfl⟩⟩) rfl
theorem dp_sget (hr : Room k X.A) (h : DP X o ds L fun z L1 => DP X i ds L1 fun y L2 => ∃ p a b d1 d2, z = .adr p ∧ ML L2 p (.sct [a, b] [d1, d2]) ∧ ((y = .str a.cps.toList ∧ P d1 L2) ∨ ((Sum.inr a : Key) ≠ Sum.inr b ∧ y = .str b.cps.toList ∧ P d2 L2))) (hs' : NoSl i := by intro _ _; rfl) :
    DP X (.Subscript o i pos) ds L P := .mk fun σ H B hs hl Q q =>
  PE.to (pe_dget (hu_of hr) pe_w pe_w hs') (h.run σ H B hs hl _ fun x L1 x' B1 H1 h1 e1 hl1 ix => h1.run σ H1 B1 (hs.mono e1) hl1 _ fun y L2 y' B2 H2 h2 e2 hl2 iy => by
    obtain ⟨p, a, b, d1, d2, rfl, hm, hk⟩ := h2
    obtain rfl : x' = V.ref p := ix
    obtain ⟨v, u, hH, i1, i2⟩ := sct_two hl2 hm
    rcases hk with ⟨rfl, q1⟩ | ⟨hab, rfl, q1⟩
    · obtain rfl : y' = V.str ⟨a.cps.toList.toArray⟩ := iy
      rw [str_cps]
      refine ⟨p, v, rfl, ?_, q d1 L2 v B2 H2 q1 (e1.trans e2) hl2 i1⟩
      have g := DGet.k (k := Sum.inr a) hH
      rw [valV_pos rfl] at g
      exact g
    · obtain rfl : y' = V.str ⟨b.cps.toList.toArray⟩ := iy
      rw [str_cps]
      refine ⟨p, u, rfl, ?_, q d2 L2 u B2 H2 q1 (e1.trans e2) hl2 i2⟩
      have g := DGet.k (k := Sum.inr b) hH
      rw [valV_neg hab, valV_pos rfl] at g
      exact g)
theorem ds_sput (hr : Room k X.A) (h : DP X v ds L fun d L1 => DP X o ds L1 fun z L2 => DP X i ds L2 fun y L3 => ∃ p a b d1 d2 L4, z = .adr p ∧ y = .str a.cps.toList ∧ (Sum.inr a : Key) ≠ Sum.inr b ∧ ML L3 p (.sct [a, b] [d1, d2]) ∧ MSt L3 p (.sct [a, b] [d, d2]) L4 ∧ D.nx ds L4)
    (hs' : swapsWith v (some (.Subscript o i pos')) pos.line X.env = pure false := by rfl) : DSt X (.Assign [.Subscript o i pos'] v pos) ds L D := .mk fun σ H B E hs hl m =>
  PS.to (ps_dput (hu_of hr) pe_w pe_w pe_w hs') (h.run σ H B hs hl _ fun d L1 z B1 H1 h1 e1 hl1 iz => h1.run σ H1 B1 (hs.mono e1) hl1 _ fun x L2 x' B2 H2 h2 e2 hl2 ix => h2.run σ H2 B2 (hs.mono (e1.trans e2)) hl2 _ fun y L3 y' B3 H3 h3 e3 hl3 iy => by
    obtain ⟨p, a, b, d1, d2, L4, rfl, rfl, hab, hm, ht, pp⟩ := h3
    have ix : x' = .ref p := ix
    subst ix
    obtain rfl : y' = V.str ⟨a.cps.toList.toArray⟩ := iy
    rw [str_cps]
    obtain ⟨v1, u1, hH, i1, i2⟩ := sct_two hl3 hm
    have ep : putK [((Sum.inr a : Key), v1), (Sum.inr b, u1)] (Sum.inr a) z = [(Sum.inr a, z), (Sum.inr b, u1)] := by
      unfold putK
      rw [if_pos (by simp)]
      simp [Ne.symm hab]
    refine ⟨p, _, rfl, DPut.k (k := Sum.inr a) hH (Nat.lt_of_lt_of_le (show 2 < 1000 by decide) szOk), ?_⟩
    rw [ep]
    exact m.nx ds L4 σ B3 _ pp ((e1.trans e2).trans e3) (hs.mono ((e1.trans e2).trans e3)) (hl3.put ht ⟨[z, u1], rfl, rfl, ⟨z, [u1], rfl, iz.mono (e2.trans e3), u1, [], rfl, i2, rfl⟩⟩))
end
theorem CalM.imp {Pr : Program} {w : World} {K : PySem.W.Frag} {mg : Str → Option Value} {base : Heap} {C : Addr} {x : Str} {k : Nat} {ps : List Str} {R R' : Rel} (M : CalM Pr w K mg base C x k ps R) (h : ∀ ds L P, R' ds L P → R ds L P) : CalM Pr w K mg base C x k ps R' := by
  obtain ⟨f, fd, h1, h2, h3⟩ := M.ex
  exact ⟨f, fd, h1.imp fun vs H Q E ⟨B, ds, L, P, i, hl, r, q⟩ => ⟨B, ds, L, P, i, hl, h _ _ _ r, q⟩, h2, h3⟩
/-! join of a text -/
section
open Builtin Builtin.Str Builtin.Int
variable {prog : Program} {w : World} {A : Around} {E : Value → Shared → Prop} {s : Shared} {Q : Value → Shared → Prop} {x y : Str} {t t2 : Tok}
theorem join_str (hh : A.handled = none) (hz : y.cps.size ≤ 1000) (hx : x.length = 0)
    (hq : ∀ (s' : Shared) t' k, (∀ b o, s.heap.get? b = some o → s'.heap.get? b = some o) → s'.gens = s.gens → s'.drawn = s.drawn → s'.os = s.os → Q (.str (Txt.join x (y.cps.toList.map fun c => (⟨#[c]⟩ : Str))) t') { s' with toks := k }) :
    wpAny (model prog w) A (call (.builtin "str.join") [.str x t, .str y t2]) Q E s := by
  refine wpAny_call (codeAny_call_builtin F.slot_str_join.plain F.entry_str_join (F.slot_str_join.check _ _ _ _ _ _ _ _ (typeIs_str _ _ _) (F.args_str_join_2 _ _) ?_))
  have tree : «str.join» ⟨[.str x t, .str y t2], []⟩ = (do
    let ty ← typeOf (.str y t2)
    if (ty == .type "list" || ty == .type "tuple") = true then (do
      match ← seqItems? (.str y t2) with
      | some xs => joinTail x xs.toList
      | none => unsupported "internal:str.join")
    else (do
      let it ← (pyIter (.str y t2)).tryCatch fun e => do
        if ← isInstance e (.type "TypeError") then rule "str.join.not-iterable"; raiseError "TypeError" "can only join an iterable" else throw e
      let items ← collect it
      joinTail x items)) := rfl
  rw [tree]
  refine wpAny_bind (wpAny_typeOf (T := "str") (v := .str y t2) rfl ?_)
  show wpAny _ A.in1 ((pyIter (.str y t2)).tryCatch _ >>= fun it => collect it >>= fun items => joinTail x items) _ _ s
  refine wpAny_bind (wpAny_tryCatch (wpAny_pyIter_strU ?_))
  have hI : ∀ b o, s.heap.get? b = some o → b ≠ s.heap.objs.size := fun b o e => Nat.ne_of_lt (Heap.lt_size e)
  refine wpAny_bind (wpAny_collect_strIter (I := s.heap.objs.size) (ty := strIterType y) (x := y) (t := t2) hh ?_ ?_ (fun s' acc hk hg hd ho hacc => ?_) (Nat.le_trans hz (Z.szOk)))
  · unfold strIterType
    split
    · exact .inl rfl
    · exact .inr rfl
  · exact ⟨_, Heap.get?_push_size _ rfl, rfl, rfl⟩
  obtain ⟨l, hl⟩ := exists_strValues acc.toList fun v hv => by
    obtain ⟨j, hj, rfl⟩ := Array.mem_iff_getElem.mp (Array.mem_toList_iff.mp hv)
    obtain ⟨c, u, _, e⟩ := hacc.2 j _ (Array.getElem?_eq_getElem hj)
    exact ⟨_, u, e⟩
  rw [← hl]
  have el : l.map (·.1) = y.cps.toList.map fun c => (⟨#[c]⟩ : Str) := by
    have hlen : l.length = y.cps.size := by
      have := congrArg List.length hl
      unfold strValues at this
      rw [List.length_map] at this
      have h2 : acc.toList.length = acc.size := Array.length_toList
      rw [this, h2, hacc.1]
    refine List.ext_getElem (by rw [List.length_map, List.length_map, hlen, Array.length_toList]) fun j h1 h2 => ?_
    rw [List.length_map] at h1
    have hj : j < acc.toList.length := by rw [← hl]; unfold strValues; rw [List.length_map]; exact h1
    have e1 : acc.toList[j] = .str l[j].1 l[j].2 := by
      have : acc.toList[j]? = (strValues l)[j]? := by rw [hl]
      unfold strValues at this
      rw [List.getElem?_eq_getElem hj, List.getElem?_map, List.getElem?_eq_getElem h1] at this
      exact Option.some.inj this
    obtain ⟨c, u, hc, e⟩ := hacc.2 j acc.toList[j] (by rw [← Array.getElem?_toList, List.getElem?_eq_getElem hj])
    rw [e1] at e
    injection e with e2 _
    rw [List.getElem_map, List.getElem_map, e2]
    have hc2 : y.cps.toList[j]? = some c := by rw [Array.getElem?_toList]; exact hc
    rw [List.length_map] at h2
    rw [List.getElem?_eq_getElem h2] at hc2
    rw [Option.some.inj hc2]
  have hlen2 : ∀ m : List Nat, (m.map fun c => (⟨#[c]⟩ : Str)).map (·.length) = m.map fun _ => 1 := fun m => by
    rw [List.map_map]
    rfl
  have hok : JoinOk x (l.map (·.1)) = true := by
    refine PyProof.Rows.joinOk_of ?_
    rw [el, hlen2, hx, Nat.mul_zero, Nat.add_zero]
    have : ∀ m : List Nat, (m.map fun _ => 1).sum = m.length := fun m => by
      induction m with
      | nil => rfl
      | cons a m ih => rw [List.map_cons, List.sum_cons, ih, List.length_cons, Nat.add_comm]
    rw [this, Array.length_toList]
    omega
  have hok2 := hok
  unfold JoinOk at hok2
  rw [Bool.not_eq_true'] at hok2
  have g : Gives (joinTail x (strValues l)) (joinMade x l) := by
    have g0 := gives_joinTail x l hok2
    cases l with
    | nil => exact g0
    | cons p r => cases r with
      | nil => exact g0
      | cons q r' => exact g0
  refine g prog w A (wants Q E) s' (post_join l ⟨joinFit_length hok2, fun t' k => ?_⟩)
  rw [el]
  exact hq s' t' k (fun b o e => hk b o (hI b o e) (Heap.get?_push_of_some _ e)) hg hd ho
end
section
variable {X : Cx} {K : PySem.W.Frag} {o e : Expr} {ds : DS} {L : MS} {P : DK} {apos cpos : Pos}
def rJoinS : V → List V → Hp → VK → Prop := fun x xs H Q => ∃ a y : Str, x = .str a ∧ xs = [.str y] ∧ a.length = 0 ∧ y.cps.size ≤ 1000 ∧ Q (.str (Txt.join a (y.cps.toList.map fun c => (⟨#[c]⟩ : Str)))) H
theorem mt_joinS (hc : X.calm = true) : MtR X "str.join" rJoinS := by
  intro pins s σ H x xs v us Q I rx rs h
  obtain ⟨a, y, rfl, rfl, ha, hy, h⟩ := h
  obtain ⟨t, rfl⟩ := rx
  cases rs with
  | cons r1 rs =>
    cases rs
    obtain ⟨t2, rfl⟩ := r1
    refine join_str (I.ok.hd hc) hy ha fun s' t' k hk hg hd ho => ⟨.str _, H, ?_, ⟨t', rfl⟩, h⟩
    have I2 := I.kept (h' := s'.heap) (t' := k) hk
    have e : ({ s with heap := s'.heap, toks := k } : Shared) = { s' with toks := k } := by
      obtain ⟨a1, a2, a3, a4, a5⟩ := s
      obtain ⟨b1, b2, b3, b4, b5⟩ := s'
      simp only at hg hd ho
      subst hg hd ho
      rfl
    rw [e] at I2
    exact I2
def joinSK : KM := fun x xs L P => ∃ l, x = .str [] ∧ xs = [.str l] ∧ l.length ≤ 1000 ∧ P (.str l) L
theorem joinL_ones : ∀ l : List Nat, TL.joinL [] (l.map fun c => [c]) = l
  | [] => rfl
  | [c] => rfl
  | c :: d :: l => by
    have h := joinL_ones (d :: l)
    rw [List.map_cons] at h
    show [c] ++ ([] ++ TL.joinL [] ([d] :: l.map fun c => [c])) = _
    rw [h]
    rfl
theorem km_joinS : KRM K rJoinS joinSK := by
  intro B H L x v xs vs Q P hl ix ixs hk q
  obtain ⟨l, rfl, rfl, hz, p⟩ := hk
  obtain ⟨u, rfl, iu⟩ := ixs.one_inv
  obtain rfl : v = V.str ⟨([] : List Nat).toArray⟩ := ix
  obtain rfl : u = V.str ⟨l.toArray⟩ := iu
  refine ⟨_, _, rfl, rfl, rfl, by simpa using hz, ?_⟩
  have e : Txt.join (⟨([] : List Nat).toArray⟩ : Str) (((⟨l.toArray⟩ : Str).cps.toList).map fun c => (⟨#[c]⟩ : Str)) = ⟨l.toArray⟩ := by
    have h1 : (((⟨l.toArray⟩ : Str).cps.toList).map fun c => (⟨#[c]⟩ : Str)) = txts (l.map fun c => [c]) := by
      unfold txts
      rw [List.map_map]
      simp only [List.toList_toArray]
      rfl
    rw [h1, join_txts, joinL_ones]
  rw [e]
  exact Fin.here q hl p rfl
theorem dp_joinS (h : DP X o ds L fun x L1 => tyM "str" x L1 ∧ DP X e ds L1 fun d L2 => joinSK x [d] L2 P) (hc : X.calm = true := by rfl)
    (hbase : attributeBase o "join" X.env (eval o X.env) = eval o X.env := by rfl)
    (hfew : ((backTo cpos (starEach [e] X.env)).all (fun x => !x.1) && (backToKw cpos (keywordEach [] X.env)).all (fun x => x.1.isSome)
      && decide ([e].length + ([] : List Keyword).length + (if ([] : List Keyword).isEmpty then 0 else 1) < 30)) = true := by rfl)
    (hline : (apos.endLine == cpos.line) = true := by rfl) (hs1 : starEach [e] X.env = (false, eval e X.env) :: starEach [] X.env := by rfl) (hplain : (backTo cpos (starEach [] X.env)).any (·.1) = false := by rfl) : DP X (.Call (.Attribute o "join" apos) [e] [] cpos) ds L P :=
  dp_bm PySem.F.plainAttrs_str PySem.F.slot_str_join PySem.F.type_str_join (mt_joinS hc) km_joinS (DP.imp h fun x L1 ⟨ht, h1⟩ => ⟨ht, da_cons (DP.imp h1 fun d L2 h2 => da_nil h2) hs1⟩) hbase hfew hline hs1 hplain
end
end Z
/-! where a token is out: what brings one out, and comprehensions whose elements want one -/
namespace Z
open PySem PySem.Spec PyProof.Rows L2
/-- what an expression makes, and that a token is out behind it -/
def EWT (X : Cx) (e : Expr) (σ : L2.St) (H : Hp) (Q : VK) : Prop := ∀ (pins : List (Addr × Obj)) (s : Shared), Inv X pins σ H s →
  wpAny (model X.prog X.w) X.A (eval e X.env) (fun v s' => 1 ≤ s'.toks ∧ ∃ y H', Inv X pins σ H' s' ∧ RelV y v ∧ Q y H') X.xe s
def AWT (X : Cx) (es : List Expr) (σ : L2.St) (H : Hp) (Q : List V → Hp → Prop) : Prop := ∀ (pos : Pos) (pins : List (Addr × Obj)) (s : Shared), Inv X pins σ H s →
  wpAny (model X.prog X.w) X.A (spliced (backTo pos (starEach es X.env))) (fun vs s' => 1 ≤ s'.toks ∧ ∃ ys H', Inv X pins σ H' s' ∧ Vals ys vs ∧ Q ys H') X.xe s
structure DPk (X : Cx) (e : Expr) (ds : DS) (L : MS) (P : DK) : Prop where
  run : ∀ σ H B, Sl X.K B ds σ → Hs X.K B L H → ∀ Q, Fin X.K B P Q → EWT X e σ H Q
structure DAk (X : Cx) (es : List Expr) (ds : DS) (L : MS) (P : List Dt → MS → Prop) : Prop where
  run : ∀ σ H B, Sl X.K B ds σ → Hs X.K B L H → ∀ Q : List V → Hp → Prop, (∀ xs L' vs B' H', P xs L' → Same B B' → Hs X.K B' L' H' → IsL X.K B' xs vs → Q vs H') → AWT X es σ H Q
section
variable {X : Cx} {e : Expr} {es rest : List Expr} {ds : DS} {L : MS} {P : DK} {pos p : Pos}
theorem dpk_int {i : Int} {j : Nat} (q : P (.int i) L) : DPk X (.Constant (.int i) j pos) ds L P := .mk fun σ H B hs hl Q qq pins s I =>
  wpAny_Constant_int ⟨Nat.succ_le_succ (Nat.zero_le _), .int i, H, I.tok _, ⟨_, rfl⟩, qq _ L _ B H q (Same.refl B) hl rfl⟩
theorem dak_here {PL : List Dt → MS → Prop} (h : DPk X e ds L fun x L1 => DA X es ds L1 fun xs L2 => PL (x :: xs) L2) (hs' : starEach (e :: es) X.env = (false, eval e X.env) :: starEach es X.env := by rfl) : DAk X (e :: es) ds L PL := .mk fun σ H B hs hl Q q pos pins s I => by
  rw [hs']
  refine Calls.spliced_cons (wpAny_mono (h.run σ H B hs hl (fun y H1 => AW X es σ H1 fun vs H2 => Q (y :: vs) H2) (fun x L1 v B1 H1 h1 e1 hl1 ix => h1.run σ H1 B1 (hs.mono e1) hl1 _ fun xs L2 vs B2 H2 p2 e2 hl2 ixs => q (x :: xs) L2 (v :: vs) B2 H2 p2 (e1.trans e2) hl2 ⟨v, vs, rfl, ix.mono e2, ixs⟩) pins s I) (fun u s1 ⟨h0, y, H1, I1, r1, q1⟩ => ?_) fun _ _ z => z)
  exact wpAny_mono (PySem.wpAny_toks_of h0 ((show PA X es (AW X es) from pa_w).run pos pins s1 σ H1 _ I1 q1)) (fun us s2 ⟨h2, vs, H2, I2, r2, q2⟩ => ⟨h2, y :: vs, H2, I2, .cons r1 r2, q2⟩) fun _ _ z => z.2
theorem dak_later {PL : List Dt → MS → Prop} (h : DP X e ds L fun x L1 => DAk X es ds L1 fun xs L2 => PL (x :: xs) L2) (hs' : starEach (e :: es) X.env = (false, eval e X.env) :: starEach es X.env := by rfl) : DAk X (e :: es) ds L PL := .mk fun σ H B hs hl Q q pos pins s I => by
  rw [hs']
  refine Calls.spliced_cons (wpAny_mono (h.run σ H B hs hl (fun y H1 => AWT X es σ H1 fun vs H2 => Q (y :: vs) H2) (fun x L1 v B1 H1 h1 e1 hl1 ix => h1.run σ H1 B1 (hs.mono e1) hl1 _ fun xs L2 vs B2 H2 p2 e2 hl2 ixs => q (x :: xs) L2 (v :: vs) B2 H2 p2 (e1.trans e2) hl2 ⟨v, vs, rfl, ix.mono e2, ixs⟩) pins s I) (fun u s1 ⟨y, H1, I1, r1, q1⟩ => ?_) fun _ _ z => z)
  exact wpAny_mono (q1 pos pins s1 I1) (fun us s2 ⟨h2, vs, H2, I2, r2, q2⟩ => ⟨h2, y :: vs, H2, I2, .cons r1 r2, q2⟩) fun _ _ z => z
theorem dpk_call {x : Str} {k j : Nat} {ps : List Str} {R : Rel} (C : Cal X.prog X.w X.K X.mg X.base x k ps R) (hr : Room j X.A) (hk : k ≤ j) (h : DAk X (e :: es) ds L fun xs L1 => R xs L1 P) (hg : Gl X x := by rfl) (hdb : (x == ("__debug__" : Str)) = false := by decide)
    (he : starEach (e :: es) X.env = (false, eval e X.env) :: starEach es X.env := by rfl) (hpl : (backTo pos (starEach es X.env)).any (·.1) = false := by rfl) : DPk X (.Call (.Name x p) (e :: es) [] pos) ds L P := .mk fun σ H B hs hl Q q pins s I => by
  obtain ⟨f, fd, F, hm, hkp, hb, _⟩ := C.ex
  refine wpAny_Call_Name_kw (ld_glob I hg hm ?_ hdb)
  refine PySem.W.callWith_K (h₀ := X.base) I.ok.mod.kin hkp (wpAny_mono (h.run σ H B hs hl (fun vs H1 => spP X.K R vs H1 Q C8.E0) (fun xs L1 vs B1 H1 r e1 hl1 ixs => ⟨B1, xs, L1, P, ixs, hl1, r, fun d L' z B2 H2 p2 e2 => q d L' z B2 H2 p2 (e1.trans e2)⟩) pos pins s I) (fun us s1 ⟨h0, vs, H1, I1, r, q1⟩ => ⟨I1.kIn, ?_⟩) fun _ _ z => z) he hpl
  have q2 : spP X.K R (vs ++ []) H1 Q C8.E0 := by rw [List.append_nil]; exact q1
  exact wpAny_mono (PySem.wpAny_toks_of h0 (run_fn F (hr.mono hk) hb .nil pass0 I1 r q2)) (fun v s2 ⟨h2, y, H2, I2, r2, q2⟩ => ⟨h2, y, H2, I2, r2, q2⟩) fun _ _ z => z.2
end
section
variable {X : Cx} {st : Stmt} {rest : List Stmt} {ds : DS} {L : MS} {D : DEnds} {pos : Pos} {e : Expr}
/-- x = e: behind it a token is out -/
theorem dss_setT {i : Nat} {x : Str} {pos' : Pos} {ds' : Dt → DS} (hset : ∀ d, SetAt ds i d (ds' d)) (h : DPk X e ds L fun d L1 => DSsT X rest (ds' d) L1 D) (hN : X.N.Nodup) (hi : X.N[i]? = some x := by rfl) (hx : Loc X.env.scope x := by first | exact .inl rfl | exact .inr rfl)
    (hw : swapsWith e (some (.Name x pos')) pos.line X.env = pure false := by rfl) (hf : X.fn x = true ∨ X.env.scope.names.lookup x = some .local := by first | exact .inl rfl | exact .inr rfl) : DSs X (.Assign [.Name x pos'] e pos :: rest) ds L D := .mk fun σ H B E hs hl m pins s I => by
  refine wpAny_execs_cons (wpAny_Assign_Name (wpAny_mono (h.run σ H B hs hl (fun v H3 => SSWT X rest E (σ.set i (some v)) H3) (fun d L1 v B1 H1 h1 e1 hl1 iv => ?_) pins s I) (fun v s1 ⟨h0, y, H1, I1, r1, q1⟩ => ?_) fun _ _ z => z) hw)
  · refine h1.run _ H1 B1 E ?_ hl1 (m.mono e1)
    rw [← hset d]
    exact (hs.mono e1).set i iv
  · refine wpAny_mono (PySem.wpAny_toks_of h0 (store_ok (Q := fun _ s4 => Inv X pins (σ.set i (some y)) H1 s4) I1 hN hi hx r1 (fun s4 I4 => I4) hf)) (fun _ s4 q4 => ?_) fun _ _ z => z.2
    exact q1 pins s4 q4.1 q4.2
/-- a statement that wants a token -/
def SWT (X : Cx) (st : Stmt) : TS := fun D σ H => ∀ (pins : List (Addr × Obj)) (s : Shared), 1 ≤ s.toks → Inv X pins σ H s → wpAny (model X.prog X.w) X.A (exec st X.env) (SP X pins D) X.xe s
structure DStT (X : Cx) (st : Stmt) (ds : DS) (L : MS) (D : DEnds) : Prop where
  run : ∀ σ H B (E : Ends), Sl X.K B ds σ → Hs X.K B L H → Meets X.K B D E → SWT X st E σ H
theorem pst_w : PST X st (SWT X st) := fun pins s σ H D h0 I q => q pins s h0 I
theorem dssT_consT (h : DStT X st ds L { D with nx := fun ds' L' => DSs X rest ds' L' D }) : DSsT X (st :: rest) ds L D := .mk fun σ H B E hs hl m pins s h0 I =>
  psst_cons pst_w psst_w pins s σ H E h0 I (h.run σ H B { E with nx := SSWT X rest E } hs hl ⟨fun ds' L' σ' B2 H2 h2 e2 hs2 hl2 => fun pins s _ I => h2.run σ' H2 B2 E hs2 hl2 (m.mono e2) pins s I, m.rt, m.bk, m.ct⟩)
theorem dstT_if {c : Expr} {s1 s2 : List Stmt} (h : DT X c ds L fun t L1 => two t (DSsT X s1 ds L1 D) (DSsT X s2 ds L1 D)) : DStT X (.If c s1 s2 pos) ds L D := .mk fun σ H B E hs hl m pins s h0 I =>
  CwR.pst_if pt_w psst_w psst_w pins s σ H E h0 I (h.run σ H B hs hl _ fun t L1 B1 H1 p e1 hl1 => by
    cases t with
    | true => exact (p.1 rfl).run σ H1 B1 E (hs.mono e1) hl1 (m.mono e1)
    | false => exact (p.2 rfl).run σ H1 B1 E (hs.mono e1) hl1 (m.mono e1))
end
/-! a comprehension over what need not be tested, its elements want a token -/
section
variable {X : Cx}
/-- a turn's state: a token is out -/
structure TurnI (X : Cx) (s3 : Shared) (H3 : Hp) (sc : Scope) (ce : Env) (fp : List Addr) (tn : Nat → Heap → Prop) (W : Nat → Nat → Hp → Prop) (σ : L2.St) (n : Nat) (s : Shared) : Prop where
  ex : ∃ i H, Inv (X.blk s3 H3 sc ce fp) [] σ H s ∧ tn i s.heap ∧ (∀ b ∈ fp, H b = none) ∧ W i n H
  tok : 1 ≤ s.toks
theorem lcT {pins : List (Addr × Obj)} {s : Shared} {σ : L2.St} {H : Hp} {Q : VK} {elt tg iter : Expr} {scope : Scope} {own : List (Str × Nat)} {pos pos' : Pos} {wi : TI} {g : TG} {te : TE} {use : Option (Value → Sem Unit)} {Qf : Value → Shared → Prop} (h1 : 1 ≤ s.toks)
    (hc : X.calm = true) (hN : X.N.Nodup) (I : Inv X pins σ H s) (hi : PI X tg iter wi) (ok : BlkOk X.N X.env.scope scope own)
    (hg : ∀ s H C cl fp, PG (bX X scope s H C cl fp) tg g) (he : ∀ s H C cl fp, PET (bX X scope s H C cl fp) elt te) (hs : ∀ x, foldedSetIterable iter X.env x = pure x) (h : tLc wi g tYes te (own.map (·.2)) σ H Q)
    (hRR : ∀ D C s' m H', Inv X pins σ H' s' → Q (.ref D) H' → s'.heap.Ns C m → FpOk X pins H' C → compPost (model X.prog X.w) X.A X.xe use Qf (.ref D) C (.ok .next) s') :
    wpAny (model X.prog X.w) X.A (comprehension (.ListComp elt [⟨tg, iter, [], 0⟩] scope pos) scope X.env pos' (newList []) false (eval iter X.env) use) Qf X.xe s := by
  have fr : ∀ y ∈ scope.names, y.2 = .free → ∃ c, X.env.cells.lookup y.1 = some c := fun y hy e => (ok.free y hy e).elim (fun k => I.ok.has _ (.inl k)) fun k => I.ok.has _ (.inr k)
  refine wpAny_comprehension_free (use := use) rfl hs (closure_ok fr) ok.kind (fun y hy e => by rw [ok.uniq y hy, e])
    (wpAny_mono (PySem.wpAny_toks_of h1 (hi.run pins s σ H _ I h)) (fun xv s1 q1 => wpAny_mono (PySem.wpAny_toks_of q1.1 q1.2) (fun itv s2 q2 => ?_) fun _ _ z => z.2) fun _ _ z => z.2)
  obtain ⟨t2, it, fp, tn, J, H2, rfl, I2, T, st2, f2, q⟩ := q2
  refine wpAny_newObj_type (newEnv_comp ?_) (by show 0 ≤ sizeLine; decide)
  have hDn : H2 s2.heap.objs.size = none := I2.hok.fresh (Nat.le_refl _)
  obtain ⟨W, ⟨m0, w0⟩, turn⟩ := q s2.heap.objs.size hDn
  -- the list that is being made
  have I3 := I2.laid (a := s2.heap.objs.size) (o := .lst []) (h' := s2.heap.push { cls := .type "list", data := .seq ([] : List Value).toArray }) (t' := s2.toks) (fun b o e => Heap.get?_push_of_some _ e) (Nat.le_refl _) ⟨Nat.zero_le _, [], 0, .nil, Heap.get?_push_size _ rfl⟩
  generalize hD : s2.heap.objs.size = D at *
  generalize hs3 : ({ s2 with heap := s2.heap.push { cls := .type "list", data := .seq ([] : List Value).toArray }, toks := s2.toks } : Shared) = s3 at I3
  have e3 : s3.heap = s2.heap.push { cls := .type "list", data := .seq ([] : List Value).toArray } := by rw [← hs3]
  have f3 : ∀ b ∈ fp, FpOk X pins (upd H2 D (.lst [])) b ∧ b < s3.heap.objs.size := fun b hb => by
    obtain ⟨o, eo, _⟩ := T.obj _ _ st2 b hb
    have hlt := Heap.lt_size eo
    refine ⟨⟨?_, (f2 b hb).2⟩, by rw [e3, Heap.size_push]; exact Nat.lt_succ_of_lt hlt⟩
    rw [upd_ne (by rw [← hD]; exact Nat.ne_of_lt hlt)]
    exact (f2 b hb).1
  have n3 : ∀ b ∈ fp, (upd H2 D (.lst [])) b = none := fun b hb => (f3 b hb).1.1
  have st3 : tn 0 s3.heap := T.keep _ _ _ st2 fun b _ o eo => by rw [e3]; exact Heap.get?_push_of_some _ eo
  have I4 := block_start I3 ok hN f3
  have gP : PG (X.blk s3 (upd H2 D (.lst [])) scope (compEnvC scope (cellsFrom (s3.heap.objs.size + 1) scope.names (cloFrom X.env.cells scope.names [])) s3.heap.objs.size X.env) fp) tg g := hg s3 (upd H2 D (.lst [])) s3.heap.objs.size (cellsFrom (s3.heap.objs.size + 1) scope.names (cloFrom X.env.cells scope.names [])) fp
  have eP : PET (X.blk s3 (upd H2 D (.lst [])) scope (compEnvC scope (cellsFrom (s3.heap.objs.size + 1) scope.names (cloFrom X.env.cells scope.names [])) s3.heap.objs.size X.env) fp) elt te := he s3 (upd H2 D (.lst [])) s3.heap.objs.size (cellsFrom (s3.heap.objs.size + 1) scope.names (cloFrom X.env.cells scope.names [])) fp
  show codeAny _ _ (.compStart (.ListComp elt [⟨tg, iter, [], 0⟩] scope pos) 0 (.ref it) (.ref D) (compEnvC scope (cellsFrom (s3.heap.objs.size + 1) scope.names (cloFrom X.env.cells scope.names [])) s3.heap.objs.size X.env)) (compPost (model X.prog X.w) X.A X.xe use Qf (.ref D) s3.heap.objs.size) { s3 with heap := pushCells (s3.heap.push { cls := .type "dict", data := .dict #[] }) scope.names }
  have t3 : 1 ≤ s3.toks := by rw [← hs3]; exact t2
  generalize hce : compEnvC scope (cellsFrom (s3.heap.objs.size + 1) scope.names (cloFrom X.env.cells scope.names [])) s3.heap.objs.size X.env = ce at I4 gP eP ⊢
  have cl : ce.locals = s3.heap.objs.size := by rw [← hce]; rfl
  generalize upd H2 D (.lst []) = H3 at I3 I4 gP eP w0 n3 f3
  have st4 : tn 0 (pushCells (s3.heap.push { cls := .type "dict", data := .dict #[] }) scope.names) := T.keep _ _ _ st3 fun b _ o eo => pushCells_keeps _ _ _ _ (Heap.get?_push_of_some _ eo)
  have still : ∀ {σ' : L2.St} {H' : Hp} {s' : Shared}, Inv (X.blk s3 H3 scope ce fp) [] σ' H' s' → (∀ b ∈ fp, H' b = none) → ∀ b ∈ fp, FpOk (X.blk s3 H3 scope ce fp) [] H' b := fun {σ' H' s'} J hn b hb =>
    ⟨hn b hb, (J.ok.exf b hb).1, J.ok.exfs b hb, .inl hb, fun x c e => (J.ok.exf b hb).2 x c e, fun p hp => by simp at hp⟩
  refine codeAny_compStart_list ?go (T.self X.A 0 _ _ _ st4 ?go)
  refine compLoop_any (TurnI X s3 H3 scope ce fp tn W (wipe σ (own.map (·.2)))) (fun n s5 ⟨⟨i, H5, I5, st5, n5, w5⟩, t5⟩ => ?_) m0 ⟨⟨0, H3, I4, st4, n3, w0⟩, t3⟩
  rcases turn i n H5 w5 with ⟨stop, qq⟩ | ⟨go, Nx, hNx, step⟩
  · refine thnF (T.done (X.blk s3 H3 scope ce fp) rfl rfl rfl hc i [] s5 _ H5 (fun _ _ => False) I5 (still I5 n5) st5 stop) fun r s6 ⟨hr, I6⟩ => ?_
    subst hr
    have I7 : Inv X pins σ H5 s6 := I3.call' (ch := fp) I6.os I6.base I6.hok I6.bare fun b hb => ⟨(f3 b hb).1.2.2.2.1, (f3 b hb).1.2.1, (f3 b hb).1.2.2.2.2.1, (f3 b hb).1.2.2.2.2.2⟩
    have nC : H5 s3.heap.objs.size = none := cl ▸ (show H5 ce.locals = none from I6.free)
    obtain ⟨m, hn, _⟩ := I6.loc
    exact hRR D s3.heap.objs.size s6 m H5 I7 qq (cl ▸ (show s6.heap.Ns ce.locals m from hn)) (I3.fpOk (Nat.le_refl _) nC)
  · refine thnF (PySem.wpAny_toks_of t5 (T.item (X.blk s3 H3 scope ce fp) rfl rfl rfl hc i [] s5 _ H5 (fun _ _ => False) I5 (still I5 n5) st5 go) |> fun z => wpAny_mono z (fun _ _ y => y) fun _ _ y => y.2) fun r s6 ⟨t6, u, hr, h6⟩ => ?_
    subst hr
    refine thnF (wpAny_mono (PySem.wpAny_toks_of t6 h6) (fun _ _ y => y) fun _ _ y => y.2) fun _ s7 ⟨t7, x, H7, I7, r7, y7, st7, n7⟩ => ?_
    have I7' := I7.pinned (still I7 n7) (T.obj _ _ st7)
    refine thnF (wpAny_mono (PySem.wpAny_toks_of t7 (gP.run _ s7 _ H7 x u _ I7' r7 (step x H7 y7))) (fun _ _ y => y) fun _ _ y => y.2) fun _ s8 ⟨t8, σ8, H8, I8, hw8, q8⟩ => ?_
    refine wpAny_tests_nil ?_
    rw [if_pos rfl]
    have q9 : te σ8 H8 fun y H4 => ∃ acc, H4 D = some (.lst acc) ∧ acc.length < sizeLine ∧ Nx (upd H4 D (.lst (acc ++ [y]))) := by
      have z : (if true = true then te σ8 H8 fun y H4 => ∃ acc, H4 D = some (.lst acc) ∧ acc.length < sizeLine ∧ Nx (upd H4 D (.lst (acc ++ [y]))) else Nx H8) := q8
      rw [if_pos rfl] at z
      exact z
    refine thnF (wpAny_mono (PySem.wpAny_toks_of t8 (eP _ s8 σ8 H8 _ t8 I8 q9)) (fun _ _ y => y) fun _ _ y => y.2) fun v s9 ⟨t9, yv, H9, I9, r9, acc, hD9, hz9, nx⟩ => ?_
    refine wpAny_mono (PySem.wpAny_toks_of t9 (app_ok (X := X.blk s3 H3 scope ce fp) (E := fun _ _ => False) (Q := fun _ s10 => Inv (X.blk s3 H3 scope ce fp) ([] ++ pinsAt fp s7.heap) σ8 (upd H9 D (.lst (acc ++ [yv]))) s10) I9 hD9 hz9 r9 fun s10 I10 => I10)) (fun _ s10 ⟨t10, I10⟩ => ?_) fun _ _ y => y.2.elim
    obtain ⟨m', hm, w'⟩ := hNx _ nx
    have pin' : ∀ b ∈ fp, ∀ o, s7.heap.get? b = some o → s10.heap.get? b = some o ∧ upd H9 D (.lst (acc ++ [yv])) b = none := fun b hb o e =>
      let z := I10.pin (b, o) (List.mem_append_right _ (List.mem_append_right _ (mem_pinsAt hb e)))
      ⟨z.1, z.2.1⟩
    refine ⟨m', hm, ⟨⟨i + 1, _, (I10.unpinned (pins := [])).weak (by rw [← hw8, wipe_length]) (fun j v e => ?_), T.keep _ _ _ st7 fun b hb o e => (pin' b hb o e).1, fun b hb => ?_, w'⟩, t10⟩⟩
    · rw [← hw8] at e
      exact (wipe_some e).1
    · obtain ⟨o, e, _⟩ := T.obj _ _ st7 b hb
      exact (pin' b hb o e).2
end
/-- what an expression makes where a token is out -/
def EWt (X : Cx) (e : Expr) : TE := fun σ H Q => ∀ (pins : List (Addr × Obj)) (s : Shared), 1 ≤ s.toks → Inv X pins σ H s → wpAny (model X.prog X.w) X.A (eval e X.env) (EP X pins σ Q) X.xe s
structure DPt (X : Cx) (e : Expr) (ds : DS) (L : MS) (P : DK) : Prop where
  run : ∀ σ H B, Sl X.K B ds σ → Hs X.K B L H → ∀ Q, Fin X.K B P Q → EWt X e σ H Q
section
variable {X : Cx} {e o : Expr} {ds : DS} {L : MS} {P : DK} {pos p apos : Pos}
theorem pet_w : PET X e (EWt X e) := fun pins s σ H Q h0 I q => q pins s h0 I
theorem dpt_repl {a b : Str} {j1 j2 : Nat} {p1 p2 : Pos} (h : DP X o ds L fun z L1 => ∃ l, z = .str l ∧ l.length + (l.length + 1) * b.length ≤ 16777216 ∧ P (.str (replK a b l)) L1) (ha : 1 ≤ a.length := by decide) (hab : (a == b) = false := by decide)
    (s1 : starEach [.Constant (.str a) j1 p1, .Constant (.str b) j2 p2] X.env = [(false, eval (.Constant (.str a) j1 p1) X.env), (false, eval (.Constant (.str b) j2 p2) X.env)] := by rfl)
    (b1 : attributeBase o "replace" X.env (eval o X.env) = eval o X.env := by rfl) (l1 : (apos.endLine == pos.line) = true := by rfl) : DPt X (.Call (.Attribute o "replace" apos) [.Constant (.str a) j1 p1, .Constant (.str b) j2 p2] [] pos) ds L P := .mk fun σ H B hs hl Q q pins s h0 I =>
  CwR.pet_replC (X := X) pe_w hab s1 b1 l1 pins s σ H Q h0 I (h.run σ H B hs hl _ fun z L1 v B1 H1 h1 e1 hl1 iv => by
    obtain ⟨l, rfl, z1, p⟩ := h1
    obtain rfl : v = _ := iv
    refine ⟨_, rfl, by rw [txt_len]; exact z1, ?_⟩
    rw [repl_txt ha]
    exact q _ L1 _ B1 H1 p e1 hl1 rfl)
theorem dpt_len (hm : X.mg "len" = none) (h : DPt X e ds L fun x L1 => lenK [x] L1 P) (hg : Gl X "len" := by rfl) (hs1 : starEach [e] X.env = (false, eval e X.env) :: starEach [] X.env := by rfl) (hpl : (backTo pos (starEach [] X.env)).any (·.1) = false := by rfl) : DPt X (.Call (.Name "len" p) [e] [] pos) ds L P := .mk fun σ H B hs hl Q q pins s h0 I => by
  refine wpAny_Call_Name_kw (ld_blt I hg hm PySem.boot_len ?_ (by decide) (by decide))
  refine PyProof.Rows.callWith_builtin1 (thn ((pat_cons (pet_w (X := X) (e := e)) pat_nil hs1) pos pins s σ H (fun vs H1 => ∃ x n, vs = [x] ∧ LenV X.K x H1 n ∧ Q (.int n) H1) h0 I ?_) fun us s1 ⟨vs, H1, I1, r1, q1⟩ => call_len pins s1 σ H1 vs us Q I1 r1 q1) hs1 hpl
  exact h.run σ H B hs hl _ fun d L1 v B1 H1 p1 e1 hl1 iv => kc_len B1 H1 L1 [d] [v] Q P hl1 ⟨v, [], rfl, iv, rfl⟩ p1 fun d2 L' z B2 H2 p2 e2 => q d2 L' z B2 H2 p2 (e1.trans e2)
end
def DLcT (X : Cx) (elt tg iter : Expr) (scope : Scope) (ds : DS) (L : MS) (i : Nat) (P : DK) : Prop :=
  DI X tg iter ds L fun xs L1 => ∃ g : Dt → Dt, xs.length ≤ 100000 ∧ (∀ d T, d ∈ xs → ∀ s H C cl fp, ∃ ds', SetAt ds i d ds' ∧ DPt (bX X scope s H C cl fp) elt ds' (T :: L1) fun y L5 => L5 = T :: L1 ∧ y = g d) ∧ P (.lst (xs.map g)) L1
def teT (X : Cx) (scope : Scope) (elt : Expr) : TE := fun σ H Q => ∀ s H0 C cl fp, EWt (bX X scope s H0 C cl fp) elt σ H Q
theorem lcT_read {X : Cx} {elt tg iter : Expr} {scope : Scope} {ds : DS} {L : MS} {P : DK} {i : Nat} {σ : L2.St} {H B : Hp} {Q : VK} (hs0 : Sl X.K B ds σ) (hl0 : Hs X.K B L H) (h : DLcT X elt tg iter scope ds L i P) (q : Fin X.K B P Q) :
    tLc (IW X tg iter) (gName i) tYes (teT X scope elt) [i] σ H Q := by
  refine h.run σ H B hs0 hl0 _ fun xs L1 J B1 H1 ⟨g, hz, hstep, hend⟩ e1 hl1 hy D hD => ?_
  refine ⟨fun n m H' => n + m = xs.length ∧ ∃ B', Same B1 B' ∧ Hs X.K B' ((D, .lst ((xs.take n).map g)) :: L1) H', ⟨xs.length, Nat.zero_add _, B1, Same.refl _, hl1.newM hD ⟨[], rfl, rfl⟩⟩, ?_⟩
  rintro n m H' ⟨hn, B', e2, hl2⟩
  obtain ⟨y1, y2⟩ := hy n B' H' _ e2 hl2
  by_cases hi : n < xs.length
  · have hx : xs[n]? = some xs[n] := List.getElem?_eq_getElem hi
    obtain ⟨g1, g2⟩ := y1 _ hx
    refine .inr ⟨g1, fun H3 => ∃ B', Same B1 B' ∧ Hs X.K B' ((D, .lst ((xs.take (n + 1)).map g)) :: L1) H3, fun H3 hN => ⟨m - 1, by omega, by omega, hN⟩, fun v H2 hv => ?_⟩
    obtain ⟨B2, e3, hl3, iv⟩ := g2 v H2 hv
    have eB : Same B1 B2 := e2.trans e3
    have sl2 : ∀ ds', SetAt ds i xs[n] ds' → Sl X.K B2 ds' ((wipe σ [i]).set i (some v)) := fun ds' hset => by
      have q1 := (sl_wipe (hs0.mono (e1.trans eB)) [i]).set i iv
      have e5 : (wipeD ds [i]).set i (some xs[n]) = ds' := by
        rw [← hset]
        show (ds.set i none).set i (some xs[n]) = _
        rw [List.set_set]
      rw [e5] at q1
      exact q1
    show wipe ((wipe σ [i]).set i (some v)) [i] = wipe σ [i] ∧ _
    refine ⟨?_, ?_⟩
    · show (((σ.set i none).set i (some v)).set i none) = σ.set i none
      rw [List.set_set, List.set_set]
    · unfold tYes
      simp only [if_true]
      intro s' H0' C' cl' fp'
      obtain ⟨ds', hset, ht⟩ := hstep xs[n] (D, .lst ((xs.take n).map g)) (List.getElem_mem hi) s' H0' C' cl' fp'
      refine ht.run _ H2 B2 (sl2 ds' hset) hl3 _ fun y L5 u B4 H4 ⟨eL, ey⟩ e7 hl5 iy => ?_
      subst eL ey
      obtain ⟨ws, hD', ivs⟩ := hl5.lst ML.hd
      refine ⟨ws, hD', ?_, B4, eB.trans e7, ?_⟩
      · rw [ivs.length, List.length_map, List.length_take, sizeLine_eq]
        omega
      · rw [List.take_add_one, hx, List.map_append]
        exact hl5.put .hd ⟨_, rfl, ivs.append (IsL.one iy)⟩
  · have ei : n = xs.length := by omega
    refine .inl ⟨y2 (by omega), ?_⟩
    subst ei
    rw [List.take_length] at hl2
    obtain ⟨vs, hD', ivs⟩ := hl2.lst ML.hd
    obtain ⟨sb, hl5⟩ := hl2.freeze MDel.hd hD'
    exact q _ L1 _ _ H' hend ((e1.trans e2).trans sb) hl5 ⟨D, vs, rfl, upd_same, ivs.mono sb⟩
/-- name = [e for x in xs], where a token is out -/
theorem dst_setLcT {X : Cx} {elt tg iter : Expr} {scope : Scope} {ds : DS} {L : MS} {D : DEnds} {pos spos py : Pos} {i j : Nat} {y : Str} {ds' : Dt → DS} (hset : ∀ d, SetAt ds j d (ds' d)) (own : List (Str × Nat)) (ok : BlkOk X.N X.env.scope scope own) (hN : X.N.Nodup)
    (hg : ∀ (s : Shared) (H : Hp) (C : Addr) (cl : List (Str × Addr)) (fp : List Addr), PG (bX X scope s H C cl fp) tg (gName i))
    (hsw : swapsWith (.ListComp elt [⟨tg, iter, [], 0⟩] scope pos) (some (.Name y py)) spos.line X.env = pure true) (h : DLcT X elt tg iter scope ds L i fun d L1 => D.nx (ds' d) L1)
    (hy : X.N[j]? = some y := by rfl) (hyl : X.env.scope.names.lookup y = some .local := by rfl) (ho : own.map (·.2) = [i] := by rfl) (hc : X.calm = true := by rfl) (hs : ∀ x, foldedSetIterable iter X.env x = pure x := by intro _; rfl) :
    DStT X (.Assign [.Name y py] (.ListComp elt [⟨tg, iter, [], 0⟩] scope pos) spos) ds L D := .mk fun σ H B E hs0 hl0 m pins s h0 I => by
  have hr : tLc (IW X tg iter) (gName i) tYes (teT X scope elt) (own.map (·.2)) σ H (fun x H1 => E.nx (σ.set j (some x)) H1) := by
    rw [ho]
    refine lcT_read hs0 hl0 h fun d L' v B2 H2 p e hl iv => ?_
    refine m.nx (ds' d) L' _ B2 H2 p e ?_ hl
    rw [← hset d]
    exact (hs0.mono e).set j iv
  rw [exec_Assign_Name_used _ _ _ _ hsw]
  refine wpAny_bind (wpAny_standAt (wpAny_bind ?_))
  refine wpAny_bind (thn (lcT (Qf := fun _ s' => SP X pins E .next s') (pos := pos) (pos' := firstIterPos [⟨tg, iter, [], 0⟩] pos) (use := some (assign (.Name y py) X.env)) h0 hc hN I pi_w ok hg (fun s H0 C cl fp => fun pins s1 σ H Q t0 I q => q s H0 C cl fp pins s1 t0 I) hs hr fun l C s' mm H' I' q hn f => ?_) fun _ s' hq => wpAny_pure (wpAny_pure hq))
  show wpAny _ _ (assign (.Name y py) X.env (.ref l)) _ _ _
  refine wpAny_assign_Name (store_ok2 (v := V.ref l) I' hN hy (.inl hyl) rfl (fun s2 I2 ⟨a, sb, ha⟩ => ?_) (.inr hyl))
  obtain ⟨f0, f1, f2, f3, f4, f5⟩ := f
  have haC : C ≠ a := ha.elim (fun z => z ▸ f1) fun z e => f4 y a z e.symm
  exact ⟨mm, hn.sameBut sb haC, fun h3 sb3 => ⟨_, H', I2.turned (t' := s2.toks) (fun b o hb e => (sb3.2 b hb).trans e) f0 f1 f3 f4 f5, q⟩⟩
theorem dssT_mid {X : Cx} {st : Stmt} {rest : List Stmt} {ds : DS} {L : MS} {D : DEnds} (Mid : DS → MS → Prop) (h : DStT X st ds L { D with nx := Mid }) (h2 : ∀ ds' L', Mid ds' L' → DSs X rest ds' L' D) : DSsT X (st :: rest) ds L D :=
  dssT_consT (.mk fun σ H B E hs hl m => h.run σ H B E hs hl ⟨fun ds' L' σ' B2 H2 p => m.nx ds' L' σ' B2 H2 (h2 ds' L' p), m.rt, m.bk, m.ct⟩)
end Z
/-! dicts whose keys are tuples of tuples -/
namespace Z
open PySem PySem.Spec PyProof.Rows L2
mutual
/-- the data of a key -/
def dOf : NestedKey → Dt
  | .none => .non
  | .num i => .int i
  | .text x => .str x.cps.toList
  | .tup ks => .tup (dOfs ks)
def dOfs : List NestedKey → List Dt
  | [] => []
  | k :: ks => dOf k :: dOfs ks
end
section
variable {Pr : Program} {w : World} {K : PySem.W.Frag} {B H : Hp} {h : Heap}
mutual
theorem nest_is (ok : HOk Pr w H h) (sb : Same B H) : ∀ (k : NestedKey) {v : V} {u : Value}, Is K B (dOf k) v → RelV v u → NestedIs h k u
  | .none, v, u, i, r => by
    have i : v = V.non := i
    subst i
    have r : u = Value.none := r
    subst r
    exact .none
  | .num n, v, u, i, r => by
    have i : v = V.int n := i
    subst i
    obtain ⟨t, rfl⟩ := r
    exact .int n t
  | .text x, v, u, i, r => by
    have i : v = V.str ⟨x.cps.toList.toArray⟩ := i
    subst i
    rw [str_cps] at r
    obtain ⟨t, rfl⟩ := r
    exact .text x t
  | .tup ks, v, u, i, r => by
    obtain ⟨a, vs, rfl, h1, h2⟩ := i
    obtain rfl : u = Value.ref a := r
    obtain ⟨_, its, r2, o, e1, e2, n, e3⟩ := (show ObjOk Pr w H h a (.tup vs) from ok a _ (sb _ _ h1))
    exact .tup e1 e2 e3 (by simpa using nest_all ok sb ks h2 r2)
theorem nest_all (ok : HOk Pr w H h) (sb : Same B H) : ∀ (ks : List NestedKey) {vs : List V} {us : List Value}, IsL K B (dOfs ks) vs → Vals vs us → NestedAll h ks us
  | [], vs, us, i, r => by
    have i : vs = [] := i
    subst i
    cases r
    exact .nil
  | k :: ks, vs, us, i, r => by
    obtain ⟨v, t, rfl, i1, i2⟩ := i
    cases r with
    | cons r1 r2 => exact .cons (nest_is ok sb k i1 r1) (nest_all ok sb ks i2 r2)
end
end
/-! ### the object -/
abbrev NE := NestedKey × Addr × V
def nLook (kvs : List NE) (k : NestedKey) : Option V := (kvs.find? fun p => decide (p.1 = k)).map (·.2.2)
def nPut (kvs : List NE) (k : NestedKey) (b : Addr) (v : V) : List NE :=
  if (nLook kvs k).isSome then kvs.map (fun p => if p.1 = k then (p.1, p.2.1, v) else p) else kvs ++ [(k, b, v)]
abbrev NP : List NE → List (NestedKey × Addr × Value) → Prop := Paired fun p q => p.1 = q.1 ∧ p.2.1 = q.2.1 ∧ RelV p.2.2 q.2.2
def entryN (w : World) (x : NestedKey × Addr × Value) : DictEntry := ⟨x.1.hash w, .ref x.2.1, x.2.2⟩
def NDo (w : World) (a : Addr) (kvs : List NE) : HO := .ext fun h => (a == sysModules) = false ∧ ∃ xs, NP kvs xs ∧ ∃ o es ep, h.get? a = some o ∧ o.ExactDict ∧ o.data = .dict es ep ∧ es.toList = xs.map (entryN w) ∧ (xs.map (·.1)).Nodup
theorem NP.look {k : NestedKey} : ∀ {kvs : List NE} {xs : List (NestedKey × Addr × Value)}, NP kvs xs → (∀ v, nLook kvs k = some v → ∃ p, atKey xs k = some p ∧ RelV v p.2) ∧ (nLook kvs k = none → atKey xs k = none)
  | _, _, .nil => ⟨fun _ e => (nomatch e), fun _ => rfl⟩
  | p :: kvs, q :: xs, .cons ⟨e1, e2, e3⟩ t => by
    obtain ⟨i1, i2⟩ := NP.look (k := k) t
    unfold nLook atKey at *
    rw [List.find?_cons, List.find?_cons]
    by_cases c : p.1 = k
    · have c2 : q.1 = k := e1 ▸ c
      rw [decide_eq_true c, decide_eq_true c2]
      exact ⟨fun v e => ⟨q.2, rfl, by cases e; exact e3⟩, fun e => by cases e⟩
    · have c2 : ¬ q.1 = k := fun z => c (e1.trans z)
      rw [decide_eq_false c, decide_eq_false c2]
      exact ⟨i1, i2⟩
theorem NP.isSome {k : NestedKey} {kvs : List NE} {xs : List (NestedKey × Addr × Value)} (h : NP kvs xs) : (atKey xs k).isSome = (nLook kvs k).isSome := by
  obtain ⟨h1, h2⟩ := h.look (k := k)
  cases e : nLook kvs k with
  | none => rw [h2 e]; rfl
  | some v =>
    obtain ⟨p, hp, _⟩ := h1 v e
    rw [hp]
    rfl
theorem NP.map_put {k : NestedKey} {v : V} {u : Value} (r : RelV v u) : ∀ {kvs : List NE} {xs : List (NestedKey × Addr × Value)}, NP kvs xs → NP (kvs.map (fun p => if p.1 = k then (p.1, p.2.1, v) else p)) (xs.map (putAt k u))
  | _, _, .nil => .nil
  | p :: kvs, q :: xs, .cons ⟨e1, e2, e3⟩ t => by
    refine .cons ?_ (NP.map_put r t)
    unfold putAt
    dsimp only
    by_cases c : p.1 = k
    · rw [if_pos c, if_pos (e1 ▸ c)]
      exact ⟨e1, e2, r⟩
    · rw [if_neg c, if_neg fun z => c (e1.trans z)]
      exact ⟨e1, e2, e3⟩
theorem NP.put {k : NestedKey} {b : Addr} {v : V} {u : Value} (r : RelV v u) {kvs : List NE} {xs : List (NestedKey × Addr × Value)} (h : NP kvs xs) : NP (nPut kvs k b v) (storedH xs k b u) := by
  unfold nPut storedH
  rw [h.isSome]
  split
  · exact h.map_put r
  · exact Paired.snoc h ⟨rfl, rfl, r⟩
theorem nPut_len (kvs : List NE) (k : NestedKey) (b : Addr) (v : V) : (nPut kvs k b v).length ≤ kvs.length + 1 := by
  unfold nPut
  split <;> simp
theorem nPut_mem {kvs : List NE} {k : NestedKey} {b : Addr} {v : V} : ∀ p ∈ nPut kvs k b v, (p.1 = k ∧ p.2.1 = b) ∨ ∃ q ∈ kvs, q.1 = p.1 ∧ q.2.1 = p.2.1 := fun p hp => by
  unfold nPut at hp
  split at hp
  · obtain ⟨q, hq, rfl⟩ := List.mem_map.mp hp
    right
    refine ⟨q, hq, ?_⟩
    split <;> exact ⟨rfl, rfl⟩
  · rcases List.mem_append.mp hp with hp | hp
    · exact .inr ⟨p, hp, rfl, rfl⟩
    · simp only [List.mem_cons, List.not_mem_nil, or_false] at hp
      subst hp
      exact .inl ⟨rfl, rfl⟩
theorem nLook_map {k k' : NestedKey} {v : V} : ∀ (kvs : List NE), nLook (kvs.map (fun p => if p.1 = k then (p.1, p.2.1, v) else p)) k' = if k' = k then (nLook kvs k').map (fun _ => v) else nLook kvs k'
  | [] => by unfold nLook; split <;> rfl
  | p :: kvs => by
    have ih := nLook_map (k := k) (k' := k') (v := v) kvs
    unfold nLook at *
    rw [List.map_cons, List.find?_cons, List.find?_cons]
    by_cases c : p.1 = k
    · rw [if_pos c]
      by_cases d : p.1 = k'
      · rw [decide_eq_true d, if_pos (d.symm.trans c)]
        rfl
      · simp only [decide_eq_false d]
        exact ih
    · rw [if_neg c]
      by_cases d : p.1 = k'
      · rw [decide_eq_true d, if_neg fun z => c (d.trans z)]
      · simp only [decide_eq_false d]
        exact ih
theorem nLook_snoc {k k' : NestedKey} {b : Addr} {v : V} : ∀ (kvs : List NE), nLook kvs k = none → nLook (kvs ++ [(k, b, v)]) k' = if k' = k then some v else nLook kvs k'
  | [], _ => by
    unfold nLook
    rw [List.nil_append, List.find?_cons]
    by_cases d : k = k'
    · rw [decide_eq_true d, if_pos d.symm]
      rfl
    · rw [decide_eq_false d, if_neg fun z => d z.symm]
  | p :: kvs, h => by
    have ih := nLook_snoc (k := k) (k' := k') (b := b) (v := v) kvs
    unfold nLook at *
    rw [List.find?_cons] at h
    rw [List.cons_append, List.find?_cons, List.find?_cons]
    by_cases c : p.1 = k
    · rw [decide_eq_true c] at h
      cases h
    · rw [decide_eq_false c] at h
      by_cases d : p.1 = k'
      · rw [decide_eq_true d, if_neg fun z => c (d.trans z)]
      · rw [decide_eq_false d]
        exact ih h
theorem nLook_put {k k' : NestedKey} {b : Addr} {v : V} (kvs : List NE) : nLook (nPut kvs k b v) k' = if k' = k then some v else nLook kvs k' := by
  unfold nPut
  cases e : nLook kvs k with
  | none => exact nLook_snoc kvs e
  | some x =>
    rw [Option.isSome_some, if_pos rfl, nLook_map]
    by_cases c : k' = k
    · rw [if_pos c, if_pos c, c, e]
      rfl
    · rw [if_neg c, if_neg c]
/-! ### the rules over the kit's heap -/
/-- b is a tuple that is the key k -/
def NkH (Pr : Program) (w : World) (H : Hp) (k : NestedKey) (b : Addr) : Prop := k.depth ≤ 8 ∧ ∀ h, HOk Pr w H h → NestedIs h k (.ref b)
section
variable {X : Cx} {pins : List (Addr × Obj)} {σ : L2.St} {H : Hp} {s : Shared} {a b : Addr} {k : NestedKey} {v : V} {u : Value} {kvs : List NE} {A : Around} {E : Value → Shared → Prop}
theorem ndo_of {Pr : Program} {w : World} {h : Heap} (ok : HOk Pr w H h) (e : H a = some (NDo w a kvs)) (hk : ∀ p ∈ kvs, NkH Pr w H p.1 p.2.1) : (a == sysModules) = false ∧ ∃ xs, NP kvs xs ∧ h.DictOfH (nestedKind Pr w) a xs := by
  obtain ⟨⟨z, xs, r, o, es, ep, h1, h2, h3, h4, h5⟩, _, _⟩ := (show ObjOk Pr w H h a (NDo w a kvs) from ok a _ e)
  refine ⟨z, xs, r, o, es, ep, h1, h2, h3, h4, fun x hx => ?_, h5⟩
  have all : ∀ {l : List NE} {m : List (NestedKey × Addr × Value)}, NP l m → (∀ p ∈ l, NkH Pr w H p.1 p.2.1) → ∀ x ∈ m, (nestedKind Pr w).is h x.1 x.2.1 := by
    intro l m q
    induction q with
    | nil => intro _ x hx; exact nomatch hx
    | @cons p q ps qs hq t ih =>
      intro hl x hx
      rcases List.mem_cons.mp hx with e | hx
      · subst e
        have q1 := hl p (List.mem_cons_self ..)
        rw [← hq.1, ← hq.2.1]
        exact ⟨q1.2 h ok, q1.1⟩
      · exact ih (fun p hp => hl p (List.mem_cons_of_mem _ hp)) x hx
  exact all r hk x hx
theorem room_in1 {Pr : Program} {w : World} (hu : A.units + 64 < cLine) : (nestedKind Pr w).room A.in1 := by
  show A.units + 1 + 8 < cLine
  omega
theorem n_getItem {Q : Value → Shared → Prop} (hu : A.units + 64 < cLine) (I : Inv X pins σ H s) (e : H a = some (NDo X.w a kvs)) (hk : ∀ p ∈ kvs, NkH X.prog X.w H p.1 p.2.1) (hb : NkH X.prog X.w H k b) (hv : nLook kvs k = some v) (h : ∀ w' s', Inv X pins σ H s' → RelV v w' → Q w' s') :
    wpAny (model X.prog X.w) A (getItem (.ref a) (.ref b)) Q E s := by
  obtain ⟨z, xs, r, dd⟩ := ndo_of I.hok e hk
  obtain ⟨p, hp, rv⟩ := (r.look (k := k)).1 v hv
  exact wpAny_getItem_heap (room_in1 hu) ⟨hb.2 _ I.hok, hb.1⟩ dd hp (h _ _ (I.tok _) rv)
theorem n_in {Q : Value → Shared → Prop} (hu : A.units + 64 < cLine) (I : Inv X pins σ H s) (e : H a = some (NDo X.w a kvs)) (hk : ∀ p ∈ kvs, NkH X.prog X.w H p.1 p.2.1) (hb : NkH X.prog X.w H k b) (h : ∀ s', Inv X pins σ H s' → Q (.bool (nLook kvs k).isSome) s') :
    wpAny (model X.prog X.w) A (compareOp .In (.ref b) (.ref a)) Q E s := by
  obtain ⟨z, xs, r, dd⟩ := ndo_of I.hok e hk
  refine wpAny_in_heap (room_in1 hu) ⟨hb.2 _ I.hok, hb.1⟩ z dd ?_
  rw [r.isSome]
  exact h _ (I.tok _)
theorem n_notIn {Q : Value → Shared → Prop} (hu : A.units + 64 < cLine) (I : Inv X pins σ H s) (e : H a = some (NDo X.w a kvs)) (hk : ∀ p ∈ kvs, NkH X.prog X.w H p.1 p.2.1) (hb : NkH X.prog X.w H k b) (h : ∀ s', Inv X pins σ H s' → Q (.bool (!(nLook kvs k).isSome)) s') :
    wpAny (model X.prog X.w) A (compareOp .NotIn (.ref b) (.ref a)) Q E s := by
  obtain ⟨z, xs, r, dd⟩ := ndo_of I.hok e hk
  refine wpAny_notIn_heap (room_in1 hu) ⟨hb.2 _ I.hok, hb.1⟩ z dd ?_
  rw [r.isSome]
  exact h _ (I.tok _)
theorem ndo_ok {Pr : Program} {w : World} {H' : Hp} {h' : Heap} {xs : List (NestedKey × Addr × Value)} (z : (a == sysModules) = false) (r : NP kvs xs) (dd : h'.DictOfH (nestedKind Pr w) a xs) : ObjOk Pr w H' h' a (NDo w a kvs) := by
  obtain ⟨o, es, ep, h1, h2, h3, h4, _, h5⟩ := dd
  exact ⟨⟨z, xs, r, o, es, ep, h1, h2, h3, h4, h5⟩, ⟨o, h1⟩, fun x1 x2 ⟨z, xs, r, o, es, ep, h1, h2, h3, h4, h5⟩ hk => ⟨z, xs, r, o, es, ep, hk o h1, h2, h3, h4, h5⟩⟩
theorem n_setItem {Q : Unit → Shared → Prop} (hu : A.units + 64 < cLine) (I : Inv X pins σ H s) (e : H a = some (NDo X.w a kvs)) (hk : ∀ p ∈ kvs, NkH X.prog X.w H p.1 p.2.1) (hb : NkH X.prog X.w H k b) (hl : kvs.length ≤ sizeLine) (rv : RelV v u) (h : ∀ s', Inv X pins σ (upd H a (NDo X.w a (nPut kvs k b v))) s' → Q () s') :
    wpAny (model X.prog X.w) A (setItem (.ref a) (.ref b) u) Q E s := by
  obtain ⟨z, xs, r, dd⟩ := ndo_of I.hok e hk
  refine wpAny_setItem_heap (hsz := by rw [← Paired.length r]; exact hl) (room_in1 hu) ⟨hb.2 _ I.hok, hb.1⟩ dd fun h' dd' hs => h _ ?_
  have he : ∃ q, h'.get? a = some q := let ⟨q, _, _, hq, _⟩ := dd'; ⟨q, hq⟩
  exact d_write I (by rw [e]; exact True.intro) hs he (ndo_ok z (r.put rv) dd')
end
section
variable {X : Cx} {o i value : Expr} {pos pos' : Pos} {td ty tv : TE}
def NG (X : Cx) (H : Hp) (x y : V) (kvs : List NE) (k : NestedKey) : Prop := ∃ a b, x = .ref a ∧ y = .ref b ∧ H a = some (NDo X.w a kvs) ∧ (∀ p ∈ kvs, NkH X.prog X.w H p.1 p.2.1) ∧ NkH X.prog X.w H k b
theorem pe_nnew : PE X (.Dict [] [] pos) (fun _ H Q => ∀ p, H p = none → Q (.ref p) (upd H p (NDo X.w p []))) := ⟨fun pins s σ H Q I h =>
  wpAny_Dict_empty ⟨.ref s.heap.objs.size, _, I.laid (a := s.heap.objs.size) (o := NDo X.w s.heap.objs.size []) (t' := s.toks) (fun _ _ q => Heap.get?_push_of_some _ q) (Nat.le_refl _)
    (ndo_ok (xs := []) (beq_eq_false_iff_ne.mpr (Ne.symm (Nat.ne_of_lt I.big))) .nil ⟨_, #[], 0, Heap.get?_push_size _ rfl, ⟨rfl, rfl, rfl⟩, rfl, rfl, (fun _ hx => nomatch hx), List.nodup_nil⟩), rfl, h _ (I.hok.fresh (Nat.le_refl _))⟩⟩
theorem pe_nget (hu : X.A.units + 64 < cLine) (ho : PE X o td) (hi : PE X i ty) (hs : NoSl i) : PE X (.Subscript o i pos) (fun σ H Q => td σ H fun x H1 => ty σ H1 fun y H2 => ∃ kvs k v, NG X H2 x y kvs k ∧ nLook kvs k = some v ∧ Q v H2) := by
  refine ⟨fun pins s σ H Q I h => ?_⟩
  refine subD_of PySem.F.slot_dict_getitem.lookup hs (thn (ho.run pins s σ H _ I h) fun u s1 ⟨x, H1, I1, rx, q1⟩ => thn (hi.run pins s1 σ H1 _ I1 q1) fun iv s2 ⟨y, H2, I2, ry, kvs, k, v, ⟨a, b, ex, ey, g1, g2, g3⟩, hv, q2⟩ => ?_)
  subst ex ey
  obtain rfl : u = Value.ref a := rx
  obtain rfl : iv = Value.ref b := ry
  obtain ⟨_, xs, _, dd⟩ := ndo_of I2.hok g1 g2
  exact ⟨dd.typeIs, n_getItem hu I2 g1 g2 g3 hv fun w' s3 I3 rw' => ⟨v, H2, I3, rw', q2⟩⟩
theorem pc_nin (hu : X.A.units + 64 < cLine) (hi : PE X i ty) (ho : PE X o td) : PC X .In i o (fun σ H Q => ty σ H fun y H1 => td σ H1 fun x H2 => ∃ kvs k, NG X H2 x y kvs k ∧ Q (.bl (nLook kvs k).isSome) H2) := by
  refine ⟨fun pins s σ H Q I h => ?_⟩
  refine thn (hi.run pins s σ H _ I h) fun iv s1 ⟨y, H1, I1, ry, q1⟩ => thn (ho.run pins s1 σ H1 _ I1 q1) fun u s2 ⟨x, H2, I2, rx, kvs, k, ⟨a, b, ex, ey, g1, g2, g3⟩, q2⟩ => ?_
  subst ex ey
  obtain rfl : u = Value.ref a := rx
  obtain rfl : iv = Value.ref b := ry
  exact n_in hu I2 g1 g2 g3 fun s3 I3 => ⟨.bl (nLook kvs k).isSome, H2, I3, rfl, q2⟩
theorem pc_nnotin (hu : X.A.units + 64 < cLine) (hi : PE X i ty) (ho : PE X o td) : PC X .NotIn i o (fun σ H Q => ty σ H fun y H1 => td σ H1 fun x H2 => ∃ kvs k, NG X H2 x y kvs k ∧ Q (.bl (!(nLook kvs k).isSome)) H2) := by
  refine ⟨fun pins s σ H Q I h => ?_⟩
  refine thn (hi.run pins s σ H _ I h) fun iv s1 ⟨y, H1, I1, ry, q1⟩ => thn (ho.run pins s1 σ H1 _ I1 q1) fun u s2 ⟨x, H2, I2, rx, kvs, k, ⟨a, b, ex, ey, g1, g2, g3⟩, q2⟩ => ?_
  subst ex ey
  obtain rfl : u = Value.ref a := rx
  obtain rfl : iv = Value.ref b := ry
  exact n_notIn hu I2 g1 g2 g3 fun s3 I3 => ⟨.bl (!(nLook kvs k).isSome), H2, I3, rfl, q2⟩
theorem ps_nput (hu : X.A.units + 64 < cLine) (ho : PE X o td) (hi : PE X i ty) (hv : PE X value tv) (hs : swapsWith value (some (.Subscript o i pos')) pos.line X.env = pure false) :
    PS X (.Assign [.Subscript o i pos'] value pos) (fun D σ H => tv σ H fun v H1 => td σ H1 fun x H2 => ty σ H2 fun y H3 => ∃ a b kvs k, x = .ref a ∧ y = .ref b ∧ H3 a = some (NDo X.w a kvs) ∧ (∀ p ∈ kvs, NkH X.prog X.w H3 p.1 p.2.1) ∧ NkH X.prog X.w H3 k b ∧ kvs.length ≤ sizeLine ∧ D.nx σ (upd H3 a (NDo X.w a (nPut kvs k b v)))) := by
  refine ⟨fun pins s σ H D I h => ?_⟩
  refine wpAny_Assign_Subscript (thn (hv.run pins s σ H _ I h) fun r s1 ⟨v, H1, I1, rv, q1⟩ => thn (ho.run pins s1 σ H1 _ I1 q1) fun u s2 ⟨x, H2, I2, rx, q2⟩ => thn (hi.run pins s2 σ H2 _ I2 q2) fun iv s3 ⟨y, H3, I3, ry, a, b, kvs, k, ex, ey, g1, g2, g3, hl, q3⟩ => ?_) hs
  subst ex ey
  obtain rfl : u = Value.ref a := rx
  obtain rfl : iv = Value.ref b := ry
  exact n_setItem hu I3 g1 g2 g3 hl rv fun s4 I4 => ⟨σ, _, I4, q3⟩
end
/-! ### as data -/
theorem nd_ne_code {w : World} {a : Addr} {kvs : List NE} (c : Addr) (q : Str) : NDo w a kvs ≠ LamX.CodeO c q := fun e => by
  unfold NDo LamX.CodeO at e
  have e := HO.ext.inj e
  have e := congrFun e (⟨Array.replicate (c + 1) { cls := .none, data := .fields #[.none, .str q 0] }, {}⟩ : Heap)
  have hg : ∀ b o, Heap.get? (⟨Array.replicate (c + 1) { cls := .none, data := .fields #[.none, .str q 0] }, {}⟩ : Heap) b = some o → o = { cls := .none, data := .fields #[.none, .str q 0] } := fun b o h => by
    unfold Heap.get? at h
    simp only [Array.getElem?_replicate] at h
    split at h
    · cases h
    · split at h
      · exact (Option.some.inj h).symm
      · cases h
  have hc : Heap.get? (⟨Array.replicate (c + 1) { cls := .none, data := .fields #[.none, .str q 0] }, {}⟩ : Heap) c = some { cls := .none, data := .fields #[.none, .str q 0] } := by
    unfold Heap.get?
    simp only [Array.getElem?_replicate]
    rw [if_pos (Nat.lt_succ_self c)]
  obtain ⟨_, _, _, o, es, ep, h1, _, h3, _⟩ := e.mpr ⟨_, _, 0, hc, rfl, rfl⟩
  rw [hg _ _ h1] at h3
  cases h3
/-- what stands at b is the key k, whatever comes after -/
def NkB (B : Hp) (k : NestedKey) (b : Addr) : Prop := k.depth ≤ 8 ∧ ∀ (Pr : Program) (w : World) (H : Hp) (h : Heap), Same B H → HOk Pr w H h → NestedIs h k (.ref b)
theorem NkB.mono {B B' : Hp} {k : NestedKey} {b : Addr} (n : NkB B k b) (e : Same B B') : NkB B' k b := ⟨n.1, fun Pr w H h sb ok => n.2 Pr w H h (e.trans sb) ok⟩
theorem NkB.nk {Pr : Program} {w : World} {B H : Hp} {k : NestedKey} {b : Addr} (n : NkB B k b) (e : Same B H) : NkH Pr w H k b := ⟨n.1, fun h ok => n.2 Pr w H h e ok⟩
/-- the datum is a key, a tuple -/
def KeyD (y : Dt) (ks : List NestedKey) : Prop := ∀ (K : PySem.W.Frag) (B : Hp) (v : V), Is K B y v → ∃ b, v = .ref b ∧ NkB B (.tup ks) b
theorem keyD_of {ks : List NestedKey} (hd : (NestedKey.tup ks).depth ≤ 8) : KeyD (dOf (.tup ks)) ks := fun K B v i => by
  obtain ⟨b, vs, rfl, h1, h2⟩ := id i
  exact ⟨b, rfl, hd, fun Pr w H h sb ok => nest_is ok sb _ i rfl⟩
def NdR (K : PySem.W.Frag) (w : World) (a : Addr) (f : NestedKey → Option Dt) (n : Nat) (B : Hp) (o : HO) : Prop :=
  ∃ kvs : List NE, o = NDo w a kvs ∧ kvs.length ≤ n ∧ (∀ p ∈ kvs, NkB B p.1 p.2.1) ∧ ∀ k, (∀ d, f k = some d → ∃ v, nLook kvs k = some v ∧ Is K B d v) ∧ (f k = none → nLook kvs k = none)
theorem NdR.mono {K : PySem.W.Frag} {w : World} {a : Addr} {f : NestedKey → Option Dt} {n : Nat} : ∀ B B' o, Same B B' → NdR K w a f n B o → NdR K w a f n B' o := fun B B' o e ⟨kvs, h1, h2, h3, h4⟩ =>
  ⟨kvs, h1, h2, fun p hp => (h3 p hp).mono e, fun k => ⟨fun d hd => let ⟨v, q1, q2⟩ := (h4 k).1 d hd; ⟨v, q1, q2.mono e⟩, (h4 k).2⟩⟩
/-- a dict with keys that are tuples of tuples, by what it holds, of n entries at the most -/
abbrev mN (K : PySem.W.Frag) (w : World) (a : Addr) (f : NestedKey → Option Dt) (n : Nat) : MO := .gen (NdR K w a f n) NdR.mono fun _ _ ⟨_, e, _⟩ => ⟨⟨_, e⟩, fun c q => e ▸ nd_ne_code c q⟩
def nfPut (f : NestedKey → Option Dt) (k : NestedKey) (d : Dt) : NestedKey → Option Dt := fun k' => if k' = k then some d else f k'
section
variable {X : Cx} {v o i e : Expr} {ds : DS} {L : MS} {P : DK} {PB : Bool → MS → Prop} {D : DEnds} {pos pos' : Pos} {k : Nat} {B H : Hp}
theorem nd_at {K : PySem.W.Frag} {w : World} {a : Addr} {f : NestedKey → Option Dt} {n : Nat} (hl : Hs K B L H) (hm : ML L a (mN K w a f n)) : ∃ kvs : List NE, H a = some (NDo w a kvs) ∧ kvs.length ≤ n ∧ (∀ p ∈ kvs, NkB B p.1 p.2.1) ∧ ∀ k, (∀ d, f k = some d → ∃ v, nLook kvs k = some v ∧ Is K B d v) ∧ (f k = none → nLook kvs k = none) := by
  obtain ⟨_, o, ho, kvs, rfl, h⟩ := hl.own a _ hm
  exact ⟨kvs, ho, h⟩
theorem nk_of {K : PySem.W.Frag} {Pr : Program} {w : World} {c : NestedKey} {b : Addr} (sb : Same B H) (hd : c.depth ≤ 8) (i : Is K B (dOf c) (.ref b)) : NkH Pr w H c b := ⟨hd, fun h ok => nest_is ok sb c i rfl⟩
theorem nk_ref {K : PySem.W.Frag} {ks : List NestedKey} {y : V} (i : Is K B (dOf (.tup ks)) y) : ∃ b, y = .ref b := by
  obtain ⟨b, _, rfl, _⟩ := i
  exact ⟨b, rfl⟩
theorem dp_nnew (h : ∀ a, P (.adr a) ((a, mN X.K X.w a (fun _ => none) 0) :: L)) : DP X (.Dict [] [] pos) ds L P := .mk fun σ H B hs hl Q q =>
  PE.to pe_nnew fun p hp => q _ _ _ B _ (h p) (Same.refl B) (hl.newM hp ⟨[], rfl, Nat.le_refl _, (fun _ h => nomatch h), fun k => ⟨fun d e => (nomatch e), fun _ => rfl⟩⟩) rfl
theorem dp_ngetK (hr : Room k X.A) (h : DP X o ds L fun x L1 => DP X i ds L1 fun y L2 => ∃ a f n ks d, x = .adr a ∧ KeyD y ks ∧ ML L2 a (mN X.K X.w a f n) ∧ f (.tup ks) = some d ∧ P d L2) (hs' : NoSl i := by intro _ _; rfl) : DP X (.Subscript o i pos) ds L P := .mk fun σ H B hs hl Q q =>
  PE.to (pe_nget hr.units pe_w pe_w hs') (h.run σ H B hs hl _ fun x L1 x' B1 H1 h1 e1 hl1 ix => h1.run σ H1 B1 (hs.mono e1) hl1 _ fun y L2 y' B2 H2 h2 e2 hl2 iy => by
    obtain ⟨a, f, n, ks, d, rfl, hdp, hm, hf, p⟩ := h2
    obtain rfl : x' = V.ref a := ix
    obtain ⟨b, rfl, nkb⟩ := hdp _ _ _ iy
    obtain ⟨kvs, ho, hlen, hk, hv⟩ := nd_at hl2 hm
    obtain ⟨v, e3, iv⟩ := (hv (.tup ks)).1 d hf
    exact ⟨kvs, .tup ks, v, ⟨a, b, rfl, rfl, ho, fun p hp => (hk p hp).nk hl2.sub, nkb.nk hl2.sub⟩, e3, q d L2 v B2 H2 p (e1.trans e2) hl2 iv⟩)
theorem nd_some {kvs : List NE} {f : NestedKey → Option Dt} {c : NestedKey} {K : PySem.W.Frag} (hv : (∀ d, f c = some d → ∃ v, nLook kvs c = some v ∧ Is K B d v) ∧ (f c = none → nLook kvs c = none)) : (nLook kvs c).isSome = (f c).isSome := by
  cases e : f c with
  | none => rw [hv.2 e]; rfl
  | some d =>
    obtain ⟨v, e3, _⟩ := hv.1 d e
    rw [e3]
    rfl
theorem dt_ninK (hr : Room k X.A) (h : DP X i ds L fun y L1 => DP X o ds L1 fun x L2 => ∃ a f n ks, x = .adr a ∧ KeyD y ks ∧ ML L2 a (mN X.K X.w a f n) ∧ PB (f (.tup ks)).isSome L2) (hb : behindInMarks .In o = false := by rfl) : DT X (.Compare i [.In] [o] pos) ds L PB := .mk fun σ H B hs hl Q q =>
  PT.to (pt_cmp (pc_nin hr.units pe_w pe_w) hb) (h.run σ H B hs hl _ fun y L1 y' B1 H1 h1 e1 hl1 iy => h1.run σ H1 B1 (hs.mono e1) hl1 _ fun x L2 x' B2 H2 h2 e2 hl2 ix => by
    obtain ⟨a, f, n, ks, rfl, hdp, hm, p⟩ := h2
    obtain rfl : x' = V.ref a := ix
    have iy := iy.mono e2
    obtain ⟨b, rfl, nkb⟩ := hdp _ _ _ iy
    obtain ⟨kvs, ho, hlen, hk, hv⟩ := nd_at hl2 hm
    exact ⟨kvs, .tup ks, ⟨a, b, rfl, rfl, ho, fun p hp => (hk p hp).nk hl2.sub, nkb.nk hl2.sub⟩, _, rfl, by rw [nd_some (hv (.tup ks))]; exact q _ L2 B2 H2 p (e1.trans e2) hl2⟩)
theorem dt_nnotinK (hr : Room k X.A) (h : DP X i ds L fun y L1 => DP X o ds L1 fun x L2 => ∃ a f n ks, x = .adr a ∧ KeyD y ks ∧ ML L2 a (mN X.K X.w a f n) ∧ PB (!(f (.tup ks)).isSome) L2) (hb : behindInMarks .NotIn o = false := by rfl) : DT X (.Compare i [.NotIn] [o] pos) ds L PB := .mk fun σ H B hs hl Q q =>
  PT.to (pt_cmp (pc_nnotin hr.units pe_w pe_w) hb) (h.run σ H B hs hl _ fun y L1 y' B1 H1 h1 e1 hl1 iy => h1.run σ H1 B1 (hs.mono e1) hl1 _ fun x L2 x' B2 H2 h2 e2 hl2 ix => by
    obtain ⟨a, f, n, ks, rfl, hdp, hm, p⟩ := h2
    obtain rfl : x' = V.ref a := ix
    have iy := iy.mono e2
    obtain ⟨b, rfl, nkb⟩ := hdp _ _ _ iy
    obtain ⟨kvs, ho, hlen, hk, hv⟩ := nd_at hl2 hm
    exact ⟨kvs, .tup ks, ⟨a, b, rfl, rfl, ho, fun p hp => (hk p hp).nk hl2.sub, nkb.nk hl2.sub⟩, _, rfl, by rw [nd_some (hv (.tup ks))]; exact q _ L2 B2 H2 p (e1.trans e2) hl2⟩)
theorem ds_nputK (hr : Room k X.A) (h : DP X v ds L fun d L1 => DP X o ds L1 fun x L2 => DP X i ds L2 fun y L3 => ∃ a f n ks L4, x = .adr a ∧ KeyD y ks ∧ n ≤ sizeLine ∧ ML L3 a (mN X.K X.w a f n) ∧ MSt L3 a (mN X.K X.w a (nfPut f (.tup ks) d) (n + 1)) L4 ∧ D.nx ds L4)
    (hs' : swapsWith v (some (.Subscript o i pos')) pos.line X.env = pure false := by rfl) : DSt X (.Assign [.Subscript o i pos'] v pos) ds L D := .mk fun σ H B E hs hl m =>
  PS.to (ps_nput hr.units pe_w pe_w pe_w hs') (h.run σ H B hs hl _ fun d L1 z B1 H1 h1 e1 hl1 iz => h1.run σ H1 B1 (hs.mono e1) hl1 _ fun x L2 x' B2 H2 h2 e2 hl2 ix => h2.run σ H2 B2 (hs.mono (e1.trans e2)) hl2 _ fun y L3 y' B3 H3 h3 e3 hl3 iy => by
    obtain ⟨a, f, n, ks, L4, rfl, hdp, hn, hm, ht, p⟩ := h3
    have ix : x' = .ref a := ix
    subst ix
    obtain ⟨b, rfl, nkb⟩ := hdp _ _ _ iy
    obtain ⟨kvs, ho, hlen, hk, hv⟩ := nd_at hl3 hm
    refine ⟨a, b, kvs, .tup ks, rfl, rfl, ho, fun p hp => (hk p hp).nk hl3.sub, nkb.nk hl3.sub, Nat.le_trans hlen hn, m.nx ds L4 σ B3 _ p ((e1.trans e2).trans e3) (hs.mono ((e1.trans e2).trans e3)) (hl3.put ht ?_)⟩
    refine ⟨_, rfl, by have := nPut_len kvs (.tup ks) b z; omega, fun p hp => ?_, fun c => ?_⟩
    · rcases nPut_mem p hp with ⟨q1, q2⟩ | ⟨q, hq, q1, q2⟩
      · rw [q1, q2]
        exact nkb
      · rw [← q1, ← q2]
        exact hk q hq
    · rw [nLook_put]
      unfold nfPut
      by_cases e : c = .tup ks
      · rw [if_pos e, if_pos e]
        exact ⟨fun d' h => by cases h; exact ⟨z, rfl, iz.mono (e2.trans e3)⟩, fun h => by cases h⟩
      · rw [if_neg e, if_neg e]
        exact hv c)
/-- dict[cell], a dict that may change -/
theorem dp_dgetM (hr : Room k X.A) (h : DP X o ds L fun x L1 => DP X i ds L1 fun y L2 => ∃ a m c d, x = .adr a ∧ ML L2 a (mM m) ∧ y = cD c ∧ get m c = some d ∧ P d L2) (hs' : NoSl i := by intro _ _; rfl) : DP X (.Subscript o i pos) ds L P := .mk fun σ H B hs hl Q q =>
  PE.to (pe_dget (hu_of hr) pe_w pe_w hs') (h.run σ H B hs hl _ fun x L1 x' B1 H1 h1 e1 hl1 ix => h1.run σ H1 B1 (hs.mono e1) hl1 _ fun y L2 y' B2 H2 h2 e2 hl2 iy => by
    obtain ⟨a, m, c, d, rfl, hm, rfl, hg, p⟩ := h2
    obtain rfl : x' = V.ref a := ix
    obtain ⟨b, rfl, hb2⟩ := cD_is iy
    obtain ⟨u, hu, r⟩ := hl2.mm hm
    obtain ⟨v, ev, iv⟩ := (r.val (c := c)).1 d hg
    refine ⟨a, v, rfl, .inr ⟨u, cK c, b, .inl hu, rfl, hl2.sub _ _ hb2, ev.symm⟩, q d L2 v B2 H2 p (e1.trans e2) hl2 iv⟩)
theorem dp_nget (hr : Room k X.A) (h : DP X o ds L fun x L1 => DP X i ds L1 fun y L2 => ∃ a f n ks d, x = .adr a ∧ y = dOf (.tup ks) ∧ (NestedKey.tup ks).depth ≤ 8 ∧ ML L2 a (mN X.K X.w a f n) ∧ f (.tup ks) = some d ∧ P d L2) (hs' : NoSl i := by intro _ _; rfl) : DP X (.Subscript o i pos) ds L P := dp_ngetK hr (DP.imp h fun x L1 h1 => DP.imp h1 fun y L2 ⟨a, f, n, ks, d, e1, e2, e3, r⟩ => ⟨a, f, n, ks, d, e1, e2 ▸ keyD_of e3, r⟩) hs'
theorem dt_nin (hr : Room k X.A) (h : DP X i ds L fun y L1 => DP X o ds L1 fun x L2 => ∃ a f n ks, x = .adr a ∧ y = dOf (.tup ks) ∧ (NestedKey.tup ks).depth ≤ 8 ∧ ML L2 a (mN X.K X.w a f n) ∧ PB (f (.tup ks)).isSome L2) (hb : behindInMarks .In o = false := by rfl) : DT X (.Compare i [.In] [o] pos) ds L PB := dt_ninK hr (DP.imp h fun y L1 h1 => DP.imp h1 fun x L2 ⟨a, f, n, ks, e1, e2, e3, r⟩ => ⟨a, f, n, ks, e1, e2 ▸ keyD_of e3, r⟩) hb
theorem dt_nnotin (hr : Room k X.A) (h : DP X i ds L fun y L1 => DP X o ds L1 fun x L2 => ∃ a f n ks, x = .adr a ∧ y = dOf (.tup ks) ∧ (NestedKey.tup ks).depth ≤ 8 ∧ ML L2 a (mN X.K X.w a f n) ∧ PB (!(f (.tup ks)).isSome) L2) (hb : behindInMarks .NotIn o = false := by rfl) : DT X (.Compare i [.NotIn] [o] pos) ds L PB := dt_nnotinK hr (DP.imp h fun y L1 h1 => DP.imp h1 fun x L2 ⟨a, f, n, ks, e1, e2, e3, r⟩ => ⟨a, f, n, ks, e1, e2 ▸ keyD_of e3, r⟩) hb
theorem ds_nput (hr : Room k X.A) (h : DP X v ds L fun d L1 => DP X o ds L1 fun x L2 => DP X i ds L2 fun y L3 => ∃ a f n ks L4, x = .adr a ∧ y = dOf (.tup ks) ∧ (NestedKey.tup ks).depth ≤ 8 ∧ n ≤ sizeLine ∧ ML L3 a (mN X.K X.w a f n) ∧ MSt L3 a (mN X.K X.w a (nfPut f (.tup ks) d) (n + 1)) L4 ∧ D.nx ds L4)
    (hs' : swapsWith v (some (.Subscript o i pos')) pos.line X.env = pure false := by rfl) : DSt X (.Assign [.Subscript o i pos'] v pos) ds L D := ds_nputK hr (DP.imp h fun d L1 h1 => DP.imp h1 fun x L2 h2 => DP.imp h2 fun y L3 ⟨a, f, n, ks, L4, e1, e2, e3, r⟩ => ⟨a, f, n, ks, L4, e1, e2 ▸ keyD_of e3, r⟩) hs'
end
end Z
/-! refusals with fields: made, raised, asked in the suite of an except -/
namespace Z
open PySem PySem.Spec PyProof.Rows L2
/-- a class of the text above the refusals: its __init__ is ValueError's -/
structure TopC (K : PySem.W.Frag) (mg : Str → Option Value) (x : Str) : Prop where
  ex : ∃ TE : Addr, mg x = some (.ref TE) ∧ PySem.W.specialIn K (.ref TE) "__getattribute__" = some (some (.builtin "type.__getattribute__")) ∧ PySem.W.readsIn K TE (.type "type") = true ∧ PySem.W.findCls K (.ref TE) (.type "type") "__init__" = some (.val (.builtin "ValueError.__init__"))
theorem topC_at {K : PySem.W.Frag} {h : Heap} {mg : Str → Option Value} {x : Str} {TE : Addr} (X : K.In h) (G : h.Ns mainGlobals mg) (a : PySem.W.nsIn K mainGlobals x = some (some (.ref TE))) (b : PySem.W.specialIn K (.ref TE) "__getattribute__" = some (some (.builtin "type.__getattribute__")))
    (c : PySem.W.readsIn K TE (.type "type") = true) (d : PySem.W.findCls K (.ref TE) (.type "type") "__init__" = some (.val (.builtin "ValueError.__init__"))) : TopC K mg x := ⟨TE, PySem.W.mg_of X G a, b, c, d⟩
section
variable {X : Cx} {e : Expr} {es : List Expr} {ta : TA} {x : Str} {p1 p2 pos : Pos}
theorem pe_tinit {pl : Sem Bool} (T : TopC X.K X.mg x) (hg : Gl X x) (ha : PA X (e :: es) ta) (hdb : (x == ("__debug__" : Str)) = false := by decide)
    (hc : eval (.Call (.Attribute (.Name x p1) "__init__" p2) (e :: es) [] pos) X.env = (do
      let cls ← eval (.Name x p1) X.env
      standAt p2.atName
      let (f, first) ← holding [cls] (getMethod cls "__init__" pl)
      callWith pos f first (backTo pos (starEach (e :: es) X.env)) (backToKw pos (keywordEach [] X.env))) := by rfl)
    (hst : starEach (e :: es) X.env = (false, eval e X.env) :: starEach es X.env := by rfl) (hnp : (backTo pos (starEach es X.env)).any (·.1) = false := by rfl) :
    PE X (.Call (.Attribute (.Name x p1) "__init__" p2) (e :: es) [] pos) (tVeI X.K ta) := by
  obtain ⟨TE, t1, t2, t3, t4⟩ := T.ex
  refine ⟨fun pins s σ H Q I hq => PySem.W.methodCall_KW (ld_glob I hg t1 (PySem.W.method_cls I.kIn t2 (PySem.W.cls_value I.kIn t3 t4 (by decide +kernel) ?_)) hdb) hc⟩
  show wpAny _ _ (callWith pos (Value.builtin "ValueError.__init__") [] (backTo pos (starEach (e :: es) X.env)) []) _ _ _
  refine PyProof.Rows.callWith_method1 (thn (ha.run pos pins _ σ H _ (I.tok _) hq) fun us s1 w1 => ?_) hst hnp
  obtain ⟨vs, H1, J, rel, a, C, ws, rfl, hlen, OC, hat, q1⟩ := w1
  cases rel with
  | cons r0 rs =>
    cases r0
    exact oinit_ok OC J hat (Nat.le_trans (Nat.le_of_eq (Paired.length rs).symm) (Nat.le_trans hlen szOk)) fun s2 J2 => ⟨.non, H1, J2, rfl, q1⟩
end
theorem zip_rev {α β : Type} : ∀ {a : List α} {b : List β}, a.length = b.length → (a.zip b).reverse = a.reverse.zip b.reverse
  | [], [], _ => rfl
  | x :: a, y :: b, h => by
    have h : a.length = b.length := Nat.succ.inj h
    rw [List.zip_cons_cons, List.reverse_cons, List.reverse_cons, List.reverse_cons, zip_rev h, List.zip_append (by rw [List.length_reverse, List.length_reverse, h])]
    rfl
/-- an __init__ that stores its arguments as the fields ns -/
def spI (C : Addr) (ns : List Str) : Sp := fun vs H Q _ => ∃ a xs, vs = V.ref a :: xs ∧ xs.length = ns.length ∧ H a = some (exo a C none) ∧ ∀ d, H d = none → d ≠ a → Q .non (upd (upd H d (exd d (ns.zip xs).reverse)) a (exo a C (some d)))
structure ErrF (Pr : Program) (w : World) (K : PySem.W.Frag) (mg : Str → Option Value) (base : Heap) (x : Str) (C : Addr) (ns : List Str) : Prop where
  oex : OexC K C
  g : mg x = some (.ref C)
  ini : ∃ (fI : Addr) (fd : FuncData) (ps : List Str), PySem.W.findIn K (.ref C) "__init__" = some (some (.ref fI)) ∧ PySem.W.typeIn K (.ref fI) = some (.type "function") ∧ FnOk Pr w K mg base CX0 1 fI fd ps (spI C ns) ∧ Binds K fd ps []
theorem upd_back {H : Hp} {a d : Addr} {o1 o2 o3 o4 : HO} (ha : H a = none) (hd : d ≠ a) : upd (del (upd (upd (upd H a o1) d o2) a o3) a) d o4 = upd H d o4 := by
  funext b
  by_cases h1 : b = d
  · subst h1
    rw [upd_same, upd_same]
  · rw [upd_ne h1, upd_ne h1]
    by_cases h2 : b = a
    · subst h2
      rw [del_same, ha]
    · rw [del_ne h2, upd_ne h2, upd_ne h1, upd_ne h2]
section
variable {X : Cx} {x : Str} {e : Expr} {es : List Expr} {ds : DS} {L : MS} {P : DK} {Xr : RK} {D : DEnds} {p1 p3 pos : Pos}
theorem ds_raiseF {C : Addr} {ns : List Str} {k : Nat} (rz : RZ X Xr) (er : ErrF X.prog X.w X.K X.mg X.base x C ns) (hr : Room k X.A) (hk : 2 ≤ k) (h : DA X (e :: es) ds L fun xs L1 => xs.length = ns.length ∧ ns.length ≤ 1000 ∧ Xr (.fld C ns.reverse xs.reverse) L1) (hg : Gl X x := by rfl) (hc : X.calm = true := by rfl) (hdb : (x == ("__debug__" : Str)) = false := by decide)
    (he : starEach (e :: es) X.env = (false, eval e X.env) :: starEach es X.env := by rfl) (hpl : (backTo p3 (starEach es X.env)).any (·.1) = false := by rfl) :
    DSt X (.Raise (some (.Call (.Name x p1) (e :: es) [] p3)) none pos) ds L D := .mk fun σ H B E hs hl m => by
  obtain ⟨fI, fd, ps, i1, i2, i3, i4⟩ := er.ini
  refine PS.to (ps_raise hc rz (pmk_oex er.oex i1 i2 i3 (hr.mono hk) i4 .nil pass0 hg er.g pa_w hdb he hpl)) ?_
  refine h.run σ H B hs hl _ fun xs L1 vs B1 H1 hx e1 hl1 ixs => ?_
  obtain ⟨hlen, hns, hx⟩ := hx
  have hvl : vs.length = ns.length := by rw [ixs.length]; exact hlen
  refine ⟨by omega, fun a ha => ?_⟩
  rw [List.append_nil]
  refine ⟨a, vs, rfl, hvl, upd_same, fun d hd hda => ⟨rfl, d, (ns.zip vs).reverse, upd_same, by rw [upd_ne hda, upd_same], ?_, ?_⟩⟩
  · rw [upd_ne hda] at hd
    exact hd
  · rw [upd_ne hda] at hd
    rw [upd_back ha hda]
    refine .fld (hl1.newM hd ⟨vs.reverse, ?_, ?_, ixs.reverse⟩) hx
    · rw [zip_rev hvl.symm]
    · rw [List.length_reverse, List.length_reverse, hlen]
end
/-! in the suite -/
def rIsD (K : PySem.W.Frag) (D a dd : Addr) : List V → Hp → VK → Prop := fun xs H Q => ∃ (c : V) (cv : Value) (b : Bool) (fs : List (Str × V)), xs = [.ref a, c] ∧ (∀ u, RelV c u → u = cv) ∧ PySem.W.kitOne K (.ref D) cv = some b ∧ H dd = some (.xd fs) ∧ Q (.bl b) H
theorem call_isD {X : Cx} {a D dd : Addr} {oe : Obj} {pn : List (Addr × Obj)} (C : ExcC X.K D) (hz : Zc (.ref D) (some dd) oe) (hf : ∃ vs, oe.data = .fields vs) : CallR (X.suite a ((a, oe) :: pn)) (.builtin "isinstance") (rIsD X.K D a dd) := by
  intro pins s σ H xs us Q I rel hq
  obtain ⟨c, cv, b, fs, rfl, hcv, hkit, hdd, q⟩ := hq
  cases rel with
  | cons r0 rest =>
    cases rest with
    | cons r1 rest =>
      cases rest
      cases r0
      obtain rfl := hcv _ r1
      obtain ⟨hget, _⟩ := I.pin (a, oe) (List.mem_append.mpr (.inl List.mem_cons_self))
      obtain ⟨vs, hv⟩ := hf
      have hx : ObjOk X.prog X.w H s.heap dd (.xd fs) := I.hok dd _ hdd
      obtain ⟨mA, ⟨od, es, ep, ho, _⟩, _⟩ := hx
      have J : PySem.W.InstAt s.heap a oe D (some od) := ⟨hget, hz.1, by unfold PySem.W.notCls; rw [hv] <;> rfl, by rw [hz.2]; exact ho⟩
      obtain ⟨cd, hcd, _⟩ := PySem.W.any_some C.hd
      exact PySem.W.kia_one (PySem.W.kitx_exc (by rw [hcd]; rfl) C.hg C.hk C.hs C.ha C.hn C.ht C.hm) I.kIn J hkit (fun z => nomatch z) fun tk => ⟨.bl b, H, I.kept (t' := tk) fun _ _ z => z, rfl, q⟩
/-- the fields of the exception stand -/
def XdOk (d : Option Addr) (L : MS) : Prop := ∀ dd, d = some dd → ∃ ns xs, ML L dd (.xd ns xs)
theorem XdOk.tl {d : Option Addr} {L : MS} {p : Addr × MO} (h : XdOk d L) : XdOk d (p :: L) := fun dd e => by
  obtain ⟨ns, xs, m⟩ := h dd e
  exact ⟨ns, xs, m.tl⟩
def isDK (K : PySem.W.Frag) (D a : Addr) (d : Option Addr) : KC := fun xs L P => ∃ y cv b, xs = [.adr a, y] ∧ XdOk d L ∧ PySem.W.kitOne K (.ref D) cv = some b ∧ ((∃ T, y = .adr T ∧ cv = .ref T) ∨ ∃ n, y = .ty n ∧ cv = .type n) ∧ P (.bl b) L
theorem dp_isD {X : Cx} {a D : Addr} {d : Option Addr} {oe : Obj} {pn : List (Addr × Obj)} {e1 e2 : Expr} {ds : DS} {L : MS} {P : DK} {p pos : Pos} (C : ExcC X.K D) (hz : Zc (.ref D) d oe) (hf : ∃ vs, oe.data = .fields vs) (hm : X.mg "isinstance" = none)
    (h : DA (X.suite a ((a, oe) :: pn)) [e1, e2] ds L fun xs L1 => isDK X.K D a d xs L1 P) (hg : Gl (X.suite a ((a, oe) :: pn)) "isinstance" := by rfl)
    (he : starEach [e1, e2] (X.suite a ((a, oe) :: pn)).env = (false, eval e1 (X.suite a ((a, oe) :: pn)).env) :: starEach [e2] (X.suite a ((a, oe) :: pn)).env := by rfl) (hpl : (backTo pos (starEach [e2] (X.suite a ((a, oe) :: pn)).env)).any (·.1) = false := by rfl) :
    DP (X.suite a ((a, oe) :: pn)) (.Call (.Name "isinstance" p) [e1, e2] [] pos) ds L P := by
  cases d with
  | none =>
    refine dp_callB (X := X.suite a ((a, oe) :: pn)) (call_isE C hz hf) (k := isDK X.K D a none) (fun B H L xs vs Q P hl ixs hk q => ?_) hm (by decide +kernel) h hg (by decide) (by decide) he hpl
    obtain ⟨y, cv, b, rfl, _, hkit, hy, p⟩ := hk
    obtain ⟨v, v', rfl, i1, i2⟩ := ixs.two_inv
    obtain rfl : v = V.ref a := i1
    rcases hy with ⟨T, rfl, rfl⟩ | ⟨n, rfl, rfl⟩
    · obtain rfl : v' = V.ref T := i2
      exact ⟨V.ref T, .ref T, b, rfl, fun u h => h, hkit, Fin.here q hl p rfl⟩
    · obtain rfl : v' = V.ty n := i2
      exact ⟨V.ty n, .type n, b, rfl, fun u h => h, hkit, Fin.here q hl p rfl⟩
  | some dd =>
    refine dp_callB (X := X.suite a ((a, oe) :: pn)) (call_isD C hz hf) (k := isDK X.K D a (some dd)) (fun B H L xs vs Q P hl ixs hk q => ?_) hm (by decide +kernel) h hg (by decide) (by decide) he hpl
    obtain ⟨y, cv, b, rfl, hd, hkit, hy, p⟩ := hk
    obtain ⟨ns, ys, hmd⟩ := hd dd rfl
    obtain ⟨_, o, ho, us, rfl, _, _⟩ := hl.own dd _ hmd
    obtain ⟨v, v', rfl, i1, i2⟩ := ixs.two_inv
    obtain rfl : v = V.ref a := i1
    rcases hy with ⟨T, rfl, rfl⟩ | ⟨n, rfl, rfl⟩
    · obtain rfl : v' = V.ref T := i2
      exact ⟨V.ref T, .ref T, b, _, rfl, fun u h => h, hkit, ho, Fin.here q hl p rfl⟩
    · obtain rfl : v' = V.ty n := i2
      exact ⟨V.ty n, .type n, b, _, rfl, fun u h => h, hkit, ho, Fin.here q hl p rfl⟩
theorem dp_clsD {X : Cx} {a D : Addr} {d : Option Addr} {oe : Obj} {pn : List (Addr × Obj)} {ds : DS} {L : MS} {P : DK} {i : Nat} {b : Bool} {x n : Str} {p p1 p2 pos : Pos} (C : ExcC X.K D) (hz : Zc (.ref D) d oe) (hf : ∃ vs, oe.data = .fields vs) (hm : X.mg "isinstance" = none)
    (c : ClsIs X.K X.mg D x b) (hi : Get ds i (.adr a)) (hd0 : XdOk d L) (p0 : P (.bl b) L) (hN : X.N[i]? = some n := by rfl) (hv : Vis X.env.scope n := by first | exact Or.inl rfl | exact Or.inr (Or.inl rfl) | exact Or.inr (Or.inr rfl)) (hd : (n == ("__debug__" : Str)) = false := by decide) (hcd : (n == ("__classdict__" : Str)) = false := by decide)
    (hgx : Gl X x := by rfl) (hdb : (x == ("__debug__" : Str)) = false := by decide) (hg : Gl X "isinstance" := by rfl) :
    DP (X.suite a ((a, oe) :: pn)) (.Call (.Name "isinstance" p) [.Name n p1, .Name x p2] [] pos) ds L P := by
  obtain ⟨T, h1, h2⟩ := c
  exact dp_isD C hz hf hm (da_cons (dp_var (X := X.suite a ((a, oe) :: pn)) hi (da_cons (dp_glob (X := X.suite a ((a, oe) :: pn)) (v := .ref T) (d := .adr T) (da_nil ⟨_, _, b, rfl, hd0, h2, .inl ⟨T, rfl, rfl⟩, p0⟩) h1 rfl (fun B => rfl) hgx hdb)) hN hv hd hcd)) hg
/-- e.f, e the exception that the suite holds -/
theorem dp_xf {X : Cx} {a D dd : Addr} {oe : Obj} {pn : List (Addr × Obj)} {e : Expr} {ds : DS} {L : MS} {P : DK} {pos : Pos} {f : Str} (C : ExcC X.K D) (hno : PySem.W.findIn X.K (.ref D) f = some none) (hz : Zc (.ref D) (some dd) oe) (hf : ∃ vs, oe.data = .fields vs)
    (h : DP (X.suite a ((a, oe) :: pn)) e ds L fun x L1 => ∃ ns xs d, x = .adr a ∧ ML L1 dd (.xd ns xs) ∧ fldD ns xs f = some d ∧ P d L1) (hb : attributeBase e f X.env (eval e X.env) = eval e X.env := by rfl) : DP (X.suite a ((a, oe) :: pn)) (.Attribute e f pos) ds L P := .mk fun σ H B hs hl Q q => by
  refine PE.to (pe_xf (C := D) ⟨C.hg, C.hk, C.hs, C.hd⟩ hno hz hf pe_w hb) (h.run σ H B hs hl _ fun x L1 v B1 H1 hx e1 hl1 ix => ?_)
  obtain ⟨ns, xs, d, rfl, hm, hfl, p⟩ := hx
  obtain rfl : v = V.ref a := ix
  obtain ⟨_, o, ho, us, rfl, _, iu⟩ := hl1.own dd _ hm
  obtain ⟨u, hu, iu2⟩ := fld_is iu hfl
  exact ⟨rfl, rfl, dd, _, u, rfl, ho, hu, q d L1 u B1 H1 p e1 hl1 iu2⟩
/-- a class of refusals with the fields f1, f2 -/
structure RefF (K : PySem.W.Frag) (mg : Str → Option Value) (x : Str) (j : Nat) (f1 f2 : Str) (D : Addr) : Prop where
  g : mg x = some (.ref D)
  told : ToldK K mg D j
  oex : OexC K D
  n1 : PySem.W.findIn K (.ref D) f1 = some none
  n2 : PySem.W.findIn K (.ref D) f2 = some none
theorem refF_at {K : PySem.W.Frag} {h : Heap} {mg : Str → Option Value} {x f1 f2 : Str} {j : Nat} {D TE T0 T1 T2 T3 T4 T5 T6 T7 T8 T9 T10 N : Addr} {nm q : Str} {bs bm sub : List Value} {sn : List Str} {ab : Bool} {col : Option Bool} {dd : Option Addr} {k0 k1 k2 k3 k5 : Option Value} (X : K.In h) (G : h.Ns mainGlobals mg) (a : PySem.W.nsIn K mainGlobals x = some (some (.ref D)))
    (lk : K.lookup D = some (excClassObj nm q D N bs bm true sn sub ab col dd k0 k1 k2 k3 k5 "ValueError.__new__")) (rv : PySem.HandSPX.refsVE bm = true) (sa : PySem.W.findIn K (.ref D) "__setattr__" = some (some (.builtin "object.__setattr__"))) (k : PySem.W.keepIn K (.ref D) = true) (b : PySem.W.subIn K (.ref D) (.type "BaseException") = some true) (t : PySem.W.typeIn K (.ref D) = some (.type "type"))
    (n1 : PySem.W.findIn K (.ref D) f1 = some none) (n2 : PySem.W.findIn K (.ref D) f2 = some none)
    (e1 : PySem.W.findIn K (.ref D) "__getattribute__" = some (some (.builtin "BaseException.__getattribute__"))) (e2 : PySem.W.findIn K (.ref D) "__getattr__" = some none) (e3 : PySem.W.hasDictIn K D = true) (e4 : PySem.W.findIn K (.ref D) "__class__" = some (some (.builtin "object.__class__")))
    (e5 : PySem.W.specialIn K (.builtin "object.__class__") "__get__" = some (some (.builtin "getset_descriptor.__get__"))) (e6 : PySem.W.takesIn K (.builtin "object.__class__") = some true) (e7 : PySem.W.mroIn K D (.type "object") = some true)
    (te : PySem.W.nsIn K mainGlobals "TrayError" = some (some (.ref TE))) (te1 : PySem.W.subIn K (.ref TE) (.type "BaseException") = some true) (te2 : PySem.W.hasDictIn K TE = true) (te3 : PySem.W.typeIn K (.ref TE) = some (.type "type")) (te4 : PySem.W.subIn K (.ref D) (.ref TE) = some true)
    (a0 : PySem.W.nsIn K mainGlobals "BadTray" = some (some (.ref T0))) (k0' : PySem.W.kitOne K (.ref D) (.ref T0) = some (decide (0 = j)))
    (a1 : PySem.W.nsIn K mainGlobals "BadTilts" = some (some (.ref T1))) (k1' : PySem.W.kitOne K (.ref D) (.ref T1) = some (decide (1 = j)))
    (a2 : PySem.W.nsIn K mainGlobals "BadShape" = some (some (.ref T2))) (k2' : PySem.W.kitOne K (.ref D) (.ref T2) = some (decide (2 = j)))
    (a3 : PySem.W.nsIn K mainGlobals "BadDeed" = some (some (.ref T3))) (k3' : PySem.W.kitOne K (.ref D) (.ref T3) = some (decide (3 = j)))
    (a4 : PySem.W.nsIn K mainGlobals "BadCount" = some (some (.ref T4))) (k4' : PySem.W.kitOne K (.ref D) (.ref T4) = some (decide (4 = j)))
    (a5 : PySem.W.nsIn K mainGlobals "BadCell" = some (some (.ref T5))) (k5' : PySem.W.kitOne K (.ref D) (.ref T5) = some (decide (5 = j)))
    (a6 : PySem.W.nsIn K mainGlobals "NoBall" = some (some (.ref T6))) (k6' : PySem.W.kitOne K (.ref D) (.ref T6) = some (decide (6 = j)))
    (a7 : PySem.W.nsIn K mainGlobals "Unsettled" = some (some (.ref T7))) (k7' : PySem.W.kitOne K (.ref D) (.ref T7) = some (decide (7 = j)))
    (a8 : PySem.W.nsIn K mainGlobals "BadNumber" = some (some (.ref T8))) (k8' : PySem.W.kitOne K (.ref D) (.ref T8) = some (decide (8 = j)))
    (a9 : PySem.W.nsIn K mainGlobals "Taken" = some (some (.ref T9))) (k9' : PySem.W.kitOne K (.ref D) (.ref T9) = some (decide (9 = j)))
    (a10 : PySem.W.nsIn K mainGlobals "BadMark" = some (some (.ref T10))) (k10' : PySem.W.kitOne K (.ref D) (.ref T10) = some (decide (10 = j))) (kv : PySem.W.kitOne K (.ref D) (.type "ValueError") = some true) : RefF K mg x j f1 f2 D :=
  ⟨PySem.W.mg_of X G a, ⟨⟨e1, e2, b, e3, e4, e5, e6, e7⟩, ⟨TE, PySem.W.mg_of X G te, PySem.W.exm_ref te1 te2 te3 te4⟩, clsIs_at X G a0 k0', clsIs_at X G a1 k1', clsIs_at X G a2 k2', clsIs_at X G a3 k3', clsIs_at X G a4 k4', clsIs_at X G a5 k5', clsIs_at X G a6 k6', clsIs_at X G a7 k7', clsIs_at X G a8 k8', clsIs_at X G a9 k9', clsIs_at X G a10 k10', kv⟩,
    ⟨⟨_, _, _, _, _, _, _, _, _, _, _, _, _, _, _, lk, rv⟩, sa, b, t, k⟩, n1, n2⟩
theorem dp_del2 {X : Cx} {e : Expr} {ds : DS} {L : MS} {P : DK} (h : DP X e ds L fun d L1 => ∃ a m b m' L2, L1 = (a, m) :: (b, m') :: L2 ∧ P d L2) : DP X e ds L P := .mk fun σ H B hs hl Q q =>
  h.run σ H B hs hl Q fun d L1 v B2 H2 ⟨a, m, b, m', L2, eL, p⟩ e2 hl2 iv => by
    subst eL
    exact q d L2 v B2 H2 p e2 ((hl2.forget .hd).forget .hd) iv
/-- isinstance(e, ValueError) -/
theorem dp_valD {X : Cx} {a D : Addr} {d : Option Addr} {oe : Obj} {pn : List (Addr × Obj)} {ds : DS} {L : MS} {P : DK} {i : Nat} {n : Str} {p p1 p2 pos : Pos} (C : ExcC X.K D) (hz : Zc (.ref D) d oe) (hf : ∃ vs, oe.data = .fields vs) (hm : X.mg "isinstance" = none) (hm2 : X.mg "ValueError" = none)
    (c : PySem.W.kitOne X.K (.ref D) (.type "ValueError") = some true) (hi : Get ds i (.adr a)) (hd0 : XdOk d L) (p0 : P (.bl true) L) (hN : X.N[i]? = some n := by rfl) (hv : Vis X.env.scope n := by first | exact Or.inl rfl | exact Or.inr (Or.inl rfl) | exact Or.inr (Or.inr rfl)) (hd : (n == ("__debug__" : Str)) = false := by decide) (hcd : (n == ("__classdict__" : Str)) = false := by decide)
    (hgx : Gl X "ValueError" := by rfl) (hg : Gl X "isinstance" := by rfl) :
    DP (X.suite a ((a, oe) :: pn)) (.Call (.Name "isinstance" p) [.Name n p1, .Name "ValueError" p2] [] pos) ds L P :=
  dp_isD C hz hf hm (da_cons (dp_var (X := X.suite a ((a, oe) :: pn)) hi (da_cons (dp_bltn (X := X.suite a ((a, oe) :: pn)) (da_nil ⟨_, _, true, rfl, hd0, c, .inr ⟨"ValueError", rfl, rfl⟩, p0⟩) hm2 (by decide +kernel) hgx)) hN hv hd hcd)) hg
end Z
/-! lambdas as values: without a parameter, or with one that has the default 0 -/
namespace Z
open PySem PySem.Spec PyProof.Rows L2 LamX
/-- the name of a lambda that stands in X -/
abbrev lamQ (X : Cx) : Str := X.env.qual ++ "<lambda>"
/-- the cells that it holds -/
abbrev lamC (X : Cx) (scope : Scope) : List (Str × Addr) := cloFrom X.env.cells scope.names []
abbrev lamFd (q : Str) (params : Arguments) (body : Expr) (scope : Scope) (cl : List (Str × Addr)) (dV doc pm : Value) (c' : Addr) (ctv : Value) : FuncData := PySem.W.kdv_fn "<lambda>" q params (.expr body) scope cl dV doc pm (.ref c') ctv
abbrev lamObj (q : Str) (params : Arguments) (body : Expr) (scope : Scope) (cl : List (Str × Addr)) (dV doc pm : Value) (c' : Addr) (ctv : Value) : Obj := { cls := .type "function", data := .func (lamFd q params body scope cl dV doc pm c' ctv) }
def LamO (f : Addr) (q : Str) (params : Arguments) (body : Expr) (scope : Scope) (cl : List (Str × Addr)) (dV doc pm : Value) (c' : Addr) (ctv : Value) : HO := .ext fun h => h.get? f = some (lamObj q params body scope cl dV doc pm c' ctv)
theorem lamO_ok {P : Program} {w : World} {H : Hp} {h : Heap} {f : Addr} {q : Str} {params : Arguments} {body : Expr} {scope : Scope} {cl : List (Str × Addr)} {dV doc pm : Value} {c' : Addr} {ctv : Value} (e : h.get? f = some (lamObj q params body scope cl dV doc pm c' ctv)) : ObjOk P w H h f (LamO f q params body scope cl dV doc pm c' ctv) :=
  ⟨e, ⟨_, e⟩, fun _ _ z k => k _ z⟩
theorem lamO_at {P : Program} {w : World} {H : Hp} {h : Heap} {f : Addr} {q : Str} {params : Arguments} {body : Expr} {scope : Scope} {cl : List (Str × Addr)} {dV doc pm : Value} {c' : Addr} {ctv : Value} (ok : HOk P w H h) (e : H f = some (LamO f q params body scope cl dV doc pm c' ctv)) : h.get? f = some (lamObj q params body scope cl dV doc pm c' ctv) := (ok f _ e).1
theorem lamO_ne {f : Addr} {q : Str} {params : Arguments} {body : Expr} {scope : Scope} {cl : List (Str × Addr)} {dV doc pm : Value} {c' : Addr} {ctv : Value} (c : Addr) (q' : Str) : LamO f q params body scope cl dV doc pm c' ctv ≠ CodeO c q' := fun e => by
  unfold LamO CodeO at e
  have e := congrFun (HO.ext.inj e) (⟨Array.replicate (c + 1) { cls := .none, data := .fields #[.none, .str q' 0] }, {}⟩ : Heap)
  have all : ∀ b o, Heap.get? (⟨Array.replicate (c + 1) { cls := .none, data := .fields #[.none, .str q' 0] }, {}⟩ : Heap) b = some o → o = { cls := .none, data := .fields #[.none, .str q' 0] } := fun b o h => by
    unfold Heap.get? at h
    simp only [Array.getElem?_replicate] at h
    split at h
    · cases h
    · split at h
      · exact (Option.some.inj h).symm
      · cases h
  have here : Heap.get? (⟨Array.replicate (c + 1) { cls := .none, data := .fields #[.none, .str q' 0] }, {}⟩ : Heap) c = some { cls := .none, data := .fields #[.none, .str q' 0] } := by
    unfold Heap.get?
    simp only [Array.getElem?_replicate]
    rw [if_pos (Nat.lt_succ_self c)]
  have z := all _ _ (e.mpr ⟨_, _, 0, here, rfl, rfl⟩)
  cases z
/-- the default: none, or a tuple of one 0 -/
def Dfl (B : Hp) : Bool → Value → Prop
  | false, dV => dV = .none
  | true, dV => ∃ T0, dV = .ref T0 ∧ B T0 = some (.tup [.int 0])
theorem Dfl.mono {B B' : Hp} (e : Same B B') : ∀ {df : Bool} {dV : Value}, Dfl B df dV → Dfl B' df dV
  | false, _, h => h
  | true, _, ⟨T0, h1, h2⟩ => ⟨T0, h1, e _ _ h2⟩
def lamR (f : Addr) (q : Str) (params : Arguments) (body : Expr) (scope : Scope) (cl : List (Str × Addr)) (df : Bool) (B : Hp) (o : HO) : Prop :=
  ∃ (dV doc pm : Value) (c' : Addr) (ctv : Value), o = LamO f q params body scope cl dV doc pm c' ctv ∧ B c' = some (CodeO c' q) ∧ Dfl B df dV
theorem lamR_mono {f : Addr} {q : Str} {params : Arguments} {body : Expr} {scope : Scope} {cl : List (Str × Addr)} {df : Bool} : ∀ B B' o, Same B B' → lamR f q params body scope cl df B o → lamR f q params body scope cl df B' o := fun B B' o e ⟨dV, doc, pm, c', ctv, h1, h2, h3⟩ =>
  ⟨dV, doc, pm, c', ctv, h1, e _ _ h2, h3.mono e⟩
/-- a lambda -/
abbrev mL (f : Addr) (q : Str) (params : Arguments) (body : Expr) (scope : Scope) (cl : List (Str × Addr)) (df : Bool) : MO := .gen (lamR f q params body scope cl df) lamR_mono fun _ _ ⟨_, _, _, _, _, e, _⟩ => ⟨⟨_, e⟩, fun c q' => e ▸ lamO_ne c q'⟩
/-- its names: captured ones, globals, the parameter -/
structure LamV (sc scope : Scope) : Prop where
  kind : scope.kind = .function
  plain : scope.isCoroutine = false ∧ scope.isGenerator = false
  own : ∀ y ∈ scope.names, y.2 ≠ .cell
  free : ∀ y ∈ scope.names, y.2 = .free → sc.names.lookup y.1 = some .cell ∨ sc.names.lookup y.1 = some .free
def lamVB (sc scope : Scope) : Bool := decide (scope.kind = .function) && (!scope.isCoroutine && !scope.isGenerator) && scope.names.all fun y => !decide (y.2 = .cell) && (!decide (y.2 = .free) || (decide (sc.names.lookup y.1 = some .cell) || decide (sc.names.lookup y.1 = some .free)))
theorem lamV_by {sc scope : Scope} (h : lamVB sc scope = true) : LamV sc scope := by
  unfold lamVB at h
  simp only [Bool.and_eq_true, Bool.or_eq_true, Bool.not_eq_true', decide_eq_true_eq, decide_eq_false_iff_not, List.all_eq_true] at h
  obtain ⟨⟨h1, h2⟩, h4⟩ := h
  exact ⟨h1, h2, fun y hy => (h4 y hy).1, fun y hy e => (h4 y hy).2.resolve_left fun z => z e⟩
theorem LamV.cells {X : Cx} {scope : Scope} (V : LamV X.env.scope scope) (ok : X.Ok) : ∀ y ∈ scope.names, y.2 = .free → ∃ c, X.env.cells.lookup y.1 = some c := fun y hy e => (V.free y hy e).elim (fun k => ok.has _ (.inl k)) fun k => ok.has _ (.inr k)
section
variable {X : Cx} {pins : List (Addr × Obj)} {σ : L2.St} {H : Hp} {s : Shared}
/-- the lambda is made, its default known -/
theorem lam_tail {c P : Addr} {params : Arguments} {body : Expr} {scope : Scope} {pos : Pos} {dV : Value} {E : Value → Shared → Prop} {Q : Value → Shared → Prop} (I : Inv X pins σ H s) (TB : TabB X.base X.mg c P) (hcode : X.env.code = .ref c)
    (hT : TabS H P (lamQ X)) (V : LamV X.env.scope scope)
    (h : ∀ (f c' : Addr) (doc pm ctv : Value) (H1 : Hp) (s' : Shared), ExtN H H1 → TabS H1 P (lamQ X) → H1 f = none → H1 c' = some (CodeO c' (lamQ X)) → Inv X pins σ (upd H1 f (LamO f (lamQ X) params body scope (lamC X scope) dV doc pm c' ctv)) s' → Q (.ref f) s') :
    wpAny (model X.prog X.w) X.A (makeTail "<lambda>" (lamQ X) params (.expr body) scope X.env dV .none none pos pos.line) Q E s := by
  obtain ⟨ps, hP, ht, ha⟩ := hT
  have tabP : s.heap.get? P = some { cls := .none, data := .fields ps } := I.hok P _ hP
  have clo := closure_ok (V.cells I.ok)
  cases hc : codeAmong pos ps.toList with
  | some cv =>
    obtain ⟨c', rfl, hco⟩ := ha pos cv hc
    refine PySem.W.kdv_makeTailHit (mg := X.mg) (c := c) (P := P) (ps := ps) clo I.ok.glob (I.mod.glob.keeps I.bk) hcode (TB.code.keeps I.bk) tabP ht hc (TB.bm.keeps I.bk) fun ctv doc h' tk hx hsz => ?_
    have I1 : Inv X pins σ H { s with heap := h', toks := tk } := I.kept hx
    exact h h'.objs.size c' doc _ ctv H _ (ExtN.refl H) ⟨ps, hP, ht, ha⟩ (I.hok.fresh hsz) hco (I1.laid (a := h'.objs.size) (t' := tk) (fun b o e => Heap.get?_push_of_some _ e) (Nat.le_refl _) (lamO_ok (Heap.get?_push_size _ rfl)))
  | none =>
    refine PySem.W.kdv_makeTail (mg := X.mg) (c := c) (P := P) (ps := ps) clo I.ok.glob (I.mod.glob.keeps I.bk) hcode (TB.code.keeps I.bk) tabP ht hc TB.gP (TB.bm.keeps I.bk) fun c' ctv doc h' tk hx hge hlt hrec htb => ?_
    obtain ⟨c2, oc, vs, t, e2, hoc, hd, hv⟩ := hrec
    cases e2
    have freeC : H c' = none := I.hok.fresh hge
    have I1 := inv_table (t' := tk) (more := #[rawInt pos.line, rawInt pos.col, .ref c']) (h' := h') I hP hx htb hge ⟨oc, vs, t, hoc, hd, hv⟩
    have grow : ExtN H (upd (upd H P (.tbl (ps ++ #[rawInt pos.line, rawInt pos.col, .ref c']))) c' (CodeO c' (lamQ X))) := fun b o e n => by
      rw [upd_ne (ne_of_none e freeC), upd_ne (fun z => n ps (Option.some.inj (e.symm.trans (by rw [z]; exact hP))))]
      exact e
    have hsz : s.heap.objs.size ≤ h'.objs.size := Nat.le_of_lt (Nat.lt_of_le_of_lt hge hlt)
    refine h h'.objs.size c' doc _ ctv _ _ grow ⟨_, by rw [upd_ne (ne_of_none hP freeC), upd_same], ?_, fun p' cv hcv => ?_⟩ ?_ upd_same (I1.laid (a := h'.objs.size) (t' := tk) (fun b o e => Heap.get?_push_of_some _ e) (Nat.le_refl _) (lamO_ok (Heap.get?_push_size _ rfl)))
    · rw [Array.toList_append]
      exact PySem.TriplesOk_snoc _ _ _ _ ht
    · rw [Array.toList_append] at hcv
      rcases among_app _ ht hcv with z | z
      · obtain ⟨c0, e1, e2⟩ := ha p' cv z
        exact ⟨c0, e1, grow _ _ e2 codeO_ne⟩
      · exact ⟨c', z, upd_same⟩
    · rw [upd_ne (Nat.ne_of_gt hlt), upd_ne (Nat.ne_of_gt (Nat.lt_of_lt_of_le (Heap.lt_size tabP) hsz))]
      exact I.hok.fresh hsz
end
/-- a code object that stands in the heap is frozen -/
theorem Hs.adoptC {K : PySem.W.Frag} {B H : Hp} {L : MS} {a : Addr} {q : Str} (h : Hs K B L H) (ha : H a = some (CodeO a q)) : Same B (upd B a (CodeO a q)) ∧ Hs K (upd B a (CodeO a q)) L H := by
  have sb : Same B (upd B a (CodeO a q)) := fun b o e => by
    by_cases z : b = a
    · subst z
      rw [h.sub _ _ e] at ha
      rw [upd_same, ← Option.some.inj ha]
    · rw [upd_ne z]
      exact e
  refine ⟨sb, fun b o e => ?_, fun b m hb => ?_, h.nd, nt_upd h.nt fun ps => codeO_ne ps⟩
  · by_cases z : b = a
    · subst z
      rw [upd_same] at e
      rw [ha]
      exact e
    · rw [upd_ne z] at e
      exact h.sub b o e
  · obtain ⟨h1, o, h2, h3⟩ := h.own b m hb
    have ne : b ≠ a := fun z => by
      subst z
      rw [ha] at h2
      have h2 := Option.some.inj h2
      subst h2
      cases m with
      | lst ds => obtain ⟨_, e, _⟩ := h3; cases e
      | dct ks ds => obtain ⟨_, e, _⟩ := h3; cases e
      | ins C ns ds => obtain ⟨_, _, e, _⟩ := h3; cases e
      | tab q B0 => obtain ⟨⟨_, e, _⟩, _⟩ := h3; cases e
      | sct ns ds => obtain ⟨_, e, _⟩ := h3; cases e
      | xd ns ds => obtain ⟨_, e, _⟩ := h3; cases e
      | gen R hm hx => exact (hx _ _ h3).2 _ _ rfl
    exact ⟨by rw [upd_ne ne]; exact h1, o, h2, h3.mono sb⟩
/-- what is asked of the written parameters -/
def DflOk (X : Cx) (params : Arguments) : Bool → Prop
  | false => defaultsOf params X.env = ([], [])
  | true => ∃ j p, params.defaults = [.Constant (.int 0) j p] ∧ params.kw_defaults = []
theorem dp_lamV {X : Cx} {f0 : MO → MS} {c P : Addr} {B00 : Hp} {ds : DS} {Q : DK} {params : Arguments} {body : Expr} {scope : Scope} {pos : Pos} (df : Bool) (s : Spot P f0) (one : ∀ a q' B', (a, MO.tab q' B') ∈ f0 (.tab (lamQ X) B00) → a = P) (TB : TabB X.base X.mg c P) (hcode : X.env.code = .ref c)
    (h : ∀ B1 a, Q (.adr a) ((a, mL a (lamQ X) params body scope (lamC X scope) df) :: f0 (.tab (lamQ X) B1))) (hdf : DflOk X params df) (V : lamVB X.env.scope scope = true := by kernel_rfl) : DP X (.Lambda params body scope pos) ds (f0 (.tab (lamQ X) B00)) Q := .mk fun σ H B hs hl R qq pins st I => by
  have VV := lamV_by V
  have tab : ∀ {B H : Hp}, Hs X.K B (f0 (.tab (lamQ X) B00)) H → TabS H P (lamQ X) := fun {B H} hl => by
    obtain ⟨_, o, ho, ⟨ps, e1, e2, e3⟩, _⟩ := hl.own P _ (s.ml _)
    subst e1
    exact ⟨ps, ho, e2, fun pos cv hc => by
      obtain ⟨c, ec, hc2⟩ := e3 pos cv hc
      exact ⟨c, ec, hl.sub _ _ hc2⟩⟩
  have tail : ∀ {B H : Hp} {st : Shared} {dV : Value}, Same B B → Hs X.K B (f0 (.tab (lamQ X) B00)) H → Inv X pins σ H st → Dfl B df dV → (∀ d L' z B2 H2, Q d L' → Same B B2 → Hs X.K B2 L' H2 → Is X.K B2 d z → R z H2) →
      wpAny (model X.prog X.w) X.A (makeTail "<lambda>" (lamQ X) params (.expr body) scope X.env dV .none none pos pos.line) (EP X pins σ R) X.xe st := fun {B H st dV} _ hl I hD qq => by
    refine lam_tail I TB hcode (tab hl) VV fun f c' doc pm ctv H1 s' eN t1 hf hco J => ?_
    obtain ⟨B1, sB, hl1⟩ := hl.lam s one eN t1
    obtain ⟨sB2, hl2⟩ := hl1.adoptC hco
    have hl3 := hl2.newM (m := mL f (lamQ X) params body scope (lamC X scope) df) (o := LamO f (lamQ X) params body scope (lamC X scope) dV doc pm c' ctv) hf ⟨dV, doc, pm, c', ctv, rfl, upd_same, hD.mono (sB.trans sB2)⟩
    exact ⟨.ref f, _, J, rfl, qq (.adr f) _ _ _ _ (h B1 f) (sB.trans sB2) hl3 rfl⟩
  cases df with
  | false =>
    refine PySem.W.kla_eval hdf ?_
    rw [makeFunction_eq]
    simp only [List.zip_nil_right, List.filterMap_nil, List.isEmpty_nil, if_true, pure_bind]
    exact tail (Same.refl B) hl I rfl qq
  | true =>
    obtain ⟨j, p, d1, d2⟩ := hdf
    refine PySem.W.kdv_lam (by rw [d1]; rfl) d2 ?_
    rw [d1]
    refine PySem.W.kdv_all1 (wpAny_Constant_int (PySem.W.kdv_all0 ?_))
    rw [makeFunction_eq]
    simp only [List.zip_nil_right, List.filterMap_nil, List.isEmpty_nil, List.isEmpty_cons, Bool.false_eq_true, if_false, if_true, pure_bind]
    refine wpAny_bind (wpAny_newTextTuple ?_)
    have I1 := (I.tok (st.toks + 1)).laid (a := st.heap.objs.size) (o := .tup [.int 0]) (h' := st.heap.push { cls := .type "tuple", data := .seq [Value.int 0 st.toks].toArray }) (t' := st.toks + 1) (fun b o e => Heap.get?_push_of_some _ e) (Nat.le_refl _) ⟨by show 1 ≤ sizeLine; decide, [.int 0 st.toks], .cons ⟨_, rfl⟩ .nil, ⟨_, Heap.get?_push_size _ rfl, rfl, _, rfl⟩⟩
    obtain ⟨sb, hl1⟩ := hl.new (o := .tup [.int 0]) (I.hok.fresh (Nat.le_refl _))
    exact tail (Same.refl _) hl1 I1 ⟨_, rfl, upd_same⟩ fun d L' z B2 H2 p2 e2 => qq d L' z B2 H2 p2 (sb.trans e2)
end Z
/-! a lambda that is a value, handed to the def that tells what it gives -/
namespace Z
open PySem PySem.Spec PyProof.Rows L2 LamX
/-- no slot that is known has a name of the lambda's own -/
def OwnOk (N : List Str) (scope : Scope) (σ : L2.St) : Prop := ∀ (i : Nat) (x : Str) (v : V), N[i]? = some x → σ[i]? = some (some v) → scope.names.lookup x ≠ some .local
section
variable {X : Cx} {pins : List (Addr × Obj)} {σ : L2.St} {H HZ : Hp} {s s1 : Shared}
/-- the lambda's body is entered -/
theorem lam_enter {A : Around} {outer : List Env} {E : XK} {scope : Scope} {f c' : Addr} {h1 : Heap} {tk : Nat} {ex : List Addr} {bs : List (Str × Value)} (I : Inv X pins σ H s) (own : OwnOk X.N scope σ) (V : LamV X.env.scope scope) (e0 : Env0 X.prog X.w X.K X.mg X.base A outer s1 HZ) (hd : A.handled = none)
    (un : Un (frs X.stack) ex H HZ s.heap s1.heap) (hex : ∀ x c, X.env.cells.lookup x = some c → c ∉ ex) (hns : h1.Ns s1.heap.objs.size fun y => bs.reverse.lookup y) (kp : ∀ b o, s1.heap.get? b = some o → h1.get? b = some o) :
    Inv (lamCx X A outer s1 HZ E scope f c') [] σ HZ { s1 with heap := h1, toks := tk } := by
  have mine : ∀ {y c}, (lamC X scope).lookup y = some c → X.env.cells.lookup y = some c := fun {y c} e => by
    rcases cloFrom_mem (PySem.mem_of_lookup e) with hm | ⟨m1, m2⟩
    · cases hm
    · obtain ⟨c1, e1⟩ := V.cells I.ok _ m1 rfl
      have e1 : X.env.cells.lookup y = some c1 := e1
      rw [show c = c1 by rw [m2, e1] <;> rfl]
      exact e1
  have there : ∀ {y}, scope.names.lookup y = some .free → ∃ c, (lamC X scope).lookup y = some c := fun {y} e => mem_lookup (cloFrom_has (cells := X.env.cells) (acc := []) (PySem.mem_of_lookup e))
  have stays : ∀ {y : Str} {c : Addr} {v : Option Value}, X.env.cells.lookup y = some c → s.heap.IsCell c v → h1.IsCell c v := fun {y c v} e ⟨o, ho, hc⟩ => by
    obtain ⟨sl, q⟩ := un.any ho (I.freeC y c e) (hex y c e)
    exact ⟨_, kp _ _ q, hc⟩
  have none_ : ∀ b : Addr, b ∉ (lamCx X A outer s1 HZ E scope f c').ex := fun b z => (nomatch (show b ∈ ([] : List Addr) from z))
  refine { ok := ?ok, os := rfl, bare := e0.bare, base := Un.kept kp, loc := ⟨_, hns, fun i y v e1 e2 e3 => ?loc⟩, cell := fun y c e => ?cell, free := e0.hok.fresh (Nat.le_refl _), freeC := fun y c e => ?freeC, pin := fun r hr => (nomatch (show r ∈ ([] : List (Addr × Obj)) ++ [] from hr)), hok := e0.hok.kept kp, len := I.len }
  case ok =>
    refine { mod := e0.mod, kind := V.kind, glob := rfl, blt := rfl, above := Nat.le_refl _, inj := fun y z c e1 e2 => I.ok.inj y z c (mine e1) (mine e2), has := fun y hy => ?_, cab := fun y c z _ => (nomatch (show false = true from z)), hd := fun _ => hd, frames := Around.frames_deeper e0.frames, stk := .inr ⟨rfl, rfl⟩, exf := fun b z => absurd z (none_ b), bs := e0.bs, bsz := e0.bsz, noex := fun b _ _ => none_ b, exfs := fun b z => absurd z (none_ b), funs := e0.funs, frf := e0.frf }
    have hy : scope.names.lookup y = some .cell ∨ scope.names.lookup y = some .free := hy
    rcases hy with hy | hy
    · exact absurd rfl (V.own _ (PySem.mem_of_lookup hy))
    · exact there hy
  case loc =>
    have e3 : Vis scope y := e3
    rcases e3 with k | k | k
    · exact absurd k (own i y v e1 e2)
    · exact absurd rfl (V.own _ (PySem.mem_of_lookup k))
    · have up := V.free _ (PySem.mem_of_lookup k) rfl
      obtain ⟨m, hn, hl⟩ := I.loc
      obtain ⟨u, ru, q⟩ := hl i y v e1 e2 (up.elim (fun k => .inr (.inl k)) fun k => .inr (.inr k))
      obtain ⟨c2, h2⟩ := there k
      refine ⟨u, ru, .inr ⟨.inr k, c2, h2, ?_⟩⟩
      rcases q with ⟨k', _⟩ | ⟨_, c3, e', z⟩
      · have k' : X.env.scope.names.lookup y = some .local := k'
        rcases up with k2 | k2 <;> rw [show X.env.scope.names.lookup y = _ from k2] at k' <;> cases k'
      · rw [mine h2] at e'
        cases e'
        exact stays (mine h2) z
  case cell =>
    obtain ⟨v, z⟩ := I.cell y c (mine e)
    exact ⟨v, stays (mine e) z⟩
  case freeC =>
    obtain ⟨v, o, ho, _⟩ := I.cell y c (mine e)
    exact un.free c o ho (I.freeC y c (mine e)) (hex y c (mine e))
/-- how the call binds: nothing, or the default -/
def BindOk (params : Arguments) (body : Expr) (scope : Scope) : Bool → Prop
  | false => ∀ (q : Str) (cl : List (Str × Addr)) (doc pm : Value) (c' : Addr) (ctv : Value), bindArgs (lamFd q params body scope cl .none doc pm c' ctv) ⟨[], []⟩ = pure []
  | true => ∃ nm : Str, scope.names.lookup nm = some .local ∧ ∀ (q : Str) (cl : List (Str × Addr)) (T0 : Addr) (doc pm : Value) (c' : Addr) (ctv : Value), ∃ k, bindArgs (lamFd q params body scope cl (.ref T0) doc pm c' ctv) ⟨[], []⟩ = seqItems? (.ref T0) >>= k ∧ ∀ v, k (some #[v]) = pure [(nm, v)]
theorem bind_of {params : Arguments} {body : Expr} {scope : Scope} {P : Program} {w : World} {HH : Hp} {df : Bool} {q : Str} {cl : List (Str × Addr)} {dV doc pm : Value} {c' : Addr} {ctv : Value} (hb : BindOk params body scope df) (hok : HOk P w HH s.heap) (hD : Dfl HH df dV) :
    ∃ bs : List (Str × Value), (∀ y ∈ bs, scope.names.lookup y.1 = some .local) ∧ BindsTo s (lamFd q params body scope cl dV doc pm c' ctv) ⟨[], []⟩ bs := by
  cases df with
  | false =>
    have hD : dV = .none := hD
    subst hD
    exact ⟨[], fun y hy => (nomatch hy), .of_eq (hb q cl doc pm c' ctv)⟩
  | true =>
    obtain ⟨T0, rfl, hT⟩ := hD
    obtain ⟨nm, h1, h2⟩ := hb
    obtain ⟨k, k1, k2⟩ := h2 q cl T0 doc pm c' ctv
    have hx : ObjOk P w HH s.heap T0 (.tup [.int 0]) := hok T0 _ hT
    obtain ⟨_, its, rel, o, ho, _, n, hdat⟩ := hx
    cases rel with
    | cons r0 rs =>
      rename_i u us
      cases rs
      exact ⟨[(nm, u)], fun y hy => by rw [List.mem_singleton.mp hy]; exact h1, .of_defaults rfl ho hdat k1 (k2 u)⟩
/-- what is known of a lambda's object and its default -/
def LamAt (f : Addr) (q : Str) (params : Arguments) (body : Expr) (scope : Scope) (cl : List (Str × Addr)) (df : Bool) (c' : Addr) (HZ : Hp) : Prop := ∃ dV doc pm ctv, HZ f = some (LamO f q params body scope cl dV doc pm c' ctv) ∧ Dfl HZ df dV
/-- a(), in the def that got the lambda: that def was entered at sY, HY -/
theorem pe_actV {CXg : CXT} {Eg : XK} {Ng : List Str} {qg : Str} {sg : Scope} {g f c' : Addr} {cdg : Value} {params : Arguments} {body : Expr} {scope : Scope} {k i : Nat} {a : Str} {pn : List (Addr × Obj)} {xe : Value → Shared → Prop} {W : WX} {E : XK} {tb : TE} {p1 p2 : Pos} {df : Bool} {sY : Shared} {HY : Hp} {ex : List Addr}
    (I : Inv X pins σ H s) (own : OwnOk X.N scope σ) (V : LamV X.env.scope scope) (uY : Un (frs X.stack) ex H HY s.heap sY.heap) (hex : ∀ x c, X.env.cells.lookup x = some c → c ∉ ex) (hb : BindOk params body scope df)
    (tk : Takes ((cxOf CXg X.prog X.w X.K X.mg X.base Ng qg sg g cdg X.A X.stack sY HY Eg).tr pn xe) W) (hW : ∀ cls d σ' H', E cls d H' → W cls d σ' H') (hr : Room (k + 1) (X.A.deeper (envOfC qg sg sY.heap.objs.size g cdg)))
    (hbody : ∀ (A : Around) (outer : List Env) (s0 : Shared) (H0 : Hp), Room k (A.deeper (lamEnv X scope s0.heap.objs.size f c')) → PE (lamCx X A outer s0 H0 E scope f c') body tb)
    (hN : Ng[i]? = some a) (hv : Vis sg a) (hd : (a == ("__debug__" : Str)) = false := by decide) (hcd : (a == ("__classdict__" : Str)) = false := by decide) :
    PE ((cxOf CXg X.prog X.w X.K X.mg X.base Ng qg sg g cdg X.A X.stack sY HY Eg).tr pn xe) (.Call (.Name a p1) [] [] p2)
      (fun σZ HZ Q => σZ[i]? = some (some (.ref f)) ∧ HZ c' = some (CodeO c' (lamQ X)) ∧ LamAt f (lamQ X) params body scope (lamC X scope) df c' HZ ∧ tb σ HZ Q) := ⟨fun pinsZ sZ σZ HZ Q IZ hq => by
  obtain ⟨hs, hc, ⟨dV, doc, pm, ctv, hf, hD⟩, ht⟩ := hq
  refine wpAny_Call_Name_kw (thn ((pe_var (pos := p1) (i := i) hN hv hd hcd).run pinsZ sZ σZ HZ (fun v H1 => v = .ref f ∧ HZ = H1) IZ ⟨.ref f, hs, rfl, rfl⟩) fun u s1 w1 => ?_)
  obtain ⟨v, H1, I1, r1, rfl, rfl⟩ := w1
  cases r1
  have atf := lamO_at I1.hok hf
  refine PySem.W.callWith_F0 ⟨_, _, _, _, atf⟩ ?_
  have un := uY.trans ((show Un (frs X.stack) [] HY HZ sY.heap s1.heap from I1.base).mono (fun _ z => z) fun _ z => nomatch z)
  obtain ⟨⟨oc, vs, t, hoc, hdc, hvc⟩, _, _⟩ := I1.hok c' _ hc
  obtain ⟨bs, hloc, hbind⟩ := bind_of (s := s1) (q := lamQ X) (cl := lamC X scope) (doc := doc) (pm := pm) (c' := c') (ctv := ctv) hb I1.hok hD
  have run : codeAny (model X.prog X.w) (X.A.deeper (envOfC qg sg sY.heap.objs.size g cdg)) (.call (.ref f) ⟨[], []⟩) (CR (L2.CX X.prog X.w) (envOfC qg sg sY.heap.objs.size g cdg :: X.stack) X.prog X.w HZ s1 Q E) s1 := by
    refine PySem.W.kla_callFunE hr.depth atf rfl V.plain.1 V.plain.2 rfl ⟨c', oc, vs, t, rfl, hoc, hdc, hvc⟩ (hbind _ _ _ _ (wpAny_newFunctionEnv (fun y hy => V.own y hy) hloc (fun h1 hns hsb => ⟨I1.nolimit.fresh _ hsb, ?_⟩) V.kind))
    show codeAny _ _ (.expr body (lamEnv X scope s1.heap.objs.size f c')) _ _
    have kp : ∀ b o, s1.heap.get? b = some o → h1.get? b = some o := fun b o e => hsb.extBut b o (Nat.ne_of_lt (Heap.lt_size e)) (Heap.get?_push_of_some _ e)
    have J := lam_enter (A := X.A.deeper (envOfC qg sg sY.heap.objs.size g cdg)) (outer := envOfC qg sg sY.heap.objs.size g cdg :: X.stack) (E := E) (f := f) (c' := c') (tk := s1.toks + bs.length) I own V I1.env0 hr.hd un hex hns kp
    refine PySem.W.kla_codeExpr (wpAny_mono ((hbody _ _ s1 HZ (hr.deeper _)).run [] _ σ HZ Q J ht) (fun v s2 w2 => ?_) fun _ _ w2 => w2)
    obtain ⟨w', H', J', rv, q⟩ := w2
    exact ⟨w', H', J'.os, J'.bare, J'.base, J'.hok, rv, q⟩
  refine wpAny_call (codeAny_mono run fun r s2 w2 => ?_)
  cases r with
  | error e => exact (passes_call tk hW : Passes (L2.CX X.prog X.w) ((cxOf CXg X.prog X.w X.K X.mg X.base Ng qg sg g cdg X.A X.stack sY HY Eg).tr pn xe) E) pinsZ σZ HZ s1 e s2 I1 w2
  | ok fl =>
    cases fl with
    | ret u => exact I1.after w2
    | next => exact False.elim w2
    | brk => exact False.elim w2
    | cont => exact False.elim w2⟩
end
/-- what the def makes of what it calls: RT tells what is told of a refusal -/
def TTw (K : PySem.W.Frag) (RT : XV → Dt → Prop) : (XK → Hp → VK → Prop) → Hp → VK → Prop := fun tl H Q =>
  ∃ Xr : RK, tl (wX K Xr) H Q ∧ ∀ xv L', Xr xv L' → ∃ t, RT xv t ∧ ∀ B' H' v B2 H2, Hs K B' L' H' → Same B' B2 → Hs K B2 L' H2 → Is K B2 t v → Q v H2
structure ToldF (Pr : Program) (w : World) (K : PySem.W.Frag) (mg : Str → Option Value) (base : Heap) (x a : Str) (RT : XV → Dt → Prop) : Prop where
  ex : ∃ (g : Addr) (pg : Arguments) (bg : List Stmt) (sg : Scope) (dV kV doc pm cdv ct oc : Value) (an od : Option Addr) (osl : Array (Option Value)) (Ng : List Str), mg x = some (.ref g) ∧ PySem.W.keepIn K (.ref g) = true ∧
    K.lookup g = some ⟨oc, od, .func (PySem.W.fnOf x x pg bg sg dV kV doc pm an cdv ct), osl⟩ ∧ PySem.W.codeIn K cdv x = true ∧ L2.Binds K (PySem.W.fnOf x x pg bg sg dV kV doc pm an cdv ct) [a] [] ∧ FnScope Ng [a] sg ∧ Ng[0]? = some a ∧ Vis sg a ∧
    ∀ (X : Cx) (q : Str), X.prog = Pr → X.w = w → X.K = K → X.mg = mg → X.base = base → X.A.units + 200 < cLine → GivesTo X Ng x sg g cdv bg a q (TTw K RT)
/-- only the slots that ds tells -/
def cutS : DS → L2.St → L2.St
  | d :: ds, v :: σ => (match d with | some _ => v | none => none) :: cutS ds σ
  | _, _ => []
theorem cutS_len : ∀ {ds : DS} {σ : L2.St}, σ.length = ds.length → (cutS ds σ).length = σ.length
  | [], [], _ => rfl
  | _ :: ds, _ :: σ, h => by
    show (cutS ds σ).length + 1 = σ.length + 1
    rw [cutS_len (Nat.succ.inj h)]
theorem cutS_get : ∀ {ds : DS} {σ : L2.St} {i : Nat} {v : V}, (cutS ds σ)[i]? = some (some v) → σ[i]? = some (some v) ∧ ∃ d, ds[i]? = some (some d)
  | [], _, i, _, h => by simp [cutS] at h
  | _ :: _, [], i, _, h => by simp [cutS] at h
  | d :: ds, u :: σ, 0, v, h => by
    cases d with
    | none => simp [cutS] at h
    | some d => exact ⟨h, d, rfl⟩
  | d :: ds, u :: σ, i + 1, v, h => by
    exact cutS_get (ds := ds) (σ := σ) (i := i) (by simpa [cutS] using h)
theorem cutS_has : ∀ {ds : DS} {σ : L2.St} {i : Nat} {d : Dt} {v : V}, ds[i]? = some (some d) → σ[i]? = some (some v) → (cutS ds σ)[i]? = some (some v)
  | [], _, _, _, _, h, _ => by simp at h
  | _ :: _, [], _, _, _, _, h => by simp at h
  | d0 :: ds, u :: σ, 0, d, v, h, h' => by
    have h : d0 = some d := by simpa using h
    subst h
    exact h'
  | d0 :: ds, u :: σ, i + 1, d, v, h, h' => by
    show (cutS ds σ)[i]? = _
    exact cutS_has (ds := ds) (σ := σ) (i := i) (d := d) (by simpa using h) (by simpa using h')
theorem sl_cut {K : PySem.W.Frag} {B : Hp} {ds : DS} {σ : L2.St} (h : Sl K B ds σ) : Sl K B ds (cutS ds σ) := ⟨(cutS_len h.1).trans h.1, fun i d e => by
  obtain ⟨v, e1, e2⟩ := h.2 i d e
  exact ⟨v, cutS_has e e1, e2⟩⟩
/-- the slots that are told have no name of the lambda's own -/
def ownB : List Str → Scope → DS → Bool
  | x :: N, scope, d :: ds => (!(decide (scope.names.lookup x = some .local) && d.isSome)) && ownB N scope ds
  | _, _, _ => true
theorem own_of {scope : Scope} : ∀ {N : List Str} {ds : DS} {σ : L2.St}, ownB N scope ds = true → OwnOk N scope (cutS ds σ)
  | [], _, _, _ => fun i x v e _ => by simp at e
  | _ :: _, [], σ, _ => fun i x v _ e => by simp [cutS] at e
  | _ :: _, _ :: _, [], _ => fun i x v _ e => by simp [cutS] at e
  | x0 :: N, d :: ds, u :: σ, h => fun i x v e1 e2 => by
    have h : ((!(decide (scope.names.lookup x0 = some .local) && d.isSome)) && ownB N scope ds) = true := h
    obtain ⟨h1, h2⟩ := Bool.and_eq_true_iff.mp h
    cases i with
    | zero =>
      obtain ⟨_, d', e3⟩ := cutS_get e2
      have e3 : d = some d' := by simpa using e3
      subst e3
      have e1 : x0 = x := by simpa using e1
      subst e1
      intro z
      rw [decide_eq_true z] at h1
      cases h1
    | succ i => exact own_of (σ := σ) h2 i x v (by simpa using e1) (by
      have e2 : (cutS ds σ)[i]? = some (some v) := by simpa [cutS] using e2
      exact e2)
/-- x's def, handed the lambda f: run at sY, HY -/
theorem told_run {X : Cx} {pins : List (Addr × Obj)} {σ : L2.St} {H HY : Hp} {s sY : Shared} {ex : List Addr} {x a : Str} {RT : XV → Dt → Prop} {f c' : Addr} {k : Nat} {df : Bool} {params : Arguments} {body : Expr} {scope : Scope} {Q : VK} {g : Addr}
    (T : ToldF X.prog X.w X.K X.mg X.base x a RT) (hm : X.mg x = some (.ref g)) (I : Inv X pins σ H s) (own : OwnOk X.N scope σ) (V : LamV X.env.scope scope) (uY : Un (frs X.stack) ex H HY s.heap sY.heap) (hex : ∀ x c, X.env.cells.lookup x = some c → c ∉ ex) (hb : BindOk params body scope df) (hr : Room (k + 2) X.A)
    (e0 : Env0 X.prog X.w X.K X.mg X.base X.A X.stack sY HY) (hc : HY c' = some (CodeO c' (lamQ X)))
    (hq : TTw X.K RT (fun E H' Q' => LamAt f (lamQ X) params body scope (lamC X scope) df c' H' ∧ ∀ (A : Around) (outer : List Env) (s0 : Shared) (H0 : Hp), Room k (A.deeper (lamEnv X scope s0.heap.objs.size f c')) → EW (lamCx X A outer s0 H0 E scope f c') body σ H' Q') HY Q)
    (hd : (a == ("__debug__" : Str)) = false := by decide) (hcd : (a == ("__classdict__" : Str)) = false := by decide) :
    codeAny (model X.prog X.w) X.A (.call (.ref g) ⟨[.ref f], []⟩) (CR C8.CX0 X.stack X.prog X.w HY sY Q C8.E0) sY := by
  obtain ⟨g', pg, bg, sg, dV, kV, doc, pm, cdv, ct, oc, an, od, osl, Ng, hm', hk, lk, hcg, hbg, Sg, hNg, hva, gives⟩ := T.ex
  have eg : g' = g := by
    have := hm'.symm.trans hm
    cases this
    rfl
  subst eg
  have KX : X.K.In sY.heap := e0.mod.kin.keeps fun b o e => (e0.bs b o e).1
  refine run_ofS (N := Ng) (ps := [a]) (us := [.ref f]) (vs := [.ref f]) lk hcg Sg hr e0 (hbg sY [.ref f] KX rfl) (.cons rfl .nil) rfl fun hr' => ?_
  have G := gives X (lamQ X) rfl rfl rfl rfl rfl (by have := hr.un; omega) f c' sY HY Q (fun E H' Q' => LamAt f (lamQ X) params body scope (lamC X scope) df c' H' ∧ ∀ (A : Around) (outer : List Env) (s0 : Shared) (H0 : Hp), Room k (A.deeper (lamEnv X scope s0.heap.objs.size f c')) → EW (lamCx X A outer s0 H0 E scope f c') body σ H' Q')
    (fun W pn xe E p1 p2 tk hW => by
      have P1 := pe_actV (i := 0) (f := f) (c' := c') (p1 := p1) (p2 := p2) (tb := fun σ H Q => ∀ (A : Around) (outer : List Env) (s0 : Shared) (H0 : Hp), Room k (A.deeper (lamEnv X scope s0.heap.objs.size f c')) → EW (lamCx X A outer s0 H0 E scope f c') body σ H Q)
        I own V uY hex hb tk hW hr' (fun A outer s0 H0 hr2 => ⟨fun pins s1 σ H Q J h => h A outer s0 H0 hr2 pins s1 J⟩) hNg hva hd hcd
      exact ⟨fun pinsZ sZ σZ HZ Q IZ h => P1.run pinsZ sZ σZ HZ Q IZ ⟨h.1, h.2.1, h.2.2.1, h.2.2.2⟩⟩) hc hq
  obtain ⟨t', ht', hq'⟩ := G
  exact ⟨t', ht'.nox, hq'⟩
/-- the stamp of the table is the frozen heap now -/
theorem Hs.stamp {K : PySem.W.Frag} {B B0 H : Hp} {f0 : MO → MS} {P : Addr} {q : Str} (h : Hs K B (f0 (.tab q B0)) H) (s : Spot P f0) : Hs K B (f0 (.tab q B)) H := by
  obtain ⟨n1, o, ho, ⟨r1, _⟩⟩ := h.own P _ (s.ml _)
  have h2 := h.put (s.st (.tab q B0) (.tab q B)) (o := o) ⟨r1, Same.refl B⟩
  have e : upd H P o = H := by
    funext b
    by_cases z : b = P
    · rw [z, upd_same, ho]
    · rw [upd_ne z]
  rwa [e] at h2
/-- what a lambda's body gives, and what it lets out; all is done with the stamp B0 -/
structure LamDo (X : Cx) (k : Nat) (RT : XV → Dt → Prop) (P : Addr) (params : Arguments) (body : Expr) (scope : Scope) (ds : DS) (L : Hp → MS) (B0 : Hp) (Q : DK) : Prop where
  ex : ∃ (Pe : XV → MS → Prop), (∀ xv L', Pe xv L' → ML L' P (.tab (lamQ X) B0) ∧ ∃ t, RT xv t ∧ Q t L') ∧
    ∀ (A : Around) (outer : List Env) (s0 : Shared) (H0 : Hp) (E : XK) (f' c' : Addr), Room k (A.deeper (lamEnv X scope s0.heap.objs.size f' c')) → RZ (lamCx X A outer s0 H0 E scope f' c') Pe → DP (lamCx X A outer s0 H0 E scope f' c') body ds (L B0) Q
/-- x(e), e a lambda -/
theorem dp_toldV {X : Cx} {x a : Str} {RT : XV → Dt → Prop} {P : Addr} {k : Nat} {ds : DS} {L : MS} {Q : DK} {e : Expr} {p pos : Pos} (T : ToldF X.prog X.w X.K X.mg X.base x a RT) (hr : Room (k + 2) X.A)
    (h : DP X e ds L fun y L1 => ∃ (f : Addr) (f0 : MO → MS) (B00 : Hp) (params : Arguments) (body : Expr) (scope : Scope) (df : Bool), y = .adr f ∧ L1 = f0 (.tab (lamQ X) B00) ∧ Spot P f0 ∧ (∀ B0, ML (f0 (.tab (lamQ X) B0)) f (mL f (lamQ X) params body scope (lamC X scope) df)) ∧ lamVB X.env.scope scope = true ∧ BindOk params body scope df ∧ ownB X.N scope ds = true ∧
      ∀ B0, LamDo X k RT P params body scope ds (fun B => f0 (.tab (lamQ X) B)) B0 Q)
    (hg : Gl X x := by rfl) (hdb : (x == ("__debug__" : Str)) = false := by decide) (hd : (a == ("__debug__" : Str)) = false := by decide) (hcd : (a == ("__classdict__" : Str)) = false := by decide)
    (he : starEach [e] X.env = (false, eval e X.env) :: starEach [] X.env := by rfl) (hpl : (backTo pos (starEach [] X.env)).any (·.1) = false := by rfl) : DP X (.Call (.Name x p) [e] [] pos) ds L Q := .mk fun σ H B hs hl R qq pins s I => by
  obtain ⟨g, _, _, _, _, _, _, _, _, _, _, _, _, _, _, hm, hk, _⟩ := T.ex
  refine wpAny_Call_Name_kw (ld_glob I hg hm ?_ hdb)
  have arg : AW X [e] σ H fun vs H1 => ∃ f, vs = [.ref f] ∧ ∀ pins s, Inv X pins σ H1 s → wpAny (model X.prog X.w) X.A (call (.ref g) [.ref f]) (EP X pins σ R) X.xe s := PA.to (pa_cons pe_w pa_nil he) (h.run σ H B hs hl _ fun y L1 v B1 H1 h1 e1 hl1 iy => by
    obtain ⟨f, f0, B00, params, body, scope, df, rfl, rfl, sp, hml, hV, hb, ho, hdo⟩ := h1
    obtain rfl : v = V.ref f := iy
    refine ⟨f, rfl, fun pins1 s1 I1 => ?_⟩
    have hl2 := hl1.stamp sp
    obtain ⟨_, o, hfo, dV, doc, pm, c', ctv, rfl, hco, hD⟩ := hl2.own f _ (hml B1)
    obtain ⟨Pe, pe1, pe2⟩ := (hdo B1).ex
    have Icut : Inv X pins1 (cutS ds σ) H1 s1 := I1.weak (cutS_len hs.1) fun i v e => (cutS_get e).1
    have scut : Sl X.K B1 ds (cutS ds σ) := sl_cut (hs.mono e1)
    have rc := told_run (ex := []) T hm Icut (own_of ho) (lamV_by hV) (Un.refl) (fun _ _ _ z => nomatch z) hb hr I1.env0 (f := f) (c' := c') (hl2.sub _ _ hco) (Q := R) (by
      refine ⟨Pe, ⟨⟨dV, doc, pm, ctv, hfo, hD.mono hl2.sub⟩, fun A outer s0 H0 hr2 => ?_⟩, fun xv L' px => ?_⟩
      · exact (pe2 A outer s0 H0 _ f c' hr2 (takes_of (X := lamCx X A outer s0 H0 _ scope f c') rfl rfl rfl rfl)).run (cutS ds σ) H1 B1 scut hl2 R fun d L' z B2 H2 pq e2 => qq d L' z B2 H2 pq (e1.trans e2)
      · obtain ⟨hst, t, rt, q⟩ := pe1 xv L' px
        refine ⟨t, rt, fun B' H' v B2 H2 hh e2 hh2 iv => ?_⟩
        obtain ⟨_, _, _, _, same⟩ := hh.own P _ hst
        exact qq t L' v B2 H2 q (e1.trans (same.trans e2)) hh2 iv) hd hcd
    refine wpAny_call (codeAny_mono rc fun r s2 w2 => ?_)
    cases r with
    | error e => exact (show False from w2).elim
    | ok fl =>
      cases fl with
      | ret u => exact I1.after w2
      | next => exact False.elim w2
      | brk => exact False.elim w2
      | cont => exact False.elim w2)
  refine PySem.W.callWith_K (h₀ := X.base) I.ok.mod.kin hk (wpAny_mono (arg pos pins s I) (fun us s1 w1 => ?_) fun _ _ z => z) he hpl
  obtain ⟨vs, H1, I1, r1, f, rfl, q1⟩ := w1
  cases r1 with
  | cons r0 rs =>
    cases rs
    cases r0
    exact ⟨I1.kIn, q1 pins s1 I1⟩
end Z
/-! [x(y) for y in ys], ys lambdas of the same def -/
namespace Z
open PySem PySem.Spec PyProof.Rows L2 LamX
/-- a comprehension without tests; its elements are told the maker's invariant -/
theorem lcV {X : Cx} {pins : List (Addr × Obj)} {s : Shared} {σ : L2.St} {H : Hp} {Q : VK} {elt tg iter : Expr} {scope : Scope} {own : List (Str × Nat)} {pos pos' : Pos} {wi : TI} {g : TG} {te : TE} {use : Option (Value → Sem Unit)} {Qf : Value → Shared → Prop}
    (hc : X.calm = true) (hN : X.N.Nodup) (I : Inv X pins σ H s) (hi : PI X tg iter wi) (ok : BlkOk X.N X.env.scope scope own)
    (hg : ∀ s H C cl fp, PG (bX X scope s H C cl fp) tg g) (he : ∀ s3 H3 C cl fp, Inv X pins σ H3 s3 → (∀ b ∈ fp, ∀ x c, X.env.cells.lookup x = some c → c ≠ b) → PE (bX X scope s3 H3 C cl fp) elt te) (hs : ∀ x, foldedSetIterable iter X.env x = pure x) (h : tLc wi g tYes te (own.map (·.2)) σ H Q)
    (hRR : ∀ D C s' m H', Inv X pins σ H' s' → Q (.ref D) H' → s'.heap.Ns C m → FpOk X pins H' C → compPost (model X.prog X.w) X.A X.xe use Qf (.ref D) C (.ok .next) s') :
    wpAny (model X.prog X.w) X.A (comprehension (.ListComp elt [⟨tg, iter, [], 0⟩] scope pos) scope X.env pos' (newList []) false (eval iter X.env) use) Qf X.xe s := by
  have fr : ∀ y ∈ scope.names, y.2 = .free → ∃ c, X.env.cells.lookup y.1 = some c := fun y hy e => (ok.free y hy e).elim (fun k => I.ok.has _ (.inl k)) fun k => I.ok.has _ (.inr k)
  refine wpAny_comprehension_free (use := use) rfl hs (closure_ok fr) ok.kind (fun y hy e => by rw [ok.uniq y hy, e])
    (thn (hi.run pins s σ H _ I h) fun xv s1 q1 => thn q1 fun itv s2 q2 => ?_)
  obtain ⟨it, fp, tn, J, H2, rfl, I2, T, st2, f2, q⟩ := q2
  refine wpAny_newObj_type (newEnv_comp ?_) (by show 0 ≤ sizeLine; decide)
  have hDn : H2 s2.heap.objs.size = none := I2.hok.fresh (Nat.le_refl _)
  obtain ⟨W, ⟨m0, w0⟩, turn⟩ := q s2.heap.objs.size hDn
  have I3 := I2.laid (a := s2.heap.objs.size) (o := .lst []) (h' := s2.heap.push { cls := .type "list", data := .seq ([] : List Value).toArray }) (t' := s2.toks) (fun b o e => Heap.get?_push_of_some _ e) (Nat.le_refl _) ⟨Nat.zero_le _, [], 0, .nil, Heap.get?_push_size _ rfl⟩
  generalize hD : s2.heap.objs.size = D at *
  generalize hs3 : ({ s2 with heap := s2.heap.push { cls := .type "list", data := .seq ([] : List Value).toArray }, toks := s2.toks } : Shared) = s3 at I3
  have e3 : s3.heap = s2.heap.push { cls := .type "list", data := .seq ([] : List Value).toArray } := by rw [← hs3]
  have f3 : ∀ b ∈ fp, FpOk X pins (upd H2 D (.lst [])) b ∧ b < s3.heap.objs.size := fun b hb => by
    obtain ⟨o, eo, _⟩ := T.obj _ _ st2 b hb
    have hlt := Heap.lt_size eo
    refine ⟨⟨?_, (f2 b hb).2⟩, by rw [e3, Heap.size_push]; exact Nat.lt_succ_of_lt hlt⟩
    rw [upd_ne (by rw [← hD]; exact Nat.ne_of_lt hlt)]
    exact (f2 b hb).1
  have n3 : ∀ b ∈ fp, (upd H2 D (.lst [])) b = none := fun b hb => (f3 b hb).1.1
  have st3 : tn 0 s3.heap := T.keep _ _ _ st2 fun b _ o eo => by rw [e3]; exact Heap.get?_push_of_some _ eo
  have I4 := block_start I3 ok hN f3
  have gP : PG (X.blk s3 (upd H2 D (.lst [])) scope (compEnvC scope (cellsFrom (s3.heap.objs.size + 1) scope.names (cloFrom X.env.cells scope.names [])) s3.heap.objs.size X.env) fp) tg g := hg s3 (upd H2 D (.lst [])) s3.heap.objs.size (cellsFrom (s3.heap.objs.size + 1) scope.names (cloFrom X.env.cells scope.names [])) fp
  have eP : PE (X.blk s3 (upd H2 D (.lst [])) scope (compEnvC scope (cellsFrom (s3.heap.objs.size + 1) scope.names (cloFrom X.env.cells scope.names [])) s3.heap.objs.size X.env) fp) elt te := he s3 (upd H2 D (.lst [])) s3.heap.objs.size (cellsFrom (s3.heap.objs.size + 1) scope.names (cloFrom X.env.cells scope.names [])) fp I3 fun b hb x c e => (f3 b hb).1.2.2.2.2.1 x c e
  show codeAny _ _ (.compStart (.ListComp elt [⟨tg, iter, [], 0⟩] scope pos) 0 (.ref it) (.ref D) (compEnvC scope (cellsFrom (s3.heap.objs.size + 1) scope.names (cloFrom X.env.cells scope.names [])) s3.heap.objs.size X.env)) (compPost (model X.prog X.w) X.A X.xe use Qf (.ref D) s3.heap.objs.size) { s3 with heap := pushCells (s3.heap.push { cls := .type "dict", data := .dict #[] }) scope.names }
  generalize hce : compEnvC scope (cellsFrom (s3.heap.objs.size + 1) scope.names (cloFrom X.env.cells scope.names [])) s3.heap.objs.size X.env = ce at I4 gP eP ⊢
  have cl : ce.locals = s3.heap.objs.size := by rw [← hce]; rfl
  generalize upd H2 D (.lst []) = H3 at I3 I4 gP eP w0 n3 f3
  have st4 : tn 0 (pushCells (s3.heap.push { cls := .type "dict", data := .dict #[] }) scope.names) := T.keep _ _ _ st3 fun b _ o eo => pushCells_keeps _ _ _ _ (Heap.get?_push_of_some _ eo)
  have still : ∀ {σ' : L2.St} {H' : Hp} {s' : Shared}, Inv (X.blk s3 H3 scope ce fp) [] σ' H' s' → (∀ b ∈ fp, H' b = none) → ∀ b ∈ fp, FpOk (X.blk s3 H3 scope ce fp) [] H' b := fun {σ' H' s'} J hn b hb =>
    ⟨hn b hb, (J.ok.exf b hb).1, J.ok.exfs b hb, .inl hb, fun x c e => (J.ok.exf b hb).2 x c e, fun p hp => by simp at hp⟩
  refine codeAny_compStart_list ?go (T.self X.A 0 _ _ _ st4 ?go)
  refine compLoop_any (fun n s => ∃ i H, Inv (X.blk s3 H3 scope ce fp) [] (wipe σ (own.map (·.2))) H s ∧ tn i s.heap ∧ (∀ b ∈ fp, H b = none) ∧ W i n H) (fun n s5 ⟨i, H5, I5, st5, n5, w5⟩ => ?_) m0 ⟨0, H3, I4, st4, n3, w0⟩
  rcases turn i n H5 w5 with ⟨stop, qq⟩ | ⟨go, Nx, hNx, step⟩
  · refine thnF (T.done (X.blk s3 H3 scope ce fp) rfl rfl rfl hc i [] s5 _ H5 (fun _ _ => False) I5 (still I5 n5) st5 stop) fun r s6 ⟨hr, I6⟩ => ?_
    subst hr
    have I7 : Inv X pins σ H5 s6 := I3.call' (ch := fp) I6.os I6.base I6.hok I6.bare fun b hb => ⟨(f3 b hb).1.2.2.2.1, (f3 b hb).1.2.1, (f3 b hb).1.2.2.2.2.1, (f3 b hb).1.2.2.2.2.2⟩
    have nC : H5 s3.heap.objs.size = none := cl ▸ (show H5 ce.locals = none from I6.free)
    obtain ⟨m, hn, _⟩ := I6.loc
    exact hRR D s3.heap.objs.size s6 m H5 I7 qq (cl ▸ (show s6.heap.Ns ce.locals m from hn)) (I3.fpOk (Nat.le_refl _) nC)
  · refine thnF (T.item (X.blk s3 H3 scope ce fp) rfl rfl rfl hc i [] s5 _ H5 (fun _ _ => False) I5 (still I5 n5) st5 go) fun r s6 ⟨u, hr, h6⟩ => ?_
    subst hr
    refine thnF h6 fun _ s7 ⟨x, H7, I7, r7, y7, st7, n7⟩ => ?_
    have I7' := I7.pinned (still I7 n7) (T.obj _ _ st7)
    refine thnF (gP.run _ s7 _ H7 x u _ I7' r7 (step x H7 y7)) fun _ s8 ⟨σ8, H8, I8, hw8, q8⟩ => ?_
    refine wpAny_tests_nil ?_
    rw [if_pos rfl]
    have q9 : te σ8 H8 fun y H4 => ∃ acc, H4 D = some (.lst acc) ∧ acc.length < sizeLine ∧ Nx (upd H4 D (.lst (acc ++ [y]))) := by
      have z : (if true = true then te σ8 H8 fun y H4 => ∃ acc, H4 D = some (.lst acc) ∧ acc.length < sizeLine ∧ Nx (upd H4 D (.lst (acc ++ [y]))) else Nx H8) := q8
      rw [if_pos rfl] at z
      exact z
    refine thnF (eP.run _ s8 σ8 H8 _ I8 q9) fun v s9 ⟨yv, H9, I9, r9, acc, hD9, hz9, nx⟩ => ?_
    refine wpAny_mono (app_ok (X := X.blk s3 H3 scope ce fp) (E := fun _ _ => False) (Q := fun _ s10 => Inv (X.blk s3 H3 scope ce fp) ([] ++ pinsAt fp s7.heap) σ8 (upd H9 D (.lst (acc ++ [yv]))) s10) I9 hD9 hz9 r9 fun s10 I10 => I10) (fun _ s10 I10 => ?_) fun _ _ y => y.elim
    obtain ⟨m', hm, w'⟩ := hNx _ nx
    have pin' : ∀ b ∈ fp, ∀ o, s7.heap.get? b = some o → s10.heap.get? b = some o ∧ upd H9 D (.lst (acc ++ [yv])) b = none := fun b hb o e =>
      let z := I10.pin (b, o) (List.mem_append_right _ (List.mem_append_right _ (mem_pinsAt hb e)))
      ⟨z.1, z.2.1⟩
    refine ⟨m', hm, i + 1, _, (I10.unpinned (pins := [])).weak (by rw [← hw8, wipe_length]) (fun j v e => ?_), T.keep _ _ _ st7 fun b hb o e => (pin' b hb o e).1, fun b hb => ?_, w'⟩
    · rw [← hw8] at e
      exact (wipe_some e).1
    · obtain ⟨o, e, _⟩ := T.obj _ _ st7 b hb
      exact (pin' b hb o e).2
/-- what the element asks: slot i holds a lambda -/
def teV (X : Cx) (RT : XV → Dt → Prop) (k i : Nat) (σX : L2.St) : TE := fun σ H Q => ∃ (f c' : Addr) (params : Arguments) (body : Expr) (scope : Scope) (df : Bool), σ[i]? = some (some (.ref f)) ∧ OwnOk X.N scope σX ∧ LamV X.env.scope scope ∧ BindOk params body scope df ∧ H c' = some (CodeO c' (lamQ X)) ∧
  TTw X.K RT (fun E H' Q' => LamAt f (lamQ X) params body scope (lamC X scope) df c' H' ∧ ∀ (A : Around) (outer : List Env) (s0 : Shared) (H0 : Hp), Room k (A.deeper (lamEnv X scope s0.heap.objs.size f c')) → EW (lamCx X A outer s0 H0 E scope f c') body σX H' Q') H Q
section
variable {X : Cx}
theorem pe_told {x a y : Str} {RT : XV → Dt → Prop} {k i : Nat} {σX : L2.St} {H3 : Hp} {s3 : Shared} {C : Addr} {cl : List (Str × Addr)} {fp : List Addr} {ls : Scope} {p p2 pos : Pos} {pins : List (Addr × Obj)} (T : ToldF X.prog X.w X.K X.mg X.base x a RT) (hr : Room (k + 2) X.A) (I : Inv X pins σX H3 s3)
    (hfp : ∀ b ∈ fp, ∀ x c, X.env.cells.lookup x = some c → c ≠ b) (hg : Gl (bX X ls s3 H3 C cl fp) x) (hN : X.N[i]? = some y) (hv : Vis (bX X ls s3 H3 C cl fp).env.scope y)
    (he : starEach [.Name y p2] (bX X ls s3 H3 C cl fp).env = (false, eval (.Name y p2) (bX X ls s3 H3 C cl fp).env) :: starEach [] (bX X ls s3 H3 C cl fp).env) (hpl : (backTo pos (starEach [] (bX X ls s3 H3 C cl fp).env)).any (·.1) = false)
    (hdb : (x == ("__debug__" : Str)) = false) (hd : (a == ("__debug__" : Str)) = false) (hcd : (a == ("__classdict__" : Str)) = false) (hd2 : (y == ("__debug__" : Str)) = false) (hcd2 : (y == ("__classdict__" : Str)) = false) :
    PE (bX X ls s3 H3 C cl fp) (.Call (.Name x p) [.Name y p2] [] pos) (teV X RT k i σX) := ⟨fun pinsY sY σY HY Q IY hq => by
  obtain ⟨f, c', params, body, scope, df, hs, ho, hV, hb, hco, htt⟩ := hq
  obtain ⟨g, _, _, _, _, _, _, _, _, _, _, _, _, _, _, hm, hk, _⟩ := id T.ex
  refine wpAny_Call_Name_kw (ld_glob IY hg hm ?_ hdb)
  have arg : PA (bX X ls s3 H3 C cl fp) [.Name y p2] _ := pa_cons (pe_var (X := bX X ls s3 H3 C cl fp) (pos := p2) (i := i) hN hv hd2 hcd2) pa_nil he
  refine PySem.W.callWith_K (h₀ := X.base) IY.ok.mod.kin hk (thn (arg.run pos pinsY sY σY HY (fun vs H1 => vs = [.ref f] ∧ HY = H1) IY ⟨.ref f, hs, rfl, rfl⟩) fun us s1 w1 => ?_) he hpl
  obtain ⟨vs, H1, I1, r1, rfl, rfl⟩ := w1
  cases r1 with
  | cons r0 rs =>
    cases rs
    cases r0
    refine ⟨I1.kIn, ?_⟩
    show wpAny _ _ (call (.ref g) [.ref f]) _ _ _
    have un : Un (frs X.stack) fp H3 HY s3.heap s1.heap := I1.base
    have e0 : Env0 X.prog X.w X.K X.mg X.base X.A X.stack s1 HY := I1.env0
    refine wpAny_call (codeAny_mono (told_run (X := X) (Q := Q) T hm I ho hV un (fun x c e z => hfp c z x c e rfl) hb hr e0 hco htt hd hcd) fun r s2 w2 => ?_)
    cases r with
    | error e => exact (show False from w2).elim
    | ok fl =>
      cases fl with
      | ret u => exact I1.after w2
      | next => exact False.elim w2
      | brk => exact False.elim w2
      | cont => exact False.elim w2⟩
/-- what is asked of all the lambdas; W: how the objects stand by the turn, what was told so far -/
def DAll (X : Cx) (k : Nat) (RT : XV → Dt → Prop) (P : Addr) (tg iter : Expr) (ds : DS) (L : MS) (Q : DK) : Prop :=
  DI X tg iter ds L fun xs L1 => ∃ W : Nat → List Dt → MS → Prop, W 0 [] L1 ∧ xs.length ≤ 100000 ∧ (∀ n d ys L2, xs[n]? = some d → W n ys L2 → ys.length = n →
    ∃ (f : Addr) (f0 : MO → MS) (B00 : Hp) (params : Arguments) (body : Expr) (scope : Scope) (df : Bool), d = .adr f ∧ L2 = f0 (.tab (lamQ X) B00) ∧ Spot P f0 ∧ (∀ B0, ML (f0 (.tab (lamQ X) B0)) f (mL f (lamQ X) params body scope (lamC X scope) df)) ∧ lamVB X.env.scope scope = true ∧ BindOk params body scope df ∧ ownB X.N scope ds = true ∧
      ∀ T B0, LamDo X k RT P params body scope ds (fun B => T :: f0 (.tab (lamQ X) B)) B0 fun t L' => ∃ L'', L' = T :: L'' ∧ W (n + 1) (ys ++ [t]) L'') ∧ ∀ ys L2, W xs.length ys L2 → Q (.lst ys) L2
theorem all_read {RT : XV → Dt → Prop} {P : Addr} {tg iter : Expr} {ds : DS} {L : MS} {Pq : DK} {k i : Nat} {σ : L2.St} {H B : Hp} {Q : VK} (hs0 : Sl X.K B ds σ) (hl0 : Hs X.K B L H) (h : DAll X k RT P tg iter ds L Pq) (q : Fin X.K B Pq Q) (hi0 : i < ds.length) :
    tLc (IW X tg iter) (gName i) tYes (teV X RT k i (cutS ds σ)) [i] σ H Q := by
  refine h.run σ H B hs0 hl0 _ fun xs L1 J B1 H1 ⟨W, w0, hz, hstep, hend⟩ e1 hl1 hy D hD => ?_
  refine ⟨fun n m H' => n + m = xs.length ∧ ∃ B' ys L', ys.length = n ∧ W n ys L' ∧ Same B1 B' ∧ Hs X.K B' ((D, .lst ys) :: L') H', ⟨xs.length, Nat.zero_add _, B1, [], L1, rfl, w0, Same.refl _, hl1.newM hD ⟨[], rfl, rfl⟩⟩, ?_⟩
  rintro n m H' ⟨hn, B', ys, L', hyl, w, e2, hl2⟩
  obtain ⟨y1, y2⟩ := hy n B' H' _ e2 hl2
  by_cases hi : n < xs.length
  · have hx : xs[n]? = some xs[n] := List.getElem?_eq_getElem hi
    obtain ⟨g1, g2⟩ := y1 _ hx
    refine .inr ⟨g1, fun H3 => ∃ B' ys L', ys.length = n + 1 ∧ W (n + 1) ys L' ∧ Same B1 B' ∧ Hs X.K B' ((D, .lst ys) :: L') H3, fun H3 hN => ⟨m - 1, by omega, by omega, hN⟩, fun v H2 hv => ?_⟩
    obtain ⟨B2, e3, hl3, iv⟩ := g2 v H2 hv
    have eB : Same B1 B2 := e2.trans e3
    show wipe ((wipe σ [i]).set i (some v)) [i] = wipe σ [i] ∧ _
    refine ⟨?_, ?_⟩
    · show (((σ.set i none).set i (some v)).set i none) = σ.set i none
      rw [List.set_set, List.set_set]
    · unfold tYes
      simp only [if_true]
      obtain ⟨f, f0, B00, params, body, scope, df, hd, rfl, sp, hml, hV, hb, ho, hdo⟩ := hstep n _ ys L' hx w hyl
      rw [hd] at iv
      obtain rfl : v = V.ref f := iv
      have hl4 : Hs X.K B2 ((D, .lst ys) :: f0 (.tab (lamQ X) B2)) H2 := Hs.stamp (f0 := fun m => (D, .lst ys) :: f0 m) hl3 sp.tl
      obtain ⟨_, o, hfo, dV, doc, pm, c', ctv, rfl, hco, hDf⟩ := hl4.own f _ (hml B2).tl
      obtain ⟨Pe, pe1, pe2⟩ := (hdo (D, .lst ys) B2).ex
      have fin : ∀ (t : Dt) (L4 : MS) (u : V) (B4 : Hp) (H4 : Hp), (∃ L'', L4 = (D, .lst ys) :: L'' ∧ W (n + 1) (ys ++ [t]) L'') → Same B2 B4 → Hs X.K B4 L4 H4 → Is X.K B4 t u →
          ∃ acc, H4 D = some (.lst acc) ∧ acc.length < sizeLine ∧ ∃ B' ys L', ys.length = n + 1 ∧ W (n + 1) ys L' ∧ Same B1 B' ∧ Hs X.K B' ((D, .lst ys) :: L') (upd H4 D (.lst (acc ++ [u]))) := fun t L4 u B4 H4 ⟨L'', eL, w'⟩ e4 hl5 iu => by
        subst eL
        obtain ⟨ws, hD', ivs⟩ := hl5.lst ML.hd
        refine ⟨ws, hD', ?_, B4, ys ++ [t], L'', by rw [List.length_append, hyl]; rfl, w', eB.trans e4, hl5.put .hd ⟨_, rfl, ivs.append (IsL.one iu)⟩⟩
        rw [ivs.length, hyl, sizeLine_eq]
        omega
      refine ⟨f, c', params, body, scope, df, ?_, own_of ho, lamV_by hV, hb, hl4.sub _ _ hco, Pe, ⟨⟨dV, doc, pm, ctv, hfo, hDf.mono hl4.sub⟩, fun A outer s0 H0 hr2 => ?_⟩, fun xv L4 px => ?_⟩
      · show ((σ.set i none).set i (some (V.ref f)))[i]? = _
        rw [List.set_set, List.getElem?_set_self (by rw [hs0.1]; exact hi0)]
      · exact (pe2 A outer s0 H0 _ f c' hr2 (takes_of (X := lamCx X A outer s0 H0 _ scope f c') rfl rfl rfl rfl)).run (cutS ds σ) H2 B2 (sl_cut (hs0.mono (e1.trans eB))) hl4 _ fun t L4 u B4 H4 pq e4 hl5 iu => fin t L4 u B4 H4 pq e4 hl5 iu
      · obtain ⟨hst, t, rt, pq⟩ := pe1 xv L4 px
        refine ⟨t, rt, fun B5 H5 v B4 H4 hh e4 hh2 iv => ?_⟩
        obtain ⟨_, _, _, _, same⟩ := hh.own P _ hst
        exact fin t L4 v B4 H4 pq (same.trans e4) hh2 iv
  · have ei : n = xs.length := by omega
    refine .inl ⟨y2 (by omega), ?_⟩
    subst ei
    obtain ⟨vs, hD', ivs⟩ := hl2.lst ML.hd
    obtain ⟨sb, hl5⟩ := hl2.freeze MDel.hd hD'
    exact q _ L' _ _ H' (hend ys L' w) ((e1.trans e2).trans sb) hl5 ⟨D, vs, rfl, upd_same, ivs.mono sb⟩
section
variable {x a y z : Str} {RT : XV → Dt → Prop} {P : Addr} {iter : Expr} {ds : DS} {L : MS} {Q : DK} {k i : Nat} {ls : Scope} {p p2 p3 pt pos lpos : Pos}
/-- [x(y) for y in ys] -/
theorem dp_toldAll (own : List (Str × Nat)) (ok : BlkOk X.N X.env.scope ls own) (hN : X.N.Nodup) (T : ToldF X.prog X.w X.K X.mg X.base x a RT) (hr : Room (k + 2) X.A) (hg : ∀ (s : Shared) (H : Hp) (C : Addr) (cl : List (Str × Addr)) (fp : List Addr), PG (bX X ls s H C cl fp) (.Name y pt) (gName i)) (h : DAll X k RT P (.Name y pt) iter ds L Q)
    (hi0 : i < ds.length := by decide) (hgl : ∀ s H C cl fp, Gl (bX X ls s H C cl fp) x := by intros; rfl) (hNi : X.N[i]? = some y := by rfl) (hv : ∀ s H C cl fp, Vis (bX X ls s H C cl fp).env.scope y := by first | exact fun _ _ _ _ _ => Or.inl rfl | exact fun _ _ _ _ _ => Or.inr (Or.inl rfl))
    (he : ∀ s H C cl fp, starEach [.Name y p2] (bX X ls s H C cl fp).env = (false, eval (.Name y p2) (bX X ls s H C cl fp).env) :: starEach [] (bX X ls s H C cl fp).env := by intros; rfl) (hpl : ∀ s H C cl fp, (backTo pos (starEach [] (bX X ls s H C cl fp).env)).any (·.1) = false := by intros; rfl)
    (hdb : (x == ("__debug__" : Str)) = false := by decide) (hd : (a == ("__debug__" : Str)) = false := by decide) (hcd : (a == ("__classdict__" : Str)) = false := by decide) (hd2 : (y == ("__debug__" : Str)) = false := by decide) (hcd2 : (y == ("__classdict__" : Str)) = false := by decide)
    (ho : own.map (·.2) = [i] := by rfl) (hc : X.calm = true := by rfl) (hs : ∀ x, foldedSetIterable iter X.env x = pure x := by intro _; rfl) : DP X (.ListComp (.Call (.Name x p) [.Name y p2] [] pos) [⟨.Name y pt, iter, [], 0⟩] ls lpos) ds L Q := .mk fun σ H B hs0 hl0 R q pins s I => by
  rw [eval_ListComp]
  refine lcV (pos := lpos) hc hN I pi_w ok hg (fun s3 H3 C cl fp I3 hfp => ⟨fun pinsY sY σY HY QY IY hq => (pe_told (σX := cutS ds σ) T hr (I3.weak (cutS_len hs0.1) fun i v e => (cutS_get e).1) hfp (hgl s3 H3 C cl fp) hNi (hv s3 H3 C cl fp) (he s3 H3 C cl fp) (hpl s3 H3 C cl fp) hdb hd hcd hd2 hcd2).run pinsY sY σY HY QY IY hq⟩) hs (Q := R) (by rw [ho]; exact all_read hs0 hl0 h q hi0) fun D C s' m H' I' qq hn f => ⟨m, hn, fun h2 sb => ?_⟩
  obtain ⟨f0, f1, f2, f3, f4, f5⟩ := f
  exact ⟨.ref D, H', I'.turned (t' := s'.toks) (fun b o hb e => (sb.2 b hb).trans e) f0 f1 f3 f4 f5, rfl, qq⟩
/-- z = [x(y) for y in ys] -/
theorem ds_toldAll {D : DEnds} {j : Nat} {py spos : Pos} {ds' : Dt → DS} (hset : ∀ d, SetAt ds j d (ds' d)) (own : List (Str × Nat)) (ok : BlkOk X.N X.env.scope ls own) (hN : X.N.Nodup) (T : ToldF X.prog X.w X.K X.mg X.base x a RT) (hr : Room (k + 2) X.A) (hg : ∀ (s : Shared) (H : Hp) (C : Addr) (cl : List (Str × Addr)) (fp : List Addr), PG (bX X ls s H C cl fp) (.Name y pt) (gName i))
    (hsw : swapsWith (.ListComp (.Call (.Name x p) [.Name y p2] [] pos) [⟨.Name y pt, iter, [], 0⟩] ls lpos) (some (.Name z py)) spos.line X.env = pure true) (h : DAll X k RT P (.Name y pt) iter ds L fun d L1 => D.nx (ds' d) L1) (hi0 : i < ds.length := by decide) (hgl : ∀ s H C cl fp, Gl (bX X ls s H C cl fp) x := by intros; rfl) (hNi : X.N[i]? = some y := by rfl) (hv : ∀ s H C cl fp, Vis (bX X ls s H C cl fp).env.scope y := by first | exact fun _ _ _ _ _ => Or.inl rfl | exact fun _ _ _ _ _ => Or.inr (Or.inl rfl))
    (he : ∀ s H C cl fp, starEach [.Name y p2] (bX X ls s H C cl fp).env = (false, eval (.Name y p2) (bX X ls s H C cl fp).env) :: starEach [] (bX X ls s H C cl fp).env := by intros; rfl) (hpl : ∀ s H C cl fp, (backTo pos (starEach [] (bX X ls s H C cl fp).env)).any (·.1) = false := by intros; rfl)
    (hdb : (x == ("__debug__" : Str)) = false := by decide) (hd : (a == ("__debug__" : Str)) = false := by decide) (hcd : (a == ("__classdict__" : Str)) = false := by decide) (hd2 : (y == ("__debug__" : Str)) = false := by decide) (hcd2 : (y == ("__classdict__" : Str)) = false := by decide)
    (hy : X.N[j]? = some z := by rfl) (hyl : X.env.scope.names.lookup z = some .local := by rfl) (ho : own.map (·.2) = [i] := by rfl) (hc : X.calm = true := by rfl) (hs : ∀ x, foldedSetIterable iter X.env x = pure x := by intro _; rfl) : DSt X (.Assign [.Name z py] (.ListComp (.Call (.Name x p) [.Name y p2] [] pos) [⟨.Name y pt, iter, [], 0⟩] ls lpos) spos) ds L D := .mk fun σ H B E hs0 hl0 m pins s I => by
  have hr0 : tLc (IW X (.Name y pt) iter) (gName i) tYes (teV X RT k i (cutS ds σ)) (own.map (·.2)) σ H (fun v H1 => E.nx (σ.set j (some v)) H1) := by
    rw [ho]
    refine all_read hs0 hl0 h (fun d L' v B2 H2 p e hl iv => ?_) hi0
    refine m.nx (ds' d) L' _ B2 H2 p e ?_ hl
    rw [← hset d]
    exact (hs0.mono e).set j iv
  rw [exec_Assign_Name_used _ _ _ _ hsw]
  refine wpAny_bind (wpAny_standAt (wpAny_bind ?_))
  refine wpAny_bind (thn (lcV (Qf := fun _ s' => SP X pins E .next s') (pos := lpos) (pos' := firstIterPos [⟨.Name y pt, iter, [], 0⟩] lpos) (use := some (assign (.Name z py) X.env)) hc hN I pi_w ok hg (fun s3 H3 C cl fp I3 hfp => ⟨fun pinsY sY σY HY QY IY hq => (pe_told (σX := cutS ds σ) T hr (I3.weak (cutS_len hs0.1) fun i v e => (cutS_get e).1) hfp (hgl s3 H3 C cl fp) hNi (hv s3 H3 C cl fp) (he s3 H3 C cl fp) (hpl s3 H3 C cl fp) hdb hd hcd hd2 hcd2).run pinsY sY σY HY QY IY hq⟩) hs hr0 fun l C s' mm H' I' q hn f => ?_) fun _ s' hq => wpAny_pure (wpAny_pure hq))
  show wpAny _ _ (assign (.Name z py) X.env (.ref l)) _ _ _
  refine wpAny_assign_Name (store_ok2 (v := V.ref l) I' hN hy (.inl hyl) rfl (fun s2 I2 ⟨a, sb, ha⟩ => ?_) (.inr hyl))
  obtain ⟨f0, f1, f2, f3, f4, f5⟩ := f
  have haC : C ≠ a := ha.elim (fun q1 => q1 ▸ f1) fun q1 q2 => f4 z a q1 q2.symm
  exact ⟨mm, hn.sameBut sb haC, fun h3 sb3 => ⟨_, H', I2.turned (t' := s2.toks) (fun b o hb e => (sb3.2 b hb).trans e) f0 f1 f3 f4 f5, q⟩⟩
end
end
/-- x(lambda: ..) -/
theorem dp_toldL {X : Cx} {x a : Str} {RT : XV → Dt → Prop} {f0 : MO → MS} {c P : Addr} {B00 : Hp} {k : Nat} {ds : DS} {Q : DK} {params : Arguments} {body : Expr} {scope : Scope} {p lpos pos : Pos} (df : Bool) (T : ToldF X.prog X.w X.K X.mg X.base x a RT) (s : Spot P f0) (one : ∀ a q' B', (a, MO.tab q' B') ∈ f0 (.tab (lamQ X) B00) → a = P) (TB : TabB X.base X.mg c P) (hr : Room (k + 2) X.A)
    (hdf : DflOk X params df) (hb : BindOk params body scope df)
    (hdo : ∀ f B0, LamDo X k RT P params body scope ds (fun B => (f, mL f (lamQ X) params body scope (lamC X scope) df) :: f0 (.tab (lamQ X) B)) B0 fun t L' => ∃ mm L'', L' = (f, mm) :: L'' ∧ Q t L'')
    (hcode : X.env.code = .ref c := by rfl) (V : lamVB X.env.scope scope = true := by kernel_rfl) (own : ownB X.N scope ds = true := by rfl)
    (hg : Gl X x := by rfl) (hdb : (x == ("__debug__" : Str)) = false := by decide) (hd : (a == ("__debug__" : Str)) = false := by decide) (hcd : (a == ("__classdict__" : Str)) = false := by decide)
    (he : starEach [.Lambda params body scope lpos] X.env = (false, eval (.Lambda params body scope lpos) X.env) :: starEach [] X.env := by rfl) (hpl : (backTo pos (starEach [] X.env)).any (·.1) = false := by rfl) : DP X (.Call (.Name x p) [.Lambda params body scope lpos] [] pos) ds (f0 (.tab (lamQ X) B00)) Q :=
  dp_del (dp_toldV T hr (dp_lamV df s one TB hcode (fun B1 f => ⟨f, fun m => (f, mL f (lamQ X) params body scope (lamC X scope) df) :: f0 m, B1, params, body, scope, df, rfl, rfl, s.tl, fun B0 => .hd, V, hb, own, fun B0 => by
    obtain ⟨Pe, h1, h2⟩ := (hdo f B0).ex
    exact ⟨Pe, fun xv L' px => by
      obtain ⟨q1, t, q2, mm, L'', rfl, q3⟩ := h1 xv L' px
      exact ⟨q1, t, q2, _, _, L'', .hd, q3⟩, fun A o s0 H0 E f' c' hr2 rz => DP.imp (h2 A o s0 H0 E f' c' hr2 rz) fun d L' ⟨mm, L'', e, q⟩ => by
        subst e
        exact ⟨_, _, L'', .hd, q⟩⟩⟩) hdf V) hg hdb hd hcd he hpl)
end Z
/-! defs with a keyword-only default that refuse; not in range(..) -/
namespace Z
open PySem PySem.Spec PyProof.Rows L2
structure CalKX (Pr : Program) (w : World) (K : PySem.W.Frag) (mg : Str → Option Value) (base : Heap) (x : Str) (k : Nat) (ps : List Str) (kw : Str) (d : Dt) (R : RelX) : Prop where
  ex : ∃ (f : Addr) (fd : FuncData) (us : List Value) (v : V), FnOk Pr w K mg base (L2.CX Pr w) k f fd (ps ++ [kw]) (spX K R) ∧ mg x = some (.ref f) ∧ PySem.W.keepIn K (.ref f) = true ∧ Vals [v] us ∧ (∀ B, Is K B d v) ∧ Binds K fd (ps ++ [kw]) us ∧
    KBn K fd (ps ++ [kw]) ps.length [kw] (fun us ws => us ++ ws) (fun us ws => us ++ ws)
section
variable {Pr : Program} {w : World} {K : PySem.W.Frag} {mg : Str → Option Value} {base : Heap}
theorem calKX_of {x kw : Str} {st : Stmt} {N ps : List Str} {v : V} {d : Dt} {k : Nat} {R : RelX} (F : FunAtK K mg x st kw v) (hd : ∀ B, Is K B d v) (S : FnScope N (ps ++ [kw]) (defScope st)) (hlen : ∀ ds L P Xr, R ds L P Xr → ds.length = (ps ++ [kw]).length)
    (hb : ∀ (D : Addr) (doc pm : Value) (an : Option Addr) (cdv ct : Value) (us ks : List Value), us.length = ps.length → ks.length = 1 →
      KwChain D ([kw].zip ks) (bindArgs (PySem.W.fnOf x x (defArgs st) (defBody st) (defScope st) .none (.ref D) doc pm an cdv ct) ⟨us, []⟩) ((ps ++ [kw]).zip (us ++ ks)))
    (hb2 : ∀ (D : Addr) (doc pm : Value) (an : Option Addr) (cdv ct : Value) (us ks : List Value), us.length = ps.length → ks.length = 1 →
      bindArgs (PySem.W.fnOf x x (defArgs st) (defBody st) (defScope st) .none (.ref D) doc pm an cdv ct) ⟨us, [kw].zip ks⟩ = pure ((ps ++ [kw]).zip (us ++ ks)))
    (body : ∀ (f : Addr) (cdv : Value) (A : Around) (outer : List Env) (s : Shared) (H : Hp) (E : XK), Room k (gX Pr w K mg base N x (defScope st) f cdv A outer s H E).A → ∀ ds L P Xr, R ds L P Xr → RZ (gX Pr w K mg base N x (defScope st) f cdv A outer s H E) Xr →
      DSs (gX Pr w K mg base N x (defScope st) f cdv A outer s H E) (defBody st) (startD N ds) L ⟨fun _ L' => P .non L', P, fun _ _ => False, fun _ _ => False⟩) : CalKX Pr w K mg base x (k + 1) ps kw d R := by
  obtain ⟨f, fd, F, hm⟩ := F.ex
  obtain ⟨us, r, b⟩ := F.binds0 (ps := ps ++ [kw]) ps.length (by simp) (by simp) fun D doc pm an cdv ct us ks h1 h2 => hb D doc pm an cdv ct us ks h1 h2
  refine ⟨f, fd, us, v, F.ok S (fun vs H Q E h => ?_) (fun cdv A outer s H vs Q E hr h => ?_), hm, F.kp, r, hd, b, ⟨fun s us ws X h1 h2 => ?_, fun r1 r2 => r1.append r2⟩⟩
  · obtain ⟨B, ds, L, P, Xr, i, _, r, _⟩ := h
    rw [i.length]
    exact hlen _ _ _ _ r
  · obtain ⟨B, ds, L, P, Xr, i, hl, r, q, hx⟩ := h
    have rz : RZ (gX Pr w K mg base N x (defScope st) f cdv A outer s H E) Xr := Takes.imp (takes_of (E := E) rfl rfl rfl rfl) fun cls d σ H' xo => hx cls d H' xo
    exact ⟨_, pss_w, (body f cdv A outer s H E hr ds L P Xr r rz).run (L2.start N vs) H B _ (sl_start i) hl ⟨fun ds L σ B2 H2 p e _ hl2 => q .non L _ B2 H2 p e hl2 rfl, fun d L v B2 H2 p e hl2 iv => q d L v B2 H2 p e hl2 iv, fun _ _ _ _ _ p => p.elim, fun _ _ _ _ _ p => p.elim⟩⟩
  · obtain ⟨oc, od, dV, kV, doc, pm, an, cdv, ct, osl, rfl, lk, hcd, hD, hK⟩ := F.ex
    rcases hD with ⟨_, rfl⟩ | ⟨e, _⟩
    · rcases hK with e | ⟨D, rfl, hq⟩
      · simp at e
      · exact .of_eq (hb2 D doc pm an cdv ct us ws h1 h2)
    · exact absurd rfl e
end
section
variable {X : Cx} {x kw : Str} {k j : Nat} {ps : List Str} {R : RelX} {Xr : RK} {e e2 : Expr} {es : List Expr} {ds : DS} {L : MS} {P : DK} {pos p kp : Pos} {d : Dt}
theorem dp_callDX (C : CalKX X.prog X.w X.K X.mg X.base x k ps kw d R) (rz : RZ X Xr) (hr : Room j X.A) (hk : k ≤ j) (h : DA X (e :: es) ds L fun xs L1 => R (xs ++ [d]) L1 P Xr) (hg : Gl X x := by rfl) (hdb : (x == ("__debug__" : Str)) = false := by decide)
    (he : starEach (e :: es) X.env = (false, eval e X.env) :: starEach es X.env := by rfl) (hpl : (backTo pos (starEach es X.env)).any (·.1) = false := by rfl) : DP X (.Call (.Name x p) (e :: es) [] pos) ds L P := .mk fun σ H B hs hl Q q => by
  obtain ⟨f, fd, us, v, F, hm, hkp, r, hd, hb, _⟩ := C.ex
  have hx : Passes (L2.CX X.prog X.w) X (wX X.K Xr) := passes_call rz fun _ _ _ _ h => h
  refine PE.to (pe_call F (hr.mono hk) hg hm hkp hb r hx pa_w hdb he hpl) (h.run σ H B hs hl _ fun xs L1 vs B1 H1 r e1 hl1 ixs => ?_)
  exact ⟨B1, xs ++ [d], L1, P, Xr, ixs.append (IsL.one (hd B1)), hl1, r, fun d L' z B2 H2 p2 e2 => q d L' z B2 H2 p2 (e1.trans e2), fun c d H2 xo => xo⟩
theorem dp_callWX (C : CalKX X.prog X.w X.K X.mg X.base x k ps kw d R) (rz : RZ X Xr) (hr : Room j X.A) (hk : k ≤ j) (h : DA X (e :: es) ds L fun xs L1 => xs.length = ps.length ∧ DP X e2 ds L1 fun z L2 => R (xs ++ [z]) L2 P Xr) (hg : Gl X x := by rfl) (hdb : (x == ("__debug__" : Str)) = false := by decide)
    (he : starEach (e :: es) X.env = (false, eval e X.env) :: starEach es X.env := by rfl)
    (hall : (backToKw pos (keywordEach [⟨some kw, e2, kp⟩] X.env)).all (·.1.isSome) = true := by rfl) (hks : (backToKw pos (keywordEach [⟨some kw, e2, kp⟩] X.env)).filterMap (·.1) = [kw] := by rfl)
    (hpl : ((backTo pos (starEach (e :: es) X.env)).any (·.1) || (backToKw pos (keywordEach [⟨some kw, e2, kp⟩] X.env)).any (·.1.isNone)) = false := by rfl) : DP X (.Call (.Name x p) (e :: es) [⟨some kw, e2, kp⟩] pos) ds L P := .mk fun σ H B hs hl Q q => by
  obtain ⟨f, fd, us, v, F, hm, hkp, r, hd, _, hb⟩ := C.ex
  have hx : Passes (L2.CX X.prog X.w) X (wX X.K Xr) := passes_call rz fun _ _ _ _ h => h
  refine PE.to (pe_callN F (hr.mono hk) hg hm hkp hb hx pa_w (pk_cons pe_w pk_nil) hall hks hdb he hpl) (h.run σ H B hs hl _ fun xs L1 vs B1 H1 ⟨hn, r⟩ e1 hl1 ixs => ?_)
  refine r.run σ H1 B1 (hs.mono e1) hl1 _ fun z L2 u B2 H2 r2 e2 hl2 iz => ⟨by rw [ixs.length, hn], rfl, ?_⟩
  exact ⟨B2, xs ++ [z], L2, P, Xr, (ixs.mono e2).append (IsL.one iz), hl2, r2, fun d L' z B3 H3 p2 e3 => q d L' z B3 H3 p2 ((e1.trans e2).trans e3), fun c d H2 xo => xo⟩
end
/-! ranges -/
section
variable {X : Cx} {a b e : Expr} {ds : DS} {L : MS} {PB : Bool → MS → Prop} {pos pos2 p : Pos}
abbrev rNotRg : R2 := fun x y H Q => ∃ i a lo hi, x = V.int i ∧ y = V.ref a ∧ H a = some (.rng lo hi) ∧ Q (.bl (!decide (lo ≤ i ∧ i < hi))) H
theorem op_notIn_rng : OpR X (compareOp .NotIn) rNotRg := by
  intro pins s σ H x y v u Q I rx ry hq
  obtain ⟨i, c, lo, hi, rfl, rfl, hc, q⟩ := hq
  obtain ⟨k, rfl⟩ := rx
  cases ry
  obtain ⟨t1, t2, t3, hget⟩ := I.hok c _ hc
  show wpAny _ _ (do return Value.bool (!(← contains (Value.ref c) (Value.int i k)))) _ _ s
  refine wpAny_bind (wpAny_contains_slot (T := "range") ⟨_, hget, rfl⟩ F.slot_range_contains (call_meets F.slot_range_contains ⟨_, hget, rfl⟩ F.entry_range_contains (F.args_range_contains_2 _ _) (q_contains c lo hi i t1 t2 t3 k) ⟨hget, wpAny_truthy_bool (wpAny_pure ?_)⟩))
  refine ⟨.bl _, H, I, rfl, ?_⟩
  rw [place1]
  exact q
abbrev rMkRg1 : List V → Hp → VK → Prop := fun vs H Q => ∃ j, vs = [V.int j] ∧ ∀ p, H p = none → Q (.ref p) (upd H p (.rng 0 j))
theorem cr_range1 : CallR X (.type "range") rMkRg1 := by
  intro pins s σ H vs us Q I rel hq
  obtain ⟨j, rfl, q⟩ := hq
  cases rel with
  | cons r0 rs =>
    cases rs
    obtain ⟨t, rfl⟩ := r0
    refine call_range_1 ⟨.ref s.heap.objs.size, upd H s.heap.objs.size (.rng 0 j), I.laid (t' := s.toks + 1 + 1) (fun b o e => Heap.get?_push_of_some _ e) (Nat.le_refl _) ⟨s.toks, t, s.toks + 1, Heap.get?_push_size _ rfl⟩, rfl, q _ (I.hok.fresh (Nat.le_refl _))⟩
theorem new_rng {K : PySem.W.Frag} {B H : Hp} {q : Addr} {lo hi : Int} (hl : Hs K B L H) (hq : H q = none) : Same B (upd B q (.rng lo hi)) ∧ Hs K (upd B q (.rng lo hi)) L (upd H q (.rng lo hi)) := hl.new hq
/-- e not in range(b) -/
theorem dt_notRg1 (hm : X.mg "range" = none) (h : DP X e ds L fun x L1 => DP X b ds L1 fun z L2 => ∃ i j, x = .int i ∧ z = .int j ∧ PB (!decide (0 ≤ i ∧ i < j)) L2) (hg : Gl X "range" := by rfl) (he : starEach [b] X.env = (false, eval b X.env) :: starEach [] X.env := by rfl) (hpl : (backTo pos2 (starEach [] X.env)).any (·.1) = false := by rfl) (hmk : behindInMarks .NotIn (.Call (.Name "range" p) [b] [] pos2) = false := by rfl) :
    DT X (.Compare e [.NotIn] [.Call (.Name "range" p) [b] [] pos2] pos) ds L PB := .mk fun σ H B hs hl Q q =>
  PT.to (pt_cmpR op_notIn_rng pe_w (pe_callTy cr_range1 hg hm (by decide +kernel) (pa_cons pe_w pa_nil he) (by decide) (by decide) he hpl) hmk) (h.run σ H B hs hl _ fun x L1 v B1 H1 hb e1 hl1 ix => hb.run σ H1 B1 (hs.mono e1) hl1 _ fun z L2 u B2 H2 hp e2 hl2 iz => by
    obtain ⟨i, j, rfl, rfl, pp⟩ := hp
    obtain rfl : v = V.int i := ix
    obtain rfl : u = V.int j := iz
    refine ⟨j, rfl, fun r hr => ⟨i, r, 0, j, rfl, rfl, upd_same, ?_⟩⟩
    obtain ⟨sb, hl3⟩ := new_rng (lo := 0) (hi := j) hl2 hr
    exact ⟨_, rfl, q _ L2 _ _ pp ((e1.trans e2).trans sb) hl3⟩)
/-- e not in range(a, b) -/
theorem dt_notRg2 (hm : X.mg "range" = none) (h : DP X e ds L fun x L1 => DP X a ds L1 fun y L2 => DP X b ds L2 fun z L3 => ∃ i lo j, x = .int i ∧ y = .int lo ∧ z = .int j ∧ PB (!decide (lo ≤ i ∧ i < j)) L3) (hg : Gl X "range" := by rfl) (he : starEach [a, b] X.env = (false, eval a X.env) :: starEach [b] X.env := by rfl) (he2 : starEach [b] X.env = (false, eval b X.env) :: starEach [] X.env := by rfl) (hpl : (backTo pos2 (starEach [b] X.env)).any (·.1) = false := by rfl) (hmk : behindInMarks .NotIn (.Call (.Name "range" p) [a, b] [] pos2) = false := by rfl) :
    DT X (.Compare e [.NotIn] [.Call (.Name "range" p) [a, b] [] pos2] pos) ds L PB := .mk fun σ H B hs hl Q q =>
  PT.to (pt_cmpR op_notIn_rng pe_w (pe_callTy cr_range2 hg hm (by decide +kernel) (pa_cons pe_w (pa_cons pe_w pa_nil he2) he) (by decide) (by decide) he hpl) hmk) (h.run σ H B hs hl _ fun x L1 v B1 H1 ha e1 hl1 ix => ha.run σ H1 B1 (hs.mono e1) hl1 _ fun y L2 t B2 H2 hb e2 hl2 iy => hb.run σ H2 B2 (hs.mono (e1.trans e2)) hl2 _ fun z L3 u B3 H3 hp e3 hl3 iz => by
    obtain ⟨i, lo, j, rfl, rfl, rfl, pp⟩ := hp
    obtain rfl : v = V.int i := ix
    obtain rfl : t = V.int lo := iy
    obtain rfl : u = V.int j := iz
    refine ⟨lo, j, rfl, fun r hr => ⟨i, r, lo, j, rfl, rfl, upd_same, ?_⟩⟩
    obtain ⟨sb, hl4⟩ := new_rng (lo := lo) (hi := j) hl3 hr
    exact ⟨_, rfl, q _ L3 _ _ pp (((e1.trans e2).trans e3).trans sb) hl4⟩)
end
end Z
/-! not in a list of what may be compared; nothing let out -/
namespace Z
open PySem PySem.Spec PyProof.Rows L2
def nInDK : K2 := fun x y L P => ∃ ds, y = .lst ds ∧ OkE x ∧ OkE y ∧ ∀ c, (c = true ↔ x ∉ ds) → P (.bl c) L
theorem kr_nInD {K : PySem.W.Frag} : KR2 K (rNotInD K) nInDK := by
  intro B H L x y v u Q P hl ix iy hk q
  obtain ⟨es, rfl, h1, h2, p⟩ := hk
  have hy := h2.dp hl.sub iy
  have sh := h2.shaped
  have e0 : pd (.lst es) = .list (es.map pd) := by rw [pd, pdL_map]
  rw [e0] at hy sh
  refine ⟨_, _, h1.dp hl.sub ix, hy, h1.shaped, sh, Fin.here q hl (p _ ?_) rfl⟩
  rw [Bool.not_eq_true', List.any_map, List.any_eq_false]
  obtain ⟨n, hn, hz⟩ := h2
  have hz2 := okE_lst hz
  obtain ⟨k, rfl, hz3⟩ := hz2
  constructor
  · intro h hm
    exact h x hm ((OkE.eqv ⟨k, by omega, hz3 x hm⟩ h1).mpr rfl)
  · intro h z hz4 e
    have := (OkE.eqv ⟨k, by omega, hz3 z hz4⟩ h1).mp e
    rw [← this] at h
    exact h hz4
section
variable {X : Cx} {a b : Expr} {ds : DS} {L : MS} {PB : Bool → MS → Prop} {pos : Pos}
theorem dt_notInD {k : Nat} (hr : Room k X.A) (h : DP X a ds L fun x L1 => DP X b ds L1 fun y L2 => nInDK x y L2 fun d L3 => ∃ c, d = .bl c ∧ PB c L3) (hm : behindInMarks .NotIn b = false := by rfl) : DT X (.Compare a [.NotIn] [b] pos) ds L PB := dt_cmp (op_notInD (show X.A.units + 65 < cLine by have := hr.un; omega)) kr_nInD h hm
end
theorem rz_no {X : Cx} : RZ X fun _ _ => False := fun u s' ⟨a, B, sI, pins, σ, H, cls, d, e, I, nb, up, sky, na, os, ag, w⟩ => by
  have w : XOut X.K (fun _ _ => False) cls d H := w
  cases w with
  | ref _ h => exact h.elim
  | fld _ h => exact h.elim
end Z
/-! a lambda as a value, the pair of its place and object named -/
namespace Z
open PySem PySem.Spec PyProof.Rows L2 LamX
theorem dp_lamP {X : Cx} {f0 : MO → MS} {c P : Addr} {B00 : Hp} {ds : DS} {Q : DK} {params : Arguments} {body : Expr} {scope : Scope} {pos : Pos} (df : Bool) (s : Spot P f0) (one : ∀ a q' B', (a, MO.tab q' B') ∈ f0 (.tab (lamQ X) B00) → a = P) (TB : TabB X.base X.mg c P) (hcode : X.env.code = .ref c)
    (h : ∀ B1 (p : Addr × MO), p.2 = mL p.1 (lamQ X) params body scope (lamC X scope) df → Q (.adr p.1) (p :: f0 (.tab (lamQ X) B1))) (hdf : DflOk X params df) (V : lamVB X.env.scope scope = true := by kernel_rfl) : DP X (.Lambda params body scope pos) ds (f0 (.tab (lamQ X) B00)) Q :=
  dp_lamV df s one TB hcode (fun B1 a => h B1 (a, _) rfl) hdf V
theorem ml_pair {p : Addr × MO} {m : MO} {L : MS} (h : p.2 = m) : ML (p :: L) p.1 m := h ▸ (ML.hd : ML ((p.1, p.2) :: L) p.1 p.2)
/-- no table but the one -/
theorem one_pair {p : Addr × MO} {f : Addr} {q : Str} {params : Arguments} {body : Expr} {scope : Scope} {cl : List (Str × Addr)} {df : Bool} {L : MS} {P : Addr} (h : p.2 = mL f q params body scope cl df) (one : ∀ a q' B', (a, MO.tab q' B') ∈ L → a = P) : ∀ a q' B', (a, MO.tab q' B') ∈ p :: L → a = P := fun a q' B' hm => by
  rcases List.mem_cons.mp hm with e | hm
  · rw [← e] at h
    cases h
  · exact one a q' B' hm
end Z
/-! sorted(set(a tuple of ints)) -/
namespace Z
open PySem PySem.Spec PyProof.Rows L2
def rSetTI (K : PySem.W.Frag) (w : World) : List V → Hp → VK → Prop := fun vs H Q => ∃ (l : Addr) (ns : List Int), vs = [V.ref l] ∧ SqT K H l (ns.map V.int) ∧ ns.length < 60 ∧ ∀ p c, H p = none → c ≤ ns.length → Q (.ref p) (upd H p (SetO w p (fun j => decide (j ∈ ns)) c))
theorem cr_setTI {X : Cx} (hc : X.calm = true) : CallR X (.type "set") (rSetTI X.K X.w) := by
  intro pins s σ H vs us Q I r h
  obtain ⟨l, ns, rfl, hs, hn, q⟩ := h
  rw [Vals.ref1 r]
  obtain ⟨its, hv, ht, _⟩ := I.tuple hs
  refine call_set_tupI ns (I.ok.hd hc) ht (by rw [List.toList_toArray]; exact Vals.ints hv) (by unfold scanBound; omega) fun h' tk c R hcn k => ?_
  exact ⟨.ref s.heap.objs.size, upd H s.heap.objs.size (SetO X.w s.heap.objs.size (fun j => decide (j ∈ ns)) c), I.laid (t' := tk) k (Nat.le_refl _) (setO_new R), rfl, q _ c (I.hok.fresh (Nat.le_refl _)) hcn⟩
section
variable {X : Cx} {e : Expr} {ds : DS} {L : MS} {P : DK} {pos p p2 pos2 : Pos}
theorem dp_sortSet (hm : X.mg "sorted" = none) (hm2 : X.mg "set" = none) (h : DP X e ds L fun d L1 => ∃ ns : List Int, d = .tup (ns.map Dt.int) ∧ ns.length < 60 ∧ ∀ ms : List Int, ms.Pairwise (· < ·) → (∀ k : Int, k ∈ ms ↔ k ∈ ns) → P (.lst (ms.map Dt.int)) L1) (hc : X.calm = true := by rfl) (hg : Gl X "sorted" := by rfl) (hg2 : Gl X "set" := by rfl)
    (he : starEach [.Call (.Name "set" p2) [e] [] pos2] X.env = (false, eval (.Call (.Name "set" p2) [e] [] pos2) X.env) :: starEach [] X.env := by rfl) (hpl : (backTo pos (starEach [] X.env)).any (·.1) = false := by rfl)
    (he2 : starEach [e] X.env = (false, eval e X.env) :: starEach [] X.env := by rfl) (hpl2 : (backTo pos2 (starEach [] X.env)).any (·.1) = false := by rfl) : DP X (.Call (.Name "sorted" p) [.Call (.Name "set" p2) [e] [] pos2] [] pos) ds L P := .mk fun σ H B hs hl Q q =>
  PE.to (pe_callB (cr_sortedSet hc) hg hm (by decide +kernel) (pa_cons (hs := he) (pe_callTy (cr_setTI hc) hg2 hm2 (by decide +kernel) (pa_cons (hs := he2) pe_w pa_nil) (by decide) (by decide) he2 hpl2) pa_nil) (he := he) (hpl := hpl)) (h.run σ H B hs hl _ fun d L1 v B1 H1 h1 e1 hl1 iv => by
    obtain ⟨ns, rfl, hn, hp⟩ := h1
    obtain ⟨l, us, rfl, ha, ia⟩ := iv
    have hus := ia.ints
    subst hus
    refine ⟨l, ns, rfl, SqT.of (hl1.sub _ _ ha), hn, fun p c hp0 hcn => ?_⟩
    obtain ⟨sb, hl2⟩ := hl1.new (o := SetO X.w p (fun j => decide (j ∈ ns)) c) hp0
    refine ⟨p, _, c, rfl, upd_same, by omega, fun ms z hpw hmem hlen hz => ?_⟩
    exact Fin.lst (fun d L2 z2 B2 H2 p2 e2 => q d L2 z2 B2 H2 p2 ((e1.trans sb).trans e2)) hl2 (hp ms hpw fun k => (hmem k).trans (by simp)) IsL.of_ints hz)
end
end Z
/-! name += e, name -= e (ints) -/
namespace Z
open PySem PySem.Spec PyProof.Rows L2
section
variable {X : Cx} {e : Expr} {ds : DS} {L : MS} {D : DEnds} {pos pos' : Pos}
theorem ds_augI {op : Operator} {f : Int → Int → Int} (ip : PIp X op (ipI f)) {i : Nat} {x : Str} {a : Int} {ds' : Dt → DS} (hg : Get ds i (.int a)) (hset : ∀ d, SetAt ds i d (ds' d)) (h : DP X e ds L fun y L1 => ∃ j, y = .int j ∧ D.nx (ds' (.int (f a j))) L1) (hN : X.N.Nodup) (hi : X.N[i]? = some x := by rfl)
    (hx : Loc X.env.scope x := by first | exact .inl rfl | exact .inr rfl) (hf : X.fn x = true ∨ X.env.scope.names.lookup x = some .local := by first | exact .inl rfl | exact .inr rfl) : DSt X (.AugAssign (.Name x pos') op e pos) ds L D := .mk fun σ H B E hs hl m =>
  PS.to (ps_aug hN hi hx pe_w ip hf) (by
    obtain ⟨v, e1, e2⟩ := hs.2 i _ hg
    have e2 : v = .int a := e2
    subst e2
    refine ⟨_, e1, h.run σ H B hs hl _ fun y L1 u B1 H1 hp e3 hl1 iy => ?_⟩
    obtain ⟨j, rfl, p⟩ := hp
    have iy : u = .int j := iy
    subst iy
    refine ⟨a, j, rfl, rfl, m.nx _ L1 _ B1 H1 p e3 ?_ hl1⟩
    rw [← hset]
    exact (hs.mono e3).set i rfl)
theorem ds_augAdd {i : Nat} {x : Str} {a : Int} {ds' : Dt → DS} (hg : Get ds i (.int a)) (hset : ∀ d, SetAt ds i d (ds' d)) (h : DP X e ds L fun y L1 => ∃ j, y = .int j ∧ D.nx (ds' (.int (a + j))) L1) (hN : X.N.Nodup) (hi : X.N[i]? = some x := by rfl)
    (hx : Loc X.env.scope x := by first | exact .inl rfl | exact .inr rfl) (hf : X.fn x = true ∨ X.env.scope.names.lookup x = some .local := by first | exact .inl rfl | exact .inr rfl) : DSt X (.AugAssign (.Name x pos') .Add e pos) ds L D := ds_augI ip_add hg hset h hN hi hx hf
theorem ds_augSub {i : Nat} {x : Str} {a : Int} {ds' : Dt → DS} (hg : Get ds i (.int a)) (hset : ∀ d, SetAt ds i d (ds' d)) (h : DP X e ds L fun y L1 => ∃ j, y = .int j ∧ D.nx (ds' (.int (a - j))) L1) (hN : X.N.Nodup) (hi : X.N[i]? = some x := by rfl)
    (hx : Loc X.env.scope x := by first | exact .inl rfl | exact .inr rfl) (hf : X.fn x = true ∨ X.env.scope.names.lookup x = some .local := by first | exact .inl rfl | exact .inr rfl) : DSt X (.AugAssign (.Name x pos') .Sub e pos) ds L D := ds_augI ip_sub hg hset h hN hi hx hf
end
end Z
/-! tuples that are known to have no dict: made of a list, cut, joined; ns.index(n) -/
namespace Z
open PySem PySem.Spec PyProof.Rows L2
def NdT (H : Hp) (a : Addr) (xs : List V) : Prop := ∃ o : Obj, H a = some (.frz o (.tup xs)) ∧ o.dict = none ∧ o.cls = .type "tuple"
theorem NdT.sq {K : PySem.W.Frag} {H : Hp} {a : Addr} {xs : List V} (h : NdT H a xs) : SqT K H a xs := let ⟨o, e, _⟩ := h; .inl (.inr ⟨o, e⟩)
theorem NdT.mono {B H : Hp} {a : Addr} {xs : List V} (h : NdT B a xs) (e : Same B H) : NdT H a xs := let ⟨o, h1, r⟩ := h; ⟨o, e _ _ h1, r⟩
theorem frt_inv {K : PySem.W.Frag} {B : Hp} {ds : List Dt} {v : V} (i : Is K B (.frt ds) v) : ∃ a vs, v = V.ref a ∧ NdT B a vs ∧ IsL K B ds vs := let ⟨a, o, vs, h1, h2, h3, h4, h5⟩ := i; ⟨a, vs, h1, ⟨o, h2, h3, h4⟩, h5⟩
theorem frt_is {K : PySem.W.Frag} {B : Hp} {ds : List Dt} {a : Addr} {vs : List V} (h : NdT B a vs) (i : IsL K B ds vs) : Is K B (.frt ds) (V.ref a) := let ⟨o, h2, h3, h4⟩ := h; ⟨a, o, vs, rfl, h2, h3, h4, i⟩
section
variable {X : Cx} {pins : List (Addr × Obj)} {σ : L2.St} {H : Hp} {s : Shared}
/-- a new tuple -/
theorem Inv.newT (I : Inv X pins σ H s) {xs : List V} {its : List Value} (hz : xs.length ≤ sizeLine) (r : Vals xs its) : Inv X pins σ (upd H s.heap.objs.size (.frz { cls := .type "tuple", data := .seq its.toArray } (.tup xs))) { s with heap := s.heap.push { cls := .type "tuple", data := .seq its.toArray } } :=
  I.laid (t' := s.toks) (fun b o e => Heap.get?_push_of_some _ e) (Nat.le_refl _) ⟨Heap.get?_push_size _ rfl, hz, its, r, IsTup.new _ _⟩
theorem Inv.isT (I : Inv X pins σ H s) {a : Addr} {xs : List V} (h : NdT H a xs) : s.TypeIs (.ref a) "tuple" ∧ ∃ ob, s.heap.get? a = some ob ∧ ob.dict = none := by
  obtain ⟨o, e, hd, hc⟩ := h
  have z : ObjOk X.prog X.w H s.heap a (.frz o (.tup xs)) := I.hok a _ e
  exact ⟨⟨o, z.1, hc⟩, o, z.1, hd⟩
end
abbrev NewT (Q : VK) (H : Hp) (xs : List V) : Prop := ∀ p (o : Obj), H p = none → o.dict = none → o.cls = .type "tuple" → Q (.ref p) (upd H p (.frz o (.tup xs)))
def rCatN (K : PySem.W.Frag) : R2 := fun x y H Q => ∃ a b xs ys, x = .ref a ∧ y = .ref b ∧ NdT H a xs ∧ NdT H b ys ∧ xs.length + ys.length ≤ sizeLine ∧ (xs = [] → Q (.ref b) H) ∧ (xs ≠ [] → ys = [] → Q (.ref a) H) ∧ (xs ≠ [] → ys ≠ [] → NewT Q H (xs ++ ys))
theorem op_catN {X : Cx} : OpR X (binaryOp .Add) (rCatN X.K) := by
  intro pins s σ H x y v u Q I rx ry h
  obtain ⟨a, b, xs, ys, rfl, rfl, ha, hb, hz, q0, q1, q2⟩ := h
  cases rx
  cases ry
  obtain ⟨its, r1, p1, _⟩ := I.tuple (ha.sq (K := X.K))
  obtain ⟨its2, r2, p2, _⟩ := I.tuple (hb.sq (K := X.K))
  by_cases hx : xs = []
  · subst hx
    cases r1
    exact cat_tup0 p1 p2 ⟨.ref b, H, I, rfl, q0 rfl⟩
  · refine HT.cat_tup p1 p2 (fun z => hx (r1.nil_iff.mp z)) (fun z => ⟨.ref a, H, I, rfl, q1 hx (r2.nil_iff.mp z)⟩) (fun z => ?_) (by rw [← r1.length, ← r2.length]; exact hz)
    exact ⟨.ref s.heap.objs.size, _, Inv.newT I (by rw [List.length_append]; exact hz) (r1.append r2), rfl, q2 hx (fun w => z (r2.nil_iff.mpr w)) _ _ (I.hok.fresh (Nat.le_refl _)) rfl rfl⟩
def rSlN (K : PySem.W.Frag) : V → Option Int → Option Int → Hp → VK → Prop := fun x lo hi H Q => ∃ a xs, x = .ref a ∧ NdT H a xs ∧
  (HT.sIx xs.length 0 lo = 0 ∧ HT.sIx xs.length xs.length hi = xs.length → Q (.ref a) H) ∧ (¬ (HT.sIx xs.length 0 lo = 0 ∧ HT.sIx xs.length xs.length hi = xs.length) → NewT Q H (cutV xs lo hi))
theorem sl_tupN {X : Cx} : SlR X (rSlN X.K) := by
  intro pins s σ H x v vl vu lo hi sl Q I rx hs pl pu h
  obtain ⟨a, xs, rfl, hx, q1, q2⟩ := h
  cases rx
  obtain ⟨its, r, ht, hz⟩ := I.tuple (hx.sq (K := X.K))
  have hlen : its.toArray.size = xs.length := by rw [List.size_toArray]; exact r.length.symm
  by_cases hw : HT.sIx xs.length 0 lo = 0 ∧ HT.sIx xs.length xs.length hi = xs.length
  · refine ⟨"tuple", _, PyProof.Rows.slot_tuple_getitem.lookup, ht.typeIs, ?_⟩
    exact getItem_tuple_whole ht hs pl pu (by rw [hlen]; exact hw) ⟨.ref a, H, I, rfl, q1 hw⟩
  · refine ⟨"tuple", _, PyProof.Rows.slot_tuple_getitem.lookup, ht.typeIs, ?_⟩
    refine HT.getItem_tuple_cut ht hs pl pu (by rw [hlen]; exact hw) ?_ (by rw [hlen]; exact hz)
    rw [hlen]
    exact ⟨.ref s.heap.objs.size, _, Inv.newT I (Nat.le_trans (cutV_length xs lo hi) hz) ((r.drop (HT.sIx xs.length 0 lo)).take (HT.sIx xs.length xs.length hi - HT.sIx xs.length 0 lo)), rfl, q2 hw _ _ (I.hok.fresh (Nat.le_refl _)) rfl rfl⟩
theorem call_tupleN {X : Cx} : CallR X (.type "tuple") (fun xs H Q => ∃ p ys, xs = [.ref p] ∧ SqL X.K H p ys ∧ NewT Q H ys) := by
  intro pins s σ H xs us Q I r h
  obtain ⟨p, ys, rfl, hq, q⟩ := h
  obtain ⟨u, rfl, rx⟩ := vals1 r
  cases rx
  obtain ⟨its, r', pl, hz⟩ := I.list hq
  have hlen := r'.length
  refine call_tuple_list pl.isList (fun h' kp => ?_) (by simp only [List.size_toArray] <;> omega)
  have I1 : Inv X pins σ H { s with heap := h' } := I.kept (t' := s.toks) kp
  exact ⟨.ref h'.objs.size, _, Inv.newT I1 hz r', rfl, q _ _ (I1.hok.fresh (Nat.le_refl _)) rfl rfl⟩
theorem Fin.frt {K : PySem.W.Frag} {B H : Hp} {L : MS} {P : DK} {Q : VK} {xs : List Dt} {vs : List V} (q : Fin K B P Q) (hl : Hs K B L H) (p : P (.frt xs) L) (i : IsL K B xs vs) : NewT Q H vs := fun a o ha hd hc => by
  obtain ⟨sb, h2⟩ := hl.new (o := .frz o (.tup vs)) ha
  exact q (.frt xs) L _ _ _ p sb h2 (frt_is ⟨o, upd_same, hd, hc⟩ (i.mono sb))
section
variable {X : Cx} {K : PySem.W.Frag} {a b e o : Expr} {ds : DS} {L : MS} {P : DK} {PB : Bool → MS → Prop} {pos p apos cpos : Pos}
def catNK : K2 := fun x y L P => ∃ xs ys, x = .frt xs ∧ y = .frt ys ∧ xs.length + ys.length ≤ sizeLine ∧ P (.frt (xs ++ ys)) L
theorem kr_catN : KR2 K (rCatN K) catNK := by
  intro B H L x y v u Q P hl ix iy hk q
  obtain ⟨xs, ys, rfl, rfl, hz, p⟩ := hk
  obtain ⟨a, vs, rfl, ha, ia⟩ := frt_inv ix
  obtain ⟨b, us, rfl, hb, ib⟩ := frt_inv iy
  refine ⟨a, b, vs, us, rfl, rfl, ha.mono hl.sub, hb.mono hl.sub, by rw [ia.length, ib.length]; exact hz, fun e => ?_, fun _ e => ?_, fun _ _ => Fin.frt q hl p (ia.append ib)⟩
  · rw [ia.nil_iff.mp e] at p
    exact Fin.here q hl p (frt_is hb ib)
  · rw [ib.nil_iff.mp e, List.append_nil] at p
    exact Fin.here q hl p (frt_is ha ia)
theorem dp_catN (h : DP X a ds L fun x L1 => DP X b ds L1 fun y L2 => catNK x y L2 P) : DP X (.BinOp a .Add b pos) ds L P := dp_bin op_catN kr_catN h
theorem dp_sliceN {lo hi : Option Expr} {p2 : Pos} (h : DP X e ds L fun x L1 => DO X lo ds L1 fun l L2 => DO X hi ds L2 fun u L3 => ∃ xs, x = .frt xs ∧ P (.frt (cutL xs l u)) L3) : DP X (.Subscript e (.Slice lo hi none p2) pos) ds L P := .mk fun σ H B hs hl Q q => by
  have po : ∀ e : Option Expr, PO X e (match e with | none => tNoPart | some e => tPart (EW X e)) := fun e => match e with
    | none => po_none
    | some e => po_some pe_w
  have dof : ∀ (e : Option Expr) (P1 : Option Int → MS → Prop) (σ : L2.St) (H : Hp) (B : Hp) (L : MS) (Q1 : Option Int → Hp → Prop), Sl X.K B ds σ → Hs X.K B L H → DO X e ds L P1 →
      (∀ o L' B2 H2, P1 o L' → Same B B2 → Hs X.K B2 L' H2 → Q1 o H2) → (match e with | none => tNoPart | some e => tPart (EW X e)) σ H Q1 := fun e P1 σ H B L Q1 hs hl h q => match e, h with
    | none, h => q none L B H h (Same.refl B) hl
    | some e, h => h.run σ H B hs hl _ fun x L1 v B1 H1 ⟨i, ex, p⟩ e1 hl1 ix => by
      subst ex
      exact ⟨i, ix, q (some i) L1 B1 H1 p e1 hl1⟩
  refine PE.to (pe_slice sl_tupN pe_w (po lo) (po hi)) ?_
  refine h.run σ H B hs hl _ fun x L1 v B1 H1 h1 e1 hl1 ix => ?_
  refine dof lo _ σ H1 B1 L1 _ (hs.mono e1) hl1 h1 fun l L2 B2 H2 h2 e2 hl2 => ?_
  refine dof hi _ σ H2 B2 L2 _ ((hs.mono e1).mono e2) hl2 h2 fun u L3 B3 H3 h3 e3 hl3 => ?_
  have q3 : Fin X.K B3 P Q := fun d L' z B4 H4 p e4 => q d L' z B4 H4 p (((e1.trans e2).trans e3).trans e4)
  obtain ⟨xs, rfl, p⟩ := h3
  obtain ⟨a, vs, rfl, ha, ia⟩ := frt_inv ((ix.mono e2).mono e3)
  refine ⟨a, vs, rfl, ha.mono hl3.sub, fun hw => ?_, fun _ => Fin.frt q3 hl3 p (cut_is ia l u)⟩
  have hw' := hw
  rw [ia.length] at hw'
  rw [cutL_all _ _ _ hw'] at p
  exact Fin.here q3 hl3 p (frt_is ha ia)
def tupNK : KC := fun xs L P => ∃ ys, xs = [.lst ys] ∧ P (.frt ys) L
theorem kc_tupN : KRC K (fun xs H Q => ∃ p ys, xs = [V.ref p] ∧ SqL K H p ys ∧ NewT Q H ys) tupNK := by
  intro B H L xs vs Q P hl ixs hk q
  obtain ⟨ys, rfl, p⟩ := hk
  obtain ⟨v, rfl, a, us, rfl, ha, ia⟩ := ixs.one_inv
  exact ⟨_, us, rfl, SqL.of (hl.sub _ _ ha), Fin.frt q hl p ia⟩
theorem dp_tupleN (hm : X.mg "tuple" = none) (h : DP X e ds L fun x L1 => ∃ ys, x = .lst ys ∧ P (.frt ys) L1) (hg : Gl X "tuple" := by rfl) (hs1 : starEach [e] X.env = (false, eval e X.env) :: starEach [] X.env := by rfl) (hpl : (backTo pos (starEach [] X.env)).any (·.1) = false := by rfl) : DP X (.Call (.Name "tuple" p) [e] [] pos) ds L P :=
  dp_callTy call_tupleN kc_tupN hm (by decide +kernel) (da_cons (DP.imp h fun x L1 ⟨ys, e1, p⟩ => da_nil ⟨ys, by rw [e1], p⟩) hs1) hg (by decide) (by decide) hs1 hpl
/-! ### ns.index(n) -/
def rTIdx (K : PySem.W.Frag) : V → List V → Hp → VK → Prop := fun x xs H Q => ∃ (p : Addr) (ys : List Int) (z : Int) (j : Nat), x = V.ref p ∧ xs = [V.int z] ∧ SqT K H p (ys.map V.int) ∧ ys[j]? = some z ∧ (∀ m, m < j → ys[m]? ≠ some z) ∧ Q (.int (j : Nat)) H
theorem mt_tup_indexI : MtR X "tuple.index" (rTIdx X.K) := by
  intro pins s σ H x xs v us Q I rx rs h
  obtain ⟨p, ys, z, j, rfl, rfl, hq, hy, hno, q⟩ := h
  cases rx
  obtain ⟨u, rfl, t, rfl⟩ := vals1 rs
  obtain ⟨its, r, pl, hz⟩ := I.tuple hq
  obtain ⟨⟨cls, dd, dt, sl⟩, ho, hc, n, hd⟩ := pl
  simp only at hc hd
  subst hc
  subst hd
  have hl : its.toArray.size = ys.length := by rw [List.size_toArray, ← r.length, List.length_map]
  have hj : j < its.toArray.size := by rw [hl]; exact (List.getElem?_eq_some_iff.mp hy).1
  have at' : ∀ (m : Nat) (hm : m < its.toArray.size), ∃ y t', ys[m]? = some y ∧ its.toArray[m] = Value.int y t' := fun m hm => by
    have hm' : m < ys.length := by rw [← hl]; exact hm
    obtain ⟨w, hw, t', hw'⟩ := r.get (i := m) (x := .int ys[m]) (by simp [hm'])
    refine ⟨ys[m], t', List.getElem?_eq_getElem hm', ?_⟩
    have e := (List.getElem?_eq_some_iff.mp hw).2
    rw [← hw', ← e]
    simp
  have eq' : ∀ (y : Int) (t' : Tok), eqU (.int z) (Value.int y t') = (y == z) := fun y t' => (eqU_of (x := .int z) (y := .int y) ⟨t', rfl⟩ rfl).trans rfl
  refine call_meets PySem.F.slot_tuple_index ⟨_, ho, rfl⟩ PySem.F.entry_tuple_index (PySem.F.args_tuple_index_2 _ _) (TI.tuple_indexAt p its.toArray n dd sl (.int z t) (eqU (.int z)) j hj ?_ ?_)
    ⟨ho, fun w hw => mem_eqAt (x := .int z) ⟨t, rfl⟩ rfl r (flat_ints ys) w (by simpa using hw), ⟨.int (j : Nat), H, I.tok _, ⟨_, rfl⟩, q⟩⟩
  · obtain ⟨y, t', h1, h2⟩ := at' j hj
    rw [hy] at h1
    cases h1
    rw [h2, eq']
    exact beq_self_eq_true z
  · intro m hm hmj
    obtain ⟨y, t', h1, h2⟩ := at' m hm
    rw [h2, eq']
    have : y ≠ z := fun e => hno m hmj (by rw [h1, e])
    exact beq_eq_false_iff_ne.mpr this
/-- a method of such a tuple -/
theorem pe_tm {name : Str} {id : String} {es : List Expr} {to : TE} {t : TA} {r : V → List V → Hp → VK → Prop} (pa : PlainAttrs "tuple") (slot : Slot "tuple" name id) (hty : typeOf (.builtin id) = pure (.type "method_descriptor")) (hm : MtR X id r) (ho : PE X o to) (ha : PA X (e :: es) t)
    (hbase : attributeBase o name X.env (eval o X.env) = eval o X.env := by rfl)
    (hfew : ((backTo cpos (starEach (e :: es) X.env)).all (fun x => !x.1) && (backToKw cpos (keywordEach [] X.env)).all (fun x => x.1.isSome)
      && decide ((e :: es).length + ([] : List Keyword).length + (if ([] : List Keyword).isEmpty then 0 else 1) < 30)) = true := by rfl)
    (hline : (apos.endLine == cpos.line) = true := by rfl) (hs : starEach (e :: es) X.env = (false, eval e X.env) :: starEach es X.env := by rfl) (hplain : (backTo cpos (starEach es X.env)).any (·.1) = false := by rfl) :
    PE X (.Call (.Attribute o name apos) (e :: es) [] cpos) (fun σ H Q => to σ H fun x H1 => (∃ a xs, x = V.ref a ∧ NdT H1 a xs) ∧ t σ H1 fun ys H2 => r x ys H2 Q) := by
  refine ⟨fun pins s σ H Q I h => ?_⟩
  refine wpAny_Call_method_late hbase hfew hline rfl (thn (ho.run pins s σ H _ I h) fun v s1 ⟨x, H1, I1, r1, ⟨a, xs, ex, hnd⟩, q1⟩ => ?_)
  subst ex
  obtain rfl : v = Value.ref a := r1
  obtain ⟨h1, h2⟩ := Inv.isT I1 hnd
  refine ⟨"tuple", id, pa, slot, hty, h1, fun a' e => by cases e; exact h2, ?_⟩
  have hA := ha.run cpos pins s1 σ H1 _ I1 q1
  rw [hs] at hA ⊢
  refine Calls.callWith_builtin (by show (false || (backTo cpos (starEach es X.env)).any (·.1)) = false; rw [hplain] <;> rfl) (Calls.evalArgs_plain ?_)
  exact thn hA fun us s2 ⟨vs, H2, I2, r2, q2⟩ => hm pins s2 σ H2 (.ref a) vs (.ref a) us Q I2 rfl r2 q2
theorem dp_tindex (h : DP X o ds L fun x L1 => ∃ ns : List Int, x = .frt (ns.map Dt.int) ∧ DP X e ds L1 fun d L2 => ∃ (z : Int) (j : Nat), d = .int z ∧ ns[j]? = some z ∧ (∀ m, m < j → ns[m]? ≠ some z) ∧ P (.int (j : Nat)) L2)
    (hbase : attributeBase o "index" X.env (eval o X.env) = eval o X.env := by rfl)
    (hfew : ((backTo cpos (starEach [e] X.env)).all (fun x => !x.1) && (backToKw cpos (keywordEach [] X.env)).all (fun x => x.1.isSome)
      && decide ([e].length + ([] : List Keyword).length + (if ([] : List Keyword).isEmpty then 0 else 1) < 30)) = true := by rfl)
    (hline : (apos.endLine == cpos.line) = true := by rfl) (hs1 : starEach [e] X.env = (false, eval e X.env) :: starEach [] X.env := by rfl) (hplain : (backTo cpos (starEach [] X.env)).any (·.1) = false := by rfl) : DP X (.Call (.Attribute o "index" apos) [e] [] cpos) ds L P := .mk fun σ H B hs hl Q q =>
  PE.to (pe_tm PySem.F.plainAttrs_tuple PySem.F.slot_tuple_index PySem.F.type_tuple_index mt_tup_indexI pe_w (pa_cons (hs := hs1) pe_w pa_nil) hbase hfew hline hs1 hplain) (h.run σ H B hs hl _ fun x L1 v B1 H1 h1 e1 hl1 ix => by
    obtain ⟨ns, rfl, h2⟩ := h1
    obtain ⟨a, us, rfl, ha, ia⟩ := frt_inv ix
    have eu := ia.ints
    subst eu
    refine ⟨⟨a, _, rfl, ha.mono hl1.sub⟩, h2.run σ H1 B1 (hs.mono e1) hl1 _ fun d L2 u B2 H2 h3 e2 hl2 iu => ?_⟩
    obtain ⟨z, j, rfl, hj, hno, p⟩ := h3
    obtain rfl : u = V.int z := iu
    exact ⟨a, ns, z, j, rfl, rfl, ((ha.mono e2).mono hl2.sub).sq, hj, hno, q _ L2 _ B2 H2 p (e1.trans e2) hl2 rfl⟩)
/-! ### ns == (), sorted(set(ns)) -/
theorem okE_ints (l : List Int) : ∀ x ∈ l.map Dt.int, okE 0 x := fun x hx => by
  obtain ⟨i, _, rfl⟩ := List.mem_map.mp hx
  trivial
theorem frt_dp {B H : Hp} {ns : List Int} {v : V} (sb : Same B H) (i : Is K B (.frt (ns.map Dt.int)) v) : Dp K H v (pd (.tup (ns.map Dt.int))) := by
  obtain ⟨a, vs, rfl, ha, ia⟩ := frt_inv i
  rw [pd]
  exact .tup (ha.mono sb).sq (okE_dpL sb (okE_ints ns) ia)
theorem okE_tupI (ns : List Int) : OkE (.tup (ns.map Dt.int)) := ⟨1, by decide, okE_ints ns⟩
def eqNK : K2 := fun x y L P => ∃ (ns ms : List Int), x = .frt (ns.map Dt.int) ∧ y = .tup (ms.map Dt.int) ∧ ∀ b, (b = true ↔ ns = ms) → P (.bl b) L
theorem ints_inj {a b : List Int} (h : a.map Dt.int = b.map Dt.int) : a = b := List.map_inj_right (fun _ _ => Dt.int.inj) |>.mp h
theorem kr_eqN : KR2 K (rEqD K) eqNK := by
  intro B H L x y v u Q P hl ix iy hk q
  obtain ⟨ns, ms, rfl, rfl, p⟩ := hk
  have h2 := okE_tupI ms
  refine ⟨_, _, frt_dp hl.sub ix, h2.dp hl.sub iy, (okE_tupI ns).shaped, h2.shaped, Fin.here q hl (p _ ?_) rfl⟩
  rw [OkE.eqv (okE_tupI ns) h2]
  exact ⟨fun e => ints_inj (Dt.tup.inj e), fun e => by rw [e]⟩
/-- ns == (..), ns without a dict -/
theorem dt_eqN {k : Nat} (hr : Room k X.A) (h : DP X a ds L fun x L1 => DP X b ds L1 fun y L2 => eqNK x y L2 fun d L3 => ∃ c, d = .bl c ∧ PB c L3) : DT X (.Compare a [.Eq] [b] pos) ds L PB := dt_cmp (op_eqD hr.units) kr_eqN h
theorem dp_sortSetN {p2 pos2 : Pos} (hm : X.mg "sorted" = none) (hm2 : X.mg "set" = none) (h : DP X e ds L fun d L1 => ∃ ns : List Int, d = .frt (ns.map Dt.int) ∧ ns.length < 60 ∧ ∀ ms : List Int, ms.Pairwise (· < ·) → (∀ k : Int, k ∈ ms ↔ k ∈ ns) → P (.lst (ms.map Dt.int)) L1) (hc : X.calm = true := by rfl) (hg : Gl X "sorted" := by rfl) (hg2 : Gl X "set" := by rfl)
    (he : starEach [.Call (.Name "set" p2) [e] [] pos2] X.env = (false, eval (.Call (.Name "set" p2) [e] [] pos2) X.env) :: starEach [] X.env := by rfl) (hpl : (backTo pos (starEach [] X.env)).any (·.1) = false := by rfl)
    (he2 : starEach [e] X.env = (false, eval e X.env) :: starEach [] X.env := by rfl) (hpl2 : (backTo pos2 (starEach [] X.env)).any (·.1) = false := by rfl) : DP X (.Call (.Name "sorted" p) [.Call (.Name "set" p2) [e] [] pos2] [] pos) ds L P := .mk fun σ H B hs hl Q q =>
  PE.to (pe_callB (cr_sortedSet hc) hg hm (by decide +kernel) (pa_cons (hs := he) (pe_callTy (cr_setTI hc) hg2 hm2 (by decide +kernel) (pa_cons (hs := he2) pe_w pa_nil) (by decide) (by decide) he2 hpl2) pa_nil) (he := he) (hpl := hpl)) (h.run σ H B hs hl _ fun d L1 v B1 H1 h1 e1 hl1 iv => by
    obtain ⟨ns, rfl, hn, hp⟩ := h1
    obtain ⟨l, us, rfl, ha, ia⟩ := frt_inv iv
    have hus := ia.ints
    subst hus
    refine ⟨l, ns, rfl, (ha.mono hl1.sub).sq, hn, fun p c hp0 hcn => ?_⟩
    obtain ⟨sb, hl2⟩ := hl1.new (o := SetO X.w p (fun j => decide (j ∈ ns)) c) hp0
    refine ⟨p, _, c, rfl, upd_same, by omega, fun ms z hpw hmem hlen hz => ?_⟩
    exact Fin.lst (fun d L2 z2 B2 H2 p2 e2 => q d L2 z2 B2 H2 p2 ((e1.trans sb).trans e2)) hl2 (hp ms hpw fun k => (hmem k).trans (by simp)) IsL.of_ints hz)
/-! ### a key with such a tuple -/
theorem keyD_N (cs : List Int) (b e : Int) (ks : List NestedKey) (hk : ks = [.tup (cs.map .num), .num b, .num e]) (hd : (NestedKey.tup ks).depth ≤ 8) : KeyD (.tup [.frt (cs.map Dt.int), .int b, .int e]) ks := fun K B v i => by
  subst hk
  obtain ⟨a, vs, rfl, h1, v1, r1, rfl, i1, v2, r2, rfl, i2, v3, r3, rfl, i3, i4⟩ := i
  obtain ⟨c, us, rfl, ⟨oc, hc, _, _⟩, ic⟩ := frt_inv i1
  have eu := ic.ints
  subst eu
  obtain rfl : v2 = V.int b := i2
  obtain rfl : v3 = V.int e := i3
  obtain rfl : r3 = [] := i4
  refine ⟨a, rfl, hd, fun Pr w H h sb ok => ?_⟩
  obtain ⟨_, its, r, o, e1, e2, n, e3⟩ := (show ObjOk Pr w H h a (.tup _) from ok a _ (sb _ _ h1))
  refine .tup e1 e2 e3 ?_
  rw [List.toList_toArray]
  cases r with
  | cons ra r =>
    cases r with
    | cons rb r =>
      cases r with
      | cons rc r =>
        cases r
        obtain rfl : _ = Value.ref c := ra
        obtain ⟨tb, rfl⟩ := rb
        obtain ⟨tc, rfl⟩ := rc
        refine .cons ?_ (.cons (.int b tb) (.cons (.int e tc) .nil))
        obtain ⟨_, _, its2, q, o2, f1, f2, n2, f3⟩ := (show ObjOk Pr w H h c (.frz oc (.tup _)) from ok c _ (sb _ _ hc))
        refine .tup f1 f2 f3 ?_
        rw [List.toList_toArray]
        have all : ∀ {cs : List Int} {us : List Value}, Vals (cs.map V.int) us → NestedAll h (cs.map .num) us := fun {cs} => by
          induction cs with
          | nil => intro us q; cases q; exact .nil
          | cons x cs ih =>
            intro us q
            cases q with
            | cons q1 q2 =>
              obtain ⟨t, rfl⟩ := q1
              exact .cons (.int x t) (ih q2)
        exact all q
end
end Z
/-! sorted(tuple of ints) -/
namespace Z
open PySem PySem.Spec PyProof.Rows L2
def rSortTA (K : PySem.W.Frag) : List V → Hp → VK → Prop := fun vs H Q => ∃ (a : Addr) (ns : List Int), vs = [V.ref a] ∧ SqT K H a (ns.map V.int) ∧
  ∀ (ns' : List Int) (p : Addr), ns'.Perm ns → ns'.Pairwise (· ≤ ·) → H p = none → Q (.ref p) (upd H p (.lst (ns'.map V.int)))
theorem cr_sortTA {X : Cx} : CallR X (.builtin "sorted") (rSortTA X.K) := by
  intro pins s σ H vs us Q I r h
  obtain ⟨a, ns, rfl, hs, q⟩ := h
  obtain rfl := Vals.ref1 r
  obtain ⟨its, rv, ⟨o, ho, hc, n, hd⟩, hz⟩ := I.tuple hs
  have hi := rv.ints
  have hzi : its.length ≤ sizeLine := by rw [← rv.length]; exact hz
  refine sortC (ltv := fun _ => SrtO.ltIv) (wpAny_collect_seq a (.inr rfl) ho hc hd (fun h1 kp => ?_) (by rw [List.size_toArray]; exact hzi)) (args_sorted1 _)
  rw [List.toList_toArray]
  refine ⟨hzi, SrtO.swo_int, fun h2 h₁ a' _ _ => SrtO.ints_sortable hi h2, fun out h' o1 o2 nl => ?_⟩
  obtain ⟨ns', k1, k2, k3⟩ := SrtR.ints_outR (b := false) hi o1 o2
  have J : Inv X pins σ H { s with heap := h1 } := I.kept (t' := s.toks) kp
  obtain ⟨ep, he'⟩ := nl.at'
  have hlen : (ns'.map V.int).length ≤ sizeLine := by
    rw [List.length_map, k2.length_eq]
    rw [List.length_map] at hz
    exact hz
  exact ⟨.ref _, upd H h1.objs.size (.lst (ns'.map V.int)), J.laid (t' := s.toks) (fun _ _ e => nl.keep _ _ e) (Nat.le_refl _) ⟨hlen, _, ep, vals_of_ints k1, by simpa using he'⟩, rfl, q _ _ k2 k3 (J.hok.fresh (Nat.le_refl _))⟩
section
variable {X : Cx} {e : Expr} {ds : DS} {L : MS} {P : DK} {pos p : Pos}
theorem dp_sortTA (hm : X.mg "sorted" = none) (h : DP X e ds L fun x L1 => ∃ ns : List Int, x = .tup (ns.map Dt.int) ∧ ∀ ns' : List Int, ns'.Perm ns → ns'.Pairwise (· ≤ ·) → P (.lst (ns'.map Dt.int)) L1) (hg : Gl X "sorted" := by rfl)
    (he : starEach (e :: []) X.env = (false, eval e X.env) :: starEach [] X.env := by rfl) (hpl : (backTo pos (starEach [] X.env)).any (·.1) = false := by rfl) : DP X (.Call (.Name "sorted" p) [e] [] pos) ds L P := .mk fun σ H B hs hl Q q =>
  PE.to (pe_callB cr_sortTA hg hm (by decide +kernel) (pa_cons (hs := he) pe_w pa_nil) (he := he) (hpl := hpl)) (h.run σ H B hs hl _ fun d L1 v B1 H1 h1 e1 hl1 iv => by
    obtain ⟨ns, rfl, p⟩ := h1
    obtain ⟨a, us, rfl, ha, ia⟩ := iv
    have e := ia.ints
    subst e
    exact ⟨a, ns, rfl, SqT.of (hl1.sub _ _ ha), fun ns' l h1 h2 hn => Fin.lst (fun d L' z B2 H2 p2 e2 => q d L' z B2 H2 p2 (e1.trans e2)) hl1 (p ns' h1 h2) .of_ints hn⟩)
/-- sum(list of ints) -/
theorem dp_sumL (hm : X.mg "sum" = none) (h : DP X e ds L fun x L1 => ∃ ns : List Int, x = .lst (ns.map Dt.int) ∧ P (.int ns.sum) L1) (hc : X.calm = true := by rfl) (hg : Gl X "sum" := by rfl)
    (he : starEach (e :: []) X.env = (false, eval e X.env) :: starEach [] X.env := by rfl) (hpl : (backTo pos (starEach [] X.env)).any (·.1) = false := by rfl) : DP X (.Call (.Name "sum" p) [e] [] pos) ds L P := .mk fun σ H B hs hl Q q =>
  PE.to (pe_callB (cr_sum hc) hg hm (by decide +kernel) (pa_cons (hs := he) pe_w pa_nil) (he := he) (hpl := hpl)) (h.run σ H B hs hl _ fun d L1 v B1 H1 h1 e1 hl1 iv => by
    obtain ⟨ns, rfl, p⟩ := h1
    obtain ⟨a, us, rfl, ha, ia⟩ := iv
    have e := ia.ints
    subst e
    exact ⟨a, ns, rfl, SqL.of (hl1.sub _ _ ha), q (.int ns.sum) L1 _ B1 H1 p e1 hl1 rfl⟩)
end
end Z
/-! tuples of texts in order -/
namespace Z
open PySem PySem.Spec PyProof.Rows L2
abbrev sOf (l : List Nat) : Str := ⟨l.toArray⟩
def ltB : List (List Nat) → List (List Nat) → Bool
  | [], [] => false
  | [], _ :: _ => true
  | _ :: _, [] => false
  | x :: a, y :: b => if x = y then ltB a b else decide (x < y)
def leB : List (List Nat) → List (List Nat) → Bool
  | [], _ => true
  | _ :: _, [] => false
  | x :: a, y :: b => if x = y then leB a b else !decide (y < x)
theorem lex_lt (xs ys : List (List Nat)) : ∀ (k i : Nat), min xs.length ys.length = i + k → Ob.lexAt (fun j => decide (xs.getD j [] = ys.getD j [])) (fun j => decide (xs.getD j [] < ys.getD j [])) (decide (xs.length < ys.length)) i k = ltB (xs.drop i) (ys.drop i)
  | 0, i, h => by
    rw [Ob.lexAt_zero]
    by_cases h1 : xs.length < ys.length
    · rw [decide_eq_true h1, List.drop_of_length_le (by omega : xs.length ≤ i), List.drop_eq_getElem_cons (by omega : i < ys.length)]
      rfl
    · rw [decide_eq_false h1, List.drop_of_length_le (by omega : ys.length ≤ i)]
      cases xs.drop i <;> rfl
  | k + 1, i, h => by
    have h1 : i < xs.length := by omega
    have h2 : i < ys.length := by omega
    have g1 : xs.getD i [] = xs[i] := by rw [List.getD_eq_getElem?_getD, List.getElem?_eq_getElem h1]; rfl
    have g2 : ys.getD i [] = ys[i] := by rw [List.getD_eq_getElem?_getD, List.getElem?_eq_getElem h2]; rfl
    rw [Ob.lexAt_succ, lex_lt xs ys k (i + 1) (by omega), List.drop_eq_getElem_cons h1, List.drop_eq_getElem_cons h2]
    show (if decide (xs.getD i [] = ys.getD i []) = true then _ else decide (xs.getD i [] < ys.getD i [])) = if xs[i] = ys[i] then _ else decide (xs[i] < ys[i])
    rw [g1, g2]
    by_cases q : xs[i] = ys[i]
    · rw [if_pos (decide_eq_true q), if_pos q]
    · rw [if_neg (by simp [q]), if_neg q]
theorem lex_le (xs ys : List (List Nat)) : ∀ (k i : Nat), min xs.length ys.length = i + k → Ob.lexAt (fun j => decide (xs.getD j [] = ys.getD j [])) (fun j => !decide (ys.getD j [] < xs.getD j [])) (decide (xs.length ≤ ys.length)) i k = leB (xs.drop i) (ys.drop i)
  | 0, i, h => by
    rw [Ob.lexAt_zero]
    by_cases h1 : xs.length ≤ ys.length
    · rw [decide_eq_true h1, List.drop_of_length_le (by omega : xs.length ≤ i)]
      rfl
    · rw [decide_eq_false h1, List.drop_of_length_le (by omega : ys.length ≤ i), List.drop_eq_getElem_cons (by omega : i < xs.length)]
      rfl
  | k + 1, i, h => by
    have h1 : i < xs.length := by omega
    have h2 : i < ys.length := by omega
    have g1 : xs.getD i [] = xs[i] := by rw [List.getD_eq_getElem?_getD, List.getElem?_eq_getElem h1]; rfl
    have g2 : ys.getD i [] = ys[i] := by rw [List.getD_eq_getElem?_getD, List.getElem?_eq_getElem h2]; rfl
    rw [Ob.lexAt_succ, lex_le xs ys k (i + 1) (by omega), List.drop_eq_getElem_cons h1, List.drop_eq_getElem_cons h2]
    show (if decide (xs.getD i [] = ys.getD i []) = true then _ else !decide (ys.getD i [] < xs.getD i [])) = if xs[i] = ys[i] then _ else !decide (ys[i] < xs[i])
    rw [g1, g2]
    by_cases q : xs[i] = ys[i]
    · rw [if_pos (decide_eq_true q), if_pos q]
    · rw [if_neg (by simp [q]), if_neg q]
def rCmpX (K : PySem.W.Frag) (f : List (List Nat) → List (List Nat) → Bool) : R2 := fun x y H Q => ∃ (a b : Addr) (ss us : List (List Nat)), x = .ref a ∧ y = .ref b ∧ SqT K H a (ss.map fun l => V.str (sOf l)) ∧ SqT K H b (us.map fun l => V.str (sOf l)) ∧ Q (.bl (f ss us)) H
theorem txt_at {ss : List (List Nat)} {its : List Value} (r : Vals (ss.map fun l => V.str (sOf l)) its) : ∀ (j : Nat) (h1 : j < its.toArray.size), ∃ t, its.toArray[j] = .str (sOf (ss.getD j [])) t := fun j h1 => by
  have hl : its.toArray.size = ss.length := by rw [List.size_toArray, ← r.length, List.length_map]
  have hj : j < ss.length := by omega
  obtain ⟨w, hw, t, e⟩ := r.get (i := j) (x := .str (sOf ss[j])) (by simp [hj])
  refine ⟨t, ?_⟩
  have g1 : ss.getD j [] = ss[j] := by rw [List.getD_eq_getElem?_getD, List.getElem?_eq_getElem hj]; rfl
  rw [g1]
  have e2 := (List.getElem?_eq_some_iff.mp hw).2
  rw [← e, ← e2]
  simp
theorem sOf_beq (x y : List Nat) : ((sOf x) == (sOf y)) = decide (x = y) := by
  by_cases q : x = y
  · subst q
    rw [decide_eq_true rfl]
    exact beq_self_eq_true _
  · rw [decide_eq_false q]
    exact beq_eq_false_iff_ne.mpr fun e => q (by
      have e := congrArg (fun s : Str => s.cps.toList) e
      simpa using e)
theorem op_ltX {X : Cx} (hu : X.A.units < cLine) : OpR X (compareOp .Lt) (rCmpX X.K ltB) := by
  intro pins s σ H x y v u Q I rx ry h
  obtain ⟨a, b, ss, us, rfl, rfl, ha, hb, q⟩ := h
  cases rx
  cases ry
  obtain ⟨its, r1, p1, _⟩ := I.tuple ha
  obtain ⟨its2, r2, p2, _⟩ := I.tuple hb
  have e1 : its.toArray.size = ss.length := by rw [List.size_toArray, ← r1.length, List.length_map]
  have e2 : its2.toArray.size = us.length := by rw [List.size_toArray, ← r2.length, List.length_map]
  have R := Ob.RcOp.tuples_lt (A := X.A) (s := s) (e := fun j => decide (ss.getD j [] = us.getD j [])) (r := fun j => decide (ss.getD j [] < us.getD j [])) p1 p2 hu (fun j h1 h2 => by
    obtain ⟨t, et⟩ := txt_at r1 j h1
    obtain ⟨t', et'⟩ := txt_at r2 j h2
    rw [et, et', ← sOf_beq]
    exact SeqAt.EqAt.str_str _ _ _ _) (fun j h1 h2 _ => by
    obtain ⟨t, et⟩ := txt_at r1 j h1
    obtain ⟨t', et'⟩ := txt_at r2 j h2
    rw [et, et']
    exact fun _ _ _ _ h => PyProof.Rows.lt_str (by simpa using h))
  rw [e1, e2, lex_lt ss us _ 0 (by omega), List.drop_zero, List.drop_zero] at R
  have z : wpAny (model X.prog X.w) X.A (compareOp .Lt (.ref a) (.ref b)) (EP X pins σ Q) X.xe s := R X.prog X.w X.xe (EP X pins σ Q) ⟨.bl _, H, I, rfl, q⟩
  exact z
theorem op_leX {X : Cx} (hu : X.A.units < cLine) : OpR X (compareOp .LtE) (rCmpX X.K leB) := by
  intro pins s σ H x y v u Q I rx ry h
  obtain ⟨a, b, ss, us, rfl, rfl, ha, hb, q⟩ := h
  cases rx
  cases ry
  obtain ⟨its, r1, p1, _⟩ := I.tuple ha
  obtain ⟨its2, r2, p2, _⟩ := I.tuple hb
  have e1 : its.toArray.size = ss.length := by rw [List.size_toArray, ← r1.length, List.length_map]
  have e2 : its2.toArray.size = us.length := by rw [List.size_toArray, ← r2.length, List.length_map]
  have R := Ob.RcOp.tuples_le (A := X.A) (s := s) (e := fun j => decide (ss.getD j [] = us.getD j [])) (r := fun j => !decide (us.getD j [] < ss.getD j [])) p1 p2 hu (fun j h1 h2 => by
    obtain ⟨t, et⟩ := txt_at r1 j h1
    obtain ⟨t', et'⟩ := txt_at r2 j h2
    rw [et, et', ← sOf_beq]
    exact SeqAt.EqAt.str_str _ _ _ _) (fun j h1 h2 _ => by
    obtain ⟨t, et⟩ := txt_at r1 j h1
    obtain ⟨t', et'⟩ := txt_at r2 j h2
    rw [et, et']
    exact fun _ _ _ _ h => PySem.P.le_str (by simpa using h))
  rw [e1, e2, lex_le ss us _ 0 (by omega), List.drop_zero, List.drop_zero] at R
  have z : wpAny (model X.prog X.w) X.A (compareOp .LtE (.ref a) (.ref b)) (EP X pins σ Q) X.xe s := R X.prog X.w X.xe (EP X pins σ Q) ⟨.bl _, H, I, rfl, q⟩
  exact z
section
variable {X : Cx} {K : PySem.W.Frag} {a b : Expr} {ds : DS} {L : MS} {P : DK} {PB : Bool → MS → Prop} {pos : Pos} {k : Nat}
theorem isL_txts {B : Hp} : ∀ {t : List (List Nat)} {vs : List V}, IsL K B (t.map Dt.str) vs → vs = t.map fun l => V.str (sOf l)
  | [], _, h => h
  | l :: t, _, ⟨v, r, e, i1, i2⟩ => by
    have i1 : v = V.str (sOf l) := i1
    rw [e, i1, isL_txts i2]
    rfl
def cmpXK (f : List (List Nat) → List (List Nat) → Bool) : K2 := fun x y L P => ∃ t u : List (List Nat), x = .tup (t.map Dt.str) ∧ y = .tup (u.map Dt.str) ∧ P (.bl (f t u)) L
theorem kr_cmpX {f : List (List Nat) → List (List Nat) → Bool} : KR2 K (rCmpX K f) (cmpXK f) := by
  intro B H L x y v u Q P hl ix iy hk q
  obtain ⟨t, s, rfl, rfl, p⟩ := hk
  obtain ⟨a, vs, rfl, ha, ia⟩ := ix
  obtain ⟨b, us, rfl, hb, ib⟩ := iy
  have e1 := isL_txts ia
  have e2 := isL_txts ib
  subst e1 e2
  exact ⟨a, b, t, s, rfl, rfl, SqT.of (hl.sub _ _ ha), SqT.of (hl.sub _ _ hb), Fin.here q hl p rfl⟩
theorem dp_ltX (hr : Room k X.A) (h : DP X a ds L fun x L1 => DP X b ds L1 fun y L2 => cmpXK ltB x y L2 P) : DP X (.Compare a [.Lt] [b] pos) ds L P := dp_cmp (op_ltX (show X.A.units < cLine by have := hr.un; omega)) kr_cmpX h
theorem dt_leX (hr : Room k X.A) (h : DP X a ds L fun x L1 => DP X b ds L1 fun y L2 => cmpXK leB x y L2 fun d L3 => ∃ c, d = .bl c ∧ PB c L3) : DT X (.Compare a [.LtE] [b] pos) ds L PB := dt_cmp (op_leX (show X.A.units < cLine by have := hr.un; omega)) kr_cmpX h
end
end Z
/-! sorted(list of texts), of any length -/
namespace Z
open PySem PySem.Spec PyProof.Rows L2
def rSortLT (K : PySem.W.Frag) : List V → Hp → VK → Prop := fun vs H Q => ∃ (a : Addr) (ss : List Str), vs = [V.ref a] ∧ SqL K H a (ss.map V.str) ∧ ∀ (ss' : List Str) (p : Addr), ss'.Perm ss → sortedS ss' = true → H p = none → Q (.ref p) (upd H p (.lst (ss'.map V.str)))
theorem cr_sortLT {X : Cx} : CallR X (.builtin "sorted") (rSortLT X.K) := by
  intro pins s σ H vs us Q I r h
  obtain ⟨a, ss, rfl, hs, q⟩ := h
  obtain rfl := Vals.ref1 r
  obtain ⟨its, rv, ⟨o, n, ho, hc, _, hd⟩, hz⟩ := I.list hs
  have hi : StrsAre its ss := Vals.strs rv
  have hzi : its.length ≤ sizeLine := by rw [← rv.length]; exact hz
  refine sortCS ss (wpAny_collect_seq a (.inl rfl) ho hc hd (fun h1 kp => ?_) (by rw [List.size_toArray]; exact hzi)) (args_sorted1 _)
  rw [List.toList_toArray]
  refine ⟨hzi, hi, fun out ss' h' k1 k2 k3 nl => ?_⟩
  have J : Inv X pins σ H { s with heap := h1 } := I.kept (t' := s.toks) kp
  obtain ⟨ep, he'⟩ := nl.at'
  have hlen : (ss'.map V.str).length ≤ sizeLine := by
    rw [List.length_map, k2.length_eq]
    rw [List.length_map] at hz
    exact hz
  exact ⟨.ref _, upd H h1.objs.size (.lst (ss'.map V.str)), J.laid (t' := s.toks) (fun _ _ e => nl.keep _ _ e) (Nat.le_refl _) ⟨hlen, out.toList, ep, strs_vals k1, by simpa using he'⟩, rfl, q _ _ k2 k3 (J.hok.fresh (Nat.le_refl _))⟩
/-! the order -/
theorem ltC_irr : ∀ a : List Nat, ltCps a a = false
  | [] => rfl
  | x :: a => by simp [ltCps, ltC_irr a]
theorem ltC_trans : ∀ {a b c : List Nat}, ltCps b a = false → ltCps c b = false → ltCps c a = false
  | _, _, [], h1, h2 => by
    rename_i a b
    cases b with
    | nil =>
      cases a with
      | nil => rfl
      | cons _ _ => simp [ltCps] at h1
    | cons _ _ => simp [ltCps] at h2
  | [], _, _ :: _, _, _ => rfl
  | x :: a, [], _ :: _, h1, _ => by simp [ltCps] at h1
  | x :: a, y :: b, z :: c, h1, h2 => by
    simp only [ltCps, Bool.or_eq_false_iff, Bool.and_eq_false_iff, decide_eq_false_iff_not, beq_eq_false_iff_ne, ne_eq] at h1 h2 ⊢
    obtain ⟨p1, p2⟩ := h1
    obtain ⟨q1, q2⟩ := h2
    refine ⟨by omega, ?_⟩
    by_cases e : z = x
    · right
      have e1 : y = x := by omega
      have e2 : z = y := by omega
      exact ltC_trans (p2.resolve_left (fun n => n e1)) (q2.resolve_left fun n => n e2)
    · exact .inl e
theorem ltC_anti : ∀ {a b : List Nat}, ltCps b a = false → ltCps a b = false → a = b
  | [], [], _, _ => rfl
  | [], _ :: _, _, h => by simp [ltCps] at h
  | _ :: _, [], h, _ => by simp [ltCps] at h
  | x :: a, y :: b, h1, h2 => by
    simp only [ltCps, Bool.or_eq_false_iff, Bool.and_eq_false_iff, decide_eq_false_iff_not, beq_eq_false_iff_ne, ne_eq] at h1 h2
    obtain ⟨p1, p2⟩ := h1
    obtain ⟨q1, q2⟩ := h2
    have e : x = y := by omega
    rw [e, ltC_anti (p2.resolve_left fun n => n e.symm) (q2.resolve_left fun n => n e)]
theorem rising_txt : ∀ (p : List Nat) (cs : List (List Nat)), risingS (sOf p) (cs.map sOf) = true → (p :: cs).Pairwise fun a b => ltCps b a = false
  | p, [], _ => by simp
  | p, x :: cs, h => by
    rw [List.map_cons, risingS, Bool.and_eq_true] at h
    obtain ⟨h1, h2⟩ := h
    have ih := rising_txt x cs h2
    have hx : ltCps x p = false := by
      have h1 : (!ltCps (sOf x).cps.toList (sOf p).cps.toList) = true := h1
      simpa using h1
    refine List.pairwise_cons.mpr ⟨fun y hy => ?_, ih⟩
    rcases List.mem_cons.mp hy with e | hy
    · rw [e]; exact hx
    · exact ltC_trans hx ((List.pairwise_cons.mp ih).1 y hy)
theorem sorted_txt {cs : List (List Nat)} (h : sortedS (cs.map sOf) = true) : cs.Pairwise fun a b => ltCps b a = false := by
  cases cs with
  | nil => exact .nil
  | cons c r => exact rising_txt c r h
theorem strs_txt {ss : List Str} {ns : List (List Nat)} (p : ss.Perm (ns.map sOf)) : ∃ ms : List (List Nat), ss = ms.map sOf ∧ ms.Perm ns := by
  have f : ∀ x ∈ ss, sOf x.cps.toList = x := fun x hx => by
    obtain ⟨c, _, rfl⟩ := List.mem_map.mp (p.subset hx)
    simp [sOf]
  refine ⟨ss.map fun x => x.cps.toList, ?_, ?_⟩
  · rw [List.map_map]
    exact ((List.map_congr_left (g := id) fun x hx => f x hx).trans (List.map_id ss)).symm
  · have q := p.map fun x : Str => x.cps.toList
    rw [List.map_map] at q
    have e : ns.map ((fun x : Str => x.cps.toList) ∘ sOf) = ns := (List.map_congr_left (g := id) fun c _ => by simp [sOf]).trans (List.map_id ns)
    rwa [e] at q
section
variable {X : Cx} {e : Expr} {ds : DS} {L : MS} {P : DK} {pos p : Pos}
theorem dp_sortLT (hm : X.mg "sorted" = none) (h : DP X e ds L fun x L1 => ∃ ns : List (List Nat), x = .lst (ns.map Dt.str) ∧ ∀ ms : List (List Nat), ms.Perm ns → (ms.Pairwise fun a b => ltCps b a = false) → P (.lst (ms.map Dt.str)) L1) (hg : Gl X "sorted" := by rfl)
    (he : starEach (e :: []) X.env = (false, eval e X.env) :: starEach [] X.env := by rfl) (hpl : (backTo pos (starEach [] X.env)).any (·.1) = false := by rfl) : DP X (.Call (.Name "sorted" p) [e] [] pos) ds L P := .mk fun σ H B hs hl Q q =>
  PE.to (pe_callB cr_sortLT hg hm (by decide +kernel) (pa_cons (hs := he) pe_w pa_nil) (he := he) (hpl := hpl)) (h.run σ H B hs hl _ fun d L1 v B1 H1 h1 e1 hl1 iv => by
    obtain ⟨ns, rfl, p⟩ := h1
    obtain ⟨a, us, rfl, ha, ia⟩ := iv
    have e := ia.strs
    subst e
    refine ⟨a, ns.map sOf, rfl, SqL.of (hl1.sub _ _ ha), fun ss l h1 h2 hn => ?_⟩
    obtain ⟨ms, rfl, hp⟩ := strs_txt h1
    exact Fin.lst (fun d L' z B2 H2 p2 e2 => q d L' z B2 H2 p2 (e1.trans e2)) hl1 (p ms hp (sorted_txt h2)) .of_strs hn)
end
end Z
/-! a sorted list that may change; xs.insert(i, x) -/
namespace Z
open PySem PySem.Spec PyProof.Rows L2
section
variable {X : Cx} {K : PySem.W.Frag} {o e e2 : Expr} {ds : DS} {L : MS} {P : DK} {pos p kp apos cpos : Pos}
theorem dp_sortRM {k1 : Nat} {p1 : Pos} (hm : X.mg "sorted" = none) (h : DP X e ds L fun x L1 => ∃ ns : List Int, x = .lst (ns.map Dt.int) ∧ ∀ ns' : List Int, ns'.Perm ns → ns'.Pairwise (· ≥ ·) → ∀ a, P (.adr a) ((a, .lst (ns'.map Dt.int)) :: L1)) (hg : Gl X "sorted" := by rfl)
    (he : backTo pos (starEach [e] X.env) = (false, eval e X.env) :: backTo pos (starEach [] X.env) := by rfl) (hpl : (backTo pos (starEach [e] X.env)).any (·.1) = false := by rfl)
    (hs1 : starEach [e] X.env = (false, eval e X.env) :: starEach [] X.env := by rfl)
    (hall : (backToKw pos (keywordEach [⟨some (Str.ofString "reverse"), .Constant (.bool true) k1 p1, kp⟩] X.env)).all (·.1.isSome) = true := by rfl) (hnone : (backToKw pos (keywordEach [⟨some (Str.ofString "reverse"), .Constant (.bool true) k1 p1, kp⟩] X.env)).any (·.1.isNone) = false := by rfl)
    (hks : (backToKw pos (keywordEach [⟨some (Str.ofString "reverse"), .Constant (.bool true) k1 p1, kp⟩] X.env)).filterMap (·.1) = [Str.ofString "reverse"] := by rfl) : DP X (.Call (.Name "sorted" p) [e] [⟨some (Str.ofString "reverse"), .Constant (.bool true) k1 p1, kp⟩] pos) ds L P := .mk fun σ H B hs hl Q q =>
  PE.to (pe_callBK (cr_sortedRev (b := true)) hg hm (by decide +kernel) (pa_cons pe_w pa_nil hs1) (pk_cons pe_bl pk_nil) (by decide) (by decide) he hpl hall hnone hks) (h.run σ H B hs hl _ fun x L1 v B1 H1 hp e1 hl1 ix => by
    obtain ⟨ns, ex, p⟩ := hp
    subst ex
    obtain ⟨a, us, rfl, ha, ia⟩ := ix
    have e := ia.ints
    subst e
    exact ⟨a, ns, rfl, rfl, SqL.of (hl1.sub _ _ ha), fun ns' l h1 h2 hn => Fin.lstM (fun d L' z B2 H2 p2 e2 => q d L' z B2 H2 p2 (e1.trans e2)) hl1 (p ns' h1 h2) .of_ints hn⟩)
def insK : KM := fun x xs L P => ∃ (a : Addr) (ys : List Dt) (i : Int) (d : Dt), x = .adr a ∧ xs = [.int i, d] ∧ ML L a (.lst ys) ∧ ys.length < sizeLine ∧ 0 ≤ i ∧ i < 2 ^ 63 ∧ ∃ L2, MSt L a (.lst (ys.take i.toNat ++ [d] ++ ys.drop i.toNat)) L2 ∧ P .non L2
theorem isL_take {B : Hp} : ∀ {n : Nat} {ds : List Dt} {vs : List V}, IsL K B ds vs → IsL K B (ds.take n) (vs.take n)
  | 0, _, _, _ => rfl
  | n + 1, [], vs, h => by
    have h : vs = [] := h
    subst h
    rfl
  | n + 1, d :: ds, _, ⟨v, r, rfl, i1, i2⟩ => ⟨v, _, rfl, i1, isL_take i2⟩
theorem isL_drop {B : Hp} : ∀ {n : Nat} {ds : List Dt} {vs : List V}, IsL K B ds vs → IsL K B (ds.drop n) (vs.drop n)
  | 0, _, _, h => h
  | n + 1, [], vs, h => by
    have h : vs = [] := h
    subst h
    rfl
  | n + 1, d :: ds, _, ⟨v, r, rfl, i1, i2⟩ => isL_drop (n := n) i2
theorem km_insert : KRM K (fun x vs H Q => ∃ (l : Addr) (xs : List V) (i : Int) (y : V), x = .ref l ∧ vs = [.int i, y] ∧ H l = some (.lst xs) ∧ xs.length < sizeLine ∧ 0 ≤ i ∧ i < 2 ^ 63 ∧
    Q .non (upd H l (.lst (xs.take i.toNat ++ [y] ++ xs.drop i.toNat)))) insK := by
  intro B H L x v xs vs Q P hl ix ixs hk q
  obtain ⟨a, ys, i, d, rfl, rfl, hm, hz, h0, h1, L2, hst, p⟩ := hk
  obtain ⟨v1, v2, rfl, i1, i2⟩ := ixs.two_inv
  obtain rfl : v1 = V.int i := i1
  obtain rfl : v = V.ref a := ix
  obtain ⟨us, ha, ia⟩ := hl.lst hm
  exact ⟨a, us, i, v2, rfl, rfl, ha, by rw [ia.length]; exact hz, h0, h1, q .non L2 _ B _ p (Same.refl B) (hl.put hst ⟨_, rfl, ((isL_take ia).append (IsL.one i2)).append (isL_drop ia)⟩) rfl⟩
theorem dp_insert (h : DP X o ds L fun x L1 => tyM "list" x L1 ∧ DP X e ds L1 fun d L2 => DP X e2 ds L2 fun d2 L3 => insK x [d, d2] L3 P)
    (hbase : attributeBase o "insert" X.env (eval o X.env) = eval o X.env := by rfl)
    (hfew : ((backTo cpos (starEach [e, e2] X.env)).all (fun x => !x.1) && (backToKw cpos (keywordEach [] X.env)).all (fun x => x.1.isSome)
      && decide ([e, e2].length + ([] : List Keyword).length + (if ([] : List Keyword).isEmpty then 0 else 1) < 30)) = true := by rfl)
    (hline : (apos.endLine == cpos.line) = true := by rfl) (hs1 : starEach [e, e2] X.env = (false, eval e X.env) :: starEach [e2] X.env := by rfl) (hs2 : starEach [e2] X.env = (false, eval e2 X.env) :: starEach [] X.env := by rfl) (hplain : (backTo cpos (starEach [e2] X.env)).any (·.1) = false := by rfl) : DP X (.Call (.Attribute o "insert" apos) [e, e2] [] cpos) ds L P :=
  dp_bm PySem.F.plainAttrs_list PySem.F.slot_list_insert PySem.F.type_list_insert mt_insert km_insert (DP.imp h fun x L1 ⟨ht, h1⟩ => ⟨ht, da_cons (DP.imp h1 fun d L2 h2 => da_cons (DP.imp h2 fun d2 L3 h3 => da_nil h3) hs2) hs1⟩) hbase hfew hline hs1 hplain
/-! xs.pop(i) -/
theorem isL_erase {B : Hp} : ∀ {n : Nat} {ds : List Dt} {vs : List V}, IsL K B ds vs → IsL K B (ds.eraseIdx n) (vs.eraseIdx n)
  | _, [], vs, h => by
    have h : vs = [] := h
    subst h
    rfl
  | 0, d :: ds, _, ⟨v, r, rfl, i1, i2⟩ => i2
  | n + 1, d :: ds, _, ⟨v, r, rfl, i1, i2⟩ => ⟨v, _, rfl, i1, isL_erase (n := n) i2⟩
def popAtK : KM := fun x xs L P => ∃ (a : Addr) (ys : List Dt) (i : Nat) (d : Dt), x = .adr a ∧ xs = [.int (i : Nat)] ∧ ML L a (.lst ys) ∧ ys[i]? = some d ∧ i < 1000000 ∧ ∃ L2, MSt L a (.lst (ys.eraseIdx i)) L2 ∧ P d L2
theorem isL_at {B : Hp} : ∀ {n : Nat} {ds : List Dt} {vs : List V} {d : Dt}, IsL K B ds vs → ds[n]? = some d → ∃ v, vs[n]? = some v ∧ Is K B d v
  | _, [], vs, d, h, e => by simp at e
  | 0, x :: ds, _, d, ⟨v, r, rfl, i1, i2⟩, e => by
    have e : x = d := by simpa using e
    subst e
    exact ⟨v, rfl, i1⟩
  | n + 1, x :: ds, _, d, ⟨v, r, rfl, i1, i2⟩, e => by
    obtain ⟨u, h1, h2⟩ := isL_at (n := n) (d := d) i2 (by simpa using e)
    exact ⟨u, by simpa using h1, h2⟩
theorem km_popAt : KRM K rPopAt popAtK := by
  intro B H L x v xs vs Q P hl ix ixs hk q
  obtain ⟨a, ys, i, d, rfl, rfl, hm, hd, hi, L2, hst, p⟩ := hk
  obtain ⟨u, rfl, iu⟩ := ixs.one_inv
  obtain rfl : u = V.int (i : Nat) := iu
  obtain rfl : v = V.ref a := ix
  obtain ⟨us, ha, ia⟩ := hl.lst hm
  obtain ⟨y, hy, iy⟩ := isL_at ia hd
  have hlt := (List.getElem?_eq_some_iff.mp hy).1
  refine ⟨a, us, (i : Nat), i, y, rfl, rfl, ha, by omega, by omega, ?_, hy, q d L2 y B _ p (Same.refl B) (hl.put hst ⟨_, rfl, isL_erase ia⟩) iy⟩
  refine (ixN_seq (n := us.length) (i := (i : Nat)) (j := i) ?_).1
  unfold ixN
  rw [if_pos (by omega), if_pos (by omega)]
  rfl
theorem dp_popAt (h : DP X o ds L fun x L1 => tyM "list" x L1 ∧ DP X e ds L1 fun d L2 => popAtK x [d] L2 P)
    (hbase : attributeBase o "pop" X.env (eval o X.env) = eval o X.env := by rfl)
    (hfew : ((backTo cpos (starEach [e] X.env)).all (fun x => !x.1) && (backToKw cpos (keywordEach [] X.env)).all (fun x => x.1.isSome)
      && decide ([e].length + ([] : List Keyword).length + (if ([] : List Keyword).isEmpty then 0 else 1) < 30)) = true := by rfl)
    (hline : (apos.endLine == cpos.line) = true := by rfl) (hs1 : starEach [e] X.env = (false, eval e X.env) :: starEach [] X.env := by rfl) (hplain : (backTo cpos (starEach [] X.env)).any (·.1) = false := by rfl) : DP X (.Call (.Attribute o "pop" apos) [e] [] cpos) ds L P :=
  dp_bm PySem.F.plainAttrs_list PySem.F.slot_list_pop PySem.F.type_list_pop (fun pins s σ H x vs v us Q I rx rv h => mt_popAt pins s σ H x vs v us Q I rx rv h) km_popAt (DP.imp h fun x L1 ⟨ht, h1⟩ => ⟨ht, da_cons (DP.imp h1 fun d L2 h2 => da_nil h2) hs1⟩) hbase hfew hline hs1 hplain
end
end Z
/-! comprehensions whose elements want a token, the walked one brings it out -/
namespace Z
open PySem PySem.Spec PyProof.Rows L2
/-- what an iterable makes; a token is out behind it -/
def IWk (X : Cx) (tg iter : Expr) : TI := fun σ H R => ∀ (pins : List (Addr × Obj)) (s : Shared), Inv X pins σ H s →
    wpAny (model X.prog X.w) X.A (eval iter X.env) (fun v s1 => 1 ≤ s1.toks ∧ wpAny (model X.prog X.w) X.A (pyIter v) (PIE X pins σ tg R) X.xe s1) X.xe s
structure PIk (X : Cx) (tg iter : Expr) (wi : TI) : Prop where
  run : ∀ (pins : List (Addr × Obj)) (s : Shared) (σ : L2.St) (H : Hp) (R : It → Hp → Prop), Inv X pins σ H s → wi σ H R →
    wpAny (model X.prog X.w) X.A (eval iter X.env) (fun v s1 => 1 ≤ s1.toks ∧ wpAny (model X.prog X.w) X.A (pyIter v) (PIE X pins σ tg R) X.xe s1) X.xe s
theorem pik_w {X : Cx} {tg iter : Expr} : PIk X tg iter (IWk X tg iter) := ⟨fun pins s _ _ _ I h => h pins s I⟩
structure DIk (X : Cx) (tg iter : Expr) (ds : DS) (L : MS) (P : List Dt → MS → Prop) : Prop where
  run : ∀ σ H B, Sl X.K B ds σ → Hs X.K B L H → ∀ R : It → Hp → Prop,
  (∀ xs L' J B2 H2, P xs L' → Same B B2 → Hs X.K B2 L' H2 → Yields X.K B2 J xs → R J H2) → IWk X tg iter σ H R
theorem dik_tup {X : Cx} {tg e : Expr} {ds : DS} {L : MS} {P : List Dt → MS → Prop} (h : DPk X e ds L fun x L1 => ∃ xs, x = .tup xs ∧ P xs L1) : DIk X tg e ds L P := .mk fun σ H B hs hl R q pins s I => by
  refine wpAny_mono (h.run σ H B hs hl (fun v H1 => ∃ a us, v = .ref a ∧ SqT X.K H1 a us ∧ R (Itt X.K a) H1) (fun x L1 v B1 H1 hp e1 hl1 ix => ?_) pins s I) (fun v s1 q1 => ?_) fun _ _ z => z
  · obtain ⟨xs, rfl, p⟩ := hp
    obtain ⟨a, us, rfl, ha, ia⟩ := ix
    exact ⟨a, us, rfl, SqT.of (hl1.sub _ _ ha), q _ L1 _ B1 H1 p e1 hl1 (yields_tup (SqT.of ha) ia)⟩
  · obtain ⟨t1, y, H1, I1, r1, a, us, rfl, hq, qR⟩ := q1
    refine ⟨t1, ?_⟩
    cases r1
    obtain ⟨its, rv, p, hz⟩ := I1.tuple hq
    refine wpAny_pyIter_tuple (show s1.heap.IsTuple a its.toArray from p) ⟨_, [s1.heap.objs.size], _, _, H1, rfl, I1.kept (t' := s1.toks) fun b o e => Heap.get?_push_of_some _ e, turn_tuple a _, ⟨_, Heap.get?_push_size _ rfl, rfl, rfl⟩, fun b hb => ?_, qR⟩
    rw [List.mem_singleton.mp hb]
    exact I1.fpOk (Nat.le_refl _) (I1.hok.fresh (Nat.le_refl _))
theorem lcK {pins : List (Addr × Obj)} {s : Shared} {σ : L2.St} {H : Hp} {Q : VK} {elt tg iter : Expr} {scope : Scope} {own : List (Str × Nat)} {pos pos' : Pos} {wi : TI} {g : TG} {te : TE} {use : Option (Value → Sem Unit)} {Qf : Value → Shared → Prop}
    (hc : X.calm = true) (hN : X.N.Nodup) (I : Inv X pins σ H s) (hi : PIk X tg iter wi) (ok : BlkOk X.N X.env.scope scope own)
    (hg : ∀ s H C cl fp, PG (bX X scope s H C cl fp) tg g) (he : ∀ s H C cl fp, PET (bX X scope s H C cl fp) elt te) (hs : ∀ x, foldedSetIterable iter X.env x = pure x) (h : tLc wi g tYes te (own.map (·.2)) σ H Q)
    (hRR : ∀ D C s' m H', Inv X pins σ H' s' → Q (.ref D) H' → s'.heap.Ns C m → FpOk X pins H' C → compPost (model X.prog X.w) X.A X.xe use Qf (.ref D) C (.ok .next) s') :
    wpAny (model X.prog X.w) X.A (comprehension (.ListComp elt [⟨tg, iter, [], 0⟩] scope pos) scope X.env pos' (newList []) false (eval iter X.env) use) Qf X.xe s := by
  have fr : ∀ y ∈ scope.names, y.2 = .free → ∃ c, X.env.cells.lookup y.1 = some c := fun y hy e => (ok.free y hy e).elim (fun k => I.ok.has _ (.inl k)) fun k => I.ok.has _ (.inr k)
  refine wpAny_comprehension_free (use := use) rfl hs (closure_ok fr) ok.kind (fun y hy e => by rw [ok.uniq y hy, e])
    (wpAny_mono (hi.run pins s σ H _ I h) (fun xv s1 q1 => wpAny_mono (PySem.wpAny_toks_of q1.1 q1.2) (fun itv s2 q2 => ?_) fun _ _ z => z.2) fun _ _ z => z)
  obtain ⟨t2, it, fp, tn, J, H2, rfl, I2, T, st2, f2, q⟩ := q2
  refine wpAny_newObj_type (newEnv_comp ?_) (by show 0 ≤ sizeLine; decide)
  have hDn : H2 s2.heap.objs.size = none := I2.hok.fresh (Nat.le_refl _)
  obtain ⟨W, ⟨m0, w0⟩, turn⟩ := q s2.heap.objs.size hDn
  -- the list that is being made
  have I3 := I2.laid (a := s2.heap.objs.size) (o := .lst []) (h' := s2.heap.push { cls := .type "list", data := .seq ([] : List Value).toArray }) (t' := s2.toks) (fun b o e => Heap.get?_push_of_some _ e) (Nat.le_refl _) ⟨Nat.zero_le _, [], 0, .nil, Heap.get?_push_size _ rfl⟩
  generalize hD : s2.heap.objs.size = D at *
  generalize hs3 : ({ s2 with heap := s2.heap.push { cls := .type "list", data := .seq ([] : List Value).toArray }, toks := s2.toks } : Shared) = s3 at I3
  have e3 : s3.heap = s2.heap.push { cls := .type "list", data := .seq ([] : List Value).toArray } := by rw [← hs3]
  have f3 : ∀ b ∈ fp, FpOk X pins (upd H2 D (.lst [])) b ∧ b < s3.heap.objs.size := fun b hb => by
    obtain ⟨o, eo, _⟩ := T.obj _ _ st2 b hb
    have hlt := Heap.lt_size eo
    refine ⟨⟨?_, (f2 b hb).2⟩, by rw [e3, Heap.size_push]; exact Nat.lt_succ_of_lt hlt⟩
    rw [upd_ne (by rw [← hD]; exact Nat.ne_of_lt hlt)]
    exact (f2 b hb).1
  have n3 : ∀ b ∈ fp, (upd H2 D (.lst [])) b = none := fun b hb => (f3 b hb).1.1
  have st3 : tn 0 s3.heap := T.keep _ _ _ st2 fun b _ o eo => by rw [e3]; exact Heap.get?_push_of_some _ eo
  have I4 := block_start I3 ok hN f3
  have gP : PG (X.blk s3 (upd H2 D (.lst [])) scope (compEnvC scope (cellsFrom (s3.heap.objs.size + 1) scope.names (cloFrom X.env.cells scope.names [])) s3.heap.objs.size X.env) fp) tg g := hg s3 (upd H2 D (.lst [])) s3.heap.objs.size (cellsFrom (s3.heap.objs.size + 1) scope.names (cloFrom X.env.cells scope.names [])) fp
  have eP : PET (X.blk s3 (upd H2 D (.lst [])) scope (compEnvC scope (cellsFrom (s3.heap.objs.size + 1) scope.names (cloFrom X.env.cells scope.names [])) s3.heap.objs.size X.env) fp) elt te := he s3 (upd H2 D (.lst [])) s3.heap.objs.size (cellsFrom (s3.heap.objs.size + 1) scope.names (cloFrom X.env.cells scope.names [])) fp
  show codeAny _ _ (.compStart (.ListComp elt [⟨tg, iter, [], 0⟩] scope pos) 0 (.ref it) (.ref D) (compEnvC scope (cellsFrom (s3.heap.objs.size + 1) scope.names (cloFrom X.env.cells scope.names [])) s3.heap.objs.size X.env)) (compPost (model X.prog X.w) X.A X.xe use Qf (.ref D) s3.heap.objs.size) { s3 with heap := pushCells (s3.heap.push { cls := .type "dict", data := .dict #[] }) scope.names }
  have t3 : 1 ≤ s3.toks := by rw [← hs3]; exact t2
  generalize hce : compEnvC scope (cellsFrom (s3.heap.objs.size + 1) scope.names (cloFrom X.env.cells scope.names [])) s3.heap.objs.size X.env = ce at I4 gP eP ⊢
  have cl : ce.locals = s3.heap.objs.size := by rw [← hce]; rfl
  generalize upd H2 D (.lst []) = H3 at I3 I4 gP eP w0 n3 f3
  have st4 : tn 0 (pushCells (s3.heap.push { cls := .type "dict", data := .dict #[] }) scope.names) := T.keep _ _ _ st3 fun b _ o eo => pushCells_keeps _ _ _ _ (Heap.get?_push_of_some _ eo)
  have still : ∀ {σ' : L2.St} {H' : Hp} {s' : Shared}, Inv (X.blk s3 H3 scope ce fp) [] σ' H' s' → (∀ b ∈ fp, H' b = none) → ∀ b ∈ fp, FpOk (X.blk s3 H3 scope ce fp) [] H' b := fun {σ' H' s'} J hn b hb =>
    ⟨hn b hb, (J.ok.exf b hb).1, J.ok.exfs b hb, .inl hb, fun x c e => (J.ok.exf b hb).2 x c e, fun p hp => by simp at hp⟩
  refine codeAny_compStart_list ?go (T.self X.A 0 _ _ _ st4 ?go)
  refine compLoop_any (TurnI X s3 H3 scope ce fp tn W (wipe σ (own.map (·.2)))) (fun n s5 ⟨⟨i, H5, I5, st5, n5, w5⟩, t5⟩ => ?_) m0 ⟨⟨0, H3, I4, st4, n3, w0⟩, t3⟩
  rcases turn i n H5 w5 with ⟨stop, qq⟩ | ⟨go, Nx, hNx, step⟩
  · refine thnF (T.done (X.blk s3 H3 scope ce fp) rfl rfl rfl hc i [] s5 _ H5 (fun _ _ => False) I5 (still I5 n5) st5 stop) fun r s6 ⟨hr, I6⟩ => ?_
    subst hr
    have I7 : Inv X pins σ H5 s6 := I3.call' (ch := fp) I6.os I6.base I6.hok I6.bare fun b hb => ⟨(f3 b hb).1.2.2.2.1, (f3 b hb).1.2.1, (f3 b hb).1.2.2.2.2.1, (f3 b hb).1.2.2.2.2.2⟩
    have nC : H5 s3.heap.objs.size = none := cl ▸ (show H5 ce.locals = none from I6.free)
    obtain ⟨m, hn, _⟩ := I6.loc
    exact hRR D s3.heap.objs.size s6 m H5 I7 qq (cl ▸ (show s6.heap.Ns ce.locals m from hn)) (I3.fpOk (Nat.le_refl _) nC)
  · refine thnF (PySem.wpAny_toks_of t5 (T.item (X.blk s3 H3 scope ce fp) rfl rfl rfl hc i [] s5 _ H5 (fun _ _ => False) I5 (still I5 n5) st5 go) |> fun z => wpAny_mono z (fun _ _ y => y) fun _ _ y => y.2) fun r s6 ⟨t6, u, hr, h6⟩ => ?_
    subst hr
    refine thnF (wpAny_mono (PySem.wpAny_toks_of t6 h6) (fun _ _ y => y) fun _ _ y => y.2) fun _ s7 ⟨t7, x, H7, I7, r7, y7, st7, n7⟩ => ?_
    have I7' := I7.pinned (still I7 n7) (T.obj _ _ st7)
    refine thnF (wpAny_mono (PySem.wpAny_toks_of t7 (gP.run _ s7 _ H7 x u _ I7' r7 (step x H7 y7))) (fun _ _ y => y) fun _ _ y => y.2) fun _ s8 ⟨t8, σ8, H8, I8, hw8, q8⟩ => ?_
    refine wpAny_tests_nil ?_
    rw [if_pos rfl]
    have q9 : te σ8 H8 fun y H4 => ∃ acc, H4 D = some (.lst acc) ∧ acc.length < sizeLine ∧ Nx (upd H4 D (.lst (acc ++ [y]))) := by
      have z : (if true = true then te σ8 H8 fun y H4 => ∃ acc, H4 D = some (.lst acc) ∧ acc.length < sizeLine ∧ Nx (upd H4 D (.lst (acc ++ [y]))) else Nx H8) := q8
      rw [if_pos rfl] at z
      exact z
    refine thnF (wpAny_mono (PySem.wpAny_toks_of t8 (eP _ s8 σ8 H8 _ t8 I8 q9)) (fun _ _ y => y) fun _ _ y => y.2) fun v s9 ⟨t9, yv, H9, I9, r9, acc, hD9, hz9, nx⟩ => ?_
    refine wpAny_mono (PySem.wpAny_toks_of t9 (app_ok (X := X.blk s3 H3 scope ce fp) (E := fun _ _ => False) (Q := fun _ s10 => Inv (X.blk s3 H3 scope ce fp) ([] ++ pinsAt fp s7.heap) σ8 (upd H9 D (.lst (acc ++ [yv]))) s10) I9 hD9 hz9 r9 fun s10 I10 => I10)) (fun _ s10 ⟨t10, I10⟩ => ?_) fun _ _ y => y.2.elim
    obtain ⟨m', hm, w'⟩ := hNx _ nx
    have pin' : ∀ b ∈ fp, ∀ o, s7.heap.get? b = some o → s10.heap.get? b = some o ∧ upd H9 D (.lst (acc ++ [yv])) b = none := fun b hb o e =>
      let z := I10.pin (b, o) (List.mem_append_right _ (List.mem_append_right _ (mem_pinsAt hb e)))
      ⟨z.1, z.2.1⟩
    refine ⟨m', hm, ⟨⟨i + 1, _, (I10.unpinned (pins := [])).weak (by rw [← hw8, wipe_length]) (fun j v e => ?_), T.keep _ _ _ st7 fun b hb o e => (pin' b hb o e).1, fun b hb => ?_, w'⟩, t10⟩⟩
    · rw [← hw8] at e
      exact (wipe_some e).1
    · obtain ⟨o, e, _⟩ := T.obj _ _ st7 b hb
      exact (pin' b hb o e).2
def DLcK (X : Cx) (elt tg iter : Expr) (scope : Scope) (ds : DS) (L : MS) (i : Nat) (P : DK) : Prop :=
  DIk X tg iter ds L fun xs L1 => ∃ g : Dt → Dt, xs.length ≤ 100000 ∧ (∀ d T, d ∈ xs → ∀ s H C cl fp, ∃ ds', SetAt ds i d ds' ∧ DPt (bX X scope s H C cl fp) elt ds' (T :: L1) fun y L5 => L5 = T :: L1 ∧ y = g d) ∧ P (.lst (xs.map g)) L1
theorem lcK_read {X : Cx} {elt tg iter : Expr} {scope : Scope} {ds : DS} {L : MS} {P : DK} {i : Nat} {σ : L2.St} {H B : Hp} {Q : VK} (hs0 : Sl X.K B ds σ) (hl0 : Hs X.K B L H) (h : DLcK X elt tg iter scope ds L i P) (q : Fin X.K B P Q) :
    tLc (IWk X tg iter) (gName i) tYes (teT X scope elt) [i] σ H Q := by
  refine h.run σ H B hs0 hl0 _ fun xs L1 J B1 H1 ⟨g, hz, hstep, hend⟩ e1 hl1 hy D hD => ?_
  refine ⟨fun n m H' => n + m = xs.length ∧ ∃ B', Same B1 B' ∧ Hs X.K B' ((D, .lst ((xs.take n).map g)) :: L1) H', ⟨xs.length, Nat.zero_add _, B1, Same.refl _, hl1.newM hD ⟨[], rfl, rfl⟩⟩, ?_⟩
  rintro n m H' ⟨hn, B', e2, hl2⟩
  obtain ⟨y1, y2⟩ := hy n B' H' _ e2 hl2
  by_cases hi : n < xs.length
  · have hx : xs[n]? = some xs[n] := List.getElem?_eq_getElem hi
    obtain ⟨g1, g2⟩ := y1 _ hx
    refine .inr ⟨g1, fun H3 => ∃ B', Same B1 B' ∧ Hs X.K B' ((D, .lst ((xs.take (n + 1)).map g)) :: L1) H3, fun H3 hN => ⟨m - 1, by omega, by omega, hN⟩, fun v H2 hv => ?_⟩
    obtain ⟨B2, e3, hl3, iv⟩ := g2 v H2 hv
    have eB : Same B1 B2 := e2.trans e3
    have sl2 : ∀ ds', SetAt ds i xs[n] ds' → Sl X.K B2 ds' ((wipe σ [i]).set i (some v)) := fun ds' hset => by
      have q1 := (sl_wipe (hs0.mono (e1.trans eB)) [i]).set i iv
      have e5 : (wipeD ds [i]).set i (some xs[n]) = ds' := by
        rw [← hset]
        show (ds.set i none).set i (some xs[n]) = _
        rw [List.set_set]
      rw [e5] at q1
      exact q1
    show wipe ((wipe σ [i]).set i (some v)) [i] = wipe σ [i] ∧ _
    refine ⟨?_, ?_⟩
    · show (((σ.set i none).set i (some v)).set i none) = σ.set i none
      rw [List.set_set, List.set_set]
    · unfold tYes
      simp only [if_true]
      intro s' H0' C' cl' fp'
      obtain ⟨ds', hset, ht⟩ := hstep xs[n] (D, .lst ((xs.take n).map g)) (List.getElem_mem hi) s' H0' C' cl' fp'
      refine ht.run _ H2 B2 (sl2 ds' hset) hl3 _ fun y L5 u B4 H4 ⟨eL, ey⟩ e7 hl5 iy => ?_
      subst eL ey
      obtain ⟨ws, hD', ivs⟩ := hl5.lst ML.hd
      refine ⟨ws, hD', ?_, B4, eB.trans e7, ?_⟩
      · rw [ivs.length, List.length_map, List.length_take, sizeLine_eq]
        omega
      · rw [List.take_add_one, hx, List.map_append]
        exact hl5.put .hd ⟨_, rfl, ivs.append (IsL.one iy)⟩
  · have ei : n = xs.length := by omega
    refine .inl ⟨y2 (by omega), ?_⟩
    subst ei
    rw [List.take_length] at hl2
    obtain ⟨vs, hD', ivs⟩ := hl2.lst ML.hd
    obtain ⟨sb, hl5⟩ := hl2.freeze MDel.hd hD'
    exact q _ L1 _ _ H' hend ((e1.trans e2).trans sb) hl5 ⟨D, vs, rfl, upd_same, ivs.mono sb⟩
/-- [e for x in xs] -/
theorem dp_lcK {X : Cx} {elt tg iter : Expr} {scope : Scope} {ds : DS} {L : MS} {P : DK} {pos : Pos} {i : Nat} (own : List (Str × Nat)) (ok : BlkOk X.N X.env.scope scope own) (hN : X.N.Nodup)
    (hg : ∀ (s : Shared) (H : Hp) (C : Addr) (cl : List (Str × Addr)) (fp : List Addr), PG (bX X scope s H C cl fp) tg (gName i)) (h : DLcK X elt tg iter scope ds L i P)
    (ho : own.map (·.2) = [i] := by rfl) (hc : X.calm = true := by rfl) (hs : ∀ x, foldedSetIterable iter X.env x = pure x := by intro _; rfl) : DP X (.ListComp elt [⟨tg, iter, [], 0⟩] scope pos) ds L P := .mk fun σ H B hs0 hl0 Q q pins s I => by
  rw [eval_ListComp]
  refine lcK (te := teT X scope elt) (g := gName i) hc hN I pik_w ok hg (fun s' H0 C cl fp => ?_) hs (by rw [ho]; exact lcK_read hs0 hl0 h q) fun D C s' m H' I' q' hn f => ⟨m, hn, fun h'' sb => ?_⟩
  · exact fun pins s σ H Q h0 I q => q s' H0 C cl fp pins s h0 I
  · obtain ⟨f0, f1, f2, f3, f4, f5⟩ := f
    exact ⟨.ref D, H', I'.turned (t' := s'.toks) (fun b o hb e => (sb.2 b hb).trans e) f0 f1 f3 f4 f5, rfl, q'⟩
end Z
/-! more that brings a token out: an operation, a tuple, an assignment to any target -/
namespace Z
open PySem PySem.Spec PyProof.Rows L2
section
variable {X : Cx} {a b e tg : Expr} {es : List Expr} {rest : List Stmt} {ds : DS} {L : MS} {P : DK} {D : DEnds} {pos : Pos}
theorem dpk_bin {op : Operator} {r : R2} {k : K2} (ho : OpR X (binaryOp op) r) (hk : KR2 X.K r k) (h : DPk X a ds L fun x L1 => DP X b ds L1 fun y L2 => k x y L2 P) : DPk X (.BinOp a op b pos) ds L P := .mk fun σ H B hs hl Q q pins s I => by
  refine wpAny_BinOp (wpAny_mono (h.run σ H B hs hl (fun v H1 => EW X b σ H1 fun u H2 => r v u H2 Q) (fun x L1 v B1 H1 hb e1 hl1 ix => hb.run σ H1 B1 (hs.mono e1) hl1 _ fun y L2 u B2 H2 hp e2 hl2 iy =>
    hk B2 H2 L2 x y v u Q P hl2 (ix.mono e2) iy hp fun d L' z B3 H3 p e3 => q d L' z B3 H3 p ((e1.trans e2).trans e3)) pins s I) (fun v s1 ⟨t1, x, H1, I1, r1, q1⟩ => ?_) fun _ _ z => z)
  refine wpAny_mono (PySem.wpAny_toks_of t1 (q1 pins s1 I1)) (fun u s2 ⟨t2, y, H2, I2, r2, q2⟩ => ?_) fun _ _ z => z.2
  exact wpAny_mono (PySem.wpAny_toks_of t2 (ho pins s2 σ H2 x y v u Q I2 r1 r2 q2)) (fun z s3 q3 => ⟨q3.1, q3.2⟩) fun _ _ z => z.2
theorem dpk_add (h : DPk X a ds L fun x L1 => DP X b ds L1 fun y L2 => addK x y L2 P) : DPk X (.BinOp a .Add b pos) ds L P := dpk_bin op_plus kr_plus h
theorem dpk_tup {x1} (h : DAk X es ds L fun xs L1 => xs.length ≤ sizeLine ∧ P (.tup xs) L1) : DPk X (.Tuple es x1 pos) ds L P := .mk fun σ H B hs hl Q q pins s I => by
  refine wpAny_Tuple_spliced (wpAny_mono (h.run σ H B hs hl (fun vs H1 => vs.length ≤ sizeLine ∧ ∀ a, H1 a = none → Q (.ref a) (upd H1 a (.tup vs))) (fun xs L1 vs B1 H1 p e1 hl1 ixs => ⟨by rw [ixs.length]; exact p.1, fun a ha => ?_⟩) pos pins s I) (fun us s1 ⟨t1, vs, H1, I1, r, z, q1⟩ => ⟨by rw [← r.length]; exact z, ?_⟩) fun _ _ z => z)
  · obtain ⟨sb, h2⟩ := hl1.new (o := .tup vs) ha
    exact q (.tup xs) L1 _ _ _ p.2 (e1.trans sb) h2 ⟨a, vs, rfl, upd_same, ixs.mono sb⟩
  · have hf := I1.hok.fresh (Nat.le_refl _)
    exact ⟨t1, .ref s1.heap.objs.size, upd H1 s1.heap.objs.size (.tup vs), I1.laid (t' := s1.toks) (fun b u e => Heap.get?_push_of_some _ e) (Nat.le_refl _) ⟨z, us, r, ⟨_, Heap.get?_push_size _ rfl, rfl, _, rfl⟩⟩, rfl, q1 _ hf⟩
/-- target = e: behind it a token is out -/
theorem dss_asgT (h : DPk X e ds L fun d L1 => DG X tg d ds L1 fun ds' L' => DSsT X rest ds' L' D) (hw : swapsWithSole [tg] e pos.line X.env = pure false := by rfl) (hw2 : swappedStores [tg] e X.env = pure none := by rfl)
    (h1 : (assignEach [tg] X.env).map (·.2) = [assign tg X.env] := by rfl) : DSs X (.Assign [tg] e pos :: rest) ds L D := .mk fun σ H B E hs hl m pins s I => by
  refine wpAny_execs_cons (wpAny_Assign_stores (wpAny_mono (h.run σ H B hs hl (fun v H1 => GW X tg v σ H1 fun σ' H' => SSWT X rest E σ' H') (fun d L1 v B1 H1 p e1 hl1 iv => p.run σ H1 B1 v (hs.mono e1) hl1 iv _ fun ds2 L2 σ2 B2 H2 q e2 hs2 hl2 => q.run σ2 H2 B2 E hs2 hl2 (m.mono (e1.trans e2))) pins s I) (fun v s1 ⟨t1, y, H1, I1, r1, q1⟩ => ?_) fun _ _ z => z) hw hw2)
  rw [h1]
  exact wpAny_mono (PySem.wpAny_toks_of t1 (q1 pins s1 v I1 r1)) (fun _ s2 ⟨t2, σ2, H2, I2, q2⟩ => q2 pins s2 t2 I2) fun _ _ z => z.2
end
end Z
/-! where a token is out: a comprehension as a part of an expression, an assignment -/
namespace Z
open PySem PySem.Spec PyProof.Rows L2
theorem dpt_lcT {X : Cx} {elt tg iter : Expr} {scope : Scope} {ds : DS} {L : MS} {P : DK} {pos : Pos} {i : Nat} (own : List (Str × Nat)) (ok : BlkOk X.N X.env.scope scope own) (hN : X.N.Nodup)
    (hg : ∀ (s : Shared) (H : Hp) (C : Addr) (cl : List (Str × Addr)) (fp : List Addr), PG (bX X scope s H C cl fp) tg (gName i)) (h : DLcT X elt tg iter scope ds L i P)
    (ho : own.map (·.2) = [i] := by rfl) (hc : X.calm = true := by rfl) (hs : ∀ x, foldedSetIterable iter X.env x = pure x := by intro _; rfl) : DPt X (.ListComp elt [⟨tg, iter, [], 0⟩] scope pos) ds L P := .mk fun σ H B hs0 hl0 Q q pins s h0 I => by
  rw [eval_ListComp]
  refine lcT (te := teT X scope elt) (g := gName i) h0 hc hN I pi_w ok hg (fun s' H0 C cl fp => ?_) hs (by rw [ho]; exact lcT_read hs0 hl0 h q) fun D C s' m H' I' q' hn f => ⟨m, hn, fun h'' sb => ?_⟩
  · exact fun pins s σ H Q h0 I q => q s' H0 C cl fp pins s h0 I
  · obtain ⟨f0, f1, f2, f3, f4, f5⟩ := f
    exact ⟨.ref D, H', I'.turned (t' := s'.toks) (fun b o hb e => (sb.2 b hb).trans e) f0 f1 f3 f4 f5, rfl, q'⟩
section
variable {X : Cx} {e : Expr} {ds : DS} {L : MS} {D : DEnds} {pos : Pos}
theorem dst_set {i : Nat} {x : Str} {pos' : Pos} {ds' : Dt → DS} (hset : ∀ d, SetAt ds i d (ds' d)) (h : DPt X e ds L fun d L1 => D.nx (ds' d) L1) (hN : X.N.Nodup) (hi : X.N[i]? = some x := by rfl) (hx : Loc X.env.scope x := by first | exact .inl rfl | exact .inr rfl)
    (hw : swapsWith e (some (.Name x pos')) pos.line X.env = pure false := by rfl) (hf : X.fn x = true ∨ X.env.scope.names.lookup x = some .local := by first | exact .inl rfl | exact .inr rfl) : DStT X (.Assign [.Name x pos'] e pos) ds L D := .mk fun σ H B E hs hl m pins s h0 I => by
  refine wpAny_Assign_Name (thn (h.run σ H B hs hl (fun v H1 => E.nx (σ.set i (some v)) H1) (fun d L1 v B1 H1 p e1 hl1 iv => ?_) pins s h0 I) fun v s1 ⟨y, H1, I1, r1, q1⟩ => ?_) hw
  · refine m.nx (ds' d) L1 _ B1 H1 p e1 ?_ hl1
    rw [← hset d]
    exact (hs.mono e1).set i iv
  · exact store_ok I1 hN hi hx r1 (fun s2 I2 => ⟨_, H1, I2, q1⟩) hf
theorem dpt_tuple {P : DK} {p : Pos} (hm : X.mg "tuple" = none) (h : DPt X e ds L fun x L1 => tupK [x] L1 P) (hg : Gl X "tuple" := by rfl) (hs1 : starEach [e] X.env = (false, eval e X.env) :: starEach [] X.env := by rfl) (hpl : (backTo pos (starEach [] X.env)).any (·.1) = false := by rfl) : DPt X (.Call (.Name "tuple" p) [e] [] pos) ds L P := .mk fun σ H B hs hl Q q pins s h0 I => by
  refine wpAny_Call_Name_kw (ld_blt I hg hm (show bootBuiltins "tuple" = some (.type "tuple") by decide +kernel) ?_ (by decide) (by decide))
  refine PyProof.Rows.callWith_type1 (thn ((pat_cons (pet_w (X := X) (e := e)) pat_nil hs1) pos pins s σ H (fun vs H1 => ∃ p ys, vs = [V.ref p] ∧ ((SqL X.K H1 p ys ∧ ∀ l, H1 l = none → Q (.ref l) (upd H1 l (.tup ys))) ∨ (SqT X.K H1 p ys ∧ Q (.ref p) H1))) h0 I ?_) fun us s1 ⟨vs, H1, I1, r1, q1⟩ => call_tuple_of pins s1 σ H1 vs us Q I1 r1 q1) hs1 hpl
  exact h.run σ H B hs hl _ fun d L1 v B1 H1 p1 e1 hl1 iv => kc_tup B1 H1 L1 [d] [v] Q P hl1 ⟨v, [], rfl, iv, rfl⟩ p1 fun d2 L' z B2 H2 p2 e2 => q d2 L' z B2 H2 p2 (e1.trans e2)
end
end Z
/-! sorted(dict(a list of pairs (int, ..))) -/
namespace Z
open PySem PySem.Spec PyProof.Rows L2
theorem putK_in {kvs : List (Key × V)} {k : Key} {v : V} (h : k ∈ kvs.map (·.1)) : (putK kvs k v).map (·.1) = kvs.map (·.1) := by
  unfold putK
  obtain ⟨p, hp, rfl⟩ := List.mem_map.mp h
  rw [if_pos (List.any_eq_true.mpr ⟨p, hp, decide_eq_true rfl⟩), List.map_map]
  refine List.map_congr_left fun q _ => ?_
  show (if q.1 = p.1 then (q.1, v) else q).1 = q.1
  split <;> rfl
theorem putK_out {kvs : List (Key × V)} {k : Key} {v : V} (h : ¬ k ∈ kvs.map (·.1)) : (putK kvs k v).map (·.1) = kvs.map (·.1) ++ [k] := by
  unfold putK
  rw [if_neg fun z => ?_, List.map_append]
  · rfl
  · obtain ⟨p, hp, e⟩ := List.any_eq_true.mp z
    exact h (List.mem_map.mpr ⟨p, hp, of_decide_eq_true e⟩)
/-- the keys, each once, in the order they came -/
def keysI : List Int → List Int → List Int
  | acc, [] => acc
  | acc, k :: ks => keysI (if k ∈ acc then acc else acc ++ [k]) ks
theorem mergeK_keys : ∀ (kvs acc : List (Key × V)) (ks as : List Int), kvs.map (·.1) = ks.map Sum.inl → acc.map (·.1) = as.map Sum.inl → (mergeK acc kvs).map (·.1) = (keysI as ks).map Sum.inl
  | [], acc, ks, as, h, ha => by
    cases ks with
    | nil => exact ha
    | cons => cases h
  | kv :: kvs, acc, ks, as, h, ha => by
    cases ks with
    | nil => cases h
    | cons k ks =>
      rw [List.map_cons, List.map_cons] at h
      injection h with h1 h2
      refine mergeK_keys kvs (putK acc kv.1 kv.2) ks _ h2 ?_
      by_cases hk : k ∈ as
      · rw [if_pos hk, putK_in (by rw [ha, h1]; exact List.mem_map.mpr ⟨k, hk, rfl⟩), ha]
      · rw [if_neg hk, putK_out fun z => ?_, ha, h1, List.map_append]
        · rfl
        rw [ha, h1] at z
        obtain ⟨j, hj, e⟩ := List.mem_map.mp z
        injection e with e
        exact hk (e ▸ hj)
theorem keysI_mem : ∀ (ks as : List Int) (x : Int), x ∈ keysI as ks ↔ x ∈ as ∨ x ∈ ks
  | [], as, x => by simp [keysI]
  | k :: ks, as, x => by
    show x ∈ keysI (if k ∈ as then as else as ++ [k]) ks ↔ _
    rw [keysI_mem ks]
    by_cases hk : k ∈ as
    · rw [if_pos hk, List.mem_cons]
      exact ⟨fun h => h.elim .inl fun h => .inr (.inr h), fun h => h.elim .inl fun h => h.elim (fun e => .inl (e ▸ hk)) .inr⟩
    · rw [if_neg hk, List.mem_append, List.mem_singleton, List.mem_cons, or_assoc]
theorem keysI_nodup : ∀ (ks as : List Int), as.Nodup → (keysI as ks).Nodup
  | [], _, h => h
  | k :: ks, as, h => by
    refine keysI_nodup ks _ ?_
    by_cases hk : k ∈ as
    · rw [if_pos hk]
      exact h
    · rw [if_neg hk]
      exact List.nodup_append.mpr ⟨h, List.nodup_cons.mpr ⟨by simp, List.nodup_nil⟩, fun a ha b hb e => hk (by rw [← List.mem_singleton.mp hb, ← e]; exact ha)⟩
end Z
namespace G
open PySem PySem.Spec PyProof.Rows L2 Z
def topS (i : Nat) : Stmt := PySem.Challenge.pw_trayring_k39_whole_numbers_rise.main.body.getD i (.Pass ⟨0, 0, 0, 0⟩)
abbrev s_TrayError : Stmt := topS 1
abbrev s_BadTray : Stmt := topS 2
abbrev s_BadTray____init__ : Stmt := clsS s_BadTray 0
abbrev s_BadCount : Stmt := topS 3
abbrev s_BadShape : Stmt := topS 4
abbrev s_BadShape____init__ : Stmt := clsS s_BadShape 0
abbrev s_BadNumber : Stmt := topS 5
abbrev s_need_count : Stmt := topS 10
abbrev s_need_tray : Stmt := topS 11
abbrev s_need_shape : Stmt := topS 14
abbrev s_choices : Stmt := topS 15
abbrev s_Counter : Stmt := topS 16
abbrev s_Counter____init__ : Stmt := clsS s_Counter 0
abbrev s_Counter__ways : Stmt := clsS s_Counter 1
abbrev s_without : Stmt := topS 17
abbrev s_counts_of : Stmt := topS 18
abbrev s_how_many : Stmt := topS 19
abbrev s_tray_at : Stmt := topS 20
abbrev s_counts_in : Stmt := topS 21
abbrev s_number_of : Stmt := topS 22
abbrev s_shape_of : Stmt := topS 23
abbrev s__law_dice : Stmt := topS 25
abbrev s__law_next : Stmt := topS 26
abbrev s__law_tray : Stmt := topS 27
abbrev s_law : Stmt := topS 28
/-! trays -/
def Sg (c : Nat) : Prop := c = 46 ∨ (97 ≤ c ∧ c ≤ 122)
structure Tray (s : Nat) (rows : List (List Nat)) : Prop where
  lo : 1 ≤ rows.length
  hi : rows.length ≤ s
  wd : ∃ w, 1 ≤ w ∧ w ≤ s ∧ ∀ r ∈ rows, r.length = w
  sg : ∀ r ∈ rows, ∀ c ∈ r, Sg c
abbrev trayD (rows : List (List Nat)) : Dt := .tup (rows.map .str)
def letters : List Nat := [97, 98, 99, 100, 101, 102, 103, 104, 105, 106, 107, 108, 109, 110, 111, 112, 113, 114, 115, 116, 117, 118, 119, 120, 121, 122]
theorem letters_eq : (Str.ofString "abcdefghijklmnopqrstuvwxyz").cps.toList = letters := by decide +kernel
theorem letters_ok : ∀ c ∈ letters, 97 ≤ c ∧ c ≤ 122 := by decide
theorem dot_eq : (Str.ofString ".").cps.toList = [46] := by decide +kernel
theorem Tray.mono {s t : Nat} {rows : List (List Nat)} (h : Tray s rows) (hs : s ≤ t) : Tray t rows := ⟨h.lo, Nat.le_trans h.hi hs, by
  obtain ⟨w, h1, h2, h3⟩ := h.wd
  exact ⟨w, h1, by omega, h3⟩, h.sg⟩
theorem Sg.mem {c : Nat} (h : Sg c) (hd : c ≠ 46) : c ∈ letters := by
  have h : 97 ≤ c ∧ c ≤ 122 := by
    rcases h with h | h
    · exact absurd h hd
    · exact h
  have e : ∀ d : Nat, d < 26 → 97 + d ∈ letters := by decide
  have := e (c - 97) (by omega)
  have e2 : 97 + (c - 97) = c := by omega
  rwa [e2] at this
theorem sc_need_tray : FnScope ["tray", "row", "text", "column", "sign"] ["tray"] (defScope s_need_tray) := ⟨rfl, rfl, rfl, by decide +kernel, rfl, by decide +kernel, by decide +kernel⟩
def R_need_tray : Rel := fun ds L P => ∃ rows, ds = [trayD rows] ∧ Tray 12 rows ∧ P .non L
section
variable {Pr : Program} {w : World} {K : PySem.W.Frag} {mg : Str → Option Value} {base : Heap}
theorem c_need_tray (F : FunAt K mg "need_tray" s_need_tray) (n_len : mg "len" = none) (n_enumerate : mg "enumerate" = none) (v_MOST_SIZE : ∃ t, mg "MOST_SIZE" = some (.int 12 t)) (v_EMPTY : ∃ t, mg "EMPTY" = some (.str (Str.ofString ".") t)) (v_LETTERS : ∃ t, mg "LETTERS" = some (.str (Str.ofString "abcdefghijklmnopqrstuvwxyz") t)) :
    Cal Pr w K mg base "need_tray" 1 ["tray"] R_need_tray := by
  refine cal_of F sc_need_tray (fun _ _ _ h => by obtain ⟨_, rfl, _⟩ := h; rfl) (fun _ _ _ _ _ _ us hl => match us, hl with | [_], _ => rfl) fun fa cdv A outer s H E hr ds L P h => ?_
  obtain ⟨rows, rfl, ht, h⟩ := h
  have nd := sc_need_tray.nd
  obtain ⟨tM, vM⟩ := v_MOST_SIZE
  obtain ⟨tE, vE⟩ := v_EMPTY
  obtain ⟨tL, vL⟩ := v_LETTERS
  obtain ⟨wd, hw1, hw2, hw⟩ := ht.wd
  have hlo := ht.lo
  have hhi := ht.hi
  have M12 : ∀ {X : Cx} {ds : DS} {L : MS} {P : DK} {pos : Pos}, X.mg = mg → Gl X "MOST_SIZE" → P (.int 12) L → DP X (.Name "MOST_SIZE" pos) ds L P := fun hm hg p => dp_glob (v := .int 12) p (by rw [hm]; exact vM) ⟨_, rfl⟩ (fun _ => rfl) hg
  have ME : ∀ {X : Cx} {ds : DS} {L : MS} {P : DK} {pos : Pos}, X.mg = mg → Gl X "EMPTY" → P (.str [46]) L → DP X (.Name "EMPTY" pos) ds L P := fun hm hg p => dp_glob (v := .str (Str.ofString ".")) p (by rw [hm]; exact vE) ⟨_, rfl⟩ (fun _ => by show V.str _ = V.str _; rw [← dot_eq]) hg
  have ML' : ∀ {X : Cx} {ds : DS} {L : MS} {P : DK} {pos : Pos}, X.mg = mg → Gl X "LETTERS" → P (.str letters) L → DP X (.Name "LETTERS" pos) ds L P := fun hm hg p => dp_glob (v := .str (Str.ofString "abcdefghijklmnopqrstuvwxyz")) p (by rw [hm]; exact vL) ⟨_, rfl⟩ (fun _ => by show V.str _ = V.str _; rw [← letters_eq]) hg
  show DSs _ _ [some (trayD rows), none, none, none, none] L _
  refine dss_cons (ds_if <| dt_eq <| dp_len n_len <| dp_var g0 <| dp_int ⟨_, rfl, fun hc => ?_, fun _ => dss_nil ?_⟩)
  · have hc := of_decide_eq_true hc
    rw [List.length_map] at hc
    omega
  refine dss_one (ds_for (di_enumT n_enumerate <| dp_var g0 ⟨_, rfl, fun i ds' L' => L' = L ∧ ds' = [some (trayD rows), none, none, none, none], ⟨_, Fg.refl _, rfl, rfl⟩, fun i d ds' L' hx hW => ?_, fun ds' L' hW => ?_⟩) .never)
  · obtain ⟨rfl, rfl⟩ := hW
    obtain ⟨x, hx2, rfl⟩ := enm_get hx
    rw [List.getElem?_map] at hx2
    obtain ⟨r, hr', rfl⟩ := Option.map_eq_some_iff.mp hx2
    have hil := (List.getElem?_eq_some_iff.mp hr').1
    have hrm := List.mem_of_getElem? hr'
    have hrl := hw r hrm
    have h0 : atI (rows.map Dt.str) 0 = some (.str rows[0]) := by
      have q := atI_nat (xs := rows.map Dt.str) (j := 0) (v := .str rows[0]) (by rw [List.getElem?_map, List.getElem?_eq_getElem (by omega)]; rfl)
      exact q
    have h0l := hw rows[0] (List.getElem_mem _)
    refine dg_tup <| dgs_cons <| dg_name s1 (dgs_cons <| dg_name s2 (dgs_nil ?_) nd) nd
    refine dss_cons (ds_if <| dt_bool <| dtw_or <| dt_eq <| dp_var g1 <| M12 rfl rfl ⟨_, rfl, fun hc => ?_, fun _ => dtw_or <| dt_ne <| dp_len n_len <| dp_var g2 ⟨Nat.le_trans (show r.length ≤ 12 by omega) szOk, dp_len n_len <| dp_ix <| dp_var g0 <| dp_int ⟨_, h0, Nat.le_trans (show rows[0].length ≤ 12 by omega) szOk, _, rfl, fun hc => ?_, fun _ =>
      dtw_or1 <| dt_not <| dt_chain_le <| dp_int <| dp_len n_len <| dp_var g2 ⟨Nat.le_trans (show r.length ≤ 12 by omega) szOk, _, _, rfl, rfl, fun _ => M12 rfl rfl ⟨_, rfl, fun hc => ?_, fun _ => dss_nil ?_⟩, fun hc => ?_⟩⟩⟩⟩)
    · have hc := of_decide_eq_true hc
      omega
    · have hc : (!decide ((r.length : Int) = (rows[0].length : Int))) = true := hc
      rw [hrl, h0l] at hc
      simp at hc
    · have hc : (!decide ((r.length : Int) ≤ 12)) = true := hc
      rw [decide_eq_true (show (r.length : Int) ≤ 12 by omega)] at hc
      cases hc
    · refine dss_one (ds_for (di_enumS n_enumerate <| dp_var g2 ⟨_, rfl, fun j ds' L'' => L'' = L' ∧ ds' = [some (trayD rows), some (.int i), some (.str r), none, none], ⟨_, Fg.refl _, rfl, rfl⟩, fun j d ds' L'' hx hW => ?_, fun ds' L'' hW => ?_⟩) .never)
      · obtain ⟨rfl, rfl⟩ := hW
        obtain ⟨x, hx2, rfl⟩ := enm_get hx
        obtain ⟨c, hc, rfl⟩ := sgn_get hx2
        have hcs := ht.sg r hrm c (List.mem_of_getElem? hc)
        refine dg_tup <| dgs_cons <| dg_name s3 (dgs_cons <| dg_name s4 (dgs_nil ?_) nd) nd
        refine dss_one (ds_if <| dt_bool <| dtw_and <| dt_ne <| dp_var g4 <| ME rfl rfl ⟨_, rfl, fun hc1 => dtw_and1 <| dt_notInS <| dp_var g4 <| ML' rfl rfl ⟨_, rfl, fun hc2 => ?_, fun _ => dss_nil ?_⟩, fun _ => twoF <| dss_nil ?_⟩)
        · have hne : c ≠ 46 := fun z => by
            have hc1 : (!decide ([c] = [46])) = true := hc1
            rw [z] at hc1
            simp at hc1
          have hc2 : (!decide (c ∈ letters)) = true := hc2
          rw [decide_eq_true (hcs.mem hne)] at hc2
          cases hc2
        · exact ⟨_, .keep <| .keep <| .keep <| .drop <| .drop .nil, rfl, rfl⟩
        · exact ⟨_, .keep <| .keep <| .keep <| .drop <| .drop .nil, rfl, rfl⟩
      · obtain ⟨rfl, rfl⟩ := hW
        exact ⟨_, .keep <| .drop <| .drop <| .drop <| .drop .nil, rfl, rfl⟩
    · have hc := of_decide_eq_false hc
      omega
  · obtain ⟨rfl, rfl⟩ := hW
    exact h
end
/-! counts of balls, lists of ints (for laws without sides_of) -/
def cntM (r : List Nat) : Nat := (r.filter fun c => decide (c ≠ 46)).length
def intsD (l : List Nat) : List Dt := l.map fun n => Dt.int (n : Nat)
theorem cnt_len (r : List Nat) : (r.length : Int) - (r.count 46 : Nat) = (cntM r : Nat) := by
  have h1 : r.count 46 + cntM r = r.length := by
    unfold cntM
    induction r with
    | nil => rfl
    | cons a r ih =>
      rw [List.count_cons, List.length_cons, List.filter_cons]
      by_cases q : a = 46
      · simp [q]
        simp at ih
        omega
      · simp [q]
        simp at ih
        omega
  omega
theorem cntM_le (r : List Nat) : cntM r ≤ r.length := List.length_filter_le _ _
/-! rectangles (for laws without the tilts) -/
structure Rect (h w : Nat) (t : List (List Nat)) : Prop where
  h : t.length = h
  w : ∀ r ∈ t, r.length = w
theorem Tray.rect {s : Nat} {rows : List (List Nat)} (h : Tray s rows) : ∃ w, 1 ≤ w ∧ w ≤ s ∧ Rect rows.length w rows := by
  obtain ⟨w, h1, h2, h3⟩ := h.wd
  exact ⟨w, h1, h2, rfl, h3⟩
def wdt (rows : List (List Nat)) : Nat := (rows.headD []).length
theorem Tray.wdt {s : Nat} {rows : List (List Nat)} (h : Tray s rows) : 1 ≤ wdt rows ∧ wdt rows ≤ s ∧ Rect rows.length (wdt rows) rows := by
  obtain ⟨w, h1, h2, R⟩ := h.rect
  have e : G.wdt rows = w := by
    cases rows with
    | nil => exact absurd h.lo (by decide)
    | cons r rs => exact R.w r List.mem_cons_self
  rw [e]
  exact ⟨h1, h2, R⟩
theorem desc_uniq : ∀ {l m : List Nat}, l.Perm m → l.Pairwise (· ≥ ·) → m.Pairwise (· ≥ ·) → l = m := fun p h1 h2 =>
  List.Perm.eq_of_pairwise (fun a b _ _ q1 q2 => by omega) h1 h2 p
theorem filterT {α : Type} (xs : List α) : xs.filter (fun _ => true) = xs := by simp
/-! the trays of one shape: how many -/
/-- so many ways to choose k of n -/
def cho : Nat → Nat → Nat
  | _, 0 => 1
  | 0, _ + 1 => 0
  | n + 1, k + 1 => cho n k + cho n (k + 1)
theorem cho_step : ∀ n < 13, ∀ t < 13, ((cho n t : Int) * ((n : Int) - t)) / ((t : Int) + 1) = (cho n (t + 1) : Int) := by decide +kernel
theorem cho_bound : ∀ n < 13, ∀ t < 13, cho n t ≤ 1000 := by decide +kernel
theorem cho_far : ∀ n < 13, ∀ t < 13, n < t → cho n t = 0 := by decide +kernel
/-- the counts that occur -/
def dist (cs : List Nat) : List Nat := (List.range 13).filter fun c => decide (c ∈ cs)
theorem mem_dist {cs : List Nat} (h : ∀ c ∈ cs, c ≤ 12) {c : Nat} : c ∈ dist cs ↔ c ∈ cs := by
  unfold dist
  rw [List.mem_filter, List.mem_range, decide_eq_true_iff]
  exact ⟨fun z => z.2, fun z => ⟨by have := h c z; omega, z⟩⟩
theorem dist_lt (cs : List Nat) : (dist cs).Pairwise (· < ·) := List.Pairwise.filter _ List.pairwise_lt_range
/-- how many fillings of the rest there are: rows with these counts are left; the row at hand has b balls so far, and e cells are left -/
def W (cols : Nat) : Nat → List Nat → Nat → Nat → Nat
  | 0, _, _, _ => 1
  | k + 1, cs, b, e => (((dist cs).filter fun c => decide (b ≤ c)).map fun c => cho e (c - b) * W cols k (cs.erase c) 0 cols).sum
def Wy (cols : Nat) (cs : List Nat) (b e : Nat) : Nat := W cols cs.length cs b e
theorem Wy_nil (cols b e : Nat) : Wy cols [] b e = 1 := rfl
theorem sum_map_congr {f g : Nat → Nat} : ∀ {l : List Nat}, (∀ x ∈ l, f x = g x) → (l.map f).sum = (l.map g).sum
  | [], _ => rfl
  | x :: l, h => by
    rw [List.map_cons, List.map_cons, List.sum_cons, List.sum_cons, h x List.mem_cons_self, sum_map_congr fun y hy => h y (List.mem_cons_of_mem _ hy)]
theorem Wy_cons {cols : Nat} {cs : List Nat} {b e : Nat} (hne : cs ≠ []) (h : ∀ c ∈ cs, c ≤ 12) : Wy cols cs b e = (((dist cs).filter fun c => decide (b ≤ c)).map fun c => cho e (c - b) * Wy cols (cs.erase c) 0 cols).sum := by
  unfold Wy
  cases hl : cs.length with
  | zero => exact absurd (List.length_eq_zero_iff.mp hl) hne
  | succ k =>
    show (((dist cs).filter fun c => decide (b ≤ c)).map fun c => cho e (c - b) * W cols k (cs.erase c) 0 cols).sum = _
    refine sum_map_congr fun c hc => ?_
    have hm := (mem_dist h).mp (List.mem_filter.mp hc).1
    rw [List.length_erase_of_mem hm, hl]
    rfl
/-- all the parts of a list -/
def subs : List Nat → List (List Nat)
  | [] => [[]]
  | x :: r => subs r ++ (subs r).map (x :: ·)
theorem subs_len : ∀ l : List Nat, (subs l).length = 2 ^ l.length
  | [] => rfl
  | x :: r => by
    show (subs r ++ (subs r).map (x :: ·)).length = 2 ^ (r.length + 1)
    rw [List.length_append, List.length_map, subs_len r, Nat.pow_succ]
    omega
theorem mem_subs {l s : List Nat} (h : s.Sublist l) : s ∈ subs l := by
  induction h with
  | slnil => exact List.mem_singleton.mpr rfl
  | cons a _ ih => exact List.mem_append_left _ ih
  | cons_cons a _ ih => exact List.mem_append_right _ (List.mem_map.mpr ⟨_, ih, rfl⟩)
/-- what a counter may keep: counts left, balls so far, cells left -/
abbrev CK := List Nat × Nat × Nat
def nkC (k : CK) : List NestedKey := [.tup (k.1.map fun c : Nat => .num (c : Int)), .num (k.2.1 : Nat), .num (k.2.2 : Nat)]
theorem dOfs_nums : ∀ l : List Nat, dOfs (l.map fun c : Nat => NestedKey.num (c : Int)) = intsD l
  | [] => rfl
  | c :: l => by
    rw [List.map_cons]
    simp only [dOfs, dOf]
    rw [dOfs_nums l]
    rfl
theorem nkC_data (cs : List Nat) (b e : Nat) : Dt.tup [.tup (intsD cs), .int (b : Nat), .int (e : Nat)] = dOf (.tup (nkC (cs, b, e))) := by
  unfold nkC
  simp only [dOf, dOfs, dOfs_nums]
theorem depthAll_nums : ∀ l : List Nat, NestedKey.depthAll (l.map fun c : Nat => NestedKey.num (c : Int)) ≤ 2
  | [] => by simp [NestedKey.depthAll]
  | c :: l => by
    rw [List.map_cons]
    have := depthAll_nums l
    simp only [NestedKey.depthAll, NestedKey.depth]
    omega
theorem nkC_depth (k : CK) : (NestedKey.tup (nkC k)).depth ≤ 8 := by
  unfold nkC
  have := depthAll_nums k.1
  simp only [NestedKey.depthAll, NestedKey.depth]
  omega
theorem nums_inj : ∀ {a b : List Nat}, (a.map fun c : Nat => NestedKey.num (c : Int)) = (b.map fun c : Nat => NestedKey.num (c : Int)) → a = b
  | [], [], _ => rfl
  | [], _ :: _, h => by cases h
  | _ :: _, [], h => by cases h
  | x :: a, y :: b, h => by
    rw [List.map_cons, List.map_cons] at h
    injection h with h1 h2
    injection h1 with h1
    rw [nums_inj h2, Int.ofNat.inj h1]
theorem nkC_inj {a b : CK} (h : NestedKey.tup (nkC a) = .tup (nkC b)) : a = b := by
  obtain ⟨a1, a2, a3⟩ := a
  obtain ⟨b1, b2, b3⟩ := b
  unfold nkC at h
  simp only [NestedKey.tup.injEq, List.cons.injEq, NestedKey.num.injEq, and_true] at h
  obtain ⟨h1, h2, h3⟩ := h
  rw [nums_inj h1, Int.ofNat.inj h2, Int.ofNat.inj h3]
/-- what is kept, by the keys -/
def kept (cols : Nat) : List CK → NestedKey → Option Dt
  | [] => fun _ => none
  | k :: ks => nfPut (kept cols ks) (.tup (nkC k)) (.int (Wy cols k.1 k.2.1 k.2.2 : Nat))
theorem kept_in {cols : Nat} {ks : List CK} {k : CK} (h : k ∈ ks) : kept cols ks (.tup (nkC k)) = some (.int (Wy cols k.1 k.2.1 k.2.2 : Nat)) := by
  induction ks with
  | nil => cases h
  | cons x ks ih =>
    show (if NestedKey.tup (nkC k) = .tup (nkC x) then some (Dt.int (Wy cols x.1 x.2.1 x.2.2 : Nat)) else kept cols ks (.tup (nkC k))) = _
    by_cases q : NestedKey.tup (nkC k) = .tup (nkC x)
    · rw [if_pos q, nkC_inj q]
    · rw [if_neg q]
      rcases List.mem_cons.mp h with rfl | h
      · exact absurd rfl q
      · exact ih h
theorem kept_out {cols : Nat} {ks : List CK} {k : CK} (h : k ∉ ks) : kept cols ks (.tup (nkC k)) = none := by
  induction ks with
  | nil => rfl
  | cons x ks ih =>
    show (if NestedKey.tup (nkC k) = .tup (nkC x) then some (Dt.int (Wy cols x.1 x.2.1 x.2.2 : Nat)) else kept cols ks (.tup (nkC k))) = _
    rw [if_neg fun q => h (by rw [nkC_inj q]; exact List.mem_cons_self), ih fun z => h (List.mem_cons_of_mem _ z)]
/-- the keys that a counter of these counts keeps -/
structure KeysOk (C0 : List Nat) (ks : List CK) : Prop where
  nd : ks.Nodup
  sb : ∀ k ∈ ks, k.1.Sublist C0 ∧ k.2.1 ≤ 12 ∧ k.2.2 ≤ 12
  len : C0.length ≤ 12
def allK (C0 : List Nat) : List CK := (subs C0).flatMap fun s => (List.range 13).flatMap fun b => (List.range 13).map fun e => (s, b, e)
theorem mem_allK {C0 : List Nat} {k : CK} (h : k.1.Sublist C0 ∧ k.2.1 ≤ 12 ∧ k.2.2 ≤ 12) : k ∈ allK C0 := by
  unfold allK
  rw [List.mem_flatMap]
  refine ⟨k.1, mem_subs h.1, ?_⟩
  rw [List.mem_flatMap]
  exact ⟨k.2.1, List.mem_range.mpr (by omega), List.mem_map.mpr ⟨k.2.2, List.mem_range.mpr (by omega), rfl⟩⟩
theorem flatMap_len {α β : Type} {f : α → List β} {n : Nat} : ∀ {l : List α}, (∀ x ∈ l, (f x).length = n) → (l.flatMap f).length = l.length * n
  | [], _ => by simp
  | x :: l, h => by
    rw [List.flatMap_cons, List.length_append, h x List.mem_cons_self, flatMap_len fun y hy => h y (List.mem_cons_of_mem _ hy), List.length_cons, Nat.succ_mul]
    omega
theorem allK_len (C0 : List Nat) : (allK C0).length = 2 ^ C0.length * 169 := by
  unfold allK
  rw [flatMap_len (n := 169) fun s _ => ?_, subs_len]
  rw [flatMap_len (n := 13) fun b _ => ?_]
  · rfl
  · rw [List.length_map, List.length_range]
theorem nodup_leN {α : Type} [DecidableEq α] : ∀ {l m : List α}, l.Nodup → (∀ x ∈ l, x ∈ m) → l.length ≤ m.length
  | [], _, _, _ => Nat.zero_le _
  | x :: l, m, h, hs => by
    obtain ⟨h1, h2⟩ := List.nodup_cons.mp h
    have hm := hs x List.mem_cons_self
    have := nodup_leN (m := m.erase x) h2 fun y hy => (List.mem_erase_of_ne (fun z : y = x => h1 (by rw [← z]; exact hy))).mpr (hs y (List.mem_cons_of_mem _ hy))
    rw [List.length_erase_of_mem hm] at this
    have hp : 0 < m.length := List.length_pos_of_mem hm
    rw [List.length_cons]
    omega
theorem KeysOk.le {C0 : List Nat} {ks : List CK} (h : KeysOk C0 ks) : ks.length ≤ 700000 := by
  have h1 := nodup_leN h.nd fun k hk => mem_allK (h.sb k hk)
  rw [allK_len] at h1
  have h2 : 2 ^ C0.length ≤ 2 ^ 12 := Nat.pow_le_pow_right (by decide) h.len
  have h3 : (2 : Nat) ^ 12 = 4096 := rfl
  omega
theorem KeysOk.nil {C0 : List Nat} (h : C0.length ≤ 12) : KeysOk C0 [] := ⟨List.nodup_nil, fun _ h => (nomatch h), h⟩
theorem KeysOk.put {C0 : List Nat} {ks : List CK} {k : CK} (h : KeysOk C0 ks) (hk : k ∉ ks) (hs : k.1.Sublist C0 ∧ k.2.1 ≤ 12 ∧ k.2.2 ≤ 12) : KeysOk C0 (k :: ks) := ⟨List.nodup_cons.mpr ⟨hk, h.nd⟩, fun x hx => by
  rcases List.mem_cons.mp hx with rfl | hx
  · exact hs
  · exact h.sb x hx, h.len⟩
/-- lists that rise, with the same members -/
theorem rise_eq : ∀ {a b : List Int}, a.Pairwise (· < ·) → b.Pairwise (· < ·) → (∀ k, k ∈ a ↔ k ∈ b) → a = b
  | [], [], _, _, _ => rfl
  | [], y :: b, _, _, h => absurd ((h y).mpr List.mem_cons_self) (List.not_mem_nil)
  | x :: a, [], _, _, h => absurd ((h x).mp List.mem_cons_self) (List.not_mem_nil)
  | x :: a, y :: b, ha, hb, h => by
    obtain ⟨a1, a2⟩ := List.pairwise_cons.mp ha
    obtain ⟨b1, b2⟩ := List.pairwise_cons.mp hb
    have exy : x = y := by
      rcases List.mem_cons.mp ((h x).mp List.mem_cons_self) with e | e
      · exact e
      · rcases List.mem_cons.mp ((h y).mpr List.mem_cons_self) with e2 | e2
        · exact e2.symm
        · have := b1 x e
          have := a1 y e2
          omega
    subst exy
    rw [rise_eq a2 b2 fun k => ⟨fun z => ?_, fun z => ?_⟩]
    · rcases List.mem_cons.mp ((h k).mp (List.mem_cons_of_mem _ z)) with e | e
      · have := a1 k z
        omega
      · exact e
    · rcases List.mem_cons.mp ((h k).mpr (List.mem_cons_of_mem _ z)) with e | e
      · have := b1 k z
        omega
      · exact e
theorem rise_dist {cs : List Nat} (hc : ∀ c ∈ cs, c ≤ 12) {ms : List Int} (h1 : ms.Pairwise (· < ·)) (h2 : ∀ k : Int, k ∈ ms ↔ k ∈ cs.map fun c : Nat => (c : Int)) : ms = (dist cs).map fun c : Nat => (c : Int) := by
  refine rise_eq h1 ?_ fun k => (h2 k).trans ?_
  · rw [List.pairwise_map]
    exact (dist_lt cs).imp fun h => by omega
  · rw [List.mem_map, List.mem_map]
    exact ⟨fun ⟨c, z, e⟩ => ⟨c, (mem_dist hc).mpr z, e⟩, fun ⟨c, z, e⟩ => ⟨c, (mem_dist hc).mp z, e⟩⟩
/-! need_count (for laws without tilted) -/
theorem sc_need_count : FnScope ["number", "low", "high"] ["number", "low", "high"] (defScope s_need_count) := ⟨rfl, rfl, rfl, by decide +kernel, rfl, by decide +kernel, by decide +kernel⟩
def R_need_count : Rel := fun ds L P => ∃ n a b : Int, ds = [.int n, .int a, .int b] ∧ a ≤ n ∧ n ≤ b ∧ P .non L
section
variable {Pr : Program} {w : World} {K : PySem.W.Frag} {mg : Str → Option Value} {base : Heap}
theorem c_need_count (F : FunAt K mg "need_count" s_need_count) : Cal Pr w K mg base "need_count" 1 ["number", "low", "high"] R_need_count := by
  refine cal_of F sc_need_count (fun _ _ _ h => by obtain ⟨_, _, _, rfl, _⟩ := h; rfl) (fun _ _ _ _ _ _ us hl => match us, hl with | [_, _, _], _ => rfl) fun fa cdv A outer s H E hr ds L P h => ?_
  obtain ⟨n, a, b, rfl, h1, h2, h⟩ := h
  show DSs _ _ [some (.int n), some (.int a), some (.int b)] L _
  refine dss_one (ds_if <| dt_not <| dt_chain_le <| dp_var g1 <| dp_var g0 ⟨_, _, rfl, rfl, fun _ => dp_var g2 ⟨_, rfl, fun hc => ?_, fun _ => dss_nil h⟩, fun hc => ?_⟩)
  · have hc : (!decide (n ≤ b)) = true := hc
    rw [decide_eq_true h2] at hc
    cases hc
  · exact absurd h1 (of_decide_eq_false hc)
end
/-! dice -/
def dice (ns : List Int) (p x r : Int) : MO := .lst [.frl (ns.map .int), .int p, .int x, .int r]
theorem sc_dice : FnScope ["_law_script", "_law_mixed", "_law_cell"] ["_law_script"] (defScope s__law_dice) := ⟨rfl, rfl, rfl, by decide +kernel, rfl, by decide +kernel, by decide +kernel⟩
def R_dice : Rel := fun ds L P => ∃ ns : List Int, ds = [.frl (ns.map .int)] ∧ ∀ a x, P (.adr a) ((a, dice ns 0 x 0) :: L)
section
variable {Pr : Program} {w : World} {K : PySem.W.Frag} {mg : Str → Option Value} {base : Heap}
theorem c_dice (F : FunAt K mg "_law_dice" s__law_dice) (n_len : mg "len" = none) (n_int : mg "int" = none) : Cal Pr w K mg base "_law_dice" 1 ["_law_script"] R_dice := by
  refine cal_of F sc_dice (fun _ _ _ h => by obtain ⟨_, rfl, _⟩ := h; rfl) (fun _ _ _ _ _ _ us hl => match us, hl with | [_], _ => rfl) fun f cdv A outer s H E hr ds L P h => ?_
  obtain ⟨ns, rfl, h⟩ := h
  have nd := sc_dice.nd
  show DSs _ _ [some (.frl (ns.map .int)), none, none] L _
  refine dss_cons (ds_set (i := 1) (fun _ => s1) (dp_int ?_) nd)
  refine dss_cons (ds_for (di_list (dp_var g0 ⟨fun i ds' L' => L' = L ∧ ∃ m : Int, ds' = [some (.frl (ns.map .int)), some (.int m), none], ⟨_, Fg.refl _, rfl, 0, rfl⟩, fun i d ds' L' hx hW => ?_, fun ds' L' hW => ?_⟩)) .never)
  · obtain ⟨rfl, m, rfl⟩ := hW
    rw [List.getElem?_map] at hx
    obtain ⟨n, _, rfl⟩ := Option.map_eq_some_iff.mp hx
    refine dg_name s2 ?_ nd
    refine dss_one (ds_set (i := 1) (fun _ => s1) ?_ nd)
    refine dp_mod <| dp_add <| dp_add <| dp_mul <| dp_var g1 <| dp_int ⟨.inl (.inr (by decide)), ?_⟩
    refine dp_mul <| dp_mod <| dp_var g2 <| dp_int ⟨by decide, ?_⟩
    refine dp_int ⟨.inl (.inr (by decide)), ?_⟩
    refine dp_int <| dp_int ⟨by decide, ?_⟩
    exact ⟨_, .keep (.keep (.drop .nil)), rfl, _, rfl⟩
  · obtain ⟨rfl, m, rfl⟩ := hW
    refine dss_one (ds_ret ?_)
    refine dp_lstM <| da_cons <| dp_var g0 <| da_cons <| dp_int <| da_cons ?_
    refine dp_mul <| dp_var g1 <| dp_intc n_int <| dp_gt <| dp_len n_len <| dp_var g0 <| dp_int ?_
    refine ⟨.inl (.inr ?_), ?_⟩
    · split <;> decide
    · exact da_cons <| dp_int <| da_nil ⟨szOk, fun a => h a _⟩
end
/-! next -/
def Dice (m : MO) : Prop := ∃ ns p x r, 0 ≤ p ∧ m = dice ns p x r
theorem sc_next : FnScope ["_law_dice_here", "_law_many", "_law_found", "_law_cell"] ["_law_dice_here", "_law_many"] (defScope s__law_next) := ⟨rfl, rfl, rfl, by decide +kernel, rfl, by decide +kernel, by decide +kernel⟩
def R_next : Rel := fun ds L P => ∃ a n f m0, ds = [.adr a, .int n] ∧ Spot a f ∧ L = f m0 ∧ Dice m0 ∧ 0 < n ∧ n.natAbs.log2 < 9000 ∧ ∀ v m1, 0 ≤ v → v < n → Dice m1 → P (.int v) (f m1)
section
variable {Pr : Program} {w : World} {K : PySem.W.Frag} {mg : Str → Option Value} {base : Heap}
theorem c_next (F : FunAt K mg "_law_next" s__law_next) (n_len : mg "len" = none) : Cal Pr w K mg base "_law_next" 1 ["_law_dice_here", "_law_many"] R_next := by
  refine cal_of F sc_next (fun _ _ _ h => by obtain ⟨_, _, _, _, rfl, _⟩ := h; rfl) (fun _ _ _ _ _ _ us hl => match us, hl with | [_, _], _ => rfl) fun f cdv A outer s H E hr ds L P h => ?_
  obtain ⟨a, n, f, _, rfl, hf, rfl, ⟨ns, p, x, r, hp, rfl⟩, h0, hn, h⟩ := h
  have nd := sc_next.nd
  show DSs _ _ [some (.adr a), some (.int n), none, none] _ _
  refine dss_cons (ds_if (dt_gt (dp_ix <| dp_var g0 <| dp_int ⟨_, hf.ml _, _, rfl, dp_int ⟨_, rfl, fun hc => ?_, fun hc => ?_⟩⟩)))
  · have hr0 : 0 < r := of_decide_eq_true hc
    refine dss_cons (ds_set (i := 2) (fun _ => s2) (dp_mod <| dp_ix <| dp_var g0 <| dp_int ⟨_, hf.ml _, _, rfl, dp_var g1 ⟨h0, ?_⟩⟩) nd)
    refine dss_cons (ds_asg (dp_fdiv <| dp_ix <| dp_var g0 <| dp_int ⟨_, hf.ml _, _, rfl, dp_var g1 ⟨⟨h0, hn⟩, dg_item <| dp_var g0 <| dp_int ⟨_, hf.ml _, _, rfl, _, hf.st _ _, ?_⟩⟩⟩))
    refine dss_one (ds_ret <| dp_var g2 ?_)
    exact h _ _ (Int.emod_nonneg _ (by omega)) (Int.emod_lt_of_pos _ h0) ⟨ns, p, x, _, hp, rfl⟩
  · refine dss_nil ?_
    refine dss_cons (ds_asg (dp_add <| dp_ix <| dp_var g0 <| dp_int ⟨_, hf.ml _, _, rfl, dp_int <| dg_item <| dp_var g0 <| dp_int ⟨_, hf.ml _, _, rfl, _, hf.st _ _, ?_⟩⟩))
    refine dss_cons (ds_if (dt_le (dp_ix <| dp_var g0 <| dp_int ⟨_, hf.ml _, _, rfl, dp_len n_len <| dp_ix <| dp_var g0 <| dp_int ⟨_, hf.ml _, _, rfl, _, rfl, fun hc => ?_, fun hc => ?_⟩⟩)))
    · have hc : p + 1 ≤ ((ns.map Dt.int).length : Int) := of_decide_eq_true hc
      rw [List.length_map] at hc
      have hj : p.toNat < ns.length := by omega
      have hat : atI (ns.map Dt.int) (p + 1 - 1) = some (.int ns[p.toNat]) := by
        have e : p + 1 - 1 = ((p.toNat : Nat) : Int) := by omega
        rw [e]
        refine atI_nat ?_
        rw [List.getElem?_map, List.getElem?_eq_getElem hj]
        rfl
      refine dss_cons (ds_set (i := 3) (fun _ => s3) (dp_ix <| dp_ix <| dp_var g0 <| dp_int ⟨_, hf.ml _, _, rfl, dp_sub <| dp_ix <| dp_var g0 <| dp_int ⟨_, hf.ml _, _, rfl, dp_int ⟨_, hat, ?_⟩⟩⟩) nd)
      refine dss_cons (ds_asg (dp_if <| dt_ge <| dp_var g3 <| dp_pow <| dp_int <| dp_int ⟨⟨by decide, by decide, by decide⟩, _, rfl, fun _ => ?_, fun _ => ?_⟩))
      · refine dp_fdiv <| dp_var g3 <| dp_var g1 ⟨⟨h0, hn⟩, dg_item <| dp_var g0 <| dp_int ⟨_, hf.ml _, _, rfl, _, hf.st _ _, ?_⟩⟩
        refine dss_one (ds_ret <| dp_mod <| dp_var g3 <| dp_var g1 ⟨h0, ?_⟩)
        exact h _ _ (Int.emod_nonneg _ (by omega)) (Int.emod_lt_of_pos _ h0) ⟨ns, p + 1, x, _, by omega, rfl⟩
      · refine dp_int <| dg_item <| dp_var g0 <| dp_int ⟨_, hf.ml _, _, rfl, _, hf.st _ _, ?_⟩
        refine dss_one (ds_ret <| dp_mod <| dp_var g3 <| dp_var g1 ⟨h0, ?_⟩)
        exact h _ _ (Int.emod_nonneg _ (by omega)) (Int.emod_lt_of_pos _ h0) ⟨ns, p + 1, x, _, by omega, rfl⟩
    · refine dss_nil ?_
      refine dss_cons (ds_asg (dp_mod <| dp_mul <| dp_ix <| dp_var g0 <| dp_int ⟨_, hf.ml _, _, rfl, dp_int ⟨.inl (.inr (by decide)), dp_int ⟨by decide, dg_item <| dp_var g0 <| dp_int ⟨_, hf.ml _, _, rfl, _, hf.st _ _, ?_⟩⟩⟩⟩))
      refine dss_one (ds_ret <| dp_mod <| dp_fdiv <| dp_ix <| dp_var g0 <| dp_int ⟨_, hf.ml _, _, rfl, dp_int ⟨⟨by decide, by decide⟩, dp_var g1 ⟨h0, ?_⟩⟩⟩)
      exact h _ _ (Int.emod_nonneg _ (by omega)) (Int.emod_lt_of_pos _ h0) ⟨ns, p + 1, _, _, by omega, rfl⟩
end
theorem sc_tray : FnScope ["_law_d", "_law_size", "_law_height", "_law_width", "_law_marks", "_law_dense", "_law_found", "_law_row", "_law_text", "_law_k", "_law_mark"] ["_law_d", "_law_size"] (defScope s__law_tray) := ⟨rfl, rfl, rfl, by decide +kernel, rfl, by decide +kernel, by decide +kernel⟩
def R_tray : Rel := fun ds L P => ∃ a n f m0, ds = [.adr a, .int (n : Nat)] ∧ Spot a f ∧ L = f m0 ∧ Dice m0 ∧ 1 ≤ n ∧ n ≤ 12 ∧ ∀ rows m1, Tray n rows → Dice m1 → P (trayD rows) (f m1)
theorem pick4 {v : Int} (h0 : 0 ≤ v) (h1 : v < 4) : ∃ k : Nat, 1 ≤ k ∧ k ≤ 26 ∧ atI [Dt.int 1, .int 2, .int 4, .int 26] v = some (.int k) := by
  have h : v = 0 ∨ v = 1 ∨ v = 2 ∨ v = 3 := by omega
  rcases h with rfl | rfl | rfl | rfl
  · exact ⟨1, by decide, by decide, rfl⟩
  · exact ⟨2, by decide, by decide, rfl⟩
  · exact ⟨4, by decide, by decide, rfl⟩
  · exact ⟨26, by decide, by decide, rfl⟩
theorem at_in {α : Type} {xs : List α} {v : Int} (h0 : 0 ≤ v) (h1 : v < (xs.length : Int)) : ∃ x, x ∈ xs ∧ atI xs v = some x := by
  have hj : v.toNat < xs.length := by omega
  refine ⟨xs[v.toNat], List.getElem_mem hj, ?_⟩
  have e : v = ((v.toNat : Nat) : Int) := by omega
  have q := atI_nat (List.getElem?_eq_getElem hj)
  rw [← e] at q
  exact q
section
variable {Pr : Program} {w : World} {K : PySem.W.Frag} {mg : Str → Option Value} {base : Heap}
theorem c_tray (F : FunAt K mg "_law_tray" s__law_tray) (C__law_next : Cal Pr w K mg base "_law_next" 1 ["_law_dice_here", "_law_many"] R_next) (n_len : mg "len" = none) (n_range : mg "range" = none) (n_tuple : mg "tuple" = none) : Cal Pr w K mg base "_law_tray" 2 ["_law_d", "_law_size"] R_tray := by
  refine cal_of F sc_tray (fun _ _ _ h => by obtain ⟨_, _, _, _, rfl, _⟩ := h; rfl) (fun _ _ _ _ _ _ us hl => match us, hl with | [_, _], _ => rfl) fun fa cdv A outer s H E hr ds L P h => ?_
  obtain ⟨a, n, f, m0, rfl, hf, rfl, hd0, hn1, hn2, h⟩ := h
  have nd := sc_tray.nd
  show DSs _ _ [some (.adr a), some (.int n), none, none, none, none, none, none, none, none, none] _ _
  -- height, width
  refine dss_cons (ds_par (i := 2) (j := 3) (ds' := fun d d' => [some (.adr a), some (.int n), some d, some d', none, none, none, none, none, none, none]) (fun _ _ => rfl) ?_ nd (by decide))
  refine da_cons <| dp_add <| dp_int <| dp_call C__law_next hr (by decide) <| da_cons <| dp_var g0 <| da_cons <| dp_var g1 <| da_nil ⟨a, n, f, m0, rfl, hf, rfl, hd0, by omega, ?_, fun v1 m1 h10 h11 hd1 => ?_⟩
  · exact Nat.lt_of_le_of_lt (Nat.log2_le_self _) (by omega)
  refine da_cons <| dp_add <| dp_int <| dp_call C__law_next hr (by decide) <| da_cons <| dp_var g0 <| da_cons <| dp_var g1 <| da_nil ⟨a, n, f, m1, rfl, hf, rfl, hd1, by omega, ?_, fun v2 m2 h20 h21 hd2 => da_nil ⟨_, _, rfl, ?_⟩⟩
  · exact Nat.lt_of_le_of_lt (Nat.log2_le_self _) (by omega)
  -- marks, dense, found
  refine dss_cons (ds_par3 (i := 4) (j := 5) (l := 6) (ds' := fun d d' d'' => [some (.adr a), some (.int n), some (.int (1 + v1)), some (.int (1 + v2)), some d, some d', some d'', none, none, none, none]) (fun _ _ _ => rfl) ?_ nd (by decide) (by decide) (by decide))
  refine da_cons <| dp_slice <| dp_txt letters_eq ?_
  refine dp_ix <| dp_lst <| da_cons <| dp_int <| da_cons <| dp_int <| da_cons <| dp_int <| da_cons <| dp_int <| da_nil ⟨szOk, ?_⟩
  refine dp_call C__law_next hr (by decide) <| da_cons <| dp_var g0 <| da_cons <| dp_int <| da_nil ⟨a, 4, f, m2, rfl, hf, rfl, hd2, by decide, by decide, fun v3 m3 h30 h31 hd3 => ?_⟩
  obtain ⟨k, hk1, hk2, hk⟩ := pick4 h30 h31
  refine ⟨_, hk, _, rfl, szOk, ?_⟩
  rw [cutL_to]
  have hmk : ∀ c ∈ letters.take k, 97 ≤ c ∧ c ≤ 122 := fun c hc => letters_ok c (List.mem_of_mem_take hc)
  have hml : (letters.take k).length = k := by
    rw [List.length_take]
    show min k 26 = k
    omega
  generalize letters.take k = marks at hmk hml ⊢
  refine da_cons <| dp_add <| dp_int <| dp_call C__law_next hr (by decide) <| da_cons <| dp_var g0 <| da_cons <| dp_int <| da_nil ⟨a, 4, f, m3, rfl, hf, rfl, hd3, by decide, by decide, fun v4 m4 h40 h41 hd4 => ?_⟩
  refine da_cons <| dp_lstM <| da_nil ⟨szOk, fun q => da_nil ⟨_, _, _, rfl, ?_⟩⟩
  -- the rows
  refine dss_cons (ds_for (di_range1 n_range <| dp_var g2 ⟨_, rfl, by omega, by omega, fun i ds' L' => ∃ rows m5, L' = (q, .lst (rows.map .str)) :: f m5 ∧ Dice m5 ∧ rows.length = i ∧ (∀ r ∈ rows, (r.length : Int) = 1 + v2 ∧ ∀ c ∈ r, Sg c) ∧
    ds' = [some (.adr a), some (.int n), some (.int (1 + v1)), some (.int (1 + v2)), some (.str marks), some (.int (1 + v4)), some (.adr q), none, none, none, none], ⟨_, Fg.refl _, [], m4, rfl, hd4, rfl, by simp, rfl⟩, fun i d ds' L' hx hW => ?_, fun ds' L' hW => ?_⟩) .never)
  · obtain ⟨rows, m5, rfl, hd5, hrl, hrs, rfl⟩ := hW
    obtain ⟨hi, rfl⟩ := rng_get hx
    refine dg_name s7 ?_ nd
    refine dss_cons (ds_set (i := 8) (fun _ => s8) (dp_txt (l := []) (by decide +kernel) ?_) nd)
    refine dss_cons (ds_for (di_range1 n_range <| dp_var g3 ⟨_, rfl, by omega, by omega, fun j ds' L' => ∃ t m6, L' = (q, .lst (rows.map .str)) :: f m6 ∧ Dice m6 ∧ t.length = j ∧ (∀ c ∈ t, Sg c) ∧
      ds' = [some (.adr a), some (.int n), some (.int (1 + v1)), some (.int (1 + v2)), some (.str marks), some (.int (1 + v4)), some (.adr q), none, some (.str t), none, none], ⟨_, .keep <| .keep <| .keep <| .keep <| .keep <| .keep <| .keep <| .drop <| .keep <| .drop <| .drop .nil, [], m5, rfl, hd5, rfl, by simp, rfl⟩, fun j d ds' L' hx hW => ?_, fun ds' L' hW => ?_⟩) .never)
    · obtain ⟨t, m6, rfl, hd6, htl, hts, rfl⟩ := hW
      obtain ⟨hj, rfl⟩ := rng_get hx
      refine dg_name s9 ?_ nd
      refine dss_cons (ds_set (i := 10) (fun _ => s10) ?_ nd)
      refine dp_ix <| dp_var g4 <| dp_call C__law_next hr (by decide) <| da_cons <| dp_var g0 <| da_cons <| dp_len n_len <| dp_var g4 ⟨Nat.le_trans (show marks.length ≤ 26 by omega) szOk, da_nil ⟨a, marks.length, fun m => (q, .lst (rows.map .str)) :: f m, m6, rfl, .tl hf, rfl, hd6, by omega, ?_, fun v5 m7 h50 h51 hd7 => ?_⟩⟩
      · exact Nat.lt_of_le_of_lt (Nat.log2_le_self _) (by omega)
      obtain ⟨c, hc, hat⟩ := at_in h50 h51
      refine ⟨Nat.le_trans (show marks.length ≤ 26 by omega) szOk, c, hat, ?_⟩
      refine dss_one (ds_set (i := 8) (fun _ => s8) ?_ nd)
      refine dp_add <| dp_var g8 <| dp_if <| dt_lt <| dp_call C__law_next hr (by decide) <| da_cons <| dp_var g0 <| da_cons <| dp_int <| da_nil ⟨a, 5, fun m => (q, .lst (rows.map .str)) :: f m, m7, rfl, .tl hf, rfl, hd7, by decide, by decide, fun v6 m8 h60 h61 hd8 => dp_var g5 ⟨_, rfl, fun _ => ?_, fun _ => ?_⟩⟩
      · refine dp_var g10 ⟨Nat.le_trans (show t.length + 1 ≤ 100 by omega) szOk, _, .keep <| .keep <| .keep <| .keep <| .keep <| .keep <| .keep <| .drop <| .keep <| .drop <| .drop .nil, t ++ [c], m8, rfl, hd8, by simp [htl], fun c' hc' => ?_, rfl⟩
        rcases List.mem_append.mp hc' with hc' | hc'
        · exact hts c' hc'
        · obtain rfl := List.mem_singleton.mp hc'
          exact .inr (hmk _ hc)
      · refine dp_txt dot_eq ⟨Nat.le_trans (show t.length + 1 ≤ 100 by omega) szOk, _, .keep <| .keep <| .keep <| .keep <| .keep <| .keep <| .keep <| .drop <| .keep <| .drop <| .drop .nil, t ++ [46], m8, rfl, hd8, by simp [htl], fun c' hc' => ?_, rfl⟩
        rcases List.mem_append.mp hc' with hc' | hc'
        · exact hts c' hc'
        · obtain rfl := List.mem_singleton.mp hc'
          exact .inl rfl
    · obtain ⟨t, m6, rfl, hd6, htl, hts, rfl⟩ := hW
      refine dss_one (ds_expr <| dp_append <| dp_var g6 ⟨.inl ⟨rfl, _, .hd⟩, dp_var g8 ⟨_, .hd, ?_, _, .hd, ?_⟩⟩)
      · rw [List.length_map, sizeLine_eq]
        omega
      · refine ⟨_, .keep <| .keep <| .keep <| .keep <| .keep <| .keep <| .keep <| .drop <| .drop <| .drop <| .drop .nil, rows ++ [t], m6, by simp, hd6, by simp [hrl], fun r hr => ?_, rfl⟩
        rcases List.mem_append.mp hr with hr | hr
        · exact hrs r hr
        · obtain rfl := List.mem_singleton.mp hr
          refine ⟨?_, hts⟩
          rw [rng_len] at htl
          omega
  · obtain ⟨rows, m5, rfl, hd5, hrl, hrs, rfl⟩ := hW
    rw [rng_len] at hrl
    refine dss_one (ds_ret <| dp_tuple n_tuple <| dp_freeze g6 .hd ?_)
    exact h rows m5 ⟨by omega, by omega, ⟨(1 + v2).toNat, by omega, by omega, fun r hr => by have := (hrs r hr).1; omega⟩, fun r hr => (hrs r hr).2⟩ hd5
end
/-! choices, without, class Counter -/
abbrev cI (cs : List Nat) : List Int := cs.map fun c : Nat => (c : Int)
abbrev cD2 (cs : List Nat) : List Dt := (cI cs).map Dt.int
theorem sc_choices : FnScope ["many", "some", "found", "turn"] ["many", "some"] (defScope s_choices) := ⟨rfl, rfl, rfl, by decide +kernel, rfl, by decide +kernel, by decide +kernel⟩
theorem sc_without : FnScope ["counts", "count", "at"] ["counts", "count"] (defScope s_without) := ⟨rfl, rfl, rfl, by decide +kernel, rfl, by decide +kernel, by decide +kernel⟩
theorem sc_Counter____init__ : FnScope ["self", "columns"] ["self", "columns"] (defScope s_Counter____init__) := ⟨rfl, rfl, rfl, by decide +kernel, rfl, by decide +kernel, by decide +kernel⟩
theorem sc_Counter__ways : FnScope ["self", "counts", "so_far", "cells", "key", "total", "count", "rest"] ["self", "counts", "so_far", "cells"] (defScope s_Counter__ways) := ⟨rfl, rfl, rfl, by decide +kernel, rfl, by decide +kernel, by decide +kernel⟩
structure CounterT (K : PySem.W.Frag) (mg : Str → Option Value) (C : Addr) : Prop where
  T : ClsT K mg "Counter" C
  n0 : NoAttr K C "columns"
  n1 : NoAttr K C "known"
theorem CounterT.cl {K : PySem.W.Frag} {mg : Str → Option Value} {C : Addr} (T : CounterT K mg C) : Cls K C := T.T.cl
abbrev ctrNs : List Str := ["columns", "known"]
/-- a counter: its place, its dict's, what it keeps -/
abbrev ctrL (K : PySem.W.Frag) (w : World) (C a q : Addr) (cols : Nat) (ks : List CK) (L0 : MS) : MS := (q, mN K w q (kept cols ks) ks.length) :: (a, .ins C ctrNs [.int (cols : Nat), .adr q]) :: L0
def R_choices : Rel := fun ds L P => ∃ n k : Nat, ds = [.int n, .int k] ∧ n ≤ 12 ∧ k ≤ 12 ∧ P (.int (cho n k : Nat)) L
def R_without : Rel := fun ds L P => ∃ (cs : List Nat) (c : Nat), ds = [.frt (cD2 cs), .int c] ∧ cs.length ≤ 12 ∧ c ∈ cs ∧ P (.frt (cD2 (cs.erase c))) L
def R_Counter____init__ (K : PySem.W.Frag) (w : World) (C : Addr) : Rel := fun ds L P => ∃ (a : Addr) (cols : Nat) (L0 : MS), ds = [.adr a, .int cols] ∧ L = (a, .ins C [] []) :: L0 ∧ ∀ q, P .non (ctrL K w C a q cols [] L0)
def R_ways (K : PySem.W.Frag) (w : World) (C : Addr) (m : Nat) : Rel := fun ds L P => ∃ (a q : Addr) (cols : Nat) (C0 : List Nat) (ks : List CK) (cs : List Nat) (b e : Nat) (L0 : MS), ds = [.adr a, .frt (cD2 cs), .int b, .int e] ∧ L = ctrL K w C a q cols ks L0 ∧ KeysOk C0 ks ∧ cs.Sublist C0 ∧ cs.length ≤ m ∧ (∀ c ∈ cs, c ≤ 12) ∧ b ≤ 12 ∧ e ≤ 12 ∧ cols ≤ 12 ∧
  ∀ ks', KeysOk C0 ks' → (∀ k ∈ ks', k ∈ ks ∨ k.1.length ≤ cs.length) → P (.int (Wy cols cs b e : Nat)) (ctrL K w C a q cols ks' L0)
/-- the fillings of the first i counts that may come -/
def part (cols : Nat) (cs : List Nat) (b e i : Nat) : Nat := ((((dist cs).take i).filter fun c => decide (b ≤ c)).map fun c => cho e (c - b) * Wy cols (cs.erase c) 0 cols).sum
theorem part_succ {cols : Nat} {cs : List Nat} {b e i c : Nat} (h : (dist cs)[i]? = some c) : part cols cs b e (i + 1) = part cols cs b e i + if b ≤ c then cho e (c - b) * Wy cols (cs.erase c) 0 cols else 0 := by
  unfold part
  rw [List.take_add_one, h, List.filter_append, List.map_append, List.sum_append]
  by_cases q : b ≤ c <;> simp [q]
theorem part_all {cols : Nat} {cs : List Nat} {b e : Nat} (hne : cs ≠ []) (h : ∀ c ∈ cs, c ≤ 12) : part cols cs b e (dist cs).length = Wy cols cs b e := by
  rw [Wy_cons hne h]
  unfold part
  rw [List.take_length]
theorem cut_erase {cs : List Nat} {j c : Nat} (hj : cs[j]? = some c) (hno : ∀ m, m < j → cs[m]? ≠ some c) : cs.take j ++ cs.drop (j + 1) = cs.erase c := by
  induction cs generalizing j with
  | nil => cases hj
  | cons x cs ih =>
    cases j with
    | zero =>
      have hj : x = c := by simpa using hj
      subst hj
      simp
    | succ j =>
      have hx : x ≠ c := fun z => hno 0 (Nat.succ_pos _) (by simp [z])
      have hj : cs[j]? = some c := by simpa using hj
      rw [List.erase_cons_tail (by simpa using hx), List.take_succ_cons, List.drop_succ_cons, List.cons_append, ih hj fun m hm => by
        have := hno (m + 1) (Nat.succ_lt_succ hm)
        simpa using this]
theorem cI_get {cs : List Nat} {j : Nat} {c : Nat} : (cI cs)[j]? = some (c : Int) ↔ cs[j]? = some c := by
  rw [List.getElem?_map]
  cases cs[j]? with
  | none => simp
  | some x =>
    simp only [Option.map_some, Option.some.injEq]
    omega
theorem first_at {cs : List Nat} {c : Nat} (h : c ∈ cs) : ∃ j, j < cs.length ∧ cs[j]? = some c ∧ ∀ m, m < j → cs[m]? ≠ some c := by
  induction cs with
  | nil => cases h
  | cons x cs ih =>
    by_cases q : x = c
    · exact ⟨0, Nat.succ_pos _, by rw [q]; rfl, fun m hm => absurd hm (Nat.not_lt_zero _)⟩
    · obtain ⟨j, h1, h2, h3⟩ := ih ((List.mem_cons.mp h).resolve_left fun z => q z.symm)
      refine ⟨j + 1, Nat.succ_lt_succ h1, by simpa using h2, fun m hm => ?_⟩
      cases m with
      | zero =>
        intro z
        exact q (by simpa using z)
      | succ m => simpa using h3 m (Nat.lt_of_succ_lt_succ hm)
theorem cutL_frm {α : Type} (xs : List α) (k : Nat) : cutL xs (some (k : Int)) none = xs.drop k := by
  unfold cutL
  rw [HT.sIx_none, HT.sIx_nat]
  by_cases h : k ≤ xs.length
  · rw [Nat.min_eq_left h]
    exact List.take_of_length_le (by rw [List.length_drop]; exact Nat.le_refl _)
  · rw [Nat.min_eq_right (by omega), List.drop_of_length_le (Nat.le_refl _), List.drop_of_length_le (by omega), List.take_nil]
section
variable {Pr : Program} {w : World} {K : PySem.W.Frag} {mg : Str → Option Value} {base : Heap}
theorem c_choices (F : FunAt K mg "choices" s_choices) (n_range : mg "range" = none) : Cal Pr w K mg base "choices" 1 ["many", "some"] R_choices := by
  refine cal_of F sc_choices (fun _ _ _ h => by obtain ⟨_, _, rfl, _⟩ := h; rfl) (fun _ _ _ _ _ _ us hl => match us, hl with | [_, _], _ => rfl) fun fa cdv A outer s H E hr ds L P h => ?_
  obtain ⟨n, k, rfl, hn, hk, h⟩ := h
  have nd := sc_choices.nd
  show DSs _ _ [some (.int n), some (.int k), none, none] L _
  refine dss_cons (ds_set (i := 2) (fun _ => s2) (dp_int ?_) nd)
  refine dss_cons (ds_for (di_range1 n_range <| dp_var g1 ⟨_, rfl, by omega, by omega, fun t ds' L' => L' = L ∧ ds' = [some (.int n), some (.int k), some (.int (cho n t : Nat)), none], ⟨_, Fg.refl _, rfl, ?_⟩, fun t d ds' L' hx hW => ?_, fun ds' L' hW => ?_⟩) .never)
  · cases n <;> rfl
  · obtain ⟨rfl, rfl⟩ := hW
    obtain ⟨ht, rfl⟩ := rng_get hx
    have ht : t < k := by omega
    have hb := cho_bound n (by omega) t (by omega)
    rw [Int.zero_add]
    refine dg_name s3 ?_ nd
    refine dss_one (ds_set (i := 2) (fun _ => s2) (dp_fdiv <| dp_mul <| dp_var g2 <| dp_sub <| dp_var g0 <| dp_var g3 ⟨.inl (.inl ⟨by omega, by omega⟩), dp_add <| dp_var g3 <| dp_int ⟨⟨by omega, ?_⟩, ?_⟩⟩) nd)
    · exact Nat.lt_of_le_of_lt (Nat.log2_le_self _) (by omega)
    · rw [cho_step n (by omega) t (by omega)]
      exact ⟨_, .keep <| .keep <| .keep <| .drop .nil, rfl, rfl⟩
  · obtain ⟨rfl, rfl⟩ := hW
    rw [rng_len, Int.toNat_natCast]
    refine dss_one (ds_ret <| dp_if <| dt_le <| dp_var g1 <| dp_var g0 ⟨_, rfl, fun _ => dp_var g2 h, fun hc => dp_int ?_⟩)
    have hc := of_decide_eq_false hc
    rw [cho_far n (by omega) k (by omega) (by omega)] at h
    exact h
theorem c_without (F : FunAt K mg "without" s_without) : Cal Pr w K mg base "without" 1 ["counts", "count"] R_without := by
  refine cal_of F sc_without (fun _ _ _ h => by obtain ⟨_, _, rfl, _⟩ := h; rfl) (fun _ _ _ _ _ _ us hl => match us, hl with | [_, _], _ => rfl) fun fa cdv A outer s H E hr ds L P h => ?_
  obtain ⟨cs, c, rfl, hl, hc, h⟩ := h
  have nd := sc_without.nd
  obtain ⟨j, hi, hj, hno⟩ := first_at hc
  show DSs _ _ [some (.frt (cD2 cs)), some (.int c), none] L _
  refine dss_cons (ds_set (i := 2) (fun _ => s2) (dp_tindex <| dp_var g0 ⟨cI cs, rfl, dp_var g1 ⟨(c : Int), j, rfl, cI_get.mpr hj, fun m hm e => hno m hm (cI_get.mp e), ?_⟩⟩) nd)
  refine dss_one (ds_ret <| dp_catN <| dp_sliceN <| dp_var g0 <| show DO _ _ _ _ _ from show DO _ _ _ _ _ from dp_var g2 ⟨_, rfl, _, rfl, dp_sliceN <| dp_var g0 <| show DO _ _ _ _ _ from dp_add <| dp_var g2 <| dp_int ⟨_, rfl, show DO _ _ _ _ _ from ⟨_, rfl, _, _, rfl, rfl, ?_, ?_⟩⟩⟩)
  · rw [cutL_to, show ((j : Int) + 1) = ((j + 1 : Nat) : Int) by omega, cutL_frm, List.length_take, List.length_drop, List.length_map, List.length_map, sizeLine_eq]
    omega
  · rw [cutL_to, show ((j : Int) + 1) = ((j + 1 : Nat) : Int) by omega, cutL_frm, ← List.map_take, ← List.map_take, ← List.map_drop, ← List.map_drop, ← List.map_append, ← List.map_append, cut_erase hj hno]
    exact h
theorem c_Counter____init__ {C : Addr} (T_Counter : CounterT K mg C) (M_Counter____init__ : MethAt K C "__init__" "Counter.__init__" s_Counter____init__) : CalM Pr w K mg base C "__init__" 1 ["self", "columns"] (R_Counter____init__ K w C) := by
  refine calM_of M_Counter____init__ sc_Counter____init__ (fun _ _ _ h => by obtain ⟨_, _, _, rfl, _⟩ := h; rfl) (fun _ _ _ _ _ _ us hl => match us, hl with | [_, _], _ => rfl) fun fa cdv A outer s H E hr ds L P h => ?_
  obtain ⟨a, cols, L0, rfl, rfl, h⟩ := h
  show DSs _ _ [some (.adr a), some (.int cols)] ((a, .ins C [] []) :: L0) _
  refine dss_cons (ds_fld <| dp_var g1 <| dp_var g0 ⟨a, C, _, _, _, rfl, .hd, T_Counter.cl, T_Counter.n0, by decide, by decide, .hd, ?_⟩)
  exact dss_one (ds_fld <| dp_nnew fun q => dp_var g0 ⟨a, C, _, _, _, rfl, .tl .hd, T_Counter.cl, T_Counter.n1, by decide, by decide, .tl .hd, h q⟩)
theorem c_Counter {C : Addr} (T_Counter : CounterT K mg C) (C_Counter____init__ : CalM Pr w K mg base C "__init__" 1 ["self", "columns"] (R_Counter____init__ K w C)) : CalC Pr w K mg base "Counter" C 1 ["self", "columns"] (R_Counter____init__ K w C) := calC_of T_Counter.T C_Counter____init__
theorem ways_step {C : Addr} (T_Counter : CounterT K mg C) (M_Counter__ways : MethAt K C "ways" "Counter.ways" s_Counter__ways) (C_without : Cal Pr w K mg base "without" 1 ["counts", "count"] R_without) (C_choices : Cal Pr w K mg base "choices" 1 ["many", "some"] R_choices) (n_sorted : mg "sorted" = none) (n_set : mg "set" = none) (m : Nat)
    (IH : ∀ n, n < m → CalM Pr w K mg base C "ways" (n + 3) ["self", "counts", "so_far", "cells"] (R_ways K w C n)) : CalM Pr w K mg base C "ways" (m + 3) ["self", "counts", "so_far", "cells"] (R_ways K w C m) := by
  refine calM_of M_Counter__ways sc_Counter__ways (fun _ _ _ h => by obtain ⟨_, _, _, _, _, _, _, _, _, rfl, _⟩ := h; rfl) (fun _ _ _ _ _ _ us hl => match us, hl with | [_, _, _, _], _ => rfl) fun fa cdv A outer s H E hr ds L P h => ?_
  obtain ⟨a, q, cols, C0, ks, cs, b, e, L0, rfl, rfl, hk, hs, hm, hc, hb, he, hcols, h⟩ := h
  have nd := sc_Counter__ways.nd
  have hlen : cs.length ≤ 12 := Nat.le_trans hs.length_le hk.len
  show DSs _ _ [some (.adr a), some (.frt (cD2 cs)), some (.int b), some (.int e), none, none, none, none] (ctrL K w C a q cols ks L0) _
  refine dss_cons (ds_set (i := 4) (fun _ => s4) (dp_tup <| da_cons <| dp_var g1 <| da_cons <| dp_var g2 <| da_cons <| dp_var g3 <| da_nil ⟨szOk, ?_⟩) nd)
  have hkd : KeyD (.tup [.frt (cD2 cs), .int (b : Nat), .int (e : Nat)]) (nkC (cs, b, e)) := keyD_N (cI cs) b e _ (by
    unfold nkC
    rw [List.map_map]
    rfl) (nkC_depth _)
  refine dss_cons (ds_if <| dt_eqN hr <| dp_var g1 <| dp_tup <| da_nil ⟨szOk, cI cs, [], rfl, rfl, fun bb hbb => ⟨_, rfl, fun c1 => ?_, fun c1 => dss_nil ?_⟩⟩)
  · have e0 := hbb.mp c1
    have e0 : cs = [] := List.map_eq_nil_iff.mp e0
    subst e0
    exact dss_one (ds_ret <| dp_int (h ks hk fun k hk => .inl hk))
  have hne : cs ≠ [] := fun z => by
    have := hbb.mpr (by rw [z]; rfl)
    rw [this] at c1
    cases c1
  have hpos : 0 < cs.length := List.length_pos_iff.mpr hne
  refine dss_mid (fun ds' L' => ∃ ks2 d5 d6 d7, KeysOk C0 ks2 ∧ (∀ k ∈ ks2, k ∈ ks ∨ k.1.length ≤ cs.length) ∧ (cs, b, e) ∈ ks2 ∧ L' = ctrL K w C a q cols ks2 L0 ∧ ds' = [some (.adr a), some (.frt (cD2 cs)), some (.int b), some (.int e), some (.tup [.frt (cD2 cs), .int b, .int e]), d5, d6, d7])
    (ds_if <| dt_nnotinK hr <| dp_var g4 <| dp_fld <| dp_var g0 ⟨a, C, _, _, _, rfl, .tl .hd, T_Counter.cl, T_Counter.n1, rfl, q, _, _, nkC (cs, b, e), rfl, hkd, .hd, fun c2 => ?_, fun c2 => dss_nil ?_⟩) fun ds' L' hW => ?_
  · have hni : (cs, b, e) ∉ ks := fun z => by
      rw [kept_in z] at c2
      cases c2
    refine dss_cons (ds_set (i := 5) (fun _ => s5) (dp_int ?_) nd)
    refine dss_cons (ds_for (di_list <| dp_sortSetN n_sorted n_set <| dp_var g1 ⟨cI cs, rfl, by rw [List.length_map]; omega, fun ms h1 h2 => ⟨fun i ds' L' => ∃ ks2 d6 d7, KeysOk C0 ks2 ∧ (∀ k ∈ ks2, k ∈ ks ∨ k.1.length < cs.length) ∧ L' = ctrL K w C a q cols ks2 L0 ∧ ds' = [some (.adr a), some (.frt (cD2 cs)), some (.int b), some (.int e), some (.tup [.frt (cD2 cs), .int b, .int e]), some (.int (part cols cs b e i : Nat)), d6, d7],
      ⟨_, Fg.refl _, ks, none, none, hk, fun k hk => .inl hk, rfl, rfl⟩, fun i d ds' L' hx hW => ?_, fun ds' L' hW => ?_⟩⟩) .never)
    · obtain ⟨ks2, d6, d7, hk2, hin2, rfl, rfl⟩ := hW
      have ems := rise_dist hc h1 h2
      subst ems
      have hx : (((dist cs).map fun c : Nat => (c : Int)).map Dt.int)[i]? = some d := hx
      obtain ⟨c, hci, rfl⟩ : ∃ c, (dist cs)[i]? = some c ∧ d = .int (c : Nat) := by
        rw [List.getElem?_map, List.getElem?_map] at hx
        cases z : (dist cs)[i]? with
        | none => rw [z] at hx; cases hx
        | some c => rw [z] at hx; exact ⟨c, rfl, (Option.some.inj hx).symm⟩
      have hcm : c ∈ cs := (mem_dist hc).mp (List.mem_of_getElem? hci)
      have hc12 := hc c hcm
      have hps := part_succ (cols := cols) (b := b) (e := e) hci
      refine dg_name s6 ?_ nd
      refine dss_one (ds_if <| dt_ge <| dp_var g6 <| dp_var g2 ⟨_, rfl, fun c3 => ?_, fun c3 => dss_nil ?_⟩)
      · have c3 : b ≤ c := by
          have := of_decide_eq_true c3
          omega
        rw [if_pos c3] at hps
        have hel := List.length_erase_of_mem hcm
        refine dss_cons (ds_set (i := 7) (fun _ => s7) (dp_call C_without hr (by omega) <| da_cons <| dp_var g1 <| da_cons <| dp_var g6 <| da_nil ⟨cs, c, rfl, hlen, hcm, ?_⟩) nd)
        refine dss_one (ds_augAdd (i := 5) g5 (fun _ => s5) (dp_mul <| dp_call C_choices hr (by omega) <| da_cons <| dp_var g3 <| da_cons <| dp_sub <| dp_var g6 <| dp_var g2 <| da_nil ⟨e, c - b, by rw [show ((c : Int) - (b : Int)) = ((c - b : Nat) : Int) by omega], he, by omega, ?_⟩) nd)
        have hch := cho_bound e (by omega) (c - b) (by omega)
        refine dp_meth (IH (m - 1) (by omega)) T_Counter.cl hr (by omega) <| dp_var g0 ⟨a, _, _, rfl, .tl .hd, rfl, da_cons <| dp_var g7 <| da_cons <| dp_int <| da_cons <| dp_fld <| dp_var g0 ⟨a, C, _, _, _, rfl, .tl .hd, T_Counter.cl, T_Counter.n0, rfl, da_nil ⟨a, q, cols, C0, ks2, cs.erase c, 0, cols, L0, rfl, rfl, hk2, (List.erase_sublist).trans hs, by omega, fun x hx => hc x (List.mem_of_mem_erase hx), by decide, hcols, hcols, fun ks3 hk3 hin3 => ⟨.inl (.inl ⟨by omega, by omega⟩), _, rfl, ?_⟩⟩⟩⟩
        refine ⟨_, Fg.refl _, ks3, some (.int (c : Nat)), some (.frt (cD2 (cs.erase c))), hk3, fun k hk => ?_, rfl, ?_⟩
        · rcases hin3 k hk with z | z
          · exact hin2 k z
          · exact .inr (by omega)
        · rw [hps, Int.natCast_add, Int.natCast_mul]
      · have c3 : ¬ b ≤ c := by
          have := of_decide_eq_false c3
          omega
        rw [if_neg c3] at hps
        exact ⟨_, Fg.refl _, ks2, some (.int (c : Nat)), d7, hk2, hin2, rfl, by rw [hps]; rfl⟩
    · obtain ⟨ks2, d6, d7, hk2, hin2, rfl, rfl⟩ := hW
      have ems := rise_dist hc h1 h2
      subst ems
      rw [show (((dist cs).map fun c : Nat => (c : Int)).map Dt.int).length = (dist cs).length by rw [List.length_map, List.length_map], part_all hne hc]
      have hni2 : (cs, b, e) ∉ ks2 := fun z => by
        rcases hin2 _ z with z | z
        · exact hni z
        · exact absurd z (Nat.lt_irrefl _)
      refine dss_one (ds_nputK hr (dp_var g5 <| dp_fld <| dp_var g0 ⟨a, C, _, _, _, rfl, .tl .hd, T_Counter.cl, T_Counter.n1, rfl, dp_var g4 ⟨q, _, _, nkC (cs, b, e), _, rfl, hkd, Nat.le_trans hk2.le (by rw [sizeLine_eq]; omega), .hd, .hd, ?_⟩⟩))
      exact ⟨(cs, b, e) :: ks2, _, _, _, hk2.put hni2 ⟨hs, hb, he⟩, fun k hk => by
        rcases List.mem_cons.mp hk with rfl | hk
        · exact .inr (Nat.le_refl _)
        · exact (hin2 k hk).imp id Nat.le_of_lt, List.mem_cons_self, rfl, rfl⟩
  · have hin : (cs, b, e) ∈ ks := Classical.byContradiction fun z => by
      rw [kept_out z] at c2
      cases c2
    exact ⟨ks, none, none, none, hk, fun k hk => .inl hk, hin, rfl, rfl⟩
  obtain ⟨ks2, d5, d6, d7, hk2, hin2, hmem, rfl, rfl⟩ := hW
  refine dss_one (ds_ret <| dp_ngetK hr <| dp_fld <| dp_var g0 ⟨a, C, _, _, _, rfl, .tl .hd, T_Counter.cl, T_Counter.n1, rfl, dp_var g4 ⟨q, _, _, nkC (cs, b, e), _, rfl, hkd, .hd, kept_in hmem, h ks2 hk2 hin2⟩⟩)
theorem c_Counter__ways {C : Addr} (T_Counter : CounterT K mg C) (M_Counter__ways : MethAt K C "ways" "Counter.ways" s_Counter__ways) (C_without : Cal Pr w K mg base "without" 1 ["counts", "count"] R_without) (C_choices : Cal Pr w K mg base "choices" 1 ["many", "some"] R_choices) (n_sorted : mg "sorted" = none) (n_set : mg "set" = none) : CalM Pr w K mg base C "ways" 15 ["self", "counts", "so_far", "cells"] (R_ways K w C 12) :=
  Nat.strongRecOn (motive := fun m => CalM Pr w K mg base C "ways" (m + 3) ["self", "counts", "so_far", "cells"] (R_ways K w C m)) 12 fun m IH => ways_step T_Counter M_Counter__ways C_without C_choices n_sorted n_set m IH
end
/-! need_shape, counts_of, how_many -/
theorem dist_perm {a b : List Nat} (p : a.Perm b) : dist a = dist b := by
  unfold dist
  exact List.filter_congr fun c _ => decide_eq_decide.mpr p.mem_iff
theorem W_perm {cols : Nat} : ∀ (k : Nat) {a b : List Nat} (e f : Nat), a.Perm b → W cols k a e f = W cols k b e f
  | 0, _, _, _, _, _ => rfl
  | k + 1, a, b, e, f, p => by
    show (((dist a).filter fun c => decide (e ≤ c)).map fun c => cho f (c - e) * W cols k (a.erase c) 0 cols).sum = (((dist b).filter fun c => decide (e ≤ c)).map fun c => cho f (c - e) * W cols k (b.erase c) 0 cols).sum
    rw [dist_perm p]
    exact sum_map_congr fun c _ => by rw [W_perm k 0 cols (p.erase c)]
theorem Wy_perm {cols : Nat} {a b : List Nat} {e f : Nat} (p : a.Perm b) : Wy cols a e f = Wy cols b e f := by
  unfold Wy
  rw [p.length_eq]
  exact W_perm _ e f p
theorem nat_ints {l : List Nat} {ns : List Int} (p : ns.Perm (cI l)) : ∃ m : List Nat, ns = cI m ∧ m.Perm l := by
  refine ⟨ns.map Int.toNat, ?_, ?_⟩
  · show ns = (ns.map Int.toNat).map fun c : Nat => (c : Int)
    rw [List.map_map]
    conv => lhs; rw [← List.map_id ns]
    refine List.map_congr_left fun i hi => ?_
    obtain ⟨n, _, rfl⟩ := List.mem_map.mp (p.subset hi)
    simp
  · have q := p.map Int.toNat
    rw [List.map_map] at q
    have e : l.map (Int.toNat ∘ fun n : Nat => (n : Int)) = l := by
      conv => rhs; rw [← List.map_id l]
      exact List.map_congr_left fun n _ => by simp
    rwa [e] at q
structure ShapeOk (rows cols : Nat) (s : List Nat) : Prop where
  r1 : 1 ≤ rows
  r2 : rows ≤ 12
  c1 : 1 ≤ cols
  c2 : cols ≤ 12
  len : s.length ≤ rows
  el : ∀ c ∈ s, 1 ≤ c ∧ c ≤ cols
  dn : s.Pairwise (· ≥ ·)
/-- the counts of the rows -/
abbrev fullC (rows : Nat) (s : List Nat) : List Nat := s ++ List.replicate (rows - s.length) 0
theorem sc_need_shape : FnScope ["rows", "columns", "shape", "place", "number"] ["rows", "columns", "shape"] (defScope s_need_shape) := ⟨rfl, rfl, rfl, by decide +kernel, rfl, by decide +kernel, by decide +kernel⟩
theorem sc_counts_of : FnScope ["rows", "shape"] ["rows", "shape"] (defScope s_counts_of) := ⟨rfl, rfl, rfl, by decide +kernel, rfl, by decide +kernel, by decide +kernel⟩
theorem sc_how_many : FnScope ["rows", "columns", "shape"] ["rows", "columns", "shape"] (defScope s_how_many) := ⟨rfl, rfl, rfl, by decide +kernel, rfl, by decide +kernel, by decide +kernel⟩
def R_need_shape : Rel := fun ds L P => ∃ (rows cols : Nat) (s : List Nat), ds = [.int rows, .int cols, .tup (cD2 s)] ∧ ShapeOk rows cols s ∧ P .non L
def R_counts_of : Rel := fun ds L P => ∃ (rows : Nat) (s : List Nat), ds = [.int rows, .tup (cD2 s)] ∧ s.length ≤ rows ∧ rows ≤ 12 ∧ ∀ cs : List Nat, cs.Perm (fullC rows s) → cs.Pairwise (· ≤ ·) → P (.frt (cD2 cs)) L
def R_how_many : Rel := fun ds L P => ∃ (rows cols : Nat) (s : List Nat), ds = [.int rows, .int cols, .tup (cD2 s)] ∧ ShapeOk rows cols s ∧ P (.int (Wy cols (fullC rows s) 0 cols : Nat)) L
section
variable {Pr : Program} {w : World} {K : PySem.W.Frag} {mg : Str → Option Value} {base : Heap}
theorem c_need_shape (F : FunAt K mg "need_shape" s_need_shape) (C_need_count : Cal Pr w K mg base "need_count" 1 ["number", "low", "high"] R_need_count) (n_enumerate : mg "enumerate" = none) (v_MOST_SIZE : ∃ t, mg "MOST_SIZE" = some (.int 12 t)) : Cal Pr w K mg base "need_shape" 2 ["rows", "columns", "shape"] R_need_shape := by
  refine cal_of F sc_need_shape (fun _ _ _ h => by obtain ⟨_, _, _, rfl, _⟩ := h; rfl) (fun _ _ _ _ _ _ us hl => match us, hl with | [_, _, _], _ => rfl) fun fa cdv A outer s H E hr ds L P h => ?_
  obtain ⟨rows, cols, sh, rfl, ok, h⟩ := h
  have nd := sc_need_shape.nd
  have o1 := ok.r1
  have o2 := ok.r2
  have o3 := ok.c1
  have o4 := ok.c2
  have o5 := ok.len
  show DSs _ _ [some (.int rows), some (.int cols), some (.tup (cD2 sh)), none, none] L _
  refine dss_cons (ds_expr <| dp_call C_need_count hr (by decide) <| da_cons <| dp_var g0 <| da_cons <| dp_int <| da_cons <| dp_gI v_MOST_SIZE <| da_nil ⟨_, _, _, rfl, by omega, by omega, ?_⟩)
  refine dss_cons (ds_expr <| dp_call C_need_count hr (by decide) <| da_cons <| dp_var g1 <| da_cons <| dp_int <| da_cons <| dp_gI v_MOST_SIZE <| da_nil ⟨_, _, _, rfl, by omega, by omega, ?_⟩)
  refine dss_one (ds_for (di_enumT n_enumerate <| dp_var g2 ⟨_, rfl, fun i ds' L' => L' = L ∧ ds' = [some (.int rows), some (.int cols), some (.tup (cD2 sh)), none, none], ⟨_, Fg.refl _, rfl, rfl⟩, fun i d ds' L' hx hW => ?_, fun ds' L' hW => ?_⟩) .never)
  · obtain ⟨rfl, rfl⟩ := hW
    obtain ⟨x, hx2, rfl⟩ := enm_get hx
    have hx2 : (cD2 sh)[i]? = some x := hx2
    obtain ⟨n, hn, rfl⟩ : ∃ n, sh[i]? = some n ∧ x = .int (n : Nat) := by
      rw [List.getElem?_map, List.getElem?_map] at hx2
      cases z : sh[i]? with
      | none => rw [z] at hx2; cases hx2
      | some c => rw [z] at hx2; exact ⟨c, rfl, (Option.some.inj hx2).symm⟩
    obtain ⟨hi, hin⟩ := List.getElem?_eq_some_iff.mp hn
    obtain ⟨n1, n2⟩ := ok.el n (List.mem_of_getElem? hn)
    have fin : ∃ ds4, Fg [some (.int rows), some (.int cols), some (.tup (cD2 sh)), some (.int (i : Nat)), some (.int (n : Nat))] ds4 ∧ L' = L' ∧ ds4 = [some (Dt.int rows), some (.int cols), some (.tup (cD2 sh)), none, none] := ⟨_, .keep <| .keep <| .keep <| .drop <| .drop .nil, rfl, rfl⟩
    refine dg_tup <| dgs_cons (dg_name s3 (dgs_cons (dg_name s4 (dgs_nil ?_) nd)) nd)
    refine dss_one (ds_if <| dt_bool <| dtw_or <| dt_eq <| dp_var g3 <| dp_var g0 ⟨_, rfl, fun c => ?_, fun _ => dtw_or <| dt_not <| dt_chain_le <| dp_int <| dp_var g4 ⟨_, _, rfl, rfl, fun _ => dp_var g1 ⟨_, rfl, fun c => ?_, fun _ => dtw_or1 <| dt_bool <| dtw_and <| dt_gt <| dp_var g3 <| dp_int ⟨_, rfl, fun c => dtw_and1 <| dt_gt <| dp_var g4 <| dp_ix <| dp_var g2 <| dp_sub <| dp_var g3 <| dp_int ?_, fun _ => ⟨(nomatch ·), fun _ => dss_nil fin⟩⟩⟩, fun c => ?_⟩⟩)
    · have c := of_decide_eq_true c
      omega
    · have c : (!decide ((n : Int) ≤ (cols : Int))) = true := c
      rw [decide_eq_true (show (n : Int) ≤ (cols : Int) by omega)] at c
      cases c
    · have c := of_decide_eq_true c
      obtain ⟨j, rfl⟩ : ∃ j, i = j + 1 := ⟨i - 1, by omega⟩
      have hj : j < sh.length := by omega
      have hle : sh[j + 1] ≤ sh[j] := List.pairwise_iff_getElem.mp ok.dn j (j + 1) hj hi (Nat.lt_succ_self j)
      have e : (((j + 1 : Nat) : Int) - 1) = ((j : Nat) : Int) := by omega
      refine ⟨.int (sh[j] : Nat), by rw [e]; exact atI_nat (xs := cD2 sh) (j := j) (v := .int (sh[j] : Nat)) (by rw [List.getElem?_map, List.getElem?_map, List.getElem?_eq_getElem hj]; rfl), _, rfl, fun c2 => ?_, fun _ => dss_nil fin⟩
      have c2 := of_decide_eq_true c2
      omega
    · have c := of_decide_eq_false c
      omega
  · obtain ⟨rfl, rfl⟩ := hW
    exact h
theorem c_counts_of (F : FunAt K mg "counts_of" s_counts_of) (n_len : mg "len" = none) (n_sorted : mg "sorted" = none) (n_tuple : mg "tuple" = none) : Cal Pr w K mg base "counts_of" 1 ["rows", "shape"] R_counts_of := by
  refine cal_of F sc_counts_of (fun _ _ _ h => by obtain ⟨_, _, rfl, _⟩ := h; rfl) (fun _ _ _ _ _ _ us hl => match us, hl with | [_, _], _ => rfl) fun fa cdv A outer s H E hr ds L P h => ?_
  obtain ⟨rows, sh, rfl, h1, h2, h⟩ := h
  have ef : (List.replicate (rows - sh.length) [Dt.int 0]).flatten = cD2 (List.replicate (rows - sh.length) 0) := by
    generalize rows - sh.length = n
    induction n with
    | zero => rfl
    | succ n ih =>
      rw [List.replicate_succ, List.flatten_cons, ih, List.replicate_succ]
      rfl
  show DSs _ _ [some (.int rows), some (.tup (cD2 sh))] L _
  refine dss_one (ds_ret <| dp_tupleN n_tuple <| dp_sortTA n_sorted <| dp_add <| dp_var g1 <| dp_repT <| dp_tup <| da_cons <| dp_int <| da_nil ⟨szOk, dp_sub <| dp_var g0 <| dp_len n_len <| dp_var g1 ⟨rows - sh.length, by rw [List.length_map, List.length_map]; omega, by omega, by decide, by decide, ?_, ?_⟩⟩)
  · rw [ef, List.length_map, List.length_map, List.length_map, List.length_map, List.length_replicate, sizeLine_eq]
    omega
  · rw [ef]
    refine ⟨cI (fullC rows sh), by rw [← List.map_append, ← List.map_append], fun ms hp hpw => ?_⟩
    obtain ⟨cs, rfl, hp2⟩ := nat_ints hp
    refine ⟨_, rfl, h cs hp2 ?_⟩
    rw [List.pairwise_map] at hpw
    exact hpw.imp fun z => by omega
theorem c_how_many {C : Addr} (F : FunAt K mg "how_many" s_how_many) (T_Counter : CounterT K mg C) (C_need_shape : Cal Pr w K mg base "need_shape" 2 ["rows", "columns", "shape"] R_need_shape) (C_counts_of : Cal Pr w K mg base "counts_of" 1 ["rows", "shape"] R_counts_of) (C_Counter : CalC Pr w K mg base "Counter" C 1 ["self", "columns"] (R_Counter____init__ K w C)) (C_Counter__ways : CalM Pr w K mg base C "ways" 15 ["self", "counts", "so_far", "cells"] (R_ways K w C 12)) : Cal Pr w K mg base "how_many" 16 ["rows", "columns", "shape"] R_how_many := by
  refine cal_of F sc_how_many (fun _ _ _ h => by obtain ⟨_, _, _, rfl, _⟩ := h; rfl) (fun _ _ _ _ _ _ us hl => match us, hl with | [_, _, _], _ => rfl) fun fa cdv A outer s H E hr ds L P h => ?_
  obtain ⟨rows, cols, sh, rfl, ok, h⟩ := h
  have o2 := ok.r2
  have o4 := ok.c2
  have o5 := ok.len
  show DSs _ _ [some (.int rows), some (.int cols), some (.tup (cD2 sh))] L _
  refine dss_cons (ds_expr <| dp_call C_need_shape hr (by decide) <| da_cons <| dp_var g0 <| da_cons <| dp_var g1 <| da_cons <| dp_var g2 <| da_nil ⟨rows, cols, sh, rfl, ok, ?_⟩)
  refine dss_one (ds_ret <| dp_del2 <| dp_meth C_Counter__ways T_Counter.cl hr (by decide) <| dp_make C_Counter hr (by decide) <| da_cons <| dp_var g1 <| da_nil fun a => ?_)
  refine ⟨a, cols, L, rfl, rfl, fun q => ⟨rfl, a, _, _, rfl, .tl .hd, rfl, da_cons <| dp_call C_counts_of hr (by decide) <| da_cons <| dp_var g0 <| da_cons <| dp_var g2 <| da_nil ⟨rows, sh, rfl, o5, o2, fun cs hp hpw => ?_⟩⟩⟩
  have hl : cs.length = rows := by
    rw [hp.length_eq, List.length_append, List.length_replicate]
    omega
  have hc12 : ∀ c ∈ cs, c ≤ 12 := fun c hc => by
    rcases List.mem_append.mp (hp.subset hc) with z | z
    · have := (ok.el c z).2
      omega
    · rw [List.eq_of_mem_replicate z]
      omega
  refine da_cons <| dp_int <| da_cons <| dp_var g1 <| da_nil ⟨a, q, cols, cs, [], cs, 0, cols, L, rfl, rfl, KeysOk.nil (by omega), List.Sublist.refl _, by omega, hc12, by omega, by omega, o4, fun ks' _ _ => ⟨q, _, a, _, L, rfl, ?_⟩⟩
  rw [Wy_perm hp]
  exact h
end
/-! all trays, counted by their rows' balls -/
def words : Nat → List (List Nat)
  | 0 => [[]]
  | e + 1 => (words e).map (46 :: ·) ++ (words e).map (111 :: ·)
def TR (c : Nat) : Nat → List (List (List Nat))
  | 0 => [[]]
  | r + 1 => (words c).flatMap fun w => (TR c r).map (w :: ·)
theorem cntM_cons (x : Nat) (w : List Nat) : cntM (x :: w) = (if x = 46 then 0 else 1) + cntM w := by
  unfold cntM
  rw [List.filter_cons]
  by_cases h : x = 46 <;> simp [h]
  omega
theorem words_len : ∀ e : Nat, (words e).length = 2 ^ e
  | 0 => rfl
  | e + 1 => by
    show ((words e).map (46 :: ·) ++ (words e).map (111 :: ·)).length = _
    rw [List.length_append, List.length_map, List.length_map, words_len e, Nat.pow_succ]
    omega
theorem words_cnt : ∀ {e : Nat} {w : List Nat}, w ∈ words e → w.length = e ∧ cntM w ≤ e
  | 0, w, h => by
    rw [List.mem_singleton.mp h]
    exact ⟨rfl, Nat.le_refl _⟩
  | e + 1, w, h => by
    rcases List.mem_append.mp h with h | h <;> obtain ⟨v, hv, rfl⟩ := List.mem_map.mp h <;> obtain ⟨h1, h2⟩ := words_cnt hv <;> refine ⟨by rw [List.length_cons, h1], ?_⟩ <;> rw [cntM_cons] <;> split <;> omega
theorem filter_map_len {α β : Type} (f : α → β) (p : β → Bool) (l : List α) : ((l.map f).filter p).length = (l.filter fun a => p (f a)).length := by
  rw [List.filter_map, List.length_map]
  rfl
theorem count_words : ∀ (e x : Nat), ((words e).filter fun w => decide (cntM w = x)).length = cho e x
  | 0, 0 => rfl
  | 0, x + 1 => rfl
  | e + 1, x => by
    show (((words e).map (46 :: ·) ++ (words e).map (111 :: ·)).filter fun w => decide (cntM w = x)).length = _
    rw [List.filter_append, List.length_append, filter_map_len, filter_map_len]
    have e1 : ((words e).filter fun w => decide (cntM (46 :: w) = x)) = (words e).filter fun w => decide (cntM w = x) := List.filter_congr fun w _ => by rw [cntM_cons]; simp
    rw [e1, count_words e x]
    cases x with
    | zero =>
      have e2 : ((words e).filter fun w => decide (cntM (111 :: w) = 0)) = [] := List.filter_eq_nil_iff.mpr fun w _ => by rw [cntM_cons]; simp
      rw [e2]
      cases e <;> rfl
    | succ x =>
      have e2 : ((words e).filter fun w => decide (cntM (111 :: w) = x + 1)) = (words e).filter fun w => decide (cntM w = x) := List.filter_congr fun w _ => by
        rw [cntM_cons]
        simp
        omega
      rw [e2, count_words e x]
      show cho e (x + 1) + cho e x = cho e x + cho e (x + 1)
      omega
/-! sums by value -/
theorem sum_map_add {α : Type} (f g : α → Nat) : ∀ l : List α, (l.map fun x => f x + g x).sum = (l.map f).sum + (l.map g).sum
  | [] => rfl
  | x :: l => by
    rw [List.map_cons, List.map_cons, List.map_cons, List.sum_cons, List.sum_cons, List.sum_cons, sum_map_add f g l]
    omega
theorem sum_map_zero {α : Type} {f : α → Nat} : ∀ {l : List α}, (∀ x ∈ l, f x = 0) → (l.map f).sum = 0
  | [], _ => rfl
  | x :: l, h => by
    rw [List.map_cons, List.sum_cons, h x List.mem_cons_self, sum_map_zero fun y hy => h y (List.mem_cons_of_mem _ hy)]
theorem sum_one {α : Type} [DecidableEq α] {y : α} (g : α → Nat) : ∀ {S : List α}, S.Nodup → y ∈ S → (S.map fun x => if y = x then g x else 0).sum = g y
  | [], _, h => absurd h List.not_mem_nil
  | x :: S, hn, h => by
    obtain ⟨h1, h2⟩ := List.nodup_cons.mp hn
    rw [List.map_cons, List.sum_cons]
    by_cases q : y = x
    · subst q
      rw [if_pos rfl, sum_map_zero fun z hz => if_neg fun (e : y = z) => h1 (by rw [e]; exact hz)]
      omega
    · rw [if_neg q, sum_one g h2 ((List.mem_cons.mp h).resolve_left q)]
      omega
/-- a sum over things, by what f gives of each -/
theorem sum_by {α β : Type} [DecidableEq β] (f : α → β) (g : β → Nat) {S : List β} (hn : S.Nodup) : ∀ {T : List α}, (∀ t ∈ T, f t ∈ S) → (T.map fun t => g (f t)).sum = (S.map fun x => (T.filter fun t => decide (f t = x)).length * g x).sum
  | [], _ => by
    exact (sum_map_zero fun x _ => Nat.zero_mul _).symm
  | t :: T, h => by
    rw [List.map_cons, List.sum_cons, sum_by f g hn fun u hu => h u (List.mem_cons_of_mem _ hu), ← sum_one g hn (h t List.mem_cons_self), ← sum_map_add]
    congr 1
    refine List.map_congr_left fun x _ => ?_
    rw [List.filter_cons]
    by_cases q : f t = x
    · rw [if_pos q, if_pos (decide_eq_true q), List.length_cons, Nat.succ_mul]
      omega
    · rw [if_neg q, if_neg (by simp [q])]
      omega
theorem sum_filter {α : Type} (p : α → Bool) (f : α → Nat) : ∀ l : List α, ((l.filter p).map f).sum = (l.map fun x => if p x = true then f x else 0).sum
  | [] => rfl
  | x :: l => by
    rw [List.filter_cons, List.map_cons, List.sum_cons, ← sum_filter p f l]
    by_cases h : p x = true
    · rw [if_pos h, if_pos h, List.map_cons, List.sum_cons]
    · rw [if_neg h, if_neg h, Nat.zero_add]
theorem flatMap_filter_len {α β : Type} (f : α → List β) (p : β → Bool) : ∀ l : List α, ((l.flatMap f).filter p).length = (l.map fun a => ((f a).filter p).length).sum
  | [] => rfl
  | x :: l => by
    rw [List.flatMap_cons, List.filter_append, List.length_append, flatMap_filter_len f p l, List.map_cons, List.sum_cons]
/-- the trays with these counts, in any order, are so many -/
theorem count_TR {c : Nat} (hc : c ≤ 12) : ∀ {r : Nat} {cs : List Nat}, cs.length = r → ((TR c r).filter fun t => decide ((t.map cntM).Perm cs)).length = W c r cs 0 c
  | 0, cs, h => by
    rw [List.length_eq_zero_iff.mp h]
    rfl
  | r + 1, cs, h => by
    show (((words c).flatMap fun w => (TR c r).map (w :: ·)).filter fun t => decide ((t.map cntM).Perm cs)).length = (((dist cs).filter fun x => decide (0 ≤ x)).map fun x => cho c (x - 0) * W c r (cs.erase x) 0 c).sum
    rw [flatMap_filter_len]
    have e1 : ((words c).map fun w => (((TR c r).map (w :: ·)).filter fun t => decide ((t.map cntM).Perm cs)).length) = (words c).map fun w => (fun x => if x ∈ cs then W c r (cs.erase x) 0 c else 0) (cntM w) := by
      refine List.map_congr_left fun w _ => ?_
      rw [filter_map_len]
      by_cases q : cntM w ∈ cs
      · show _ = if cntM w ∈ cs then _ else _
        rw [if_pos q, ← count_TR hc (cs := cs.erase (cntM w)) (by rw [List.length_erase_of_mem q]; omega)]
        congr 1
        refine List.filter_congr fun t _ => decide_eq_decide.mpr ?_
        show (cntM w :: t.map cntM).Perm cs ↔ _
        rw [List.cons_perm_iff_perm_erase]
        exact ⟨fun z => z.2, fun z => ⟨q, z⟩⟩
      · show _ = if cntM w ∈ cs then _ else _
        rw [if_neg q]
        refine List.length_eq_zero_iff.mpr (List.filter_eq_nil_iff.mpr fun t _ => ?_)
        show ¬ decide ((cntM w :: t.map cntM).Perm cs) = true
        rw [decide_eq_true_iff, List.cons_perm_iff_perm_erase]
        exact fun z => q z.1
    rw [e1]
    refine (sum_by cntM (fun x => if x ∈ cs then W c r (cs.erase x) 0 c else 0) (S := List.range 13) List.nodup_range fun w hw => List.mem_range.mpr (by have := (words_cnt hw).2; omega)).trans ?_
    have e2 : ((dist cs).filter fun x => decide (0 ≤ x)) = dist cs := List.filter_eq_self.mpr fun x _ => by simp
    rw [e2]
    unfold dist
    rw [sum_filter]
    congr 1
    refine List.map_congr_left fun x _ => ?_
    rw [count_words]
    by_cases q : x ∈ cs
    · simp [q]
    · simp [q]
theorem TR_len (c : Nat) : ∀ r : Nat, (TR c r).length = 2 ^ (r * c)
  | 0 => by simp [TR]
  | r + 1 => by
    show ((words c).flatMap fun w => (TR c r).map (w :: ·)).length = _
    rw [flatMap_len (n := 2 ^ (r * c)) fun w _ => by rw [List.length_map, TR_len c r], words_len, Nat.succ_mul, Nat.pow_add]
    exact Nat.mul_comm _ _
theorem TR_mem {c : Nat} : ∀ {r : Nat} {t : List (List Nat)}, t ∈ TR c r → t.length = r ∧ ∀ w ∈ t, w ∈ words c
  | 0, t, h => by
    rw [List.mem_singleton.mp h]
    exact ⟨rfl, fun _ h => (nomatch h)⟩
  | r + 1, t, h => by
    obtain ⟨w, hw, h2⟩ := List.mem_flatMap.mp h
    obtain ⟨u, hu, rfl⟩ := List.mem_map.mp h2
    obtain ⟨e1, e2⟩ := TR_mem hu
    refine ⟨by rw [List.length_cons, e1], fun x hx => ?_⟩
    rcases List.mem_cons.mp hx with rfl | hx
    · exact hw
    · exact e2 x hx
/-! shapes: all of them, and that each tray has one -/
def shp : Nat → Nat → List (List Nat)
  | 0, _ => [[]]
  | r + 1, c => [] :: (List.range c).flatMap fun i => (shp r (i + 1)).map fun s => (i + 1) :: s
theorem mem_shp : ∀ {r c : Nat} {s : List Nat}, s ∈ shp r c ↔ s.length ≤ r ∧ s.Pairwise (· ≥ ·) ∧ ∀ x ∈ s, 1 ≤ x ∧ x ≤ c
  | 0, c, s => by
    show s ∈ [[]] ↔ _
    rw [List.mem_singleton]
    exact ⟨fun h => by rw [h]; exact ⟨Nat.le_refl _, .nil, fun _ h => (nomatch h)⟩, fun h => List.length_eq_zero_iff.mp (by omega)⟩
  | r + 1, c, [] => ⟨fun _ => ⟨Nat.zero_le _, .nil, fun _ h => (nomatch h)⟩, fun _ => List.mem_cons_self⟩
  | r + 1, c, x :: s => by
    show x :: s ∈ [] :: (List.range c).flatMap (fun i => (shp r (i + 1)).map fun s => (i + 1) :: s) ↔ _
    rw [List.mem_cons, List.mem_flatMap, List.pairwise_cons, List.forall_mem_cons, List.length_cons]
    constructor
    · rintro (h | ⟨i, hi, h⟩)
      · cases h
      · obtain ⟨u, hu, e⟩ := List.mem_map.mp h
        injection e with e1 e2
        subst e1 e2
        have hi := List.mem_range.mp hi
        obtain ⟨h1, h2, h3⟩ := mem_shp.mp hu
        exact ⟨by omega, ⟨fun y hy => (h3 y hy).2, h2⟩, ⟨by omega, by omega⟩, fun y hy => ⟨(h3 y hy).1, by have := (h3 y hy).2; omega⟩⟩
    · rintro ⟨h1, ⟨h2, h3⟩, ⟨h4, h5⟩, h6⟩
      refine .inr ⟨x - 1, List.mem_range.mpr (by omega), List.mem_map.mpr ⟨s, mem_shp.mpr ⟨by omega, h3, fun y hy => ⟨(h6 y hy).1, ?_⟩⟩, ?_⟩⟩
      · have := h2 y hy
        omega
      · rw [show x - 1 + 1 = x by omega]
theorem shp_nodup : ∀ (r c : Nat), (shp r c).Nodup
  | 0, _ => List.nodup_cons.mpr ⟨List.not_mem_nil, List.nodup_nil⟩
  | r + 1, c => by
    show ([] :: (List.range c).flatMap fun i => (shp r (i + 1)).map fun s => (i + 1) :: s).Nodup
    refine List.nodup_cons.mpr ⟨fun h => ?_, ?_⟩
    · obtain ⟨i, _, h⟩ := List.mem_flatMap.mp h
      obtain ⟨u, _, e⟩ := List.mem_map.mp h
      cases e
    · refine List.pairwise_flatMap.mpr ⟨fun i _ => ?_, ?_⟩
      · have := shp_nodup r (i + 1)
        exact List.pairwise_map.mpr (this.imp fun h e => h (List.cons.inj e).2)
      · refine (List.nodup_range (n := c)).imp fun {a b} h x hx y hy e => ?_
        obtain ⟨u, _, rfl⟩ := List.mem_map.mp hx
        obtain ⟨v, _, rfl⟩ := List.mem_map.mp hy
        have := (List.cons.inj e).1
        omega
/-- the shape of these counts -/
def canS (l : List Nat) : List Nat := (l.mergeSort fun a b => decide (b ≤ a)).filter fun n => decide (0 < n)
theorem canS_perm (l : List Nat) : (canS l).Perm (l.filter fun n => decide (0 < n)) := (List.mergeSort_perm l _).filter _
theorem canS_dn (l : List Nat) : (canS l).Pairwise (· ≥ ·) := by
  refine List.Pairwise.filter _ ?_
  refine (List.pairwise_mergeSort (le := fun a b => decide (b ≤ a)) (fun a b c h1 h2 => ?_) (fun a b => ?_) l).imp fun h => of_decide_eq_true h
  · have h1 := of_decide_eq_true h1
    have h2 := of_decide_eq_true h2
    exact decide_eq_true (Nat.le_trans h2 h1)
  · rcases Nat.le_total a b with h | h
    · rw [decide_eq_true h, Bool.or_true]
    · rw [decide_eq_true h, Bool.true_or]
theorem dn_eq {a b : List Nat} (p : a.Perm b) (h1 : a.Pairwise (· ≥ ·)) (h2 : b.Pairwise (· ≥ ·)) : a = b := p.eq_of_pairwise (le := (· ≥ ·)) (fun x y _ _ h1 h2 => Nat.le_antisymm h2 h1) h1 h2
theorem full_pos {r : Nat} {s : List Nat} (h : ∀ x ∈ s, 1 ≤ x) : (fullC r s).filter (fun n => decide (0 < n)) = s := by
  unfold fullC
  rw [List.filter_append, List.filter_eq_self.mpr fun x hx => (decide_eq_true (show 0 < x from h x hx) : decide (0 < x) = true), List.filter_eq_nil_iff.mpr fun x hx => by rw [List.eq_of_mem_replicate hx]; simp, List.append_nil]
theorem full_perm {l s : List Nat} (h : ∀ x ∈ s, 1 ≤ x) : l.Perm (fullC l.length s) ↔ s.Perm (l.filter fun n => decide (0 < n)) := by
  constructor
  · intro p
    have q := p.filter fun n => decide (0 < n)
    rw [full_pos h] at q
    exact q.symm
  · intro p
    have e : (l.filter fun n => !decide (0 < n)) = List.replicate (l.length - s.length) 0 := by
      refine List.eq_replicate_iff.mpr ⟨?_, fun x hx => ?_⟩
      · have h1 := (List.filter_append_perm (fun n => decide (0 < n)) l).length_eq
        rw [List.length_append] at h1
        have h2 := p.length_eq
        omega
      · have := (List.mem_filter.mp hx).2
        simpa using this
    have q := List.filter_append_perm (fun n => decide (0 < n)) l
    rw [e] at q
    exact q.symm.trans (p.symm.append_right _)
theorem full_can {l s : List Nat} (h : ∀ x ∈ s, 1 ≤ x) (hd : s.Pairwise (· ≥ ·)) : l.Perm (fullC l.length s) ↔ canS l = s :=
  (full_perm h).trans ⟨fun p => dn_eq ((canS_perm l).trans p.symm) (canS_dn l) hd, fun e => by rw [← e]; exact canS_perm l⟩
theorem canS_shp {c r : Nat} {t : List (List Nat)} (ht : t ∈ TR c r) : canS (t.map cntM) ∈ shp r c := by
  obtain ⟨h1, h2⟩ := TR_mem ht
  refine mem_shp.mpr ⟨?_, canS_dn _, fun x hx => ?_⟩
  · rw [(canS_perm _).length_eq]
    refine Nat.le_trans (List.length_filter_le _ _) ?_
    rw [List.length_map, h1]
    exact Nat.le_refl _
  · obtain ⟨h3, h4⟩ := List.mem_filter.mp ((canS_perm _).subset hx)
    obtain ⟨w, hw, rfl⟩ := List.mem_map.mp h3
    exact ⟨of_decide_eq_true h4, (words_cnt (h2 w hw)).2⟩
/-- the trays of all shapes are all trays -/
theorem all_counted {c r : Nat} (hc : c ≤ 12) : ((shp r c).map fun s => Wy c (fullC r s) 0 c).sum = 2 ^ (r * c) := by
  have e : ((shp r c).map fun s => Wy c (fullC r s) 0 c) = (shp r c).map fun s => ((TR c r).filter fun t => decide (canS (t.map cntM) = s)).length * 1 := by
    refine List.map_congr_left fun s hs => ?_
    obtain ⟨h1, h2, h3⟩ := mem_shp.mp hs
    have hl : (fullC r s).length = r := by
      rw [List.length_append, List.length_replicate]
      omega
    show W c (fullC r s).length (fullC r s) 0 c = _
    rw [hl, ← count_TR hc hl, Nat.mul_one]
    congr 1
    refine List.filter_congr fun t ht => decide_eq_decide.mpr ?_
    have ht1 : (t.map cntM).length = r := by rw [List.length_map]; exact (TR_mem ht).1
    have := full_can (l := t.map cntM) (fun x hx => (h3 x hx).1) h2
    rw [ht1] at this
    exact this
  rw [e, ← sum_by (fun t => canS (t.map cntM)) (fun _ => 1) (shp_nodup r c) fun t ht => canS_shp ht, ← TR_len c r]
  have : ∀ l : List (List (List Nat)), (l.map fun _ => 1).sum = l.length := fun l => by
    induction l with
    | nil => rfl
    | cons x l ih => rw [List.map_cons, List.sum_cons, ih, List.length_cons]; omega
  exact this _
theorem shp_small : ∀ r < 6, ∀ c < 7, (shp r c).length ≤ 1000 := by decide +kernel
/-! the number of a tray among those of its shape -/
theorem Wy_sum {cols : Nat} {cs : List Nat} {b e : Nat} (hne : cs ≠ []) (h : ∀ c ∈ cs, c ≤ 12) : Wy cols cs b e = ((dist cs).map fun c => if b ≤ c then cho e (c - b) * Wy cols (cs.erase c) 0 cols else 0).sum := by
  rw [Wy_cons hne h, sum_filter]
  exact congrArg List.sum (List.map_congr_left fun c _ => by simp only [decide_eq_true_eq])
theorem cho_zero : ∀ e : Nat, cho e 0 = 1
  | 0 => rfl
  | _ + 1 => rfl
theorem Wy_step {cols : Nat} {cs : List Nat} {b e : Nat} (hne : cs ≠ []) (h : ∀ c ∈ cs, c ≤ 12) : Wy cols cs b (e + 1) = Wy cols cs b e + Wy cols cs (b + 1) e := by
  rw [Wy_sum hne h, Wy_sum hne h, Wy_sum hne h, ← sum_map_add]
  refine congrArg List.sum (List.map_congr_left fun c _ => ?_)
  by_cases h1 : b ≤ c
  · rw [if_pos h1, if_pos h1]
    by_cases h2 : b + 1 ≤ c
    · rw [if_pos h2, show c - b = (c - (b + 1)) + 1 by omega]
      show (cho e (c - (b + 1)) + cho e (c - (b + 1) + 1)) * _ = _
      rw [Nat.add_mul, Nat.add_comm]
    · rw [if_neg h2, show c - b = 0 by omega, cho_zero, cho_zero, Nat.add_zero]
  · rw [if_neg h1, if_neg h1, if_neg (by omega)]
theorem Wy_zero {cols : Nat} {cs : List Nat} {b : Nat} (hne : cs ≠ []) (h : ∀ c ∈ cs, c ≤ 12) : Wy cols cs b 0 = if b ∈ cs then Wy cols (cs.erase b) 0 cols else 0 := by
  have e1 : (dist cs).map (fun c => if b ≤ c then cho 0 (c - b) * Wy cols (cs.erase c) 0 cols else 0) = (dist cs).map fun c => if b = c then Wy cols (cs.erase c) 0 cols else 0 := by
    refine List.map_congr_left fun c _ => ?_
    by_cases h1 : b ≤ c
    · rw [if_pos h1]
      by_cases h2 : b = c
      · subst h2
        rw [if_pos rfl, Nat.sub_self]
        exact Nat.one_mul _
      · rw [if_neg h2, show c - b = (c - b - 1) + 1 by omega]
        exact Nat.zero_mul _
    · rw [if_neg h1, if_neg (by omega)]
  rw [Wy_sum hne h, e1]
  have nd : (dist cs).Nodup := (dist_lt cs).imp fun h => Nat.ne_of_lt h
  by_cases q : b ∈ cs
  · rw [if_pos q]
    exact sum_one (fun c => Wy cols (cs.erase c) 0 cols) nd ((mem_dist h).mpr q)
  · rw [if_neg q]
    exact sum_map_zero fun c hc => if_neg fun (z : b = c) => q (by rw [z]; exact (mem_dist h).mp hc)
def rowRk (cols : Nat) (cs : List Nat) : Nat → List Nat → Nat
  | _, [] => 0
  | b, x :: l => if x = 46 then rowRk cols cs b l else Wy cols cs b l.length + rowRk cols cs (b + 1) l
def rank (cols : Nat) : List Nat → List (List Nat) → Nat
  | _, [] => 0
  | cs, r :: rs => rowRk cols cs 0 r + rank cols (cs.erase (cntM r)) rs
theorem cnt_e {x : Nat} {l : List Nat} (q : x = 46) : cntM (x :: l) = cntM l := by rw [cntM_cons, if_pos q, Nat.zero_add]
theorem cnt_o {x b : Nat} {l : List Nat} (q : ¬ x = 46) : b + cntM (x :: l) = b + 1 + cntM l := by rw [cntM_cons, if_neg q, ← Nat.add_assoc]
theorem rowRk_cons (cols : Nat) (cs : List Nat) (b x : Nat) (l : List Nat) : rowRk cols cs b (x :: l) = if x = 46 then rowRk cols cs b l else Wy cols cs b l.length + rowRk cols cs (b + 1) l := rfl
/-- the rows come with these counts; each is as wide -/
structure Fits (cols : Nat) (cs : List Nat) (rs : List (List Nat)) : Prop where
  p : (rs.map cntM).Perm cs
  w : ∀ r ∈ rs, r.length = cols
theorem Fits.cons {cols : Nat} {cs : List Nat} {r : List Nat} {rs : List (List Nat)} (h : Fits cols cs (r :: rs)) : cntM r ∈ cs ∧ r.length = cols ∧ Fits cols (cs.erase (cntM r)) rs := by
  have p : (cntM r :: rs.map cntM).Perm cs := h.p
  rw [List.cons_perm_iff_perm_erase] at p
  exact ⟨p.1, h.w r List.mem_cons_self, p.2, fun x hx => h.w x (List.mem_cons_of_mem _ hx)⟩
theorem Fits.mk' {cols : Nat} {cs : List Nat} {r : List Nat} {rs : List (List Nat)} (h1 : cntM r ∈ cs) (h2 : r.length = cols) (h3 : Fits cols (cs.erase (cntM r)) rs) : Fits cols cs (r :: rs) := ⟨List.cons_perm_iff_perm_erase.mpr ⟨h1, h3.p⟩, fun x hx => by
  rcases List.mem_cons.mp hx with rfl | hx
  · exact h2
  · exact h3.w x hx⟩
/-- the rest of a row, then the rows below -/
theorem rank_lt_row {cols : Nat} {cs : List Nat} {rs : List (List Nat)} (h : ∀ c ∈ cs, c ≤ 12) : ∀ {l : List Nat} {b : Nat}, b + cntM l ∈ cs → rank cols (cs.erase (b + cntM l)) rs < Wy cols (cs.erase (b + cntM l)) 0 cols → rowRk cols cs b l + rank cols (cs.erase (b + cntM l)) rs < Wy cols cs b l.length
  | [], b, hm, hlt => by
    have hne : cs ≠ [] := fun z => by rw [z] at hm; cases hm
    have e : b + cntM [] = b := rfl
    rw [e] at hm hlt ⊢
    show 0 + _ < Wy cols cs b 0
    rw [Wy_zero hne h, if_pos hm]
    omega
  | x :: l, b, hm, hlt => by
    have hne : cs ≠ [] := fun z => by rw [z] at hm; cases hm
    rw [rowRk_cons, List.length_cons, Wy_step hne h]
    by_cases q : x = 46
    · rw [cnt_e q] at hm hlt ⊢
      rw [if_pos q]
      have := rank_lt_row h hm hlt
      omega
    · rw [cnt_o q] at hm hlt ⊢
      rw [if_neg q]
      have := rank_lt_row h hm hlt
      omega
theorem rank_lt {cols : Nat} : ∀ {rs : List (List Nat)} {cs : List Nat}, (∀ c ∈ cs, c ≤ 12) → Fits cols cs rs → rank cols cs rs < Wy cols cs 0 cols
  | [], cs, _, f => by
    have : cs = [] := f.p.symm.eq_nil
    subst this
    exact Nat.one_pos
  | r :: rs, cs, h, f => by
    obtain ⟨h1, h2, h3⟩ := f.cons
    have ih := rank_lt (fun c hc => h c (List.mem_of_mem_erase hc)) h3
    have := rank_lt_row (rs := rs) h (l := r) (b := 0) (by rw [Nat.zero_add]; exact h1) (by rw [Nat.zero_add]; exact ih)
    rw [Nat.zero_add, h2] at this
    exact this
/-! texts and tuples of texts in order -/
def ltT : List Nat → List Nat → Prop
  | [], [] => False
  | [], _ :: _ => True
  | _ :: _, [] => False
  | x :: a, y :: b => x < y ∨ (x = y ∧ ltT a b)
def ltR : List (List Nat) → List (List Nat) → Prop
  | [], [] => False
  | [], _ :: _ => True
  | _ :: _, [] => False
  | r :: a, q :: b => ltT r q ∨ (r = q ∧ ltR a b)
theorem ltT_irrefl : ∀ a : List Nat, ¬ ltT a a
  | [], h => h
  | x :: a, h => h.elim (Nat.lt_irrefl x) fun z => ltT_irrefl a z.2
theorem ltR_irrefl : ∀ a : List (List Nat), ¬ ltR a a
  | [], h => h
  | x :: a, h => h.elim (ltT_irrefl x) fun z => ltR_irrefl a z.2
theorem ltT_tri : ∀ a b : List Nat, ltT a b ∨ a = b ∨ ltT b a
  | [], [] => .inr (.inl rfl)
  | [], _ :: _ => .inl trivial
  | _ :: _, [] => .inr (.inr trivial)
  | x :: a, y :: b => by
    rcases Nat.lt_trichotomy x y with h | h | h
    · exact .inl (.inl h)
    · subst h
      rcases ltT_tri a b with h | h | h
      · exact .inl (.inr ⟨rfl, h⟩)
      · exact .inr (.inl (by rw [h]))
      · exact .inr (.inr (.inr ⟨rfl, h⟩))
    · exact .inr (.inr (.inl h))
theorem ltR_tri : ∀ a b : List (List Nat), ltR a b ∨ a = b ∨ ltR b a
  | [], [] => .inr (.inl rfl)
  | [], _ :: _ => .inl trivial
  | _ :: _, [] => .inr (.inr trivial)
  | x :: a, y :: b => by
    rcases ltT_tri x y with h | h | h
    · exact .inl (.inl h)
    · subst h
      rcases ltR_tri a b with h | h | h
      · exact .inl (.inr ⟨rfl, h⟩)
      · exact .inr (.inl (by rw [h]))
      · exact .inr (.inr (.inr ⟨rfl, h⟩))
    · exact .inr (.inr (.inl h))
/-- signs: empty, or the one mark -/
def OO (rs : List (List Nat)) : Prop := ∀ r ∈ rs, ∀ x ∈ r, x = 46 ∨ x = 111
theorem row_mono {cols : Nat} {cs : List Nat} {rs qs : List (List Nat)} (h : ∀ c ∈ cs, c ≤ 12) : ∀ {l m : List Nat} {b : Nat}, l.length = m.length → (∀ x ∈ l, x = 46 ∨ x = 111) → (∀ x ∈ m, x = 46 ∨ x = 111) → ltT l m → b + cntM l ∈ cs → b + cntM m ∈ cs → rank cols (cs.erase (b + cntM l)) rs < Wy cols (cs.erase (b + cntM l)) 0 cols →
    rowRk cols cs b l + rank cols (cs.erase (b + cntM l)) rs < rowRk cols cs b m + rank cols (cs.erase (b + cntM m)) qs
  | [], [], _, _, _, _, hl, _, _, _ => hl.elim
  | [], _ :: _, _, he, _, _, _, _, _, _ => by cases he
  | _ :: _, [], _, he, _, _, _, _, _, _ => by cases he
  | x :: l, y :: m, b, he, hx, hy, hl, h1, h2, hr => by
    have he2 : l.length = m.length := Nat.succ.inj he
    have hx0 := hx x List.mem_cons_self
    have hy0 := hy y List.mem_cons_self
    have hxs : ∀ z ∈ l, z = 46 ∨ z = 111 := fun z hz => hx z (List.mem_cons_of_mem _ hz)
    have hys : ∀ z ∈ m, z = 46 ∨ z = 111 := fun z hz => hy z (List.mem_cons_of_mem _ hz)
    rw [rowRk_cons, rowRk_cons]
    rcases hl with hl | ⟨rfl, hl⟩
    · have ex : x = 46 := by omega
      have ey : y = 111 := by omega
      subst ex ey
      rw [cnt_e rfl] at h1 hr ⊢
      rw [if_pos rfl, if_neg (by decide)]
      have := rank_lt_row (rs := rs) h h1 hr
      rw [he2] at this
      omega
    · by_cases q : x = 46
      · rw [cnt_e q] at h1 h2 hr ⊢
        rw [cnt_e q, if_pos q, if_pos q]
        exact row_mono h he2 hxs hys hl h1 h2 hr
      · rw [cnt_o q] at h1 h2 hr ⊢
        rw [cnt_o q, if_neg q, if_neg q, he2]
        have := row_mono (qs := qs) h he2 hxs hys hl h1 h2 hr
        omega
theorem rank_mono {cols : Nat} : ∀ {rs qs : List (List Nat)} {cs : List Nat}, (∀ c ∈ cs, c ≤ 12) → Fits cols cs rs → Fits cols cs qs → OO rs → OO qs → ltR rs qs → rank cols cs rs < rank cols cs qs
  | [], [], _, _, _, _, _, _, hl => hl.elim
  | [], _ :: _, cs, _, f, g, _, _, _ => by
    have : cs = [] := f.p.symm.eq_nil
    subst this
    have := g.p.length_eq
    simp at this
  | _ :: _, [], _, _, _, _, _, _, hl => hl.elim
  | r :: rs, q :: qs, cs, h, f, g, o1, o2, hl => by
    obtain ⟨a1, a2, a3⟩ := f.cons
    obtain ⟨b1, b2, b3⟩ := g.cons
    have hs : ∀ {x : Nat}, ∀ c ∈ cs.erase x, c ≤ 12 := fun c hc => h c (List.mem_of_mem_erase hc)
    have r1 := rank_lt hs a3
    rcases hl with hl | ⟨rfl, hl⟩
    · have := row_mono (rs := rs) (qs := qs) (b := 0) h (by rw [a2, b2]) (o1 r List.mem_cons_self) (o2 q List.mem_cons_self) hl (by rw [Nat.zero_add]; exact a1) (by rw [Nat.zero_add]; exact b1) (by rw [Nat.zero_add]; exact r1)
      rw [Nat.zero_add, Nat.zero_add] at this
      exact this
    · have := rank_mono hs a3 b3 (fun x hx => o1 x (List.mem_cons_of_mem _ hx)) (fun x hx => o2 x (List.mem_cons_of_mem _ hx)) hl
      show rowRk cols cs 0 r + _ < rowRk cols cs 0 r + _
      omega
theorem rank_inj {cols : Nat} {rs qs : List (List Nat)} {cs : List Nat} (h : ∀ c ∈ cs, c ≤ 12) (f : Fits cols cs rs) (g : Fits cols cs qs) (o1 : OO rs) (o2 : OO qs) (e : rank cols cs rs = rank cols cs qs) : rs = qs := by
  rcases ltR_tri rs qs with hl | hl | hl
  · have := rank_mono h f g o1 o2 hl
    omega
  · exact hl
  · have := rank_mono h g f o2 o1 hl
    omega
theorem rank_iff {cols : Nat} {rs qs : List (List Nat)} {cs : List Nat} (h : ∀ c ∈ cs, c ≤ 12) (f : Fits cols cs rs) (g : Fits cols cs qs) (o1 : OO rs) (o2 : OO qs) : rank cols cs rs < rank cols cs qs ↔ ltR rs qs := by
  refine ⟨fun hl => ?_, rank_mono h f g o1 o2⟩
  rcases ltR_tri rs qs with q | q | q
  · exact q
  · subst q
    omega
  · have := rank_mono h g f o2 o1 q
    omega
/-- counts in another order -/
theorem rowRk_perm {cols : Nat} {a b : List Nat} (p : a.Perm b) : ∀ (l : List Nat) (e : Nat), rowRk cols a e l = rowRk cols b e l
  | [], _ => rfl
  | x :: l, e => by
    rw [rowRk_cons, rowRk_cons, rowRk_perm p l e, rowRk_perm p l (e + 1), Wy_perm p]
theorem rank_perm {cols : Nat} : ∀ {rs : List (List Nat)} {a b : List Nat}, a.Perm b → rank cols a rs = rank cols b rs
  | [], _, _, _ => rfl
  | r :: rs, a, b, p => by
    show rowRk cols a 0 r + _ = rowRk cols b 0 r + _
    rw [rowRk_perm p, rank_perm (p.erase _)]
/-! .. and the tray of a number -/
def unRow (cols : Nat) (cs : List Nat) : Nat → Nat → Nat → List Nat
  | _, 0, _ => []
  | b, e + 1, k => if Wy cols cs b e ≤ k then 111 :: unRow cols cs (b + 1) e (k - Wy cols cs b e) else 46 :: unRow cols cs b e k
/-- what is left of the number, below the row -/
def leftRow (cols : Nat) (cs : List Nat) : Nat → Nat → Nat → Nat
  | _, 0, k => k
  | b, e + 1, k => if Wy cols cs b e ≤ k then leftRow cols cs (b + 1) e (k - Wy cols cs b e) else leftRow cols cs b e k
def unrank (cols : Nat) : Nat → List Nat → Nat → List (List Nat)
  | 0, _, _ => []
  | r + 1, cs, k => unRow cols cs 0 cols k :: unrank cols r (cs.erase (cntM (unRow cols cs 0 cols k))) (leftRow cols cs 0 cols k)
theorem unRow_ok {cols : Nat} {cs : List Nat} (h : ∀ c ∈ cs, c ≤ 12) (hne : cs ≠ []) : ∀ {e b k : Nat}, k < Wy cols cs b e → (unRow cols cs b e k).length = e ∧ (∀ x ∈ unRow cols cs b e k, x = 46 ∨ x = 111) ∧ b + cntM (unRow cols cs b e k) ∈ cs ∧ leftRow cols cs b e k < Wy cols (cs.erase (b + cntM (unRow cols cs b e k))) 0 cols ∧ rowRk cols cs b (unRow cols cs b e k) + leftRow cols cs b e k = k
  | 0, b, k, hk => by
    rw [Wy_zero hne h] at hk
    by_cases q : b ∈ cs
    · rw [if_pos q] at hk
      refine ⟨rfl, fun _ h => (nomatch h), q, hk, ?_⟩
      show 0 + k = k
      omega
    · rw [if_neg q] at hk
      omega
  | e + 1, b, k, hk => by
    rw [Wy_step hne h] at hk
    by_cases q : Wy cols cs b e ≤ k
    · have e1 : unRow cols cs b (e + 1) k = 111 :: unRow cols cs (b + 1) e (k - Wy cols cs b e) := if_pos q
      have e2 : leftRow cols cs b (e + 1) k = leftRow cols cs (b + 1) e (k - Wy cols cs b e) := if_pos q
      obtain ⟨h1, h2, h3, h4, h5⟩ := unRow_ok (cols := cols) h hne (e := e) (b := b + 1) (k := k - Wy cols cs b e) (by omega)
      rw [e1, e2, cnt_o (by decide)]
      refine ⟨by rw [List.length_cons, h1], fun x hx => ?_, h3, h4, ?_⟩
      · rcases List.mem_cons.mp hx with rfl | hx
        · exact .inr rfl
        · exact h2 x hx
      · rw [rowRk_cons, if_neg (by decide), h1]
        omega
    · have e1 : unRow cols cs b (e + 1) k = 46 :: unRow cols cs b e k := if_neg q
      have e2 : leftRow cols cs b (e + 1) k = leftRow cols cs b e k := if_neg q
      obtain ⟨h1, h2, h3, h4, h5⟩ := unRow_ok (cols := cols) h hne (e := e) (b := b) (k := k) (by omega)
      rw [e1, e2, cnt_e rfl]
      refine ⟨by rw [List.length_cons, h1], fun x hx => ?_, h3, h4, ?_⟩
      · rcases List.mem_cons.mp hx with rfl | hx
        · exact .inl rfl
        · exact h2 x hx
      · rw [rowRk_cons, if_pos rfl]
        exact h5
theorem unrank_ok {cols : Nat} : ∀ {r : Nat} {cs : List Nat} {k : Nat}, (∀ c ∈ cs, c ≤ 12) → cs.length = r → k < Wy cols cs 0 cols → (unrank cols r cs k).length = r ∧ Fits cols cs (unrank cols r cs k) ∧ OO (unrank cols r cs k) ∧ rank cols cs (unrank cols r cs k) = k
  | 0, cs, k, h, hl, hk => by
    have : cs = [] := List.length_eq_zero_iff.mp hl
    subst this
    have hk : k < 1 := hk
    exact ⟨rfl, ⟨.nil, fun _ h => (nomatch h)⟩, fun _ h => (nomatch h), by show 0 = k; omega⟩
  | r + 1, cs, k, h, hl, hk => by
    have hne : cs ≠ [] := fun z => by rw [z] at hl; cases hl
    obtain ⟨h1, h2, h3, h4, h5⟩ := unRow_ok h hne hk
    rw [Nat.zero_add] at h3 h4
    obtain ⟨u1, u2, u3, u4⟩ := unrank_ok (r := r) (fun c hc => h c (List.mem_of_mem_erase hc)) (by rw [List.length_erase_of_mem h3]; omega) h4
    refine ⟨by show _ + 1 = _; rw [u1], Fits.mk' h3 h1 u2, fun x hx => ?_, ?_⟩
    · rcases List.mem_cons.mp hx with rfl | hx
      · exact h2
      · exact u3 x hx
    · show rowRk cols cs 0 _ + rank cols _ _ = k
      rw [u4]
      exact h5
/-! counts_in, shape_of -/
theorem sc_counts_in : FnScope ["tray", "text"] ["tray"] (defScope s_counts_in) := ⟨rfl, rfl, rfl, by decide +kernel, rfl, by decide +kernel, by decide +kernel⟩
def R_counts_in : Rel := fun ds L P => ∃ rows, ds = [trayD rows] ∧ Tray 12 rows ∧ P (.lst (intsD (rows.map cntM))) L
theorem sc_shape_of : FnScope ["tray", "count"] ["tray"] (defScope s_shape_of) := ⟨rfl, rfl, rfl, by decide +kernel, rfl, by decide +kernel, by decide +kernel⟩
def R_shape_of : Rel := fun ds L P => ∃ rows m, ds = [trayD rows] ∧ Tray 12 rows ∧ m.Perm ((rows.map cntM).filter fun n => decide (0 < n)) ∧ m.Pairwise (· ≥ ·) ∧ P (.tup (intsD m)) L
theorem ints_nat {l : List Nat} {ns : List Int} (p : ns.Perm (l.map fun n : Nat => (n : Int))) : ∃ m : List Nat, ns = m.map (fun n : Nat => (n : Int)) ∧ m.Perm l := by
  refine ⟨ns.map Int.toNat, ?_, ?_⟩
  · rw [List.map_map]
    conv => lhs; rw [← List.map_id ns]
    refine List.map_congr_left fun i hi => ?_
    obtain ⟨n, _, rfl⟩ := List.mem_map.mp (p.subset hi)
    simp
  · have q := p.map Int.toNat
    rw [List.map_map] at q
    have e : l.map (Int.toNat ∘ fun n : Nat => (n : Int)) = l := by
      conv => rhs; rw [← List.map_id l]
      exact List.map_congr_left fun n _ => by simp
    rwa [e] at q
theorem intsD_eq (l : List Nat) : intsD l = (l.map fun n : Nat => (n : Int)).map Dt.int := by
  unfold intsD
  rw [List.map_map]
  rfl
theorem ints_pos (q : List Nat) : ((intsD q).filter fun d => match d with
      | .int i => decide (0 < i)
      | _ => false).map id = intsD (q.filter fun n => decide (0 < n)) := by
  unfold intsD
  rw [List.map_id, List.filter_map]
  congr 1
  refine List.filter_congr fun n _ => ?_
  show decide ((0 : Int) < (n : Nat)) = decide (0 < n)
  rw [Bool.eq_iff_iff, decide_eq_true_iff, decide_eq_true_iff]
  omega
section
variable {Pr : Program} {w : World} {K : PySem.W.Frag} {mg : Str → Option Value} {base : Heap}
theorem c_counts_in (F : FunAt K mg "counts_in" s_counts_in) (n_len : mg "len" = none) (v_EMPTY : ∃ t, mg "EMPTY" = some (.str (Str.ofString ".") t)) : Cal Pr w K mg base "counts_in" 1 ["tray"] R_counts_in := by
  refine cal_of F sc_counts_in (fun _ _ _ h => by obtain ⟨_, rfl, _⟩ := h; rfl) (fun _ _ _ _ _ _ us hl => match us, hl with | [_], _ => rfl) fun fa cdv A outer s H E hr ds L P h => ?_
  obtain ⟨rows, rfl, ht, h⟩ := h
  have nd := sc_counts_in.nd
  obtain ⟨wd, hw1, hw2, R⟩ := ht.rect
  have hhi := ht.hi
  show DSs _ _ [some (trayD rows), none] L _
  refine dss_one (ds_ret <| dp_ls1 (i := 1) [("text", 1)] (blkOk_by (by kernel_rfl)) nd (fun _ _ _ _ _ => pg_name nd rfl (Or.inl rfl)) <| di_tup <| dp_var g0 ⟨_, rfl, fun _ => true, fun d => match d with
      | .str r => .int (cntM r : Nat)
      | _ => .non, by rw [List.length_map]; omega, fun d hd => ⟨_, tg_name, fun T s H C cl fp => dts_nil ⟨rfl, rfl, fun _ s H C cl fp => ?_⟩⟩, ?_⟩)
  · obtain ⟨r, hr', rfl⟩ := List.mem_map.mp hd
    have hrl := R.w r hr'
    refine dp_sub <| dp_len n_len <| dp_var g1 ⟨Nat.le_trans (show r.length ≤ 12 by omega) szOk, dp_count <| dp_var g1 ⟨rfl, dp_gS v_EMPTY dot_eq ?_⟩⟩
    refine ⟨rfl, ?_⟩
    rw [cnt_len]
  · have ec : ((List.filter (fun _ => true) (rows.map Dt.str)).map fun d => match d with
      | .str r => Dt.int (cntM r : Nat)
      | _ => .non) = intsD (rows.map cntM) := by
      rw [filterT]
      unfold intsD
      rw [List.map_map, List.map_map]
      rfl
    rw [ec]
    exact h
theorem c_shape_of (F : FunAt K mg "shape_of" s_shape_of) (C_need_tray : Cal Pr w K mg base "need_tray" 1 ["tray"] R_need_tray) (C_counts_in : Cal Pr w K mg base "counts_in" 1 ["tray"] R_counts_in) (n_sorted : mg "sorted" = none) (n_tuple : mg "tuple" = none) : Cal Pr w K mg base "shape_of" 2 ["tray"] R_shape_of := by
  refine cal_of F sc_shape_of (fun _ _ _ h => by obtain ⟨_, _, rfl, _⟩ := h; rfl) (fun _ _ _ _ _ _ us hl => match us, hl with | [_], _ => rfl) fun fa cdv A outer s H E hr ds L P h => ?_
  obtain ⟨rows, m, rfl, ht, hm1, hm2, h⟩ := h
  have nd := sc_shape_of.nd
  have hhi := ht.hi
  show DSs _ _ [some (trayD rows), none] L _
  refine dss_cons (ds_expr <| dp_call C_need_tray hr (by decide) <| da_cons <| dp_var g0 <| da_nil ⟨rows, rfl, ht, ?_⟩)
  refine dss_one (ds_ret <| dp_tuple n_tuple <| dp_ls1 (i := 1) [("count", 1)] (blkOk_by (by kernel_rfl)) nd (fun _ _ _ _ _ => pg_name nd rfl (Or.inl rfl)) <| di_list <| dp_sortR n_sorted <| dp_call C_counts_in hr (by decide) <| da_cons <| dp_var g0 <| da_nil ⟨rows, rfl, ht, (rows.map cntM).map (fun n : Nat => (n : Int)), by rw [intsD_eq], fun ns' hp hs => ?_⟩)
  obtain ⟨q, rfl, hq⟩ := ints_nat hp
  have hqs : q.Pairwise (· ≥ ·) := (List.pairwise_map.mp hs).imp fun {x y} z => by omega
  rw [← intsD_eq]
  refine ⟨fun d => match d with
      | .int i => decide (0 < i)
      | _ => false, id, ?_, fun d hd => ⟨_, tg_name, fun T s H C cl fp => ?_⟩, ?_⟩
  · unfold intsD
    rw [List.length_map, hq.length_eq, List.length_map]
    omega
  · unfold intsD at hd
    obtain ⟨n, hn, rfl⟩ := List.mem_map.mp hd
    exact dts_one <| dt_gt <| dp_var g1 <| dp_int ⟨_, rfl, rfl, rfl, fun _ s H C cl fp => dp_var g1 ⟨rfl, rfl⟩⟩
  · rw [ints_pos]
    have e : q.filter (fun n => decide (0 < n)) = m := desc_uniq ((hq.filter _).trans hm1.symm) (hqs.filter _) hm2
    rw [e]
    exact h
end
/-! number_of, tray_at -/
def ErrE (K : PySem.W.Frag) (mg : Str → Option Value) (x : Str) : Prop := ∃ D, ErrC K mg x D
theorem errE_at {K : PySem.W.Frag} {h : Heap} {mg : Str → Option Value} {x : Str} {D : Addr} (X : K.In h) (G : h.Ns mainGlobals mg) (a : PySem.W.nsIn K mainGlobals x = some (some (.ref D)))
    (q : PySem.W.excIn K D [.type "ValueError", .type "Exception", .type "BaseException", .type "object"] "ValueError.__new__" = true) (k : PySem.W.keepIn K (.ref D) = true) (b : PySem.W.subIn K (.ref D) (.type "BaseException") = some true) (t : PySem.W.typeIn K (.ref D) = some (.type "type")) : ErrE K mg x :=
  ⟨D, PySem.W.mg_of X G a, q, k, b, t⟩
theorem sc_number_of : FnScope ["tray", "columns", "counter", "counts", "found", "text", "balls", "column", "sign"] ["tray"] (defScope s_number_of) := ⟨rfl, rfl, rfl, by decide +kernel, rfl, by decide +kernel, by decide +kernel⟩
theorem sc_tray_at : FnScope ["rows", "columns", "shape", "number", "counter", "counts", "found", "row", "text", "column", "balls", "here", "is_ball"] ["rows", "columns", "shape", "number"] (defScope s_tray_at) := ⟨rfl, rfl, rfl, by decide +kernel, rfl, by decide +kernel, by decide +kernel⟩
def R_number_of : Rel := fun ds L P => ∃ rows, ds = [trayD rows] ∧ Tray 12 rows ∧ P (.int (rank (wdt rows) (rows.map cntM) rows : Nat)) L
/-- what is asked of tray_at: n is a number of the shape, or is refused -/
def R_tray_atX (mg : Str → Option Value) : RelX := fun ds L P Xr => ∃ (r c : Nat) (s : List Nat) (n : Int), ds = [.int r, .int c, .tup (cD2 s), .int n] ∧ ShapeOk r c s ∧
  (∀ k : Nat, n = k → k < Wy c (fullC r s) 0 c → ∀ t : List (List Nat), t.length = r → Fits c (fullC r s) t → OO t → rank c (fullC r s) t = k → P (trayD t) L) ∧ (¬ (0 ≤ n ∧ n < (Wy c (fullC r s) 0 c : Nat)) → ∀ D, mg "BadNumber" = some (.ref D) → Xr (.ref D) L)
theorem oh_eq : (Str.ofString "o").cps.toList = [111] := by decide +kernel
theorem full_len {r : Nat} {s : List Nat} (h : s.length ≤ r) : (fullC r s).length = r := by
  rw [List.length_append, List.length_replicate]
  omega
theorem ShapeOk.le12 {r c : Nat} {s : List Nat} (h : ShapeOk r c s) : ∀ x ∈ fullC r s, x ≤ 12 := fun x hx => by
  have := h.c2
  rcases List.mem_append.mp hx with z | z
  · have := (h.el x z).2
    omega
  · rw [List.eq_of_mem_replicate z]
    omega
theorem cnt_111 : ∀ {u : List Nat}, (∀ x ∈ u, x = 46 ∨ x = 111) → u.count 111 = cntM u
  | [], _ => rfl
  | x :: u, h => by
    have ih := cnt_111 fun y hy => h y (List.mem_cons_of_mem _ hy)
    rw [List.count_cons, ih]
    rcases h x List.mem_cons_self with rfl | rfl
    · rw [cnt_e rfl]
      simp
    · have := cnt_o (b := 0) (l := u) (x := 111) (by decide)
      simp
      omega
section
variable {Pr : Program} {w : World} {K : PySem.W.Frag} {mg : Str → Option Value} {base : Heap}
theorem c_number_of {C : Addr} (F : FunAt K mg "number_of" s_number_of) (T_Counter : CounterT K mg C) (C_need_tray : Cal Pr w K mg base "need_tray" 1 ["tray"] R_need_tray) (C_counts_in : Cal Pr w K mg base "counts_in" 1 ["tray"] R_counts_in) (C_without : Cal Pr w K mg base "without" 1 ["counts", "count"] R_without) (C_Counter : CalC Pr w K mg base "Counter" C 1 ["self", "columns"] (R_Counter____init__ K w C)) (C_Counter__ways : CalM Pr w K mg base C "ways" 15 ["self", "counts", "so_far", "cells"] (R_ways K w C 12))
    (n_len : mg "len" = none) (n_sorted : mg "sorted" = none) (n_tuple : mg "tuple" = none) (n_enumerate : mg "enumerate" = none) (v_EMPTY : ∃ t, mg "EMPTY" = some (.str (Str.ofString ".") t)) : Cal Pr w K mg base "number_of" 16 ["tray"] R_number_of := by
  refine cal_of F sc_number_of (fun _ _ _ h => by obtain ⟨_, rfl, _⟩ := h; rfl) (fun _ _ _ _ _ _ us hl => match us, hl with | [_], _ => rfl) fun fa cdv A outer s H E hr ds L P h => ?_
  obtain ⟨rows, rfl, ht, h⟩ := h
  have nd := sc_number_of.nd
  obtain ⟨hw1, hw2, R⟩ := ht.wdt
  have hlo := ht.lo
  have hhi := ht.hi
  have h00 : atI (rows.map Dt.str) 0 = some (.str rows[0]) := atI_nat (xs := rows.map Dt.str) (j := 0) (v := .str rows[0]) (by rw [List.getElem?_map, List.getElem?_eq_getElem (by omega)]; rfl)
  have h0l := R.w rows[0] (List.getElem_mem _)
  have h0s : rows[0].length ≤ sizeLine := Nat.le_trans (show rows[0].length ≤ 12 by omega) szOk
  show DSs _ _ [some (trayD rows), none, none, none, none, none, none, none, none] L _
  refine dss_cons (ds_expr <| dp_call C_need_tray hr (by decide) <| da_cons <| dp_var g0 <| da_nil ⟨rows, rfl, ht, ?_⟩)
  refine dss_cons (ds_set (i := 1) (fun _ => s1) (dp_len n_len <| dp_ix <| dp_var g0 <| dp_int ⟨_, h00, h0s, ?_⟩) nd)
  rw [h0l]
  refine dss_cons (ds_set (i := 2) (fun _ => s2) (dp_make C_Counter hr (by decide) <| da_cons <| dp_var g1 <| da_nil fun a => ?_) nd)
  refine ⟨a, wdt rows, L, rfl, rfl, fun q => ⟨rfl, ?_⟩⟩
  have eI : intsD (rows.map cntM) = cD2 (rows.map cntM) := intsD_eq _
  refine dss_cons (ds_set (i := 3) (fun _ => s3) (dp_tupleN n_tuple <| dp_sortI n_sorted <| dp_call C_counts_in hr (by decide) <| da_cons <| dp_var g0 <| da_nil ⟨rows, rfl, ht, cI (rows.map cntM), by rw [eI], fun ms hp hpw => ?_⟩) nd)
  obtain ⟨C0, rfl, hp0⟩ := nat_ints hp
  refine ⟨_, rfl, ?_⟩
  have hC0 : C0.length = rows.length := by rw [hp0.length_eq, List.length_map]
  have hc0 : ∀ c ∈ C0, c ≤ 12 := fun c hc => by
    obtain ⟨r, hr', rfl⟩ := List.mem_map.mp (hp0.subset hc)
    have := cntM_le r
    have := R.w r hr'
    omega
  refine dss_cons (ds_set (i := 4) (fun _ => s4) (dp_int ?_) nd)
  generalize hT : rank (wdt rows) (rows.map cntM) rows = T at h
  refine dss_cons (ds_for (di_tup <| dp_var g0 ⟨_, rfl, fun i ds' L' => ∃ ks cs F, KeysOk C0 ks ∧ cs.Perm ((rows.drop i).map cntM) ∧ cs.Sublist C0 ∧ F + rank (wdt rows) cs (rows.drop i) = T ∧ L' = ctrL K w C a q (wdt rows) ks L ∧ ds' = [some (trayD rows), some (.int (wdt rows : Nat)), some (.adr a), some (.frt (cD2 cs)), some (.int (F : Nat)), none, none, none, none],
    ⟨_, Fg.refl _, [], C0, 0, KeysOk.nil (by omega), by rw [List.drop_zero]; exact hp0, List.Sublist.refl _, by rw [List.drop_zero, rank_perm hp0, Nat.zero_add, hT], rfl, rfl⟩, fun i d ds' L' hx hW => ?_, fun ds' L' hW => ?_⟩) .never)
  · obtain ⟨ks, cs, F0, hk, hp, hs, hF, rfl, rfl⟩ := hW
    obtain ⟨hil, hx⟩ := List.getElem?_eq_some_iff.mp hx
    rw [List.length_map] at hil
    rw [List.getElem_map] at hx
    subst hx
    have hdrop : rows.drop i = rows[i] :: rows.drop (i + 1) := (List.getElem_cons_drop hil).symm
    have hri := R.w rows[i] (List.getElem_mem hil)
    rw [hdrop] at hp hF
    generalize rows[i] = r at hp hF hri
    have hcm : cntM r ∈ cs := hp.symm.subset List.mem_cons_self
    have hcs : ∀ c ∈ cs, c ≤ 12 := fun c hc => hc0 c (hs.subset hc)
    have hcl : cs.length ≤ 12 := by
      have := hs.length_le
      omega
    have hF : F0 + (rowRk (wdt rows) cs 0 r + rank (wdt rows) (cs.erase (cntM r)) (rows.drop (i + 1))) = T := hF
    refine dg_name s5 ?_ nd
    refine dss_cons (ds_set (i := 6) (fun _ => s6) (dp_int ?_) nd)
    refine dss_mid (fun ds' L' => ∃ ks2 F2 d7 d8, KeysOk C0 ks2 ∧ F2 + rank (wdt rows) (cs.erase (cntM r)) (rows.drop (i + 1)) = T ∧ L' = ctrL K w C a q (wdt rows) ks2 L ∧ ds' = [some (trayD rows), some (.int (wdt rows : Nat)), some (.adr a), some (.frt (cD2 cs)), some (.int (F2 : Nat)), some (.str r), some (.int (cntM r : Nat)), d7, d8])
      (ds_for (di_enumS n_enumerate <| dp_var g5 ⟨_, rfl, fun j ds' L' => ∃ ks2 F2 d7 d8, KeysOk C0 ks2 ∧ F2 + rowRk (wdt rows) cs (cntM (r.take j)) (r.drop j) + rank (wdt rows) (cs.erase (cntM r)) (rows.drop (i + 1)) = T ∧ L' = ctrL K w C a q (wdt rows) ks2 L ∧ ds' = [some (trayD rows), some (.int (wdt rows : Nat)), some (.adr a), some (.frt (cD2 cs)), some (.int (F2 : Nat)), some (.str r), some (.int (cntM (r.take j) : Nat)), d7, d8],
        ⟨_, Fg.refl _, ks, F0, none, none, hk, by rw [List.drop_zero]; show F0 + rowRk (wdt rows) cs 0 r + _ = T; omega, rfl, rfl⟩, fun j d ds' L' hx hW => ?_, fun ds' L' hW => ?_⟩) .never) fun ds' L' hW => ?_
    · obtain ⟨ks2, F2, d7, d8, hk2, hF2, rfl, rfl⟩ := hW
      obtain ⟨x, hx2, rfl⟩ := enm_get hx
      obtain ⟨c, hc, rfl⟩ := sgn_get hx2
      obtain ⟨hjl, hjc⟩ := List.getElem?_eq_some_iff.mp hc
      have hd2 : r.drop j = c :: r.drop (j + 1) := by rw [← hjc]; exact (List.getElem_cons_drop hjl).symm
      have ht2 : r.take (j + 1) = r.take j ++ [c] := by rw [List.take_add_one, hc]; rfl
      have hcnt : cntM (r.take (j + 1)) = cntM (r.take j) + (if c = 46 then 0 else 1) := by
        rw [ht2]
        unfold cntM
        rw [List.filter_append, List.length_append, List.filter_cons]
        by_cases q : c = 46 <;> simp [q]
      have htl : cntM (r.take j) ≤ 12 := by
        have := cntM_le (r.take j)
        rw [List.length_take] at this
        omega
      rw [hd2, rowRk_cons] at hF2
      refine dg_tup <| dgs_cons (dg_name s7 (dgs_cons (dg_name s8 (dgs_nil ?_) nd)) nd)
      refine dss_one (ds_if <| dt_ne <| dp_var g8 <| dp_gS v_EMPTY dot_eq ⟨_, rfl, fun hq => ?_, fun hq => dss_nil ?_⟩)
      · have hq : c ≠ 46 := fun z => by
          subst z
          have hq : (!decide (([46] : List Nat) = [46])) = true := hq
          simp at hq
        rw [if_neg hq] at hF2 hcnt
        refine dss_cons (ds_augAdd (i := 4) g4 (fun _ => s4) (dp_meth C_Counter__ways T_Counter.cl hr (by decide) <| dp_var g2 ⟨a, _, _, rfl, .tl .hd, rfl, da_cons <| dp_var g3 <| da_cons <| dp_var g6 <| da_cons <| dp_sub <| dp_sub <| dp_var g1 <| dp_var g7 <| dp_int <| da_nil ⟨a, q, wdt rows, C0, ks2, cs, cntM (r.take j), wdt rows - j - 1, L, ?_, rfl, hk2, hs, hcl, hcs, htl, by omega, hw2, fun ks3 hk3 _ => ⟨_, rfl, ?_⟩⟩⟩) nd)
        · rw [show ((wdt rows : Nat) : Int) - (j : Nat) - 1 = ((wdt rows - j - 1 : Nat) : Int) by omega]
        · refine dss_one (ds_augAdd (i := 6) g6 (fun _ => s6) (dp_int ⟨_, rfl, ?_⟩) nd)
          refine ⟨_, Fg.refl _, ks3, F2 + Wy (wdt rows) cs (cntM (r.take j)) (wdt rows - j - 1), some (.int (j : Nat)), some (.str [c]), hk3, ?_, rfl, ?_⟩
          · rw [List.length_drop, hri, show wdt rows - (j + 1) = wdt rows - j - 1 by omega] at hF2
            rw [hcnt]
            omega
          · rw [hcnt, Int.natCast_add, Int.natCast_add]
            rfl
      · have hq : c = 46 := by
          have hq : (!decide (([c] : List Nat) = [46])) = false := hq
          simpa using hq
        rw [if_pos hq] at hF2 hcnt
        exact ⟨_, Fg.refl _, ks2, F2, some (.int (j : Nat)), some (.str [c]), hk2, by rw [hcnt]; exact hF2, rfl, by rw [hcnt]; rfl⟩
    · obtain ⟨ks2, F2, d7, d8, hk2, hF2, rfl, rfl⟩ := hW
      rw [enm_len, show (sgn r).length = r.length from List.length_map .., List.drop_length, List.take_length] at hF2
      refine ⟨ks2, F2, d7, d8, hk2, hF2, rfl, ?_⟩
      rw [enm_len, show (sgn r).length = r.length from List.length_map .., List.take_length]
    obtain ⟨ks2, F2, d7, d8, hk2, hF2, rfl, rfl⟩ := hW
    refine dss_one (ds_set (i := 3) (fun _ => s3) (dp_call C_without hr (by decide) <| da_cons <| dp_var g3 <| da_cons <| dp_var g6 <| da_nil ⟨cs, cntM r, rfl, hcl, hcm, ?_⟩) nd)
    refine ⟨_, .keep <| .keep <| .keep <| .keep <| .keep <| .drop <| .drop <| .drop <| .drop .nil, ks2, cs.erase (cntM r), F2, hk2, ?_, (List.erase_sublist).trans hs, hF2, rfl, rfl⟩
    have := hp.erase (cntM r)
    rw [List.map_cons, List.erase_cons_head] at this
    exact this
  · obtain ⟨ks, cs, F0, hk, hp, hs, hF, rfl, rfl⟩ := hW
    rw [List.length_map, List.drop_length] at hF
    have hF : F0 + 0 = T := hF
    subst hF
    exact dss_one (ds_ret <| dp_del2 <| dp_var g4 ⟨q, _, a, _, L, rfl, h⟩)
theorem c_X_tray_at {C : Addr} (F : FunAt K mg "tray_at" s_tray_at) (T_Counter : CounterT K mg C) (C_need_shape : Cal Pr w K mg base "need_shape" 2 ["rows", "columns", "shape"] R_need_shape) (C_counts_of : Cal Pr w K mg base "counts_of" 1 ["rows", "shape"] R_counts_of) (C_without : Cal Pr w K mg base "without" 1 ["counts", "count"] R_without) (C_Counter : CalC Pr w K mg base "Counter" C 1 ["self", "columns"] (R_Counter____init__ K w C)) (C_Counter__ways : CalM Pr w K mg base C "ways" 15 ["self", "counts", "so_far", "cells"] (R_ways K w C 12))
    (e_BadNumber : ErrE K mg "BadNumber") (n_range : mg "range" = none) (n_tuple : mg "tuple" = none) (v_EMPTY : ∃ t, mg "EMPTY" = some (.str (Str.ofString ".") t)) (v_BALL : ∃ t, mg "BALL" = some (.str (Str.ofString "o") t)) : CalX Pr w K mg base "tray_at" 16 ["rows", "columns", "shape", "number"] (R_tray_atX mg) := by
  obtain ⟨DN, erN⟩ := e_BadNumber
  refine calX_of F sc_tray_at (fun _ _ _ _ h => by obtain ⟨_, _, _, _, rfl, _⟩ := h; rfl) (fun _ _ _ _ _ _ us hl => match us, hl with | [_, _, _, _], _ => rfl) fun fa cdv A outer s H E hr ds L P Xr h rz => ?_
  obtain ⟨r, c, sh, n, rfl, ok, h1, h2⟩ := h
  have nd := sc_tray_at.nd
  have o1 := ok.r1
  have o2 := ok.r2
  have o3 := ok.c1
  have o4 := ok.c2
  have o5 := ok.len
  have hf := full_len o5
  have hf12 := ok.le12
  show DSs _ _ [some (.int r), some (.int c), some (.tup (cD2 sh)), some (.int n), none, none, none, none, none, none, none, none, none] L _
  refine dss_cons (ds_expr <| dp_call C_need_shape hr (by decide) <| da_cons <| dp_var g0 <| da_cons <| dp_var g1 <| da_cons <| dp_var g2 <| da_nil ⟨r, c, sh, rfl, ok, ?_⟩)
  refine dss_cons (ds_set (i := 4) (fun _ => s4) (dp_make C_Counter hr (by decide) <| da_cons <| dp_var g1 <| da_nil fun a => ?_) nd)
  refine ⟨a, c, L, rfl, rfl, fun q => ⟨rfl, ?_⟩⟩
  refine dss_cons (ds_set (i := 5) (fun _ => s5) (dp_call C_counts_of hr (by decide) <| da_cons <| dp_var g0 <| da_cons <| dp_var g2 <| da_nil ⟨r, sh, rfl, o5, o2, fun C0 hp hpw => ?_⟩) nd)
  have hC0 : C0.length = r := by rw [hp.length_eq, hf]
  have hc0 : ∀ x ∈ C0, x ≤ 12 := fun x hx => hf12 x (hp.subset hx)
  show DSs _ _ [some (.int r), some (.int c), some (.tup (cD2 sh)), some (.int n), some (.adr a), some (.frt (cD2 C0)), none, none, none, none, none, none, none] (ctrL K w C a q c [] L) _
  have eW : Wy c C0 0 c = Wy c (fullC r sh) 0 c := Wy_perm hp
  refine dss_mid (fun ds' L' => (0 ≤ n ∧ n < (Wy c C0 0 c : Nat)) ∧ ∃ ks, KeysOk C0 ks ∧ L' = ctrL K w C a q c ks L ∧ ds' = [some (.int r), some (.int c), some (.tup (cD2 sh)), some (.int n), some (.adr a), some (.frt (cD2 C0)), none, none, none, none, none, none, none])
    (ds_if <| dt_not <| dt_chain_lelt <| dp_int <| dp_var g3 ⟨_, _, rfl, rfl, fun c1 => dp_meth C_Counter__ways T_Counter.cl hr (by decide) <| dp_var g4 ⟨a, _, _, rfl, .tl .hd, rfl, da_cons <| dp_var g5 <| da_cons <| dp_int <| da_cons <| dp_var g1 <| da_nil ⟨a, q, c, C0, [], C0, 0, c, L, rfl, rfl, KeysOk.nil (by omega), List.Sublist.refl _, by omega, hc0, by omega, o4, o4, fun ks hk _ => ⟨_, rfl, fun c2 => ?_, fun c2 => dss_nil ?_⟩⟩⟩, fun c1 => ?_⟩) fun ds' L' hW => ?_
  · have c2 : (!decide (n < ((Wy c C0 0 c : Nat) : Int))) = true := c2
    have c2 : ¬ n < ((Wy c C0 0 c : Nat) : Int) := by simpa using c2
    refine dss_del (a := q) .hd <| dss_del (a := a) .hd ?_
    exact dss_one (ds_raise rz erN (h2 (fun z => c2 (by rw [eW]; exact z.2)) DN erN.g))
  · have c2 : (!decide (n < ((Wy c C0 0 c : Nat) : Int))) = false := c2
    exact ⟨⟨of_decide_eq_true c1, by simpa using c2⟩, ks, hk, rfl, rfl⟩
  · have c1 := of_decide_eq_false c1
    refine ⟨fun _ => dss_del (a := q) .hd <| dss_del (a := a) .hd ?_, (nomatch ·)⟩
    exact dss_one (ds_raise rz erN (h2 (fun z => c1 z.1) DN erN.g))
  obtain ⟨⟨n0, n1⟩, ks, hk, rfl, rfl⟩ := hW
  obtain ⟨k, rfl⟩ : ∃ k : Nat, n = k := ⟨n.toNat, by omega⟩
  have hk1 : k < Wy c C0 0 c := by omega
  obtain ⟨u1, u2, u3, u4⟩ := unrank_ok (cols := c) hc0 hC0 hk1
  generalize hU : unrank c r C0 k = U at u1 u2 u3 u4
  refine dss_cons (ds_set (i := 6) (fun _ => s6) (dp_lstM <| da_nil ⟨szOk, fun f => ?_⟩) nd)
  refine dss_perm (L2 := ctrL K w C a q c ks ((f, .lst []) :: L)) ?_ ?_
  · exact (List.Perm.swap _ _ _).trans ((List.Perm.swap _ _ _).cons _)
  refine dss_cons (ds_for (di_range1 n_range <| dp_var g0 ⟨_, rfl, by omega, by omega, fun i ds' L' => ∃ ks cs m T, KeysOk C0 ks ∧ cs.Sublist C0 ∧ cs.length = r - i ∧ T.length = i ∧ T ++ unrank c (r - i) cs m = U ∧ (0 < r - i → m < Wy c cs 0 c) ∧ L' = ctrL K w C a q c ks ((f, .lst (T.map Dt.str)) :: L) ∧ ds' = [some (.int r), some (.int c), some (.tup (cD2 sh)), some (.int (m : Nat)), some (.adr a), some (.frt (cD2 cs)), some (.adr f), none, none, none, none, none, none],
    ⟨_, Fg.refl _, ks, C0, k, [], hk, List.Sublist.refl _, by omega, rfl, by rw [Nat.sub_zero]; exact hU, fun _ => hk1, rfl, rfl⟩, fun i d ds' L' hx hW => ?_, fun ds' L' hW => ?_⟩) (passes_of rfl))
  · obtain ⟨ks, cs, m, T, hk, hs, hl, hTl, hT, hm, rfl, rfl⟩ := hW
    obtain ⟨hi, rfl⟩ := rng_get hx
    have hi : i < r := by omega
    have hm := hm (by omega)
    have hne : cs ≠ [] := fun z => by
      rw [z] at hl
      have hl : 0 = r - i := hl
      omega
    have hcs : ∀ x ∈ cs, x ≤ 12 := fun x hx => hc0 x (hs.subset hx)
    have hcl : cs.length ≤ 12 := by omega
    obtain ⟨e, he⟩ : ∃ e, r - i = e + 1 := ⟨r - i - 1, by omega⟩
    obtain ⟨w1, w2, w3, w4, _⟩ := unRow_ok hcs hne hm
    rw [he] at hT
    have hT : T ++ unRow c cs 0 c m :: unrank c e (cs.erase (cntM (unRow c cs 0 c m))) (leftRow c cs 0 c m) = U := hT
    rw [Nat.zero_add] at w3 w4
    generalize hrow : unRow c cs 0 c m = row at hT w1 w2 w3 w4
    generalize hleft : leftRow c cs 0 c m = m' at hT w4
    refine dg_name s7 ?_ nd
    refine dss_cons (ds_set (i := 8) (fun _ => s8) (dp_txt (l := []) (by decide +kernel) ?_) nd)
    refine dss_mid (fun ds' L' => ∃ ks2 d9 d10 d11 d12, KeysOk C0 ks2 ∧ L' = ctrL K w C a q c ks2 ((f, .lst (T.map Dt.str)) :: L) ∧ ds' = [some (.int r), some (.int c), some (.tup (cD2 sh)), some (.int (m' : Nat)), some (.adr a), some (.frt (cD2 cs)), some (.adr f), some (.int (0 + (i : Int))), some (.str row), d9, d10, d11, d12])
      (ds_for (di_range1 n_range <| dp_var g1 ⟨_, rfl, by omega, by omega, fun j ds' L' => ∃ ks2 k' u d9 d10 d11 d12, KeysOk C0 ks2 ∧ u.length = j ∧ (∀ x ∈ u, x = 46 ∨ x = 111) ∧ u ++ unRow c cs (cntM u) (c - j) k' = row ∧ leftRow c cs (cntM u) (c - j) k' = m' ∧ L' = ctrL K w C a q c ks2 ((f, .lst (T.map Dt.str)) :: L) ∧ ds' = [some (.int r), some (.int c), some (.tup (cD2 sh)), some (.int (k' : Nat)), some (.adr a), some (.frt (cD2 cs)), some (.adr f), some (.int (0 + (i : Int))), some (.str u), d9, d10, d11, d12],
        ⟨_, Fg.refl _, ks, m, [], none, none, none, none, hk, rfl, (fun _ h => nomatch h), by rw [Nat.sub_zero]; exact hrow, by rw [Nat.sub_zero]; exact hleft, rfl, rfl⟩, fun j d ds' L' hx hW => ?_, fun ds' L' hW => ?_⟩) (passes_of rfl)) fun ds' L' hW => ?_
    · obtain ⟨ks2, k', u, d9, d10, d11, d12, hk2, hul, hu, hur, hle, rfl, rfl⟩ := hW
      obtain ⟨hj, rfl⟩ := rng_get hx
      have hj : j < c := by omega
      obtain ⟨g, hg⟩ : ∃ g, c - j = g + 1 := ⟨c - j - 1, by omega⟩
      have hcu : cntM u ≤ 12 := by
        have := cntM_le u
        omega
      rw [hg] at hur hle
      refine dg_name s9 ?_ nd
      refine dss_cons (ds_set (i := 10) (fun _ => s10) (dp_count <| dp_var g8 ⟨rfl, dp_gS v_BALL oh_eq ?_⟩) nd)
      show DSs _ _ [some (.int r), some (.int c), some (.tup (cD2 sh)), some (.int (k' : Nat)), some (.adr a), some (.frt (cD2 cs)), some (.adr f), some (.int (0 + (i : Int))), some (.str u), some (.int (0 + (j : Int))), some (.int (u.count 111 : Nat)), d11, d12] _ _
      rw [cnt_111 hu]
      refine dss_cons (ds_set (i := 11) (fun _ => s11) (dp_meth C_Counter__ways T_Counter.cl hr (by decide) <| dp_var g4 ⟨a, _, _, rfl, .tl .hd, rfl, da_cons <| dp_var g5 <| da_cons <| dp_var g10 <| da_cons <| dp_sub <| dp_sub <| dp_var g1 <| dp_var g9 <| dp_int <| da_nil ⟨a, q, c, C0, ks2, cs, cntM u, g, _, ?_, rfl, hk2, hs, hcl, hcs, hcu, by omega, o4, fun ks3 hk3 _ => ?_⟩⟩) nd)
      · rw [show ((c : Nat) : Int) - (0 + (j : Int)) - 1 = ((g : Nat) : Int) by omega]
      by_cases hb : Wy c cs (cntM u) g ≤ k'
      · have e1 : unRow c cs (cntM u) (g + 1) k' = 111 :: unRow c cs (cntM u + 1) g (k' - Wy c cs (cntM u) g) := if_pos hb
        have e2 : leftRow c cs (cntM u) (g + 1) k' = leftRow c cs (cntM u + 1) g (k' - Wy c cs (cntM u) g) := if_pos hb
        rw [e1] at hur
        rw [e2] at hle
        have hc1 : cntM (u ++ [111]) = cntM u + 1 := by
          unfold cntM
          rw [List.filter_append, List.length_append]
          rfl
        refine dss_cons (ds_set (i := 12) (fun _ => s12) (dp_ge <| dp_var g3 <| dp_var g11 ?_) nd)
        show DSs _ _ [some (.int r), some (.int c), some (.tup (cD2 sh)), some (.int (k' : Nat)), some (.adr a), some (.frt (cD2 cs)), some (.adr f), some (.int (0 + (i : Int))), some (.str u), some (.int (0 + (j : Int))), some (.int (cntM u : Nat)), some (.int (Wy c cs (cntM u) g : Nat)), some (.bl (decide (((Wy c cs (cntM u) g : Nat) : Int) ≤ (k' : Nat))))] _ _
        rw [decide_eq_true (show ((Wy c cs (cntM u) g : Nat) : Int) ≤ (k' : Nat) by omega)]
        refine dss_cons (ds_augSub (i := 3) g3 (fun _ => s3) (dp_if <| dt_val <| dp_var g12 ⟨_, rfl, fun _ => dp_var g11 ⟨_, rfl, ?_⟩, (nomatch ·)⟩) nd)
        refine dss_one (ds_set (i := 8) (fun _ => s8) (dp_add <| dp_var g8 <| dp_if <| dt_val <| dp_var g12 ⟨_, rfl, fun _ => dp_gS v_BALL oh_eq ⟨?_, ?_⟩, (nomatch ·)⟩) nd)
        · show u.length + 1 ≤ _
          rw [sizeLine_eq]
          omega
        · refine ⟨_, Fg.refl _, ks3, k' - Wy c cs (cntM u) g, u ++ [111], some (.int (0 + (j : Int))), some (.int (cntM u : Nat)), some (.int (Wy c cs (cntM u) g : Nat)), some (.bl true), hk3, by rw [List.length_append, hul]; rfl, fun x hx => ?_, ?_, ?_, rfl, ?_⟩
          · rcases List.mem_append.mp hx with hx | hx
            · exact hu x hx
            · exact .inr (List.mem_singleton.mp hx)
          · rw [hc1, show c - (j + 1) = g by omega, List.append_assoc]
            exact hur
          · rw [hc1, show c - (j + 1) = g by omega]
            exact hle
          · rw [show ((k' - Wy c cs (cntM u) g : Nat) : Int) = (k' : Int) - ((Wy c cs (cntM u) g : Nat) : Int) by omega]
      · have e1 : unRow c cs (cntM u) (g + 1) k' = 46 :: unRow c cs (cntM u) g k' := if_neg hb
        have e2 : leftRow c cs (cntM u) (g + 1) k' = leftRow c cs (cntM u) g k' := if_neg hb
        rw [e1] at hur
        rw [e2] at hle
        have hc1 : cntM (u ++ [46]) = cntM u := by
          unfold cntM
          rw [List.filter_append, List.length_append]
          rfl
        refine dss_cons (ds_set (i := 12) (fun _ => s12) (dp_ge <| dp_var g3 <| dp_var g11 ?_) nd)
        show DSs _ _ [some (.int r), some (.int c), some (.tup (cD2 sh)), some (.int (k' : Nat)), some (.adr a), some (.frt (cD2 cs)), some (.adr f), some (.int (0 + (i : Int))), some (.str u), some (.int (0 + (j : Int))), some (.int (cntM u : Nat)), some (.int (Wy c cs (cntM u) g : Nat)), some (.bl (decide (((Wy c cs (cntM u) g : Nat) : Int) ≤ (k' : Nat))))] _ _
        rw [decide_eq_false (show ¬ ((Wy c cs (cntM u) g : Nat) : Int) ≤ (k' : Nat) by omega)]
        refine dss_cons (ds_augSub (i := 3) g3 (fun _ => s3) (dp_if <| dt_val <| dp_var g12 ⟨_, rfl, (nomatch ·), fun _ => dp_int ⟨_, rfl, ?_⟩⟩) nd)
        refine dss_one (ds_set (i := 8) (fun _ => s8) (dp_add <| dp_var g8 <| dp_if <| dt_val <| dp_var g12 ⟨_, rfl, (nomatch ·), fun _ => dp_gS v_EMPTY dot_eq ⟨?_, ?_⟩⟩) nd)
        · show u.length + 1 ≤ _
          rw [sizeLine_eq]
          omega
        · refine ⟨_, Fg.refl _, ks3, k', u ++ [46], some (.int (0 + (j : Int))), some (.int (cntM u : Nat)), some (.int (Wy c cs (cntM u) g : Nat)), some (.bl false), hk3, by rw [List.length_append, hul]; rfl, fun x hx => ?_, ?_, ?_, rfl, ?_⟩
          · rcases List.mem_append.mp hx with hx | hx
            · exact hu x hx
            · exact .inl (List.mem_singleton.mp hx)
          · rw [hc1, show c - (j + 1) = g by omega, List.append_assoc]
            exact hur
          · rw [hc1, show c - (j + 1) = g by omega]
            exact hle
          · rw [Int.sub_zero]
    · obtain ⟨ks2, k', u, d9, d10, d11, d12, hk2, hul, hu, hur, hle, rfl, rfl⟩ := hW
      rw [rng_len] at hul hur hle
      have e0 : c - ((c : Nat) : Int).toNat = 0 := by omega
      rw [e0] at hur hle
      have hur : u ++ [] = row := hur
      rw [List.append_nil] at hur
      have hle : k' = m' := hle
      subst hur hle
      exact ⟨ks2, d9, d10, d11, d12, hk2, rfl, rfl⟩
    obtain ⟨ks2, d9, d10, d11, d12, hk2, rfl, rfl⟩ := hW
    refine dss_cons (ds_expr <| dp_append <| dp_var g6 ⟨.inl ⟨rfl, _, .tl (.tl .hd)⟩, dp_var g8 ⟨_, .tl (.tl .hd), by rw [List.length_map, sizeLine_eq]; omega, _, .tl (.tl .hd), ?_⟩⟩)
    refine dss_one (ds_set (i := 5) (fun _ => s5) (dp_call C_without hr (by decide) <| da_cons <| dp_var g5 <| da_cons <| dp_count <| dp_var g8 ⟨rfl, dp_gS v_BALL oh_eq <| da_nil ⟨cs, cntM row, by rw [cnt_111 w2], hcl, w3, ?_⟩⟩) nd)
    refine ⟨_, .keep <| .keep <| .keep <| .keep <| .keep <| .keep <| .keep <| .drop <| .drop <| .drop <| .drop <| .drop <| .drop .nil, ks2, cs.erase (cntM row), m', T ++ [row], hk2, (List.erase_sublist).trans hs, by rw [List.length_erase_of_mem w3, hl]; omega, by rw [List.length_append, hTl]; rfl, ?_, fun _ => w4, by rw [List.map_append]; rfl, rfl⟩
    rw [show r - (i + 1) = e by omega, List.append_assoc]
    exact hT
  · obtain ⟨ks2, cs, m, T, hk2, hs, hl, hTl, hT, _, rfl, rfl⟩ := hW
    rw [rng_len] at hTl hT
    have e0 : r - ((r : Nat) : Int).toNat = 0 := by omega
    rw [e0] at hT
    have hT : T = U := by
      rw [← hT]
      exact (List.append_nil T).symm
    subst hT
    refine dss_one (ds_ret <| dp_del2 <| dp_tuple n_tuple <| dp_freeze g6 (.tl (.tl .hd)) ⟨q, _, a, _, L, rfl, ?_⟩)
    exact h1 k rfl (by rw [← eW]; exact hk1) T u1 ⟨u2.p.trans hp, u2.w⟩ u3 (by rw [← u4]; exact (rank_perm hp).symm)
end
/-! all trays in order: the number of a tray is its place among those of its shape -/
theorem ltT_C : ∀ {a b : List Nat}, ltT a b ↔ ltCps a b = true
  | [], [] => by simp [ltT, ltCps]
  | [], _ :: _ => by simp [ltT, ltCps]
  | _ :: _, [] => by simp [ltT, ltCps]
  | x :: a, y :: b => by
    show (x < y ∨ (x = y ∧ ltT a b)) ↔ (decide (x < y) || (x == y && ltCps a b)) = true
    rw [ltT_C (a := a) (b := b)]
    simp
theorem words_up : ∀ e : Nat, (words e).Pairwise ltT
  | 0 => List.pairwise_singleton _ _
  | e + 1 => by
    show ((words e).map (46 :: ·) ++ (words e).map (111 :: ·)).Pairwise ltT
    refine List.pairwise_append.mpr ⟨List.pairwise_map.mpr ((words_up e).imp fun h => .inr ⟨rfl, h⟩), List.pairwise_map.mpr ((words_up e).imp fun h => .inr ⟨rfl, h⟩), fun a ha b hb => ?_⟩
    obtain ⟨u, _, rfl⟩ := List.mem_map.mp ha
    obtain ⟨v, _, rfl⟩ := List.mem_map.mp hb
    exact .inl (by decide)
theorem TR_up (c : Nat) : ∀ r : Nat, (TR c r).Pairwise ltR
  | 0 => List.pairwise_singleton _ _
  | r + 1 => by
    show ((words c).flatMap fun w => (TR c r).map (w :: ·)).Pairwise ltR
    refine List.pairwise_flatMap.mpr ⟨fun w _ => List.pairwise_map.mpr ((TR_up c r).imp fun h => .inr ⟨rfl, h⟩), (words_up c).imp fun {a b} h x hx y hy => ?_⟩
    obtain ⟨u, _, rfl⟩ := List.mem_map.mp hx
    obtain ⟨v, _, rfl⟩ := List.mem_map.mp hy
    exact .inl h
theorem words_sg : ∀ {e : Nat} {w : List Nat}, w ∈ words e → ∀ x ∈ w, x = 46 ∨ x = 111
  | 0, w, h, x, hx => by
    rw [List.mem_singleton.mp h] at hx
    cases hx
  | e + 1, w, h, x, hx => by
    rcases List.mem_append.mp h with h | h <;> obtain ⟨v, hv, rfl⟩ := List.mem_map.mp h <;> rcases List.mem_cons.mp hx with rfl | hx
    · exact .inl rfl
    · exact words_sg hv x hx
    · exact .inr rfl
    · exact words_sg hv x hx
/-- numbers that rise, all below their count -/
theorem rise_id {ns : List Nat} (hp : ns.Pairwise (· < ·)) (hb : ∀ n ∈ ns, n < ns.length) : ∀ i (h : i < ns.length), ns[i] = i := by
  have lo : ∀ i (h : i < ns.length), i ≤ ns[i] := fun i => by
    induction i with
    | zero => intro h; omega
    | succ i ih =>
      intro h
      have h1 := ih (by omega)
      have := List.pairwise_iff_getElem.mp hp i (i + 1) (by omega) h (Nat.lt_succ_self i)
      omega
  have hi : ∀ k i (h : i < ns.length), i + k + 1 = ns.length → ns[i] ≤ i := fun k => by
    induction k with
    | zero =>
      intro i h e
      have := hb _ (List.getElem_mem h)
      omega
    | succ k ih =>
      intro i h e
      have h1 := ih (i + 1) (by omega) (by omega)
      have := List.pairwise_iff_getElem.mp hp i (i + 1) h (by omega) (Nat.lt_succ_self i)
      omega
  intro i h
  have h1 := lo i h
  have h2 := hi (ns.length - i - 1) i h (by omega)
  omega
/-- the trays of a shape, in order -/
def someT (c r : Nat) (s : List Nat) : List (List (List Nat)) := (TR c r).filter fun t => decide (canS (t.map cntM) = s)
theorem someT_fits {c r : Nat} {s : List Nat} (hs : s ∈ shp r c) {t : List (List Nat)} (ht : t ∈ someT c r s) : t.length = r ∧ Fits c (fullC r s) t ∧ OO t := by
  obtain ⟨h1, h2, h3⟩ := mem_shp.mp hs
  obtain ⟨m1, m2⟩ := List.mem_filter.mp ht
  have m2 : canS (t.map cntM) = s := of_decide_eq_true m2
  obtain ⟨t1, t2⟩ := TR_mem m1
  refine ⟨t1, ⟨?_, fun w hw => (words_cnt (t2 w hw)).1⟩, fun w hw x hx => words_sg (t2 w hw) x hx⟩
  have e := (full_can (l := t.map cntM) (fun x hx => (h3 x hx).1) h2).mpr m2
  rw [List.length_map, t1] at e
  exact e
theorem someT_len {c r : Nat} (hc : c ≤ 12) {s : List Nat} (hs : s ∈ shp r c) : (someT c r s).length = Wy c (fullC r s) 0 c := by
  obtain ⟨h1, h2, h3⟩ := mem_shp.mp hs
  have hl : (fullC r s).length = r := by
    rw [List.length_append, List.length_replicate]
    omega
  show _ = W c (fullC r s).length (fullC r s) 0 c
  rw [hl, ← count_TR hc hl]
  unfold someT
  congr 1
  refine List.filter_congr fun t ht => decide_eq_decide.mpr ?_
  have ht1 : (t.map cntM).length = r := by rw [List.length_map]; exact (TR_mem ht).1
  have := full_can (l := t.map cntM) (fun x hx => (h3 x hx).1) h2
  rw [ht1] at this
  exact this.symm
theorem someT_rank {c r : Nat} (hc : c ≤ 12) {s : List Nat} (hs : s ∈ shp r c) : ∀ i (h : i < (someT c r s).length), rank c (fullC r s) (someT c r s)[i] = i := by
  obtain ⟨h1, h2, h3⟩ := mem_shp.mp hs
  have h12 : ∀ x ∈ fullC r s, x ≤ 12 := fun x hx => by
    rcases List.mem_append.mp hx with z | z
    · have := (h3 x z).2
      omega
    · rw [List.eq_of_mem_replicate z]
      omega
  have up : (someT c r s).Pairwise ltR := (TR_up c r).filter _
  have up2 : ((someT c r s).map (rank c (fullC r s))).Pairwise (· < ·) := by
    refine List.pairwise_map.mpr (List.Pairwise.imp_of_mem (fun {a b} ha hb hl => ?_) up)
    obtain ⟨_, fa, oa⟩ := someT_fits hs ha
    obtain ⟨_, fb, ob⟩ := someT_fits hs hb
    exact rank_mono h12 fa fb oa ob hl
  intro i h
  have := rise_id up2 (fun n hn => by
    obtain ⟨t, ht, rfl⟩ := List.mem_map.mp hn
    rw [List.length_map, someT_len hc hs]
    exact rank_lt h12 (someT_fits hs ht).2.1) i (by rw [List.length_map]; exact h)
  rwa [List.getElem_map] at this
/-! trays made row by row, from above -/
theorem TR_snoc (c : Nat) : ∀ r : Nat, ((TR c r).flatMap fun t => (words c).map fun w => t ++ [w]) = TR c (r + 1)
  | 0 => by
    show ([[]] : List (List (List Nat))).flatMap _ = (words c).flatMap fun w => [[]].map (w :: ·)
    rw [List.flatMap_cons, List.flatMap_nil, List.append_nil]
    show (words c).map (fun w => [w]) = (words c).flatMap fun w => [[w]]
    generalize words c = l
    induction l with
    | nil => rfl
    | cons x l ih => rw [List.map_cons, List.flatMap_cons, ih]; rfl
  | r + 1 => by
    have e := TR_snoc c r
    show ((words c).flatMap fun w => (TR c r).map (w :: ·)).flatMap (fun t => (words c).map fun w => t ++ [w]) = (words c).flatMap fun w => (TR c (r + 1)).map (w :: ·)
    rw [List.flatMap_assoc]
    congr 1
    funext w
    rw [← e, List.map_flatMap, List.flatMap_map]
    congr 1
    funext t
    rw [List.map_map]
    rfl
/-- texts made sign by sign, at their ends -/
def txts : Nat → List (List Nat)
  | 0 => [[]]
  | k + 1 => (txts k).map (· ++ [46]) ++ (txts k).map (· ++ [111])
theorem perm4 {α : Type} (a b c d : List α) : ((a ++ b) ++ (c ++ d)).Perm ((a ++ c) ++ (b ++ d)) := by
  rw [List.append_assoc, List.append_assoc]
  refine List.Perm.append_left a ?_
  rw [← List.append_assoc, ← List.append_assoc]
  exact (List.perm_append_comm).append_right d
theorem words_snoc : ∀ k : Nat, ((words k).map (· ++ [46]) ++ (words k).map (· ++ [111])).Perm (words (k + 1))
  | 0 => List.Perm.refl _
  | k + 1 => by
    have ih := words_snoc k
    have e : ∀ x : Nat, (words (k + 1)).map (· ++ [x]) = ((words k).map (· ++ [x])).map (46 :: ·) ++ ((words k).map (· ++ [x])).map (111 :: ·) := fun x => by
      show ((words k).map (46 :: ·) ++ (words k).map (111 :: ·)).map (· ++ [x]) = _
      rw [List.map_append, List.map_map, List.map_map, List.map_map, List.map_map]
      rfl
    rw [e 46, e 111]
    refine (perm4 _ _ _ _).trans ?_
    rw [← List.map_append, ← List.map_append]
    exact (ih.map _).append (ih.map _)
theorem txts_perm : ∀ k : Nat, (txts k).Perm (words k)
  | 0 => List.Perm.refl _
  | k + 1 => (((txts_perm k).map _).append ((txts_perm k).map _)).trans (words_snoc k)
theorem txts_sorted {k : Nat} {ms : List (List Nat)} (hp : ms.Perm (txts k)) (hs : ms.Pairwise fun a b => ltCps b a = false) : ms = words k := by
  refine (hp.trans (txts_perm k)).eq_of_pairwise (le := fun a b => ltCps b a = false) (fun a b _ _ h1 h2 => ltC_anti h1 h2) hs ((words_up k).imp fun {a b} h => ?_)
  cases q : ltCps b a with
  | false => rfl
  | true =>
    have h2 := ltT_C.mpr q
    exfalso
    have asy : ∀ {a b : List Nat}, ltT a b → ltT b a → False := fun {a} => by
      induction a with
      | nil => intro b h h'; cases b <;> exact h'.elim
      | cons x a ih =>
        intro b h h'
        cases b with
        | nil => exact h.elim
        | cons y b =>
          rcases h with h | ⟨e, h⟩ <;> rcases h' with h' | ⟨e', h'⟩
          · omega
          · omega
          · omega
          · exact ih h h'
    exact asy h h2
/-! 55: tuples of texts are ordered as ltR; trays of the same rows, moved about and turned -/
theorem ltT_iff : ∀ a b : List Nat, a < b ↔ ltT a b
  | [], [] => by simp [ltT]
  | [], _ :: _ => by simp [ltT]
  | _ :: _, [] => by simp [ltT]
  | x :: a, y :: b => by
    rw [List.cons_lt_cons_iff, ltT_iff a b]
    rfl
theorem ltB_iff : ∀ a b : List (List Nat), ltB a b = true ↔ ltR a b
  | [], [] => by simp [ltB, ltR]
  | [], _ :: _ => by simp [ltB, ltR]
  | _ :: _, [] => by simp [ltB, ltR]
  | x :: a, y :: b => by
    show (if x = y then ltB a b else decide (x < y)) = true ↔ (ltT x y ∨ (x = y ∧ ltR a b))
    by_cases e : x = y
    · rw [if_pos e, ltB_iff a b]
      subst e
      exact ⟨fun h => .inr ⟨rfl, h⟩, fun h => h.elim (fun z => absurd z (ltT_irrefl x)) (·.2)⟩
    · rw [if_neg e, decide_eq_true_iff, ltT_iff]
      exact ⟨.inl, fun h => h.elim id fun z => absurd z.1 e⟩
theorem rank_ltB {cols : Nat} {rs qs : List (List Nat)} {cs : List Nat} (h : ∀ c ∈ cs, c ≤ 12) (f : Fits cols cs rs) (g : Fits cols cs qs) (o1 : OO rs) (o2 : OO qs) : decide (rank cols cs rs < rank cols cs qs) = ltB rs qs := by
  rw [Bool.eq_iff_iff, decide_eq_true_iff, ltB_iff]
  exact rank_iff h f g o1 o2
theorem rank_eqB {cols : Nat} {rs qs : List (List Nat)} {cs : List Nat} (h : ∀ c ∈ cs, c ≤ 12) (f : Fits cols cs rs) (g : Fits cols cs qs) (o1 : OO rs) (o2 : OO qs) : decide (rank cols cs rs = rank cols cs qs) = decide (rs = qs) := by
  rw [decide_eq_decide]
  exact ⟨rank_inj h f g o1 o2, fun e => by rw [e]⟩
/-- each row as it is or turned -/
def Turned : List (List Nat) → List (List Nat) → Prop
  | [], [] => True
  | a :: as, b :: bs => (b = a ∨ b = a.reverse) ∧ Turned as bs
  | _, _ => False
theorem cntM_rev (a : List Nat) : cntM a.reverse = cntM a := ((List.reverse_perm a).filter _).length_eq
theorem Turned.cnt : ∀ {a b : List (List Nat)}, Turned a b → b.map cntM = a.map cntM
  | [], [], _ => rfl
  | a :: as, b :: bs, ⟨h, t⟩ => by
    rw [List.map_cons, List.map_cons, Turned.cnt t]
    rcases h with rfl | rfl
    · rfl
    · rw [cntM_rev]
  | [], _ :: _, h => h.elim
  | _ :: _, [], h => h.elim
theorem Turned.all {p : List Nat → Prop} (hp : ∀ r, p r → p r.reverse) : ∀ {a b : List (List Nat)}, Turned a b → (∀ r ∈ a, p r) → ∀ r ∈ b, p r
  | [], [], _, _ => fun _ h => (nomatch h)
  | a :: as, b :: bs, ⟨h, t⟩, ha => fun r hr => by
    rcases List.mem_cons.mp hr with rfl | hr
    · rcases h with rfl | rfl
      · exact ha _ List.mem_cons_self
      · exact hp _ (ha _ List.mem_cons_self)
    · exact Turned.all hp t (fun r hr => ha r (List.mem_cons_of_mem _ hr)) r hr
  | [], _ :: _, h, _ => h.elim
  | _ :: _, [], h, _ => h.elim
theorem Turned.len : ∀ {a b : List (List Nat)}, Turned a b → b.length = a.length
  | [], [], _ => rfl
  | _ :: as, _ :: bs, ⟨_, t⟩ => by rw [List.length_cons, List.length_cons, Turned.len t]
  | [], _ :: _, h => h.elim
  | _ :: _, [], h => h.elim
theorem Turned.snoc {y : List Nat} (h : y = x ∨ y = x.reverse) : ∀ {a b : List (List Nat)}, Turned a b → Turned (a ++ [x]) (b ++ [y])
  | [], [], _ => ⟨h, trivial⟩
  | _ :: as, _ :: bs, ⟨h1, t⟩ => ⟨h1, Turned.snoc h t⟩
  | [], _ :: _, h => h.elim
  | _ :: _, [], h => h.elim
/-- taken out at n and put behind: the same rows -/
theorem moved_perm {α : Type} : ∀ {xs : List α} {n : Nat} {d : α}, xs[n]? = some d → (xs.eraseIdx n ++ [d]).Perm xs
  | [], n, d, h => by simp at h
  | x :: xs, 0, d, h => by
    have h : x = d := by simpa using h
    subst h
    exact List.perm_append_singleton x xs
  | x :: xs, n + 1, d, h => (moved_perm (xs := xs) (n := n) (d := d) (by simpa using h)).cons x
/-! k39 -/
theorem sc_law : FnScope ["_law_script", "_law_d", "_law_turn", "_law_tray_here", "_law_other", "_law_k", "_law_one", "_law_two", "_law_shape", "_law_text", "_law_sign"] ["_law_script"] (defScope s_law) := ⟨rfl, rfl, rfl, by decide +kernel, rfl, by decide +kernel, by decide +kernel⟩
theorem repl_one {a b : Nat} : ∀ l : List Nat, PySem.StrLaws.replL [a] [b] l = l.map fun c => if c = a then b else c
  | [] => by rw [PySem.StrLaws.replL_nil]; rfl
  | c :: l => by
    by_cases q : c = a
    · rw [PySem.StrLaws.replL_hit (by simp) (by simp [q])]
      show [b] ++ PySem.StrLaws.replL [a] [b] l = _
      rw [repl_one l, List.map_cons, if_pos q]
      rfl
    · rw [PySem.StrLaws.replL_miss (by simp [q]), repl_one l, List.map_cons, if_neg q]
theorem erase_map {α β : Type} (f : α → β) : ∀ (xs : List α) (n : Nat), (xs.map f).eraseIdx n = (xs.eraseIdx n).map f
  | [], _ => rfl
  | x :: xs, 0 => rfl
  | x :: xs, n + 1 => by
    show f x :: (xs.map f).eraseIdx n = f x :: (xs.eraseIdx n).map f
    rw [erase_map f xs n]
theorem ok_cD2 (a : List Nat) : OkE (.tup (cD2 a)) := okE_tupI (cI a)
theorem ok_tray {t : List (List Nat)} (h : ∀ w ∈ t, ∀ x ∈ w, x = 46 ∨ x = 111) : okE 1 (trayD t) := fun d hd => by
  obtain ⟨w, hw, rfl⟩ := List.mem_map.mp hd
  intro x hx
  rcases h w hw x hx with rfl | rfl <;> decide
theorem tray_inj {r q : List (List Nat)} (h : trayD r = trayD q) : r = q := List.map_inj_right (fun _ _ => Dt.str.inj) |>.mp (Dt.tup.inj h)
theorem wdt_of {t : List (List Nat)} {w : Nat} (h : 1 ≤ t.length) (hw : ∀ r ∈ t, r.length = w) : wdt t = w := by
  cases t with
  | nil => exact absurd h (by decide)
  | cons r t => exact hw r List.mem_cons_self
def rpD : Dt → Dt
  | .str l => .str (replK "a" "o" l)
  | d => d
theorem rp_len (l : List Nat) : (replK "a" "o" l).length = l.length := by
  show (PySem.StrLaws.replL ("a" : Str).cps.toList ("o" : Str).cps.toList l).length = _
  rw [show ("a" : Str).cps.toList = [97] by decide +kernel, show ("o" : Str).cps.toList = [111] by decide +kernel, repl_one, List.length_map]
def dotC (c : Nat) : Nat := if c = 46 then 46 else 111
def dotD : Dt → Dt
  | .str l => .str (l.map dotC)
  | d => d
theorem joinL_flat : ∀ ts : List (List Nat), TL.joinL [] ts = ts.flatten
  | [] => rfl
  | [x] => by simp [TL.joinL]
  | x :: y :: r => by
    have ih := joinL_flat (y :: r)
    rw [TL.joinL, ih]
    simp
theorem one_flat (l : List Nat) : (l.map fun c => [dotC c]).flatten = l.map dotC := by
  induction l with
  | nil => rfl
  | cons c l ih =>
    rw [List.map_cons, List.flatten_cons, ih]
    rfl
theorem one_sum (l : List Nat) : ((l.map fun c => [dotC c]).map (·.length)).sum = l.length := by
  induction l with
  | nil => rfl
  | cons c l ih =>
    rw [List.map_cons, List.map_cons, List.sum_cons, ih, List.length_cons]
    show 1 + l.length = l.length + 1
    omega
def dot1 : Dt → Dt
  | .str [c] => .str [dotC c]
  | d => d
section
variable {Pr : Program} {w : World} {K : PySem.W.Frag} {mg : Str → Option Value} {base : Heap}
theorem c_law (F : FunAt K mg "law" s_law) (C__law_dice : Cal Pr w K mg base "_law_dice" 1 ["_law_script"] R_dice) (C__law_next : Cal Pr w K mg base "_law_next" 1 ["_law_dice_here", "_law_many"] R_next) (C__law_tray : Cal Pr w K mg base "_law_tray" 2 ["_law_d", "_law_size"] R_tray)
    (C_how_many : Cal Pr w K mg base "how_many" 16 ["rows", "columns", "shape"] R_how_many) (C_shape_of : Cal Pr w K mg base "shape_of" 2 ["tray"] R_shape_of) (C_number_of : Cal Pr w K mg base "number_of" 16 ["tray"] R_number_of) (C_X_tray_at : CalX Pr w K mg base "tray_at" 16 ["rows", "columns", "shape", "number"] (R_tray_atX mg))
    (n_len : mg "len" = none) (n_range : mg "range" = none) (n_tuple : mg "tuple" = none) (n_list : mg "list" = none) : Cal Pr w K mg base "law" 17 ["_law_script"] R_law := by
  refine cal_of F sc_law (fun _ _ _ h => by obtain ⟨_, rfl, _⟩ := h; rfl) (fun _ _ _ _ _ _ us hl => match us, hl with | [_], _ => rfl) fun fa cdv A outer s H E hr ds L P h => ?_
  obtain ⟨ns, rfl, _, h⟩ := h
  have nd := sc_law.nd
  show DSs _ _ [some (.frl (ns.map .int)), none, none, none, none, none, none, none, none, none, none] L _
  refine dss_cons (ds_set (i := 1) (fun _ => s1) (dp_call C__law_dice hr (by decide) <| da_cons <| dp_var g0 <| da_nil ⟨ns, rfl, fun a x => ?_⟩) nd)
  refine dss_cons (ds_for (di_range1 n_range <| dp_int ⟨_, rfl, by decide, by decide, fun n ds' L' => (∃ m, L' = (a, m) :: L ∧ Dice m) ∧ ds' = [some (.frl (ns.map .int)), some (.adr a), none, none, none, none, none, none, none, none, none], ⟨_, Fg.refl _, ⟨_, rfl, ns, 0, x, 0, by decide, rfl⟩, rfl⟩, fun n d ds' L' hx hW => ?_, fun ds' L' hW => ?_⟩) .never)
  · obtain ⟨⟨m0, rfl, hd0⟩, rfl⟩ := hW
    refine dg_name s2 ?_ nd
    refine dss_cons (ds_set (i := 3) (fun _ => s3) (dp_tuple n_tuple <| dp_lcK [("_law_text", 9)] (blkOk_by (by kernel_rfl)) nd (fun _ _ _ _ _ => pg_name nd rfl (Or.inl rfl)) <| dik_tup <| dpk_call C__law_tray hr (by decide) <| dak_later <| dp_var g1 <| dak_here <| dpk_int <| da_nil ⟨a, 9, _, m0, rfl, .hd, rfl, hd0, by decide, by decide, fun rows m1 ht hd1 => ⟨_, rfl, rpD, ?_, fun d' T hd' s H C cl fp => ⟨_, s9, ?_⟩, ?_⟩⟩) nd)
    · rw [List.length_map]
      have := ht.hi
      omega
    · obtain ⟨l, hl, rfl⟩ := List.mem_map.mp hd'
      obtain ⟨w0, _, hw1, hw2⟩ := ht.wd
      refine dpt_repl <| dp_var g9 ⟨l, rfl, ?_, rfl, rfl⟩
      rw [hw2 l hl]
      show w0 + (w0 + 1) * 1 ≤ 16777216
      omega
    have e1 : (rows.map Dt.str).map rpD = (rows.map fun l => replK "a" "o" l).map Dt.str := by
      rw [List.map_map, List.map_map]
      rfl
    rw [e1]
    refine dss_cons (ds_set (i := 3) (fun _ => s3) (dp_tuple n_tuple <| dp_lc [("_law_text", 9)] (blkOk_by (by kernel_rfl)) nd (fun _ _ _ _ _ => pg_name nd rfl (Or.inl rfl)) <| DLc.pure <| di_tup <| dp_var g3 ⟨_, rfl, fun _ => true, dotD, ?_, fun d' T hd' s H C cl fp => ⟨_, s9, dts_nil ⟨rfl, rfl, fun _ s H C cl fp => ?_⟩⟩, ?_⟩) nd)
    · rw [List.length_map, List.length_map]
      have := ht.hi
      omega
    · obtain ⟨l, hl, rfl⟩ := List.mem_map.mp hd'
      obtain ⟨l0, hl0, rfl⟩ := List.mem_map.mp hl
      obtain ⟨w0, _, hw1, hw2⟩ := ht.wd
      have hlen : (replK "a" "o" l0).length ≤ 9 := by
        rw [rp_len, hw2 l0 hl0]
        exact hw1
      generalize replK "a" "o" l0 = l at hlen
      refine dp_join <| dp_txt (l := []) (by decide +kernel) ⟨rfl, dp_lc [("_law_sign", 10)] (blkOk_by (by kernel_rfl)) nd (fun _ _ _ _ _ => pg_name nd rfl (Or.inl rfl)) <| DLc.pure <| di_str <| dp_var g9 ⟨l, rfl, fun _ => true, dot1, ?_, fun d'' T'' hd'' s H C cl fp => ⟨_, s10, dts_nil ⟨rfl, rfl, fun _ s H C cl fp => ?_⟩⟩, ?_⟩⟩
      · unfold sgn
        rw [List.length_map]
        omega
      · obtain ⟨c, hc, rfl⟩ := List.mem_map.mp hd''
        refine dp_if <| dt_eq <| dp_var g10 <| dp_txt (l := [46]) (by decide +kernel) ⟨_, rfl, fun hq => dp_txt (l := [46]) (by decide +kernel) ⟨rfl, ?_⟩, fun hq => dp_txt (l := [111]) (by decide +kernel) ⟨rfl, ?_⟩⟩
        · have hq : [c] = [46] := of_decide_eq_true hq
          obtain rfl : c = 46 := by simpa using hq
          rfl
        · have hq : ¬ [c] = [46] := of_decide_eq_false hq
          show Dt.str [111] = Dt.str [if c = 46 then 46 else 111]
          rw [if_neg fun e => hq (by rw [e])]
      · have e2 : ((sgn l).filter fun _ => true).map dot1 = (l.map fun c => [dotC c]).map Dt.str := by
          rw [List.filter_eq_self.mpr fun _ _ => rfl]
          unfold sgn
          rw [List.map_map, List.map_map]
          rfl
        rw [e2]
        refine ⟨_, rfl, ?_, rfl, ?_⟩
        · rw [one_sum]
          show l.length + _ * 0 ≤ _
          omega
        · rw [joinL_flat, one_flat]
          rfl
    have e4 : (((rows.map fun l => replK "a" "o" l).map Dt.str).filter fun _ => true).map dotD = ((rows.map fun l => replK "a" "o" l).map fun l => l.map dotC).map Dt.str := by
      rw [List.filter_eq_self.mpr fun _ _ => rfl, List.map_map, List.map_map (g := Dt.str)]
      rfl
    rw [e4]
    obtain ⟨T, eT⟩ : ∃ T, T = (rows.map fun l => replK "a" "o" l).map fun l => l.map dotC := ⟨_, rfl⟩
    rw [← eT]
    obtain ⟨w0, hw0, hw1, hw2⟩ := ht.wd
    have hTl : T.length = rows.length := by rw [eT, List.length_map, List.length_map]
    have hTw : ∀ r ∈ T, r.length = w0 := fun r hr => by
      rw [eT] at hr
      obtain ⟨l1, hl1, rfl⟩ := List.mem_map.mp hr
      obtain ⟨l2, hl2, rfl⟩ := List.mem_map.mp hl1
      rw [List.length_map, rp_len, hw2 l2 hl2]
    have hTo : OO T := fun r hr => by
      rw [eT] at hr
      obtain ⟨l1, hl1, rfl⟩ := List.mem_map.mp hr
      intro c hc
      obtain ⟨c0, _, rfl⟩ := List.mem_map.mp hc
      unfold dotC
      by_cases e : c0 = 46
      · rw [if_pos e]
        exact .inl rfl
      · rw [if_neg e]
        exact .inr rfl
    clear eT
    have hT1 := ht.lo
    have hT2 := ht.hi
    refine dss_cons (ds_set (i := 4) (fun _ => s4) (dp_listM n_list <| dp_var g3 <| fun o => ?_) nd)
    refine dss_mid (fun ds' L' => ∃ m ys d5, Dice m ∧ ys.Perm T ∧ L' = (o, .lst (ys.map Dt.str)) :: (a, m) :: L ∧ ds' = [some (.frl (ns.map .int)), some (.adr a), some d, some (trayD T), some (.adr o), d5, none, none, none, none, none])
      (ds_for (di_range1 n_range <| dp_len n_len <| dp_var g4 ⟨_, .hd, _, rfl, ?_, ?_, fun n ds' L' => ∃ m ys, Dice m ∧ ys.Perm T ∧ L' = (o, .lst (ys.map Dt.str)) :: (a, m) :: L ∧ ds' = [some (.frl (ns.map .int)), some (.adr a), some d, some (trayD T), some (.adr o), none, none, none, none, none, none], ⟨_, Fg.refl _, m1, T, hd1, List.Perm.refl _, rfl, rfl⟩, fun n d2 ds' L' hx hW => ?_, fun ds' L' ⟨m, ys, h1, h2, h3, h4⟩ => ⟨m, ys, _, h1, h2, h3, h4⟩⟩) .never) fun ds' L' hW => ?_
    · omega
    · rw [List.length_map]
      omega
    · obtain ⟨m, ys, hdm, hp, rfl, rfl⟩ := hW
      have hyl : ys.length = rows.length := by rw [hp.length_eq, hTl]
      refine dg_name s5 ?_ nd
      refine dss_one (ds_expr <| dp_append <| dp_var g4 ⟨.inl ⟨rfl, _, .hd⟩, dp_popAt <| dp_var g4 ⟨.inl ⟨rfl, _, .hd⟩, dp_call C__law_next hr (by decide) <| da_cons <| dp_var g1 <| da_cons <| dp_len n_len <| dp_var g4 ⟨_, .hd, da_nil ⟨a, _, _, m, rfl, .tl .hd, rfl, hdm, ?_, ?_, fun v m' v0 v1 hd' => ?_⟩⟩⟩⟩)
      · rw [List.length_map]
        omega
      · rw [List.length_map]
        exact Nat.lt_of_le_of_lt (Nat.log2_le_self _) (by omega)
      · rw [List.length_map] at v1
        obtain ⟨k, rfl⟩ : ∃ k : Nat, v = k := ⟨v.toNat, by omega⟩
        have hk : k < ys.length := by omega
        refine ⟨o, _, k, .str ys[k], rfl, rfl, .hd, by rw [List.getElem?_map, List.getElem?_eq_getElem hk]; rfl, by omega, _, .hd, _, .hd, ?_, _, .hd, ?_⟩
        · rw [List.length_eraseIdx, List.length_map, if_pos hk, sizeLine_eq]
          omega
        · refine ⟨_, .keep <| .keep <| .keep <| .keep <| .keep <| .drop <| .drop <| .drop <| .drop <| .drop <| .drop .nil, m', ys.eraseIdx k ++ [ys[k]], hd', (moved_perm (List.getElem?_eq_getElem hk)).trans hp, ?_, rfl⟩
          rw [erase_map, List.map_append]
          rfl
    obtain ⟨m, ys, d5, hdm, hp, rfl, rfl⟩ := hW
    have hyl : ys.length = rows.length := by rw [hp.length_eq, hTl]
    refine dss_freeze (i := 4) g4 .hd ?_
    show DSs _ _ [some (.frl (ns.map .int)), some (.adr a), some d, some (trayD T), some (.lst (ys.map Dt.str)), d5, none, none, none, none, none] ((a, m) :: L) _
    refine dss_fg (ds2 := [some (.frl (ns.map .int)), some (.adr a), some d, some (trayD T), some (.lst (ys.map Dt.str)), none, none, none, none, none, none]) (.keep <| .keep <| .keep <| .keep <| .keep <| .drop <| .drop <| .drop <| .drop <| .drop <| .drop .nil) ?_
    refine dss_cons (ds_set (i := 4) (fun _ => s4) (dp_tuple n_tuple <| dp_lc [("_law_text", 9)] (blkOk_by (by kernel_rfl)) nd (fun _ _ _ _ _ => pg_name nd rfl (Or.inl rfl)) <| di_list <| dp_var g4 ⟨fun n zs L' => ∃ m2 us, Dice m2 ∧ Turned (ys.take n) us ∧ zs = us.map Dt.str ∧ L' = (a, m2) :: L, ⟨m, [], hdm, trivial, rfl, rfl⟩, ?_, fun n e zs L2 T0 hx hW hz s H C cl fp => ?_, fun zs L2 hW => ?_⟩) nd)
    · rw [List.length_map]
      omega
    · obtain ⟨m2, us, hdm2, htu, rfl, rfl⟩ := hW
      rw [List.getElem?_map] at hx
      obtain ⟨r, hr1, rfl⟩ := Option.map_eq_some_iff.mp hx
      have htk : ys.take (n + 1) = ys.take n ++ [r] := by rw [List.take_add_one, hr1]; rfl
      have hrl : r.length = w0 := hTw r (hp.subset (List.mem_of_getElem? hr1))
      refine ⟨_, s9, dts_nil ⟨fun _ s H C cl fp => ?_, fun z => absurd z (by decide)⟩⟩
      refine dp_if <| dt_eq <| dp_call C__law_next hr (by decide) <| da_cons <| dp_var g1 <| da_cons <| dp_int <| da_nil ⟨a, 2, _, m2, rfl, .tl .hd, rfl, hdm2, by decide, by decide, fun v m3 v0 v1 hd3 => dp_int ⟨_, rfl, fun _ => dp_revS <| dp_var g9 ⟨r, rfl, ?_, _, rfl, m3, us ++ [r.reverse], hd3, ?_, ?_, rfl⟩, fun _ => dp_var g9 ⟨_, rfl, m3, us ++ [r], hd3, ?_, ?_, rfl⟩⟩⟩
      · rw [hrl, sizeLine_eq]
        omega
      · rw [htk]
        exact htu.snoc (.inr rfl)
      · rw [List.map_append]
        rfl
      · rw [htk]
        exact htu.snoc (.inl rfl)
      · rw [List.map_append]
        rfl
    obtain ⟨m2, us, hdm2, htu, rfl, rfl⟩ := hW
    rw [List.length_map, List.take_length] at htu
    have hcs : (us.map cntM).Perm (T.map cntM) := by
      rw [htu.cnt]
      exact hp.map cntM
    have hUw : ∀ r ∈ us, r.length = w0 := Turned.all (p := fun r => r.length = w0) (fun r h => by rw [List.length_reverse]; exact h) htu fun r hr => hTw r (hp.subset hr)
    have hUo : OO us := Turned.all (p := fun r => ∀ x ∈ r, x = 46 ∨ x = 111) (fun r h x hx => h x (List.mem_reverse.mp hx)) htu fun r hr => hTo r (hp.subset hr)
    have hUl : us.length = rows.length := by rw [htu.len, hyl]
    have FT : Fits w0 (T.map cntM) T := ⟨List.Perm.refl _, hTw⟩
    have FU : Fits w0 (T.map cntM) us := ⟨hcs, hUw⟩
    have sgo : ∀ {t : List (List Nat)}, OO t → ∀ r ∈ t, ∀ c ∈ r, Sg c := fun ho r hr c hc => by
      rcases ho r hr c hc with rfl | rfl
      · exact .inl rfl
      · exact .inr (by decide)
    have tT : Tray 12 T := ⟨by omega, by omega, ⟨w0, hw0, by omega, hTw⟩, sgo hTo⟩
    have tU : Tray 12 us := ⟨by omega, by omega, ⟨w0, hw0, by omega, hUw⟩, sgo hUo⟩
    have wT : wdt T = w0 := wdt_of (by omega) hTw
    have wU : wdt us = w0 := wdt_of (by omega) hUw
    have h12 : ∀ c ∈ T.map cntM, c ≤ 12 := fun c hc => by
      obtain ⟨r, hr, rfl⟩ := List.mem_map.mp hc
      have := cntM_le r
      rw [hTw r hr] at this
      omega
    have rT : rank (wdt T) (T.map cntM) T = rank w0 (T.map cntM) T := by rw [wT]
    have rU : rank (wdt us) (us.map cntM) us = rank w0 (T.map cntM) us := by rw [wU, rank_perm hcs]
    refine dss_cons (ds_par (i := 6) (j := 7) (ds' := fun d6 d7 => [some (.frl (ns.map .int)), some (.adr a), some d, some (trayD T), some (trayD us), none, some d6, some d7, none, none, none]) (fun _ _ => rfl) (da_cons <| dp_call C_number_of hr (by decide) <| da_cons <| dp_var g3 <| da_nil ⟨T, rfl, tT, da_cons <| dp_call C_number_of hr (by decide) <| da_cons <| dp_var g4 <| da_nil ⟨us, rfl, tU, da_nil ⟨_, _, rfl, ?_⟩⟩⟩) nd (by decide))
    rw [rT, rU]
    refine dss_mid (fun ds' L' => L' = (a, m2) :: L ∧ ds' = [some (.frl (ns.map .int)), some (.adr a), some d, some (trayD T), some (trayD us), none, some (.int (rank w0 (T.map cntM) T : Nat)), some (.int (rank w0 (T.map cntM) us : Nat)), none, none, none]) (ds_if <| dt_bool <| dtw_or <| dt_ne <| dp_lt <| dp_var g6 <| dp_var g7 <| dp_ltX hr <| dp_var g3 <| dp_var g4 ⟨T, us, rfl, rfl, _, rfl, fun c1 => ?_, fun _ => dtw_or1 <| dt_ne <| dp_eq <| dp_var g6 <| dp_var g7 <| dp_eqD hr <| dp_var g3 <| dp_var g4 ⟨⟨1, by decide, ok_tray hTo⟩, ⟨1, by decide, ok_tray hUo⟩, fun b hb => ⟨_, rfl, fun c1 => ?_, fun _ => dss_nil ⟨rfl, rfl⟩⟩⟩⟩) fun ds' L' hW => ?_
    · have c1 : (!decide (decide ((rank w0 (T.map cntM) T : Int) < (rank w0 (T.map cntM) us : Nat)) = ltB T us)) = true := c1
      rw [← rank_ltB h12 FT FU hTo hUo] at c1
      simp at c1
    · have hb : b = true ↔ trayD T = trayD us := hb
      have c1 : (!decide (decide ((rank w0 (T.map cntM) T : Int) = (rank w0 (T.map cntM) us : Nat)) = b)) = true := c1
      have e5 : decide ((rank w0 (T.map cntM) T : Int) = (rank w0 (T.map cntM) us : Nat)) = b := by
        rw [Bool.eq_iff_iff, decide_eq_true_iff, hb]
        exact ⟨fun e => by rw [rank_inj h12 FT FU hTo hUo (Int.ofNat.inj e)], fun e => by rw [tray_inj e]⟩
      rw [e5] at c1
      simp at c1
    obtain ⟨rfl, rfl⟩ := hW
    obtain ⟨S, eS⟩ : ∃ S, S = canS (T.map cntM) := ⟨_, rfl⟩
    have hS1 : ∀ x ∈ S, 1 ≤ x ∧ x ≤ w0 := fun x hx => by
      rw [eS] at hx
      obtain ⟨hx1, hx2⟩ := List.mem_filter.mp ((canS_perm _).subset hx)
      obtain ⟨r, hr, rfl⟩ := List.mem_map.mp hx1
      have := cntM_le r
      rw [hTw r hr] at this
      exact ⟨of_decide_eq_true hx2, this⟩
    have hS2 : S.Pairwise (· ≥ ·) := by
      rw [eS]
      exact canS_dn _
    have hSl : S.length ≤ T.length := by
      rw [eS, (canS_perm _).length_eq]
      exact Nat.le_trans (List.length_filter_le _ _) (by rw [List.length_map]; exact Nat.le_refl _)
    have shok : ShapeOk T.length w0 S := ⟨by omega, by omega, hw0, by omega, hSl, hS1, hS2⟩
    have hfull : (T.map cntM).Perm (fullC T.length S) := by
      have q := (full_can (l := T.map cntM) (s := S) (fun x hx => (hS1 x hx).1) hS2).mpr eS.symm
      rw [List.length_map] at q
      exact q
    have FT2 : Fits w0 (fullC T.length S) T := ⟨hfull, hTw⟩
    have h12' : ∀ x ∈ fullC T.length S, x ≤ 12 := shok.le12
    have rT2 : rank w0 (T.map cntM) T = rank w0 (fullC T.length S) T := rank_perm hfull
    have hlt : rank w0 (T.map cntM) T < Wy w0 (fullC T.length S) 0 w0 := by
      rw [rT2]
      exact rank_lt h12' FT2
    have hat : atI (T.map Dt.str) 0 = some (.str T[0]) := atI_nat (j := 0) (by rw [List.getElem?_map, List.getElem?_eq_getElem (show 0 < T.length by omega)]; rfl)
    have h0l : T[0].length = w0 := hTw _ (List.getElem_mem _)
    refine dss_cons (ds_set (i := 8) (fun _ => s8) (dp_call C_shape_of hr (by decide) <| da_cons <| dp_var g3 <| da_nil ⟨T, S, rfl, tT, by rw [eS]; exact canS_perm _, hS2, ?_⟩) nd)
    rw [show intsD S = cD2 S from intsD_eq S]
    refine dss_mid (fun ds' L' => L' = (a, m2) :: L ∧ ds' = [some (.frl (ns.map .int)), some (.adr a), some d, some (trayD T), some (trayD us), none, some (.int (rank w0 (T.map cntM) T : Nat)), some (.int (rank w0 (T.map cntM) us : Nat)), some (.tup (cD2 S)), none, none]) (ds_if <| dt_bool <| dtw_or <| dt_neD hr <| dp_callX C_X_tray_at rz_no hr (by decide) <| da_cons <| dp_len n_len <| dp_var g3 <| da_cons <| dp_len n_len <| dp_ix <| dp_var g3 <| dp_int ⟨_, hat, by rw [h0l, sizeLine_eq]; omega, da_cons <| dp_var g8 <| da_cons <| dp_var g6 <| da_nil ⟨T.length, w0, S, ((rank w0 (T.map cntM) T : Nat) : Int), ?_, shok, fun k ek hk t' l1 g1' o1 r1 => dp_var g3 ⟨⟨1, by decide, ok_tray o1⟩, ⟨1, by decide, ok_tray hTo⟩, fun b hb => ⟨_, rfl, fun c1 => ?_, fun _ => dtw_or1 <| dt_neD hr <| dp_call C_shape_of hr (by decide) <| da_cons <| dp_var g4 <| da_nil ⟨us, S, rfl, tU, ?_, hS2, ?_⟩⟩⟩, fun z => ?_⟩⟩) fun ds' L' hW => ?_
    · rw [List.length_map, h0l]
    · have et : t' = T := rank_inj h12' g1' FT2 o1 hTo (by rw [r1, ← rT2]; exact (Int.ofNat.inj ek).symm)
      rw [hb.mpr (by rw [et])] at c1
      cases c1
    · rw [eS]
      exact (canS_perm _).trans (hcs.symm.filter _)
    · rw [show intsD S = cD2 S from intsD_eq S]
      refine dp_var g8 ⟨ok_cD2 _, ok_cD2 _, fun b2 hb2 => ⟨_, rfl, fun c2 => ?_, fun _ => dss_nil ⟨rfl, rfl⟩⟩⟩
      rw [hb2.mpr rfl] at c2
      cases c2
    · exact fun _ _ => z ⟨by omega, by omega⟩
    obtain ⟨rfl, rfl⟩ := hW
    refine dss_one (ds_if <| dt_not <| dt_lt <| dp_var g6 <| dp_call C_how_many hr (by decide) <| da_cons <| dp_len n_len <| dp_var g3 <| da_cons <| dp_len n_len <| dp_ix <| dp_var g3 <| dp_int ⟨_, hat, by rw [h0l, sizeLine_eq]; omega, da_cons <| dp_var g8 <| da_nil ⟨T.length, w0, S, ?_, shok, _, rfl, fun c1 => ?_, fun _ => dss_nil ?_⟩⟩)
    · rw [List.length_map, h0l]
    · have c1 : (!decide ((rank w0 (T.map cntM) T : Int) < (Wy w0 (fullC T.length S) 0 w0 : Nat))) = true := c1
      rw [decide_eq_true (by omega)] at c1
      cases c1
    · exact ⟨_, .keep <| .keep <| .drop <| .drop <| .drop <| .drop <| .drop <| .drop <| .drop <| .drop <| .drop .nil, ⟨m2, rfl, hdm2⟩, rfl⟩
  · obtain ⟨⟨m, rfl, _⟩, rfl⟩ := hW
    exact dss_one (ds_ret <| dp_bl (h _))
end
section
variable {w : World} {K : PySem.W.Frag} {h : Heap} {mg : Str → Option Value} {fa C c P D0 D1 D2 D3 : Addr}
theorem all_mk (KX : K.In h) (NS : h.Ns mainGlobals mg) (hfa : mg "law" = some (.ref fa)) (T_Counter : CounterT K mg C) (F_need_tray : FunAt K mg "need_tray" s_need_tray) (n_len : mg "len" = none) (n_enumerate : mg "enumerate" = none) (v_MOST_SIZE : ∃ t, mg "MOST_SIZE" = some (.int 12 t)) (v_EMPTY : ∃ t, mg "EMPTY" = some (.str (Str.ofString ".") t)) (v_LETTERS : ∃ t, mg "LETTERS" = some (.str (Str.ofString "abcdefghijklmnopqrstuvwxyz") t)) (F_need_count : FunAt K mg "need_count" s_need_count) (F__law_dice : FunAt K mg "_law_dice" s__law_dice) (n_int : mg "int" = none) (F__law_next : FunAt K mg "_law_next" s__law_next) (F__law_tray : FunAt K mg "_law_tray" s__law_tray) (n_range : mg "range" = none) (n_tuple : mg "tuple" = none) (F_choices : FunAt K mg "choices" s_choices) (F_without : FunAt K mg "without" s_without) (M_Counter____init__ : MethAt K C "__init__" "Counter.__init__" s_Counter____init__) (M_Counter__ways : MethAt K C "ways" "Counter.ways" s_Counter__ways) (n_sorted : mg "sorted" = none) (n_set : mg "set" = none) (F_need_shape : FunAt K mg "need_shape" s_need_shape) (F_counts_of : FunAt K mg "counts_of" s_counts_of) (F_how_many : FunAt K mg "how_many" s_how_many) (F_counts_in : FunAt K mg "counts_in" s_counts_in) (F_shape_of : FunAt K mg "shape_of" s_shape_of) (F_number_of : FunAt K mg "number_of" s_number_of) (F_tray_at : FunAt K mg "tray_at" s_tray_at) (e_BadNumber : ErrE K mg "BadNumber") (v_BALL : ∃ t, mg "BALL" = some (.str (Str.ofString "o") t)) (F_law : FunAt K mg "law" s_law) (n_list : mg "list" = none) :
    ∃ fd : FuncData, (∀ (s : Shared) (v : Value), BindsTo s fd ⟨[v], []⟩ [("_law_script", v)]) ∧ ∀ base : Heap, K.In base → base.Ns mainGlobals mg → FnOk PySem.Challenge.pw_trayring_k39_whole_numbers_rise w K mg base CX0 17 fa fd ["_law_script"] (law_sp K) := by
  refine law_end hfa F_law (fun base _ _ => ?_) (fun _ _ _ _ _ _ _ => rfl)
  have H_need_tray := c_need_tray (Pr := PySem.Challenge.pw_trayring_k39_whole_numbers_rise) (w := w) (base := base) F_need_tray n_len n_enumerate v_MOST_SIZE v_EMPTY v_LETTERS
  have H_need_count := c_need_count (Pr := PySem.Challenge.pw_trayring_k39_whole_numbers_rise) (w := w) (base := base) F_need_count
  have H__law_dice := c_dice (Pr := PySem.Challenge.pw_trayring_k39_whole_numbers_rise) (w := w) (base := base) F__law_dice n_len n_int
  have H__law_next := c_next (Pr := PySem.Challenge.pw_trayring_k39_whole_numbers_rise) (w := w) (base := base) F__law_next n_len
  have H__law_tray := c_tray (Pr := PySem.Challenge.pw_trayring_k39_whole_numbers_rise) (w := w) (base := base) F__law_tray (by first | exact H__law_next | exact H__law_next _ | exact fun _ => H__law_next | exact H__law_next.mono (by decide) | exact (H__law_next _).mono (by decide)) n_len n_range n_tuple
  have H_choices := c_choices (Pr := PySem.Challenge.pw_trayring_k39_whole_numbers_rise) (w := w) (base := base) F_choices n_range
  have H_without := c_without (Pr := PySem.Challenge.pw_trayring_k39_whole_numbers_rise) (w := w) (base := base) F_without
  have H_Counter____init__ := c_Counter____init__ (Pr := PySem.Challenge.pw_trayring_k39_whole_numbers_rise) (w := w) (base := base) T_Counter M_Counter____init__
  have H_Counter := c_Counter (Pr := PySem.Challenge.pw_trayring_k39_whole_numbers_rise) (w := w) (base := base) T_Counter (by first | exact H_Counter____init__ | exact H_Counter____init__ _ | exact fun _ => H_Counter____init__ | exact H_Counter____init__.mono (by decide) | exact (H_Counter____init__ _).mono (by decide))
  have H_Counter__ways := c_Counter__ways (Pr := PySem.Challenge.pw_trayring_k39_whole_numbers_rise) (w := w) (base := base) T_Counter M_Counter__ways (by first | exact H_without | exact H_without _ | exact fun _ => H_without | exact H_without.mono (by decide) | exact (H_without _).mono (by decide)) (by first | exact H_choices | exact H_choices _ | exact fun _ => H_choices | exact H_choices.mono (by decide) | exact (H_choices _).mono (by decide)) n_sorted n_set
  have H_need_shape := c_need_shape (Pr := PySem.Challenge.pw_trayring_k39_whole_numbers_rise) (w := w) (base := base) F_need_shape (by first | exact H_need_count | exact H_need_count _ | exact fun _ => H_need_count | exact H_need_count.mono (by decide) | exact (H_need_count _).mono (by decide)) n_enumerate v_MOST_SIZE
  have H_counts_of := c_counts_of (Pr := PySem.Challenge.pw_trayring_k39_whole_numbers_rise) (w := w) (base := base) F_counts_of n_len n_sorted n_tuple
  have H_how_many := c_how_many (Pr := PySem.Challenge.pw_trayring_k39_whole_numbers_rise) (w := w) (base := base) F_how_many T_Counter (by first | exact H_need_shape | exact H_need_shape _ | exact fun _ => H_need_shape | exact H_need_shape.mono (by decide) | exact (H_need_shape _).mono (by decide)) (by first | exact H_counts_of | exact H_counts_of _ | exact fun _ => H_counts_of | exact H_counts_of.mono (by decide) | exact (H_counts_of _).mono (by decide)) (by first | exact H_Counter | exact H_Counter _ | exact fun _ => H_Counter | exact H_Counter.mono (by decide) | exact (H_Counter _).mono (by decide)) (by first | exact H_Counter__ways | exact H_Counter__ways _ | exact fun _ => H_Counter__ways | exact H_Counter__ways.mono (by decide) | exact (H_Counter__ways _).mono (by decide))
  have H_counts_in := c_counts_in (Pr := PySem.Challenge.pw_trayring_k39_whole_numbers_rise) (w := w) (base := base) F_counts_in n_len v_EMPTY
  have H_shape_of := c_shape_of (Pr := PySem.Challenge.pw_trayring_k39_whole_numbers_rise) (w := w) (base := base) F_shape_of (by first | exact H_need_tray | exact H_need_tray _ | exact fun _ => H_need_tray | exact H_need_tray.mono (by decide) | exact (H_need_tray _).mono (by decide)) (by first | exact H_counts_in | exact H_counts_in _ | exact fun _ => H_counts_in | exact H_counts_in.mono (by decide) | exact (H_counts_in _).mono (by decide)) n_sorted n_tuple
  have H_number_of := c_number_of (Pr := PySem.Challenge.pw_trayring_k39_whole_numbers_rise) (w := w) (base := base) F_number_of T_Counter (by first | exact H_need_tray | exact H_need_tray _ | exact fun _ => H_need_tray | exact H_need_tray.mono (by decide) | exact (H_need_tray _).mono (by decide)) (by first | exact H_counts_in | exact H_counts_in _ | exact fun _ => H_counts_in | exact H_counts_in.mono (by decide) | exact (H_counts_in _).mono (by decide)) (by first | exact H_without | exact H_without _ | exact fun _ => H_without | exact H_without.mono (by decide) | exact (H_without _).mono (by decide)) (by first | exact H_Counter | exact H_Counter _ | exact fun _ => H_Counter | exact H_Counter.mono (by decide) | exact (H_Counter _).mono (by decide)) (by first | exact H_Counter__ways | exact H_Counter__ways _ | exact fun _ => H_Counter__ways | exact H_Counter__ways.mono (by decide) | exact (H_Counter__ways _).mono (by decide)) n_len n_sorted n_tuple n_enumerate v_EMPTY
  have H_X_tray_at := c_X_tray_at (Pr := PySem.Challenge.pw_trayring_k39_whole_numbers_rise) (w := w) (base := base) F_tray_at T_Counter (by first | exact H_need_shape | exact H_need_shape _ | exact fun _ => H_need_shape | exact H_need_shape.mono (by decide) | exact (H_need_shape _).mono (by decide)) (by first | exact H_counts_of | exact H_counts_of _ | exact fun _ => H_counts_of | exact H_counts_of.mono (by decide) | exact (H_counts_of _).mono (by decide)) (by first | exact H_without | exact H_without _ | exact fun _ => H_without | exact H_without.mono (by decide) | exact (H_without _).mono (by decide)) (by first | exact H_Counter | exact H_Counter _ | exact fun _ => H_Counter | exact H_Counter.mono (by decide) | exact (H_Counter _).mono (by decide)) (by first | exact H_Counter__ways | exact H_Counter__ways _ | exact fun _ => H_Counter__ways | exact H_Counter__ways.mono (by decide) | exact (H_Counter__ways _).mono (by decide)) e_BadNumber n_range n_tuple v_EMPTY v_BALL
  exact c_law (Pr := PySem.Challenge.pw_trayring_k39_whole_numbers_rise) (w := w) (base := base) F_law (by first | exact H__law_dice | exact H__law_dice _ | exact fun _ => H__law_dice | exact H__law_dice.mono (by decide) | exact (H__law_dice _).mono (by decide)) (by first | exact H__law_next | exact H__law_next _ | exact fun _ => H__law_next | exact H__law_next.mono (by decide) | exact (H__law_next _).mono (by decide)) (by first | exact H__law_tray | exact H__law_tray _ | exact fun _ => H__law_tray | exact H__law_tray.mono (by decide) | exact (H__law_tray _).mono (by decide)) (by first | exact H_how_many | exact H_how_many _ | exact fun _ => H_how_many | exact H_how_many.mono (by decide) | exact (H_how_many _).mono (by decide)) (by first | exact H_shape_of | exact H_shape_of _ | exact fun _ => H_shape_of | exact H_shape_of.mono (by decide) | exact (H_shape_of _).mono (by decide)) (by first | exact H_number_of | exact H_number_of _ | exact fun _ => H_number_of | exact H_number_of.mono (by decide) | exact (H_number_of _).mono (by decide)) (by first | exact H_X_tray_at | exact H_X_tray_at _ | exact fun _ => H_X_tray_at | exact H_X_tray_at.mono (by decide) | exact (H_X_tray_at _).mono (by decide)) n_len n_range n_tuple n_list
end
end G
open PySem PySem.W PyProof.Rows
set_option maxHeartbeats 0 in
theorem PySem.Challenge.cw_trayring_k39_whole_numbers_rise_holds : PySem.Challenge.rw_trayring_k39_whole_numbers_rise.Holds := by
  w_on; o_law; k_head; (case hw => w_witness2)
  k_fill
  refine L2.walk_of (l := PySem.Challenge.rw_trayring_k39_whole_numbers_rise) (n := 63) (k := 17) (x := "_law_script") (CX := fun _ => L2.CX0) (sp := fun w => Z.law_sp _) rfl (by decide) rfl ⟨rfl, by decide, by decide⟩ (fun w h Y => PySem.W.kIn_of Y) ?F (fun _ _ _ _ hl _ hS => Z.law_start hl hS) (fun _ _ _ _ _ h => h)
  case F =>
    intro w mg fa h KX NS hmg
    refine' G.all_mk KX NS hmg ?T_Counter ?F_need_tray ?n_len ?n_enumerate ?v_MOST_SIZE ?v_EMPTY ?v_LETTERS ?F_need_count ?F__law_dice ?n_int ?F__law_next ?F__law_tray ?n_range ?n_tuple ?F_choices ?F_without ?M_Counter____init__ ?M_Counter__ways ?n_sorted ?n_set ?F_need_shape ?F_counts_of ?F_how_many ?F_counts_in ?F_shape_of ?F_number_of ?F_tray_at ?e_BadNumber ?v_BALL ?F_law ?n_list
    (case T_Counter => refine' G.CounterT.mk (Z.clsT_at KX NS ?a ?pg ?hd ?po ?sa ?mk ?kc) ?n0 ?n1; (case a => k_is); (case pg => k_is); (case hd => k_is); (case po => k_is); (case sa => k_is); (case mk => k_is); (case kc => k_is); (case n0 => show PySem.W.findIn _ _ _ = _; k_is); (case n1 => show PySem.W.findIn _ _ _ = _; k_is))
    (case F_need_tray => refine' Z.fun_at KX NS ?a ?l ?c ?k; (case a => k_is); (case l => k_is); (case c => k_is); (case k => k_is))
    (case n_len => refine' PySem.W.mg_none_of KX NS ?a; (case a => k_is))
    (case n_enumerate => refine' PySem.W.mg_none_of KX NS ?a; (case a => k_is))
    (case v_MOST_SIZE => refine' Z.const_at KX NS ?a ?e; (case a => k_is); (case e => exact ⟨_, rfl⟩))
    (case v_EMPTY => refine' Z.const_at KX NS ?a ?e; (case a => k_is); (case e => exact ⟨_, rfl⟩))
    (case v_LETTERS => refine' Z.const_at KX NS ?a ?e; (case a => k_is); (case e => exact ⟨_, rfl⟩))
    (case F_need_count => refine' Z.fun_at KX NS ?a ?l ?c ?k; (case a => k_is); (case l => k_is); (case c => k_is); (case k => k_is))
    (case F__law_dice => refine' Z.fun_at KX NS ?a ?l ?c ?k; (case a => k_is); (case l => k_is); (case c => k_is); (case k => k_is))
    (case n_int => refine' PySem.W.mg_none_of KX NS ?a; (case a => k_is))
    (case F__law_next => refine' Z.fun_at KX NS ?a ?l ?c ?k; (case a => k_is); (case l => k_is); (case c => k_is); (case k => k_is))
    (case F__law_tray => refine' Z.fun_at KX NS ?a ?l ?c ?k; (case a => k_is); (case l => k_is); (case c => k_is); (case k => k_is))
    (case n_range => refine' PySem.W.mg_none_of KX NS ?a; (case a => k_is))
    (case n_tuple => refine' PySem.W.mg_none_of KX NS ?a; (case a => k_is))
    (case F_choices => refine' Z.fun_at KX NS ?a ?l ?c ?k; (case a => k_is); (case l => k_is); (case c => k_is); (case k => k_is))
    (case F_without => refine' Z.fun_at KX NS ?a ?l ?c ?k; (case a => k_is); (case l => k_is); (case c => k_is); (case k => k_is))
    (case M_Counter____init__ => refine' Z.meth_at ?a ?i ?l ?c ?k; (case a => k_is); (case i => k_is); (case l => k_is); (case c => k_is); (case k => k_is))
    (case M_Counter__ways => refine' Z.meth_at ?a ?i ?l ?c ?k; (case a => k_is); (case i => k_is); (case l => k_is); (case c => k_is); (case k => k_is))
    (case n_sorted => refine' PySem.W.mg_none_of KX NS ?a; (case a => k_is))
    (case n_set => refine' PySem.W.mg_none_of KX NS ?a; (case a => k_is))
    (case F_need_shape => refine' Z.fun_at KX NS ?a ?l ?c ?k; (case a => k_is); (case l => k_is); (case c => k_is); (case k => k_is))
    (case F_counts_of => refine' Z.fun_at KX NS ?a ?l ?c ?k; (case a => k_is); (case l => k_is); (case c => k_is); (case k => k_is))
    (case F_how_many => refine' Z.fun_at KX NS ?a ?l ?c ?k; (case a => k_is); (case l => k_is); (case c => k_is); (case k => k_is))
    (case F_counts_in => refine' Z.fun_at KX NS ?a ?l ?c ?k; (case a => k_is); (case l => k_is); (case c => k_is); (case k => k_is))
    (case F_shape_of => refine' Z.fun_at KX NS ?a ?l ?c ?k; (case a => k_is); (case l => k_is); (case c => k_is); (case k => k_is))
    (case F_number_of => refine' Z.fun_at KX NS ?a ?l ?c ?k; (case a => k_is); (case l => k_is); (case c => k_is); (case k => k_is))
    (case F_tray_at => refine' Z.fun_at KX NS ?a ?l ?c ?k; (case a => k_is); (case l => k_is); (case c => k_is); (case k => k_is))
    (case e_BadNumber => refine' G.errE_at KX NS ?z_a ?z_q ?z_k ?z_b ?z_t; (case z_a => k_is); (case z_q => k_exc); (case z_k => k_is); (case z_b => k_is); (case z_t => k_is))
    (case v_BALL => refine' Z.const_at KX NS ?a ?e; (case a => k_is); (case e => exact ⟨_, rfl⟩))
    (case F_law => refine' Z.fun_at KX NS ?a ?l ?c ?k; (case a => k_is); (case l => k_is); (case c => k_is); (case k => k_is))
    (case n_list => refine' PySem.W.mg_none_of KX NS ?a; (case a => k_is))
