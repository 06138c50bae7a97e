import PyProof.Rows.All
import Wide.All
import OpenK.AllK
import Wide.FinOn
import HandS.ForMost
import HandS.Wide
import HandS.Style
import HandS.Flow
import HandS.TupAny
import HandS.TupLe
import HandS.Deep
import HandS.Text
import HandS.Comp
import HandS.Iter
import HandS.Conv
import HandS.IsInst
import HandS.Steps
import PySem.Challenge.RW_bandmotions_k03_whole_motions_again_and
set_option Elab.async false
set_option linter.all false
set_option maxRecDepth 100000
set_option maxHeartbeats 4000000
/-! The data layer: plain data in the place of values and heaps. -/
namespace Bd
open PySem PySem.Spec L2

/-! ### data in a heap -/
mutual
def Rp (K : PySem.W.Frag) (F : Hp) : PyData → V → Prop
  | .none, v => v = .non
  | .bool b, v => v = .bl b
  | .int i, v => v = .int i
  | .str s, v => v = .str s
  | .list ds, v => ∃ a xs, v = .ref a ∧ F a = some (.lst xs) ∧ RpAll K F ds xs
  | .tuple ds, v => ∃ a xs, v = .ref a ∧ SqT K F a xs ∧ RpAll K F ds xs
  | .dict _, _ => False
def RpAll (K : PySem.W.Frag) (F : Hp) : List PyData → List V → Prop
  | [], xs => xs = []
  | d :: ds, xs => ∃ v vs, xs = v :: vs ∧ Rp K F d v ∧ RpAll K F ds vs
end
theorem seqT {K : PySem.W.Frag} {F F' : Hp} {a : Addr} {xs : List V} (e : Same F F') (h : SqT K F a xs) : SqT K F' a xs := by
  rcases h with (h | ⟨o, h⟩) | h
  · exact .inl (.inl (e _ _ h))
  · exact .inl (.inr ⟨o, e _ _ h⟩)
  · exact .inr h
section
variable {K : PySem.W.Frag} {F F' H H' : Hp}
mutual
theorem Rp.mono (s : Same F F') : ∀ (d : PyData) (v : V), Rp K F d v → Rp K F' d v
  | .none, _, h => h
  | .bool _, _, h => h
  | .int _, _, h => h
  | .str _, _, h => h
  | .list ds, _, h => let ⟨a, xs, e, h1, h2⟩ := h; ⟨a, xs, e, s _ _ h1, RpAll.mono s ds xs h2⟩
  | .tuple ds, _, h => let ⟨a, xs, e, h1, h2⟩ := h; ⟨a, xs, e, seqT s h1, RpAll.mono s ds xs h2⟩
  | .dict _, _, h => h
theorem RpAll.mono (s : Same F F') : ∀ (ds : List PyData) (vs : List V), RpAll K F ds vs → RpAll K F' ds vs
  | [], _, h => h
  | d :: ds, _, h => let ⟨v, vs, e, h1, h2⟩ := h; ⟨v, vs, e, Rp.mono s d v h1, RpAll.mono s ds vs h2⟩
end
mutual
theorem Rp.dp : ∀ (d : PyData) (v : V), Rp K F d v → Dp K F v d
  | .none, _, h => by cases h; exact .non
  | .bool _, _, h => by cases h; exact .bl _
  | .int _, _, h => by cases h; exact .int _
  | .str _, _, h => by cases h; exact .str _
  | .list ds, _, h => let ⟨a, xs, e, h1, h2⟩ := h; e ▸ .lst (SqL.of h1) (RpAll.dp ds xs h2)
  | .tuple ds, _, h => let ⟨a, xs, e, h1, h2⟩ := h; e ▸ .tup h1 (RpAll.dp ds xs h2)
  | .dict _, _, h => h.elim
theorem RpAll.dp : ∀ (ds : List PyData) (vs : List V), RpAll K F ds vs → DpAll K F vs ds
  | [], _, h => by cases h; exact .nil
  | d :: ds, _, h => let ⟨v, vs, e, h1, h2⟩ := h; e ▸ .cons (Rp.dp d v h1) (RpAll.dp ds vs h2)
end
theorem RpAll.length : ∀ {ds : List PyData} {vs : List V}, RpAll K F ds vs → vs.length = ds.length
  | [], _, h => by cases h; rfl
  | d :: ds, _, h => by
    obtain ⟨v, vs, rfl, h1, h2⟩ := h
    simp [RpAll.length h2]
theorem RpAll.get : ∀ {ds : List PyData} {vs : List V} {i : Nat} {d : PyData}, RpAll K F ds vs → ds[i]? = some d → ∃ v, vs[i]? = some v ∧ Rp K F d v
  | [], _, _, _, _, e => by simp at e
  | d :: ds, _, 0, x, h, e => by
    obtain ⟨v, vs, rfl, h1, h2⟩ := h
    simp at e; subst e
    exact ⟨v, rfl, h1⟩
  | d :: ds, _, i + 1, x, h, e => by
    obtain ⟨v, vs, rfl, h1, h2⟩ := h
    obtain ⟨u, e1, e2⟩ := RpAll.get (i := i) h2 (by simpa using e)
    exact ⟨u, by simpa using e1, e2⟩
theorem RpAll.append : ∀ {ds es : List PyData} {vs us : List V}, RpAll K F ds vs → RpAll K F es us → RpAll K F (ds ++ es) (vs ++ us)
  | [], _, _, _, h, h' => by cases h; exact h'
  | d :: ds, _, _, _, h, h' => by
    obtain ⟨v, vs, rfl, h1, h2⟩ := h
    exact ⟨v, vs ++ _, rfl, h1, RpAll.append h2 h'⟩
theorem RpAll.take : ∀ {ds : List PyData} {vs : List V} (n : Nat), RpAll K F ds vs → RpAll K F (ds.take n) (vs.take n)
  | [], _, n, h => by cases h; simp [RpAll]
  | _ :: _, _, 0, _ => by simp [RpAll]
  | d :: ds, _, n + 1, h => by
    obtain ⟨v, vs, rfl, h1, h2⟩ := h
    exact ⟨v, vs.take n, rfl, h1, RpAll.take n h2⟩
theorem RpAll.drop : ∀ {ds : List PyData} {vs : List V} (n : Nat), RpAll K F ds vs → RpAll K F (ds.drop n) (vs.drop n)
  | [], _, n, h => by cases h; simp [RpAll]
  | _ :: _, _, 0, h => h
  | d :: ds, _, n + 1, h => by
    obtain ⟨v, vs, rfl, h1, h2⟩ := h
    exact RpAll.drop n h2
theorem RpAll.set : ∀ {ds : List PyData} {vs : List V} {d : PyData} {v : V} (n : Nat), RpAll K F ds vs → Rp K F d v → RpAll K F (ds.set n d) (vs.set n v)
  | [], _, _, _, n, h, _ => by cases h; simp [RpAll]
  | _ :: _, _, _, _, 0, h, h' => by
    obtain ⟨v, vs, rfl, h1, h2⟩ := h
    exact ⟨_, vs, rfl, h', h2⟩
  | d :: ds, _, _, _, n + 1, h, h' => by
    obtain ⟨v, vs, rfl, h1, h2⟩ := h
    exact ⟨v, _, rfl, h1, RpAll.set n h2 h'⟩
theorem RpAll.reverse : ∀ {ds : List PyData} {vs : List V}, RpAll K F ds vs → RpAll K F ds.reverse vs.reverse
  | [], _, h => by cases h; simp [RpAll]
  | d :: ds, _, h => by
    obtain ⟨v, vs, rfl, h1, h2⟩ := h
    rw [List.reverse_cons, List.reverse_cons]
    exact RpAll.append (RpAll.reverse h2) ⟨v, [], rfl, h1, rfl⟩
theorem RpAll.ints : ∀ {ns : List Int} {vs : List V}, RpAll K F (ns.map .int) vs → vs = ns.map V.int
  | [], _, h => h
  | n :: ns, _, h => by
    obtain ⟨v, vs, rfl, h1, h2⟩ := h
    rw [RpAll.ints h2, List.map_cons, (show v = V.int n from h1)]
theorem RpAll.of_ints : ∀ (ns : List Int), RpAll K F (ns.map .int) (ns.map V.int)
  | [] => rfl
  | n :: ns => ⟨.int n, ns.map V.int, rfl, rfl, RpAll.of_ints ns⟩
theorem RpAll.bools : ∀ {ns : List Bool} {vs : List V}, RpAll K F (ns.map .bool) vs → vs = ns.map V.bl
  | [], _, h => h
  | n :: ns, _, h => by
    obtain ⟨v, vs, rfl, h1, h2⟩ := h
    rw [RpAll.bools h2, List.map_cons, (show v = V.bl n from h1)]
theorem RpAll.strs : ∀ {ns : List Str} {vs : List V}, RpAll K F (ns.map .str) vs → vs = ns.map V.str
  | [], _, h => h
  | n :: ns, _, h => by
    obtain ⟨v, vs, rfl, h1, h2⟩ := h
    rw [RpAll.strs h2, List.map_cons, (show v = V.str n from h1)]
theorem RpAll.of_strs : ∀ (ns : List Str), RpAll K F (ns.map .str) (ns.map V.str)
  | [] => rfl
  | n :: ns => ⟨.str n, ns.map V.str, rfl, rfl, RpAll.of_strs ns⟩
end

/-! ### the heap's growth by new objects -/
/-- F: what is known as data (never changed), H: the heap; both grow by new objects alone -/
structure Gz (F H F' H' : Hp) : Prop where
  ex : Same F F'
  keep : Same H H'
  sub : Same F' H'
  nof : ∀ a o, H a = some o → F a = none → F' a = none
theorem Gz.refl {F H : Hp} (s : Same F H) : Gz F H F H := ⟨.refl _, .refl _, s, fun _ _ _ h => h⟩
theorem Gz.trans {F H F1 H1 F2 H2 : Hp} (a : Gz F H F1 H1) (b : Gz F1 H1 F2 H2) : Gz F H F2 H2 :=
  ⟨a.ex.trans b.ex, a.keep.trans b.keep, b.sub, fun x o h n => b.nof x o (a.keep x o h) (a.nof x o h n)⟩
theorem same_upd {H : Hp} {p : Addr} {o : HO} (h : H p = none) : Same H (upd H p o) := fun b x e => by
  rw [upd_ne (ne_of_none e h)]
  exact e
theorem same_upd2 {F H : Hp} {p : Addr} {o : HO} (s : Same F H) : Same (upd F p o) (upd H p o) := fun b x e => by
  by_cases hb : b = p
  · subst hb; rw [upd_same] at e ⊢; exact e
  · rw [upd_ne hb] at e ⊢; exact s b x e
/-- a new object laid as data -/
theorem Gz.new {F H : Hp} {p : Addr} {o : HO} (s : Same F H) (h : H p = none) : Gz F H (upd F p o) (upd H p o) :=
  ⟨same_upd (s.free h), same_upd h, same_upd2 s, fun a u e n => by rw [upd_ne (ne_of_none e h)]; exact n⟩
/-- a new object that is no data (a slice object, a passing list) -/
theorem Gz.tmp {F H : Hp} {p : Addr} {o : HO} (s : Same F H) (h : H p = none) : Gz F H F (upd H p o) :=
  ⟨.refl _, same_upd h, s.trans (same_upd h), fun a u e n => n⟩

/-! ### slots -/
inductive Sl where
  | non
  | d (x : PyData)
  | l (xs : List PyData)
  | t (ps : List (PyData × PyData))
  | s (ns : List Int)
abbrev Ev := List Sl
def ownS : Sl → Bool
  | .l _ => true
  | .t _ => true
  | _ => false
def ky : Key → PyData
  | .inl i => .int i
  | .inr s => .str s
def kyT (k : List Key) : PyData := .tuple (k.map ky)
def KvOk (K : PySem.W.Frag) (F : Hp) : List (List Key × V) → List (PyData × PyData) → Prop := Paired fun a b => b.1 = kyT a.1 ∧ Rp K F b.2 a.2
theorem KvOk.mono {K : PySem.W.Frag} {F F' : Hp} (s : Same F F') {a : List (List Key × V)} {b : List (PyData × PyData)} (h : KvOk K F a b) : KvOk K F' a b :=
  Paired.mapP h fun _ _ r => ⟨r.1, Rp.mono s _ _ r.2⟩
/-- an own object at p -/
def OwnOk (K : PySem.W.Frag) (F H : Hp) (p : Addr) : Sl → Prop
  | .l xs => ∃ vs, H p = some (.lst vs) ∧ F p = none ∧ RpAll K F xs vs
  | .t ps => ∃ kvs, H p = some (.dT kvs) ∧ F p = none ∧ KvOk K F kvs ps
  | _ => False
def SlOk (K : PySem.W.Frag) (F H : Hp) (o : Option V) : Sl → Prop
  | .non => True
  | .d x => ∃ v, o = some v ∧ Rp K F x v
  | .s ns => ∃ a, o = some (V.ref a) ∧ SqL K F a (ns.map V.int)
  | .l xs => ∃ p, o = some (V.ref p) ∧ OwnOk K F H p (.l xs)
  | .t ps => ∃ p, o = some (V.ref p) ∧ OwnOk K F H p (.t ps)
theorem SlOk.own {K : PySem.W.Frag} {F H : Hp} {o : Option V} {s : Sl} (h : SlOk K F H o s) (w : ownS s = true) : ∃ p, o = some (V.ref p) ∧ OwnOk K F H p s := by
  cases s with
  | l xs => exact h
  | t ps => exact h
  | non => cases w
  | d x => cases w
  | s ns => cases w
theorem OwnOk.there {K : PySem.W.Frag} {F H : Hp} {p : Addr} {s : Sl} (h : OwnOk K F H p s) : (∃ o, H p = some o) ∧ F p = none := by
  cases s with
  | l xs => obtain ⟨vs, a, b, c⟩ := h; exact ⟨⟨_, a⟩, b⟩
  | t xs => obtain ⟨vs, a, b, c⟩ := h; exact ⟨⟨_, a⟩, b⟩
  | non => exact h.elim
  | d x => exact h.elim
  | s x => exact h.elim
theorem OwnOk.keep {K : PySem.W.Frag} {F H F' H' : Hp} {p : Addr} {s : Sl} (h : OwnOk K F H p s) (e : Same F F') (k : H' p = H p) (n : F' p = none) : OwnOk K F' H' p s := by
  cases s with
  | l xs => obtain ⟨vs, a, b, c⟩ := h; exact ⟨vs, k.trans a, n, RpAll.mono e _ _ c⟩
  | t xs => obtain ⟨vs, a, b, c⟩ := h; exact ⟨vs, k.trans a, n, c.mono e⟩
  | non => exact h.elim
  | d x => exact h.elim
  | s x => exact h.elim
/-- the addresses of the own objects of the slots -/
def Ft (σ : St) (ρ : Ev) (a : Addr) : Prop := ∃ (i : Nat) (s : Sl), ρ[i]? = some s ∧ ownS s = true ∧ σ[i]? = some (some (V.ref a))
structure Wd (K : PySem.W.Frag) (F H : Hp) (σ : St) (ρ : Ev) : Prop where
  ex : Same F H
  len : ρ.length = σ.length
  at_ : ∀ (i : Nat) (o : Option V) (s : Sl), σ[i]? = some o → ρ[i]? = some s → SlOk K F H o s
  sep : ∀ (i j : Nat) (s t : Sl) (a : Addr), ρ[i]? = some s → ownS s = true → ρ[j]? = some t → ownS t = true → σ[i]? = some (some (V.ref a)) → σ[j]? = some (some (V.ref a)) → i = j
/-- how the state may change: M the own addresses ahead, M' behind -/
structure Gr (F H : Hp) (M : Addr → Prop) (F' H' : Hp) (M' : Addr → Prop) : Prop where
  ex : Same F F'
  keep : ∀ a o, H a = some o → ¬ M a → H' a = some o
  dom : ∀ a o, H a = some o → ∃ o', H' a = some o'
  nof : ∀ a o, H a = some o → F a = none → ¬ M a → F' a = none
  ft : ∀ a, M' a → M a ∨ H a = none
section
variable {K : PySem.W.Frag} {F H F1 H1 F2 H2 F' H' : Hp} {M M1 M2 : Addr → Prop} {σ σ' : St} {ρ ρ' : Ev}
theorem Gr.refl : Gr F H M F H M := ⟨.refl _, fun _ _ h _ => h, fun _ o h => ⟨o, h⟩, fun _ _ _ h _ => h, fun _ h => .inl h⟩
theorem Gr.trans (a : Gr F H M F1 H1 M1) (b : Gr F1 H1 M1 F2 H2 M2) : Gr F H M F2 H2 M2 := by
  have nm : ∀ x o, H x = some o → ¬ M x → ¬ M1 x := fun x o h n z => by
    rcases a.ft x z with z | z
    · exact n z
    · rw [h] at z; cases z
  refine ⟨a.ex.trans b.ex, fun x o h n => b.keep x o (a.keep x o h n) (nm x o h n), fun x o h => ?_, fun x o h f n => b.nof x o (a.keep x o h n) (a.nof x o h f n) (nm x o h n), fun x z => ?_⟩
  · obtain ⟨o1, h1⟩ := a.dom x o h
    exact b.dom x o1 h1
  · rcases b.ft x z with z | z
    · exact a.ft x z
    · cases q : H x with
      | none => exact .inr rfl
      | some o =>
        obtain ⟨o1, h1⟩ := a.dom x o q
        rw [h1] at z; cases z
theorem Gz.gr (g : Gz F H F' H') : Gr F H M F' H' M := ⟨g.ex, fun a o h _ => g.keep a o h, fun a o h => ⟨o, g.keep a o h⟩, fun a o h n _ => g.nof a o h n, fun _ h => .inl h⟩
/-- fewer own ones behind -/
theorem Gr.less (a : Gr F H M F1 H1 M1) (h : ∀ x, M2 x → M1 x) : Gr F H M F1 H1 M2 := ⟨a.ex, a.keep, a.dom, a.nof, fun x z => a.ft x (h x z)⟩
theorem Wd.get (w : Wd K F H σ ρ) {i : Nat} {s : Sl} (h : ρ[i]? = some s) : ∃ o, σ[i]? = some o ∧ SlOk K F H o s := by
  have hi : i < ρ.length := (List.getElem?_eq_some_iff.mp h).1
  have hj : i < σ.length := w.len ▸ hi
  exact ⟨σ[i], List.getElem?_eq_getElem hj, w.at_ i _ s (List.getElem?_eq_getElem hj) h⟩
theorem Wd.ft_there (w : Wd K F H σ ρ) {a : Addr} (h : Ft σ ρ a) : (∃ o, H a = some o) ∧ F a = none := by
  obtain ⟨i, s, h1, h2, h3⟩ := h
  obtain ⟨p, e, z⟩ := (w.at_ i _ s h3 h1).own h2
  cases e
  exact z.there
theorem SlOk.keep {o : Option V} {s : Sl} (h : SlOk K F H o s) (e : Same F F') (k : ∀ p, ownS s = true → o = some (V.ref p) → H' p = H p ∧ F' p = none) : SlOk K F' H' o s := by
  cases s with
  | non => trivial
  | d x => obtain ⟨v, a, b⟩ := h; exact ⟨v, a, Rp.mono e _ _ b⟩
  | s ns => obtain ⟨a, z, b⟩ := h; exact ⟨a, z, e.seq b⟩
  | l xs => obtain ⟨p, a, b⟩ := h; obtain ⟨k1, k2⟩ := k p rfl a; exact ⟨p, a, b.keep e k1 k2⟩
  | t xs => obtain ⟨p, a, b⟩ := h; obtain ⟨k1, k2⟩ := k p rfl a; exact ⟨p, a, b.keep e k1 k2⟩
/-- new objects alone -/
theorem Wd.gz (w : Wd K F H σ ρ) (g : Gz F H F' H') : Wd K F' H' σ ρ :=
  ⟨g.sub, w.len, fun i o s h1 h2 => (w.at_ i o s h1 h2).keep g.ex fun p hw ho => by
    obtain ⟨⟨u, hu⟩, hf⟩ := w.ft_there ⟨i, s, h2, hw, by rw [h1, ho]⟩
    exact ⟨(g.keep p u hu).trans hu.symm, g.nof p u hu hf⟩, w.sep⟩
end
end Bd

set_option Elab.async false
set_option linter.all false
set_option maxRecDepth 100000
set_option maxHeartbeats 4000000
namespace Bd
open PySem PySem.Spec L2

/-! ### outcomes -/
structure Exn where
  cls : Str
  pay : Option PyData := none
inductive R (α : Type) where
  | ok (a : α) (ρ : Ev)
  | ex (x : Exn)
  | st
def R.bnd {α β : Type} (r : R α) (f : α → Ev → R β) : R β := match r with
  | .ok a ρ => f a ρ
  | .ex x => .ex x
  | .st => .st
abbrev XW := Exn → Hp → Prop
abbrev DE := Ev → R PyData
abbrev DT := Ev → R Bool
abbrev DV := Ev → R Sl

abbrev Rel (α β : Type) := Hp → Hp → Hp → St → Ev → β → α → Prop
def Out (K : PySem.W.Frag) (W : XW) {α β : Type} (Re : Rel α β) (F H : Hp) (σ : St) (ρ : Ev) (Q : β → Hp → Prop) : R α → Prop
  | .ok a ρ' => ∀ (b : β) (F' H' : Hp), Gr F H (Ft σ ρ) F' H' (Ft σ ρ') → Wd K F' H' σ ρ' → Re H F' H' σ ρ' b a → Q b H'
  | .ex x => ∀ (F' H' : Hp) (M' : Addr → Prop), Gr F H (Ft σ ρ) F' H' M' → Same F' H' → W x H'
  | .st => False
/-- the relation looks at the start only for what was not there -/
def Back {α β : Type} (Re : Rel α β) : Prop := ∀ (H H1 F' H' : Hp) (σ : St) (ρ : Ev) (b : β) (a : α), (∀ x o, H x = some o → ∃ o', H1 x = some o') → Re H1 F' H' σ ρ b a → Re H F' H' σ ρ b a
def RelD (K : PySem.W.Frag) : Rel PyData V := fun _ F' _ _ _ v d => Rp K F' d v
def RelB : Rel Bool Bool := fun _ _ _ _ _ b a => b = a
def RelV (K : PySem.W.Frag) : Rel Sl V := fun H F' H' σ ρ v r => match r with
  | .d x => Rp K F' x v
  | .l xs => ∃ p, v = .ref p ∧ OwnOk K F' H' p (.l xs) ∧ H p = none ∧ ¬ Ft σ ρ p
  | .t ps => ∃ p, v = .ref p ∧ OwnOk K F' H' p (.t ps) ∧ H p = none ∧ ¬ Ft σ ρ p
  | _ => False
theorem back_D {K : PySem.W.Frag} : Back (RelD K) := fun _ _ _ _ _ _ _ _ _ h => h
theorem back_B : Back RelB := fun _ _ _ _ _ _ _ _ _ h => h
theorem none_back {H H1 : Hp} (k : ∀ x o, H x = some o → ∃ o', H1 x = some o') {p : Addr} (h : H1 p = none) : H p = none := by
  cases q : H p with
  | none => rfl
  | some o =>
    obtain ⟨o', e⟩ := k p o q
    rw [h] at e; cases e
theorem back_V {K : PySem.W.Frag} : Back (RelV K) := fun H H1 F' H' σ ρ v r k h => by
  cases r with
  | d x => exact h
  | l xs => obtain ⟨p, a, b, c, d⟩ := h; exact ⟨p, a, b, none_back k c, d⟩
  | t xs => obtain ⟨p, a, b, c, d⟩ := h; exact ⟨p, a, b, none_back k c, d⟩
  | non => exact h
  | s ns => exact h
section
variable {K : PySem.W.Frag} {W : XW} {α β γ δ : Type} {Re : Rel α β} {Re2 : Rel γ δ} {F H F1 H1 : Hp} {σ : St} {ρ ρ1 : Ev} {Q Q' : β → Hp → Prop} {Q2 : δ → Hp → Prop} {r : R α} {f : α → Ev → R γ}
theorem Out.pre (hB : Back Re) (g : Gr F H (Ft σ ρ) F1 H1 (Ft σ ρ1)) (h : Out K W Re F H σ ρ Q r) : Out K W Re F1 H1 σ ρ1 Q r := by
  cases r with
  | ok a ρ' => exact fun b F' H' g' w re => h b F' H' (g.trans g') w (hB _ _ _ _ _ _ _ _ g.dom re)
  | ex x => exact fun F' H' M' g' s => h F' H' M' (g.trans g') s
  | st => exact h
theorem Out.imp (h : Out K W Re F H σ ρ Q r) (k : ∀ b H', Q b H' → Q' b H') : Out K W Re F H σ ρ Q' r := by
  cases r with
  | ok a ρ' => exact fun b F' H' g' w re => k _ _ (h b F' H' g' w re)
  | ex x => exact h
  | st => exact h
theorem Out.bnd (hB : Back Re2) (h : Out K W Re2 F H σ ρ Q2 (r.bnd f)) :
    Out K W Re F H σ ρ (fun b H1 => ∃ F1 ρ1 a, Wd K F1 H1 σ ρ1 ∧ Re H F1 H1 σ ρ1 b a ∧ Gr F H (Ft σ ρ) F1 H1 (Ft σ ρ1) ∧ Out K W Re2 F1 H1 σ ρ1 Q2 (f a ρ1)) r := by
  cases r with
  | ok a ρ' => exact fun b F' H' g' w re => ⟨F', ρ', a, w, re, g', Out.pre hB g' h⟩
  | ex x => exact h
  | st => exact h
end

/-! ### lifts -/
def lift (K : PySem.W.Frag) (W : XW) (te : DE) : TE := fun σ H Q => ∃ F ρ, Wd K F H σ ρ ∧ Out K W (RelD K) F H σ ρ Q (te ρ)
def liftV (K : PySem.W.Frag) (W : XW) (te : DV) : TE := fun σ H Q => ∃ F ρ, Wd K F H σ ρ ∧ Out K W (RelV K) F H σ ρ Q (te ρ)
def liftT (K : PySem.W.Frag) (W : XW) (te : DT) : TT := fun σ H Q => ∃ F ρ, Wd K F H σ ρ ∧ Out K W RelB F H σ ρ Q (te ρ)
section
variable {X : Cx} {e : Expr}
theorem PE.imp {t t' : TE} (h : PE X e t) (k : ∀ σ H Q, t' σ H Q → t σ H Q) : PE X e t' := ⟨fun pins s σ H Q I hw => h.run pins s σ H Q I (k σ H Q hw)⟩
theorem PT.imp {t t' : TT} (h : PT X e t) (k : ∀ σ H Q, t' σ H Q → t σ H Q) : PT X e t' := ⟨fun pins s σ H Q I hw => h.run pins s σ H Q I (k σ H Q hw)⟩
theorem PW.imp {t t' : TT} (h : PW X e t) (k : ∀ σ H Q, t' σ H Q → t σ H Q) : PW X e t' := ⟨fun wh pins s σ H Q I hw => h.run wh pins s σ H Q I (k σ H Q hw)⟩
end

/-! ### names, constants -/
def dVar (i : Nat) : DE := fun ρ => match ρ[i]? with
  | some (.d x) => .ok x ρ
  | some (.l xs) => .ok (.list xs) (ρ.set i (.d (.list xs)))
  | _ => .st
def dC (d : PyData) : DE := fun ρ => .ok d ρ
section
variable {K : PySem.W.Frag} {W : XW} {F H : Hp} {σ : St} {ρ : Ev}
theorem get_set {α : Type} {l : List α} {i j : Nat} {a b : α} (h : (l.set i a)[j]? = some b) : (j = i ∧ b = a) ∨ (j ≠ i ∧ l[j]? = some b) := by
  by_cases e : i = j
  · subst e
    have hi : i < l.length := by
      have := (List.getElem?_eq_some_iff.mp h).1
      simpa using this
    rw [List.getElem?_set_self hi] at h
    exact .inl ⟨rfl, (Option.some.inj h).symm⟩
  · rw [List.getElem?_set_ne e] at h
    exact .inr ⟨fun z => e z.symm, h⟩
theorem set_ft {i : Nat} {s : Sl} (ns : ownS s = false) {a : Addr} (h : Ft σ (ρ.set i s) a) : Ft σ ρ a := by
  obtain ⟨j, t, h1, h2, h3⟩ := h
  rcases get_set h1 with ⟨rfl, rfl⟩ | ⟨_, h1⟩
  · rw [ns] at h2; cases h2
  · exact ⟨j, t, h1, h2, h3⟩
/-- an own list becomes data -/
theorem Wd.freeze (w : Wd K F H σ ρ) {i : Nat} {xs : List PyData} (h : ρ[i]? = some (.l xs)) :
    ∃ p F', σ[i]? = some (some (V.ref p)) ∧ Rp K F' (.list xs) (.ref p) ∧ Gr F H (Ft σ ρ) F' H (Ft σ (ρ.set i (.d (.list xs)))) ∧ Wd K F' H σ (ρ.set i (.d (.list xs))) := by
  obtain ⟨o, h1, p, rfl, vs, hp, fp, ra⟩ := w.get h
  have sm : Same F (upd F p (.lst vs)) := same_upd fp
  have rp : Rp K (upd F p (.lst vs)) (.list xs) (.ref p) := ⟨p, vs, rfl, upd_same, RpAll.mono sm _ _ ra⟩
  have mp : Ft σ ρ p := ⟨i, _, h, rfl, h1⟩
  refine ⟨p, upd F p (.lst vs), h1, rp, ⟨sm, fun a o h _ => h, fun a o h => ⟨o, h⟩, fun a o h f n => ?_, fun a z => .inl (set_ft rfl z)⟩, ⟨fun a o z => ?_, ?_, fun j o s e1 e2 => ?_, fun j k s t a e1 e2 e3 e4 e5 e6 => ?_⟩⟩
  · rw [upd_ne (fun z => n (by rw [z]; exact mp))]; exact f
  · by_cases e : a = p
    · subst e; rw [upd_same] at z; rw [hp]; exact z
    · rw [upd_ne e] at z; exact w.ex a o z
  · simpa using w.len
  · rcases get_set e2 with ⟨rfl, rfl⟩ | ⟨ne, e2⟩
    · rw [h1] at e1
      cases e1
      exact ⟨_, rfl, rp⟩
    · refine (w.at_ j o s e1 e2).keep sm fun q hw ho => ⟨rfl, ?_⟩
      have nq : q ≠ p := fun z => ne (w.sep j i s _ p e2 hw h rfl (by rw [e1, ho, z]) h1)
      rw [upd_ne nq]
      exact (w.ft_there ⟨j, s, e2, hw, by rw [e1, ho]⟩).2
  · rcases get_set e1 with ⟨rfl, rfl⟩ | ⟨_, e1⟩
    · cases e2
    · rcases get_set e3 with ⟨rfl, rfl⟩ | ⟨_, e3⟩
      · cases e4
      · exact w.sep j k s t a e1 e2 e3 e4 e5 e6
end
section
variable {X : Cx} {W : XW} {a b c : Expr} {ta tb : DE} {pos : Pos}
theorem px_var (i : Nat) {x : Str} (h : PE X (.Name x pos) (tVar i)) : PE X (.Name x pos) (lift X.K W (dVar i)) := by
  refine PE.imp h fun σ H Q h => ?_
  obtain ⟨F, ρ, w, h⟩ := h
  unfold dVar at h
  split at h
  · rename_i x e
    obtain ⟨o, h1, v, rfl, r⟩ := w.get e
    exact ⟨v, h1, h v F H .refl w r⟩
  · rename_i xs e
    obtain ⟨p, F', h1, r, g, w'⟩ := w.freeze e
    exact ⟨_, h1, h _ F' H g w' r⟩
  · exact h.elim
theorem px_c {v : V} {d : PyData} (h : PE X a (tC v)) (r : ∀ F, Rp X.K F d v) : PE X a (lift X.K W (dC d)) :=
  PE.imp h fun σ H Q ⟨F, ρ, w, h⟩ => h v F H .refl w (r F)
theorem px_int {i j} : PE X (.Constant (.int i) j pos) (lift X.K W (dC (.int i))) := px_c pe_int fun _ => rfl
theorem px_bl {b j} : PE X (.Constant (.bool b) j pos) (lift X.K W (dC (.bool b))) := px_c pe_bl fun _ => rfl
theorem px_non {j} : PE X (.Constant .none j pos) (lift X.K W (dC .none)) := px_c pe_non fun _ => rfl
theorem px_str {x j} : PE X (.Constant (.str x) j pos) (lift X.K W (dC (.str x))) := px_c pe_str fun _ => rfl
theorem px_gl {x : Str} {v : V} {u : Value} {d : PyData} (hg : Gl X x) (hm : X.mg x = some u) (r : L2.RelV v u) (rd : ∀ F, Rp X.K F d v) (hd : (x == ("__debug__" : Str)) = false := by decide) : PE X (.Name x pos) (lift X.K W (dC d)) := px_c (pe_glob hg hm r hd) rd

/-! ### operators -/
abbrev F2 := PyData → PyData → Option PyData
def dOp (f : F2) (ta tb : DE) : DE := fun ρ => (ta ρ).bnd fun x ρ1 => (tb ρ1).bnd fun y ρ2 => match f x y with
  | some z => .ok z ρ2
  | none => .st
def OpD (K : PySem.W.Frag) (r : R2) (f : F2) : Prop := ∀ (F H : Hp) (v u : V) (x y z : PyData) (Q : VK), Same F H → Rp K F x v → Rp K F y u → f x y = some z →
  (∀ w F' H', Gz F H F' H' → Rp K F' z w → Q w H') → r v u H Q
theorem op_run {r : R2} {f : F2} (hf : OpD X.K r f) {σ : St} {H : Hp} {Q : VK} (h : lift X.K W (dOp f ta tb) σ H Q) : tOp r (lift X.K W ta) (lift X.K W tb) σ H Q := by
  obtain ⟨F, ρ, w, h⟩ := h
  refine ⟨F, ρ, w, (Out.bnd back_D h).imp ?_⟩
  rintro v H1 ⟨F1, ρ1, x, w1, r1, g1, h1⟩
  refine ⟨F1, ρ1, w1, (Out.bnd back_D h1).imp ?_⟩
  rintro u H2 ⟨F2, ρ2, y, w2, r2, g2, h2⟩
  cases e : f x y with
  | none => rw [e] at h2; exact h2.elim
  | some z =>
    rw [e] at h2
    exact hf F2 H2 v u x y z Q w2.ex (Rp.mono g2.ex _ _ r1) r2 e fun w' F' H' g rp => h2 w' F' H' g.gr (w2.gz g) rp
theorem px_op {op : Operator} {r : R2} {f : F2} (ho : OpR X (binaryOp op) r) (hf : OpD X.K r f) (ha : PE X a (lift X.K W ta)) (hb : PE X b (lift X.K W tb)) : PE X (.BinOp a op b pos) (lift X.K W (dOp f ta tb)) :=
  PE.imp (pe_op ho ha hb) fun σ H Q h => op_run hf h
theorem px_cmp {op : CmpOp} {r : R2} {f : F2} (ho : OpR X (compareOp op) r) (hf : OpD X.K r f) (ha : PE X a (lift X.K W ta)) (hb : PE X b (lift X.K W tb)) (hm : behindInMarks op b = false) : PE X (.Compare a [op] [b] pos) (lift X.K W (dOp f ta tb)) :=
  PE.imp (pe_cmpR ho ha hb hm) fun σ H Q h => op_run hf h
theorem px_ix {r : R2} {f : F2} (hr : IxR X r) (hf : OpD X.K r f) (ha : PE X a (lift X.K W ta)) (hb : PE X b (lift X.K W tb)) (hs : PlainIx b) : PE X (.Subscript a b pos) (lift X.K W (dOp f ta tb)) :=
  PE.imp (pe_ix hr ha hb hs) fun σ H Q h => op_run hf h
def dUn (f : PyData → Option PyData) (ta : DE) : DE := fun ρ => (ta ρ).bnd fun x ρ1 => match f x with
  | some z => .ok z ρ1
  | none => .st
def UnD (K : PySem.W.Frag) (r : V → Hp → VK → Prop) (f : PyData → Option PyData) : Prop := ∀ (F H : Hp) (v : V) (x z : PyData) (Q : VK), Same F H → Rp K F x v → f x = some z →
  (∀ w F' H', Gz F H F' H' → Rp K F' z w → Q w H') → r v H Q
theorem un_run {r : V → Hp → VK → Prop} {f : PyData → Option PyData} (hf : UnD X.K r f) {σ : St} {H : Hp} {Q : VK} (h : lift X.K W (dUn f ta) σ H Q) : lift X.K W ta σ H fun x H1 => r x H1 Q := by
  obtain ⟨F, ρ, w, h⟩ := h
  refine ⟨F, ρ, w, (Out.bnd back_D h).imp ?_⟩
  rintro v H1 ⟨F1, ρ1, x, w1, r1, g1, h1⟩
  cases e : f x with
  | none => rw [e] at h1; exact h1.elim
  | some z =>
    rw [e] at h1
    exact hf F1 H1 v x z Q w1.ex r1 e fun w' F' H' g rp => h1 w' F' H' g.gr (w1.gz g) rp
theorem px_un {op : UnaryOp} {r : V → Hp → VK → Prop} {f : PyData → Option PyData} (ho : UnR X (unaryOp op) r) (hf : UnD X.K r f) (ha : PE X a (lift X.K W ta)) : PE X (.UnaryOp op a pos) (lift X.K W (dUn f ta)) :=
  PE.imp (pe_un ho ha) fun σ H Q h => un_run hf h

/-! ### tests -/
def asB : PyData → Option Bool
  | .bool b => some b
  | _ => none
def dTst (ta : DE) : DT := fun ρ => (ta ρ).bnd fun x ρ1 => match x with
  | .bool b => .ok b ρ1
  | _ => .st
theorem tst_run {σ : St} {H : Hp} {Q : Bool → Hp → Prop} (h : liftT X.K W (dTst ta) σ H Q) : lift X.K W ta σ H fun x H1 => ∃ k, x = .bl k ∧ Q k H1 := by
  obtain ⟨F, ρ, w, h⟩ := h
  refine ⟨F, ρ, w, (Out.bnd back_B h).imp ?_⟩
  rintro v H1 ⟨F1, ρ1, x, w1, r1, g1, h1⟩
  cases x with
  | bool k => exact ⟨k, r1, h1 k F1 H1 .refl w1 rfl⟩
  | _ => exact h1.elim
/-- an expression that gives a bool, as a test -/
theorem px_tv (ha : PE X a (lift X.K W ta)) (he : ∀ whole, isTrue a X.env whole = (do let v ← whole; standAt a.pos; holding [v] (truthy v)) := by intro _; rfl) : PT X a (liftT X.K W (dTst ta)) :=
  PT.imp (pt_val ha he) fun σ H Q h => tst_run h
theorem px_tc {op : CmpOp} {r : R2} {f : F2} (ho : OpR X (compareOp op) r) (hf : OpD X.K r f) (ha : PE X a (lift X.K W ta)) (hb : PE X b (lift X.K W tb)) (hm : behindInMarks op b = false) : PT X (.Compare a [op] [b] pos) (liftT X.K W (dTst (dOp f ta tb))) := by
  refine PT.imp (pt_cmpR ho ha hb hm) fun σ H Q h => ?_
  have h2 := tst_run h
  exact op_run hf h2
variable {tA tB : DT} {rest : List Expr}
def dAnd (t u : DT) : DT := fun ρ => (t ρ).bnd fun k ρ1 => if k = true then u ρ1 else .ok false ρ1
def dOr (t u : DT) : DT := fun ρ => (t ρ).bnd fun k ρ1 => if k = true then .ok true ρ1 else u ρ1
def dNot (t : DT) : DT := fun ρ => (t ρ).bnd fun k ρ1 => .ok (!k) ρ1
theorem px_and1 (ha : PT X a (liftT X.K W tA)) : PW X (.BoolOp .And [a] pos) (liftT X.K W tA) := pw_and1 ha
theorem px_or1 (ha : PT X a (liftT X.K W tA)) : PW X (.BoolOp .Or [a] pos) (liftT X.K W tA) := pw_or1 ha
theorem px_and (ha : PT X a (liftT X.K W tA)) (hb : PW X (.BoolOp .And (b :: rest) pos) (liftT X.K W tB)) : PW X (.BoolOp .And (a :: b :: rest) pos) (liftT X.K W (dAnd tA tB)) := by
  refine PW.imp (pw_and ha hb) fun σ H Q h => ?_
  obtain ⟨F, ρ, w, h⟩ := h
  refine ⟨F, ρ, w, (Out.bnd back_B h).imp ?_⟩
  rintro v H1 ⟨F1, ρ1, x, w1, rfl, g1, h1⟩
  cases v with
  | true => exact ⟨F1, ρ1, w1, h1⟩
  | false => exact h1 false F1 H1 .refl w1 rfl
theorem px_or (ha : PT X a (liftT X.K W tA)) (hb : PW X (.BoolOp .Or (b :: rest) pos) (liftT X.K W tB)) : PW X (.BoolOp .Or (a :: b :: rest) pos) (liftT X.K W (dOr tA tB)) := by
  refine PW.imp (pw_or ha hb) fun σ H Q h => ?_
  obtain ⟨F, ρ, w, h⟩ := h
  refine ⟨F, ρ, w, (Out.bnd back_B h).imp ?_⟩
  rintro v H1 ⟨F1, ρ1, x, w1, rfl, g1, h1⟩
  cases v with
  | false => exact ⟨F1, ρ1, w1, h1⟩
  | true => exact h1 true F1 H1 .refl w1 rfl
theorem px_not (ha : PT X a (liftT X.K W tA)) : PT X (.UnaryOp .Not a pos) (liftT X.K W (dNot tA)) := by
  refine PT.imp (pt_not ha) fun σ H Q h => ?_
  obtain ⟨F, ρ, w, h⟩ := h
  refine ⟨F, ρ, w, (Out.bnd back_B h).imp ?_⟩
  rintro v H1 ⟨F1, ρ1, x, w1, rfl, g1, h1⟩
  exact h1 _ F1 H1 .refl w1 rfl
/-! .. as values -/
def dAndV (ta tb : DE) : DE := fun ρ => (ta ρ).bnd fun x ρ1 => match x with
  | .bool true => tb ρ1
  | .bool false => .ok (.bool false) ρ1
  | _ => .st
def dOrV (ta tb : DE) : DE := fun ρ => (ta ρ).bnd fun x ρ1 => match x with
  | .bool true => .ok (.bool true) ρ1
  | .bool false => tb ρ1
  | _ => .st
def dNotV (ta : DE) : DE := fun ρ => (ta ρ).bnd fun x ρ1 => match x with
  | .bool b => .ok (.bool (!b)) ρ1
  | _ => .st
theorem px_one {op} (ha : PE X a (lift X.K W ta)) : PE X (.BoolOp op [a] pos) (lift X.K W ta) := pe_one ha
theorem px_andV (ha : PE X a (lift X.K W ta)) (hb : PE X (.BoolOp .And (b :: rest) pos) (lift X.K W tb)) : PE X (.BoolOp .And (a :: b :: rest) pos) (lift X.K W (dAndV ta tb)) := by
  refine PE.imp (pe_and ha hb) fun σ H Q h => ?_
  obtain ⟨F, ρ, w, h⟩ := h
  refine ⟨F, ρ, w, (Out.bnd back_D h).imp ?_⟩
  rintro v H1 ⟨F1, ρ1, x, w1, r1, g1, h1⟩
  cases x with
  | bool k =>
    refine ⟨k, r1, ?_⟩
    cases k with
    | true => exact ⟨F1, ρ1, w1, h1⟩
    | false => exact h1 _ F1 H1 .refl w1 rfl
  | _ => exact h1.elim
theorem px_orV (ha : PE X a (lift X.K W ta)) (hb : PE X (.BoolOp .Or (b :: rest) pos) (lift X.K W tb)) : PE X (.BoolOp .Or (a :: b :: rest) pos) (lift X.K W (dOrV ta tb)) := by
  refine PE.imp (pe_or ha hb) fun σ H Q h => ?_
  obtain ⟨F, ρ, w, h⟩ := h
  refine ⟨F, ρ, w, (Out.bnd back_D h).imp ?_⟩
  rintro v H1 ⟨F1, ρ1, x, w1, r1, g1, h1⟩
  cases x with
  | bool k =>
    refine ⟨k, r1, ?_⟩
    cases k with
    | false => exact ⟨F1, ρ1, w1, h1⟩
    | true => exact h1 _ F1 H1 .refl w1 rfl
  | _ => exact h1.elim
theorem px_notV (ha : PE X a (lift X.K W ta)) : PE X (.UnaryOp .Not a pos) (lift X.K W (dNotV ta)) := by
  refine PE.imp (pe_not ha) fun σ H Q h => ?_
  obtain ⟨F, ρ, w, h⟩ := h
  refine ⟨F, ρ, w, (Out.bnd back_D h).imp ?_⟩
  rintro v H1 ⟨F1, ρ1, x, w1, r1, g1, h1⟩
  cases x with
  | bool k => exact ⟨k, r1, h1 _ F1 H1 .refl w1 rfl⟩
  | _ => exact h1.elim
def dIf {α : Type} (t : DT) (ta tb : Ev → R α) : Ev → R α := fun ρ => (t ρ).bnd fun k ρ1 => if k = true then ta ρ1 else tb ρ1
theorem px_if (hc : PT X c (liftT X.K W tA)) (ha : PE X a (lift X.K W ta)) (hb : PE X b (lift X.K W tb)) : PE X (.IfExp c a b pos) (lift X.K W (dIf tA ta tb)) := by
  refine PE.imp (pe_ifExp hc ha hb) fun σ H Q h => ?_
  obtain ⟨F, ρ, w, h⟩ := h
  refine ⟨F, ρ, w, (Out.bnd back_D h).imp ?_⟩
  rintro v H1 ⟨F1, ρ1, x, w1, rfl, g1, h1⟩
  cases v with
  | true => exact ⟨F1, ρ1, w1, h1⟩
  | false => exact ⟨F1, ρ1, w1, h1⟩
end
end Bd

set_option Elab.async false
set_option linter.all false
set_option maxRecDepth 100000
set_option maxHeartbeats 4000000
namespace Bd
open PySem PySem.Spec L2

/-! ### the operators on data -/
/-- numbers that are multiplied, divided: below 2 ^ 250 in size -/
def sm (i : Int) : Bool := decide (-(2 ^ 250) < i ∧ i < 2 ^ 250)
def fAdd : F2
  | .int i, .int j => some (.int (i + j))
  | .str a, .str b => if a.length + b.length ≤ sizeLine then some (.str (a ++ b)) else none
  | .list a, .list b => if a.length + b.length ≤ sizeLine then some (.list (a ++ b)) else none
  | .tuple a, .tuple b => if a.length + b.length ≤ sizeLine then some (.tuple (a ++ b)) else none
  | _, _ => none
def fSub : F2
  | .int i, .int j => some (.int (i - j))
  | _, _ => none
def fMul : F2
  | .int i, .int j => if sm i && sm j then some (.int (i * j)) else none
  | .list a, .int k => if 0 ≤ k ∧ k ≤ 1000 ∧ a.length ≤ 1000 then some (.list (List.replicate k.toNat a).flatten) else none
  | _, _ => none
def fDiv : F2
  | .int i, .int j => if 0 < j && sm j then some (.int (i / j)) else none
  | _, _ => none
def fMod : F2
  | .int i, .int j => if 0 < j then some (.int (i % j)) else none
  | _, _ => none
def fPow : F2
  | .int i, .int j => if 0 ≤ j ∧ j ≤ 1000000 ∧ i.natAbs < 2 ^ 64 then some (.int (i ^ j.toNat)) else none
  | _, _ => none
def fNeg : PyData → Option PyData
  | .int i => some (.int (-i))
  | _ => none
/-- data that == takes -/
def shp (d : PyData) : Bool := SeqAt.shaped d
def fEq : F2
  | .int i, .int j => some (.bool (decide (i = j)))
  | .str a, .str b => some (.bool (decide (a = b)))
  | x, y => if shp x && shp y then some (.bool (PyData.eqv x y)) else none
def fNe : F2
  | .int i, .int j => some (.bool (!decide (i = j)))
  | .str a, .str b => some (.bool (!decide (a = b)))
  | x, y => if shp x && shp y then some (.bool (!PyData.eqv x y)) else none
def fLt : F2
  | .int i, .int j => some (.bool (decide (i < j)))
  | _, _ => none
def fLe : F2
  | .int i, .int j => some (.bool (decide (i ≤ j)))
  | _, _ => none
def fGt : F2
  | .int i, .int j => some (.bool (decide (j < i)))
  | _, _ => none
def fGe : F2
  | .int i, .int j => some (.bool (decide (j ≤ i)))
  | _, _ => none
/-- is None, is True, is False -/
def fIs : F2
  | .none, .none => some (.bool true)
  | .bool _, .none => some (.bool false)
  | .int _, .none => some (.bool false)
  | .str _, .none => some (.bool false)
  | .list _, .none => some (.bool false)
  | .tuple _, .none => some (.bool false)
  | .bool a, .bool b => some (.bool (decide (a = b)))
  | _, _ => none
def fIsNot : F2
  | .none, .none => some (.bool false)
  | .bool _, .none => some (.bool true)
  | .int _, .none => some (.bool true)
  | .str _, .none => some (.bool true)
  | .list _, .none => some (.bool true)
  | .tuple _, .none => some (.bool true)
  | .bool a, .bool b => some (.bool (!decide (a = b)))
  | _, _ => none
section
variable {X : Cx}
theorem dspec {z : PyData} {Q : VK} {F H : Hp} {K : PySem.W.Frag} (s : Same F H) (h : ∀ w F' H', Gz F H F' H' → Rp K F' z w → Q w H') {w : V} (r : Rp K F z w) : Q w H := h w F H (.refl s) r
abbrev rAddA (K : PySem.W.Frag) : R2 := fun x y H Q => (rI0 (fun i j => .int (i + j)) x y H Q) ∨ ((∃ i j, x = .str i ∧ y = .str j ∧ i.length + j.length ≤ sizeLine ∧ Q (.str (i ++ j)) H) ∨ (rCat x y H Q ∨ rCatA K x y H Q))
theorem or_add : OpR X (binaryOp .Add) (rAddA X.K) := op_add.or (op_add_str.or (op_cat.or op_catA))
theorem od_add {K : PySem.W.Frag} : OpD K (rAddA K) fAdd := by
  intro F H v u x y z Q s r1 r2 e k
  cases x <;> cases y <;> simp only [fAdd] at e <;> try (cases e; done)
  · cases r1; cases r2; cases e
    exact .inl ⟨_, _, rfl, rfl, dspec s k rfl⟩
  · cases r1; cases r2
    split at e
    · rename_i h
      cases e
      exact .inr (.inl ⟨_, _, rfl, rfl, h, dspec s k rfl⟩)
    · cases e
  · split at e
    · rename_i xs ys h
      cases e
      obtain ⟨a, vs, rfl, h1, ra⟩ := r1
      obtain ⟨b, us, rfl, h2, rb⟩ := r2
      refine .inr (.inr (.inl ⟨a, b, vs, us, rfl, rfl, s _ _ h1, s _ _ h2, by rw [ra.length, rb.length]; exact h, fun p hp => ?_⟩))
      have g : Gz F H (upd F p (.lst (vs ++ us))) (upd H p (.lst (vs ++ us))) := .new s hp
      exact k _ _ _ g ⟨p, _, rfl, upd_same, (RpAll.mono g.ex _ _ ra).append (RpAll.mono g.ex _ _ rb)⟩
    · cases e
  · split at e
    · rename_i xs ys h
      cases e
      obtain ⟨a, vs, rfl, h1, ra⟩ := r1
      obtain ⟨b, us, rfl, h2, rb⟩ := r2
      refine .inr (.inr (.inr ⟨a, b, vs, us, rfl, rfl, seqT s h1, seqT s h2, by rw [ra.length, rb.length]; exact h, fun n => ?_, fun n m => ?_, fun n m p hp => ?_⟩))
      · subst n
        have : xs = [] := List.eq_nil_of_length_eq_zero (by rw [← ra.length]; rfl)
        subst this
        exact dspec s k ⟨b, us, rfl, h2, rb⟩
      · subst m
        have : ys = [] := List.eq_nil_of_length_eq_zero (by rw [← rb.length]; rfl)
        subst this
        rw [List.append_nil] at k
        exact dspec s k ⟨a, vs, rfl, h1, ra⟩
      · have g : Gz F H (upd F p (.tup (vs ++ us))) (upd H p (.tup (vs ++ us))) := .new s hp
        exact k _ _ _ g ⟨p, _, rfl, SqT.of upd_same, (RpAll.mono g.ex _ _ ra).append (RpAll.mono g.ex _ _ rb)⟩
    · cases e
theorem RpAll.rep {K : PySem.W.Frag} {F : Hp} {ds : List PyData} {vs : List V} (h : RpAll K F ds vs) : ∀ m : Nat, RpAll K F (List.replicate m ds).flatten (List.replicate m vs).flatten
  | 0 => rfl
  | m + 1 => by rw [List.replicate_succ, List.replicate_succ, List.flatten_cons, List.flatten_cons]; exact h.append (h.rep m)
theorem sm_log {i : Int} (h : sm i = true) : i.natAbs.log2 < 1000 := by
  have h' := of_decide_eq_true h
  by_cases h0 : i.natAbs = 0
  · rw [h0]; decide
  · refine Nat.lt_trans ((Nat.log2_lt h0).mpr (show i.natAbs < 2 ^ 250 by omega)) (by decide)
theorem od_sub {K : PySem.W.Frag} : OpD K (rI0 fun i j => .int (i - j)) fSub := by
  intro F H v u x y z Q s r1 r2 e k
  cases x <;> cases y <;> simp only [fSub] at e <;> try (cases e; done)
  cases r1; cases r2; cases e
  exact ⟨_, _, rfl, rfl, dspec s k rfl⟩
theorem or_mul : OpR X (binaryOp .Mult) (fun x y H Q => rI CMulW (fun i j => .int (i * j)) x y H Q ∨ rRep x y H Q) := op_mulW.or op_rep
theorem od_mul {K : PySem.W.Frag} : OpD K (fun x y H Q => rI CMulW (fun i j => .int (i * j)) x y H Q ∨ rRep x y H Q) fMul := by
  intro F H v u x y z Q s r1 r2 e k
  cases x <;> cases y <;> simp only [fMul] at e <;> try (cases e; done)
  · cases r1; cases r2
    split at e
    · rename_i h
      cases e
      rw [Bool.and_eq_true] at h
      have h1 := sm_log h.1
      have h2 := sm_log h.2
      exact .inl ⟨_, _, rfl, rfl, (by unfold CMulW; omega), dspec s k rfl⟩
    · cases e
  · split at e
    · rename_i xs n h
      cases e
      cases r2
      obtain ⟨a, vs, rfl, h1, ra⟩ := r1
      refine .inr ⟨a, n, vs, rfl, rfl, s _ _ h1, by omega, by omega, ?_, fun p hp => ?_⟩
      · have : vs.length * n.toNat ≤ 1000 * 1000 := Nat.mul_le_mul (by rw [ra.length]; omega) (by omega)
        exact Nat.le_trans this (by decide)
      · have g : Gz F H (upd F p (.lst (List.replicate n.toNat vs).flatten)) (upd H p (.lst (List.replicate n.toNat vs).flatten)) := .new s hp
        exact k _ _ _ g ⟨p, _, rfl, upd_same, (RpAll.mono g.ex _ _ ra).rep _⟩
    · cases e
theorem od_div {K : PySem.W.Frag} : OpD K (rI CDivW fun i j => .int (i / j)) fDiv := by
  intro F H v u x y z Q s r1 r2 e k
  cases x <;> cases y <;> simp only [fDiv] at e <;> try (cases e; done)
  cases r1; cases r2
  split at e
  · rename_i h
    cases e
    rw [Bool.and_eq_true] at h
    have h2 := sm_log h.2
    exact ⟨_, _, rfl, rfl, ⟨of_decide_eq_true h.1, by omega⟩, dspec s k rfl⟩
  · cases e
theorem od_mod {K : PySem.W.Frag} : OpD K (rI (fun _ j => 0 < j) fun i j => .int (i % j)) fMod := by
  intro F H v u x y z Q s r1 r2 e k
  cases x <;> cases y <;> simp only [fMod] at e <;> try (cases e; done)
  cases r1; cases r2
  split at e
  · rename_i h
    cases e
    exact ⟨_, _, rfl, rfl, h, dspec s k rfl⟩
  · cases e
theorem od_pow {K : PySem.W.Frag} : OpD K (rI CPow fun i j => .int (i ^ j.toNat)) fPow := by
  intro F H v u x y z Q s r1 r2 e k
  cases x <;> cases y <;> simp only [fPow] at e <;> try (cases e; done)
  cases r1; cases r2
  split at e
  · rename_i h
    cases e
    exact ⟨_, _, rfl, rfl, h, dspec s k rfl⟩
  · cases e
theorem ud_neg {K : PySem.W.Frag} : UnD K (rU fun i => .int (-i)) fNeg := by
  intro F H v x z Q s r1 e k
  cases x <;> simp only [fNeg] at e <;> try (cases e; done)
  cases r1; cases e
  exact ⟨_, rfl, dspec s k rfl⟩
abbrev rEqA (K : PySem.W.Frag) : R2 := fun x y H Q => rEq x y H Q ∨ rEqD K x y H Q
abbrev rNeA (K : PySem.W.Frag) : R2 := fun x y H Q => rNe x y H Q ∨ rNeD K x y H Q
theorem or_eq {k : Nat} (hr : Room k X.A) : OpR X (compareOp .Eq) (rEqA X.K) := op_eq.or (op_eqD hr.units)
theorem or_ne {k : Nat} (hr : Room k X.A) : OpR X (compareOp .NotEq) (rNeA X.K) := op_ne.or (op_neD hr.units)
theorem od_eq {K : PySem.W.Frag} : OpD K (rEqA K) fEq := by
  intro F H v u x y z Q s r1 r2 e k
  unfold fEq at e
  split at e
  · cases r1; cases r2; cases e
    rename_i i j
    refine .inl ⟨rfl, dspec s k ?_⟩
    rw [dec_int, Bool.beq_eq_decide_eq]
    exact rfl
  · cases r1; cases r2; cases e
    refine .inl ⟨rfl, dspec s k ?_⟩
    rw [dec_str, Bool.beq_eq_decide_eq]
    exact rfl
  · split at e
    · rename_i h
      cases e
      rw [Bool.and_eq_true] at h
      exact .inr ⟨x, y, (Rp.mono s _ _ r1).dp, (Rp.mono s _ _ r2).dp, h.1, h.2, dspec s k rfl⟩
    · cases e
theorem od_ne {K : PySem.W.Frag} : OpD K (rNeA K) fNe := by
  intro F H v u x y z Q s r1 r2 e k
  unfold fNe at e
  split at e
  · cases r1; cases r2; cases e
    rename_i i j
    refine .inl ⟨rfl, dspec s k ?_⟩
    rw [dec_int, Bool.beq_eq_decide_eq]
    exact rfl
  · cases r1; cases r2; cases e
    refine .inl ⟨rfl, dspec s k ?_⟩
    rw [dec_str, Bool.beq_eq_decide_eq]
    exact rfl
  · split at e
    · rename_i h
      cases e
      rw [Bool.and_eq_true] at h
      exact .inr ⟨x, y, (Rp.mono s _ _ r1).dp, (Rp.mono s _ _ r2).dp, h.1, h.2, dspec s k rfl⟩
    · cases e
theorem od_lt {K : PySem.W.Frag} : OpD K (rI0 fun i j => .bl (decide (i < j))) fLt := by
  intro F H v u x y z Q s r1 r2 e k
  cases x <;> cases y <;> simp only [fLt] at e <;> try (cases e; done)
  cases r1; cases r2; cases e
  exact ⟨_, _, rfl, rfl, dspec s k rfl⟩
theorem od_le {K : PySem.W.Frag} : OpD K (rI0 fun i j => .bl (decide (i ≤ j))) fLe := by
  intro F H v u x y z Q s r1 r2 e k
  cases x <;> cases y <;> simp only [fLe] at e <;> try (cases e; done)
  cases r1; cases r2; cases e
  exact ⟨_, _, rfl, rfl, dspec s k rfl⟩
theorem od_gt {K : PySem.W.Frag} : OpD K (rI0 fun i j => .bl (decide (j < i))) fGt := by
  intro F H v u x y z Q s r1 r2 e k
  cases x <;> cases y <;> simp only [fGt] at e <;> try (cases e; done)
  cases r1; cases r2; cases e
  exact ⟨_, _, rfl, rfl, dspec s k rfl⟩
theorem od_ge {K : PySem.W.Frag} : OpD K (rI0 fun i j => .bl (decide (j ≤ i))) fGe := by
  intro F H v u x y z Q s r1 r2 e k
  cases x <;> cases y <;> simp only [fGe] at e <;> try (cases e; done)
  cases r1; cases r2; cases e
  exact ⟨_, _, rfl, rfl, dspec s k rfl⟩
abbrev rIsA : R2 := fun x y H Q => (y = .non ∧ Q (.bl (decide (x = .non))) H) ∨ (∃ a b, x = .bl a ∧ y = .bl b ∧ Q (.bl (decide (a = b))) H)
abbrev rIsNotA : R2 := fun x y H Q => (y = .non ∧ Q (.bl (!decide (x = .non))) H) ∨ (∃ a b, x = .bl a ∧ y = .bl b ∧ Q (.bl (!decide (a = b))) H)
theorem or_is : OpR X (compareOp .Is) rIsA := op_isN.or op_is_bl
theorem or_isnot : OpR X (compareOp .IsNot) rIsNotA := op_notN.or op_isnot_bl
theorem od_is {K : PySem.W.Frag} : OpD K rIsA fIs := by
  intro F H v u x y z Q s r1 r2 e k
  unfold fIs at e
  split at e <;> cases e <;> cases r2
  · cases r1; exact .inl ⟨rfl, dspec s k rfl⟩
  · cases r1; exact .inl ⟨rfl, dspec s k rfl⟩
  · cases r1; exact .inl ⟨rfl, dspec s k rfl⟩
  · cases r1; exact .inl ⟨rfl, dspec s k rfl⟩
  · obtain ⟨a, b, rfl, _⟩ := r1; exact .inl ⟨rfl, dspec s k rfl⟩
  · obtain ⟨a, b, rfl, _⟩ := r1; exact .inl ⟨rfl, dspec s k rfl⟩
  · cases r1; exact .inr ⟨_, _, rfl, rfl, dspec s k rfl⟩
theorem od_isnot {K : PySem.W.Frag} : OpD K rIsNotA fIsNot := by
  intro F H v u x y z Q s r1 r2 e k
  unfold fIsNot at e
  split at e <;> cases e <;> cases r2
  · cases r1; exact .inl ⟨rfl, dspec s k rfl⟩
  · cases r1; exact .inl ⟨rfl, dspec s k rfl⟩
  · cases r1; exact .inl ⟨rfl, dspec s k rfl⟩
  · cases r1; exact .inl ⟨rfl, dspec s k rfl⟩
  · obtain ⟨a, b, rfl, _⟩ := r1; exact .inl ⟨rfl, dspec s k rfl⟩
  · obtain ⟨a, b, rfl, _⟩ := r1; exact .inl ⟨rfl, dspec s k rfl⟩
  · cases r1; exact .inr ⟨_, _, rfl, rfl, dspec s k rfl⟩
end
end Bd

set_option Elab.async false
set_option linter.all false
set_option maxRecDepth 100000
set_option maxHeartbeats 4000000
namespace Bd
open PySem PySem.Spec L2

/-! ### items, slices -/
def fIx : F2
  | .list xs, .int i => atI xs i
  | .tuple xs, .int i => atI xs i
  | .str s, .int i => if s.length ≤ sizeLine then (atI s.cps.toList i).map (fun c => .str ⟨#[c]⟩) else none
  | _, _ => none
theorem atI_rp {K : PySem.W.Frag} {F : Hp} {ds : List PyData} {vs : List V} {i : Int} {d : PyData} (h : RpAll K F ds vs) (e : atI ds i = some d) : ∃ v, atI vs i = some v ∧ Rp K F d v := by
  unfold atI at e ⊢
  rw [h.length]
  cases q : ixN ds.length i with
  | none => rw [q] at e; cases e
  | some j =>
    rw [q] at e
    exact h.get (i := j) e
section
variable {X : Cx}
theorem od_ix {K : PySem.W.Frag} : OpD K (rIx K) fIx := by
  intro F H v u x y z Q s r1 r2 e k
  unfold fIx at e
  split at e
  · cases r2
    obtain ⟨a, vs, rfl, h1, ra⟩ := r1
    obtain ⟨w, h2, r⟩ := atI_rp ra e
    exact .inl ⟨a, vs, _, w, rfl, rfl, SqL.of (s _ _ h1), h2, dspec s k r⟩
  · cases r2
    obtain ⟨a, vs, rfl, h1, ra⟩ := r1
    obtain ⟨w, h2, r⟩ := atI_rp ra e
    exact .inr (.inl ⟨a, vs, _, w, rfl, rfl, seqT s h1, h2, dspec s k r⟩)
  · cases r1; cases r2
    split at e
    · rename_i hl
      cases q : atI _ _ with
      | none => rw [q] at e; cases e
      | some c =>
        rw [q] at e
        cases e
        exact .inr (.inr ⟨_, _, c, rfl, rfl, hl, q, dspec s k rfl⟩)
    · cases e
  · cases e
def cutD {α : Type} (xs : List α) (lo hi : Option Int) : List α := (xs.drop (HT.sIx xs.length 0 lo)).take (HT.sIx xs.length xs.length hi - HT.sIx xs.length 0 lo)
def fSl (x : PyData) (lo hi : Option Int) : Option PyData := match x with
  | .list xs => some (.list (cutD xs lo hi))
  | .tuple xs => some (.tuple (cutD xs lo hi))
  | .str z => if z.length ≤ sizeLine then some (.str (cutS z lo hi)) else none
  | _ => none
theorem RpAll.cut {K : PySem.W.Frag} {F : Hp} {ds : List PyData} {vs : List V} (h : RpAll K F ds vs) (lo hi : Option Int) : RpAll K F (cutD ds lo hi) (cutV vs lo hi) := by
  unfold cutD cutV
  rw [h.length]
  exact (h.drop _).take _
abbrev DO := Ev → R (Option Int)
def RelO : Rel (Option Int) (Option Int) := fun _ _ _ _ _ b a => b = a
theorem back_O : Back RelO := fun _ _ _ _ _ _ _ _ _ h => h
def liftO (K : PySem.W.Frag) (W : XW) (to : DO) : TO := fun σ H Q => ∃ F ρ, Wd K F H σ ρ ∧ Out K W RelO F H σ ρ Q (to ρ)
theorem PO.imp {e : Option Expr} {t t' : TO} (h : PO X e t) (k : ∀ σ H Q, t' σ H Q → t σ H Q) : PO X e t' := ⟨fun pins s σ H Q I hw => h.run pins s σ H Q I (k σ H Q hw)⟩
def dNoP : DO := fun ρ => .ok none ρ
def dP (ta : DE) : DO := fun ρ => (ta ρ).bnd fun x ρ1 => match x with
  | .int i => .ok (some i) ρ1
  | _ => .st
variable {W : XW} {e : Expr} {lo hi : Option Expr} {te : DE} {tl th : DO} {pos p2 : Pos}
theorem px_nop : PO X none (liftO X.K W dNoP) := PO.imp po_none fun σ H Q ⟨F, ρ, w, h⟩ => h none F H .refl w rfl
theorem px_p (he : PE X e (lift X.K W te)) : PO X (some e) (liftO X.K W (dP te)) := by
  refine PO.imp (po_some he) fun σ H Q h => ?_
  obtain ⟨F, ρ, w, h⟩ := h
  refine ⟨F, ρ, w, (Out.bnd back_O h).imp ?_⟩
  rintro v H1 ⟨F1, ρ1, x, w1, r1, g1, h1⟩
  cases x with
  | int k => exact ⟨k, r1, h1 _ F1 H1 .refl w1 rfl⟩
  | _ => exact h1.elim
def dSl (te : DE) (tl th : DO) : DE := fun ρ => (te ρ).bnd fun x ρ1 => (tl ρ1).bnd fun a ρ2 => (th ρ2).bnd fun b ρ3 => match fSl x a b with
  | some z => .ok z ρ3
  | none => .st
theorem px_sl (he : PE X e (lift X.K W te)) (hl : PO X lo (liftO X.K W tl)) (hu : PO X hi (liftO X.K W th)) : PE X (.Subscript e (.Slice lo hi none p2) pos) (lift X.K W (dSl te tl th)) := by
  refine PE.imp (pe_slice (sl_list.or (sl_tupA.or sl_str)) he hl hu) fun σ H Q h => ?_
  obtain ⟨F, ρ, w, h⟩ := h
  refine ⟨F, ρ, w, (Out.bnd back_D h).imp ?_⟩
  rintro v H1 ⟨F1, ρ1, x, w1, r1, g1, h1⟩
  refine ⟨F1, ρ1, w1, (Out.bnd back_D h1).imp ?_⟩
  rintro b2 H2 ⟨F2, ρ2, a, w2, rfl, g2, h2⟩
  refine ⟨F2, ρ2, w2, (Out.bnd back_D h2).imp ?_⟩
  rintro b3 H3 ⟨F3, ρ3, b, w3, rfl, g3, h3⟩
  have r3 := Rp.mono (g2.trans g3).ex _ _ r1
  unfold fSl at h3
  cases x with
  | list xs =>
    obtain ⟨a, vs, rfl, f1, ra⟩ := r3
    refine .inl ⟨a, vs, rfl, SqL.of (w3.ex _ _ f1), fun p hp => ?_⟩
    have g : Gz F3 H3 (upd F3 p (.lst (cutV vs b2 b3))) (upd H3 p (.lst (cutV vs b2 b3))) := .new w3.ex hp
    exact h3 _ _ _ g.gr (w3.gz g) ⟨p, _, rfl, upd_same, (RpAll.mono g.ex _ _ ra).cut _ _⟩
  | tuple xs =>
    obtain ⟨a, vs, rfl, f1, ra⟩ := r3
    refine .inr (.inl ⟨a, vs, rfl, seqT w3.ex f1, fun hw => ?_, fun hw p hp => ?_⟩)
    · refine h3 _ _ _ .refl w3 ⟨a, vs, rfl, f1, ?_⟩
      have e : cutV vs b2 b3 = vs := by
        unfold cutV
        rw [hw.1, hw.2, List.drop_zero, Nat.sub_zero, List.take_length]
      have := ra.cut b2 b3
      rw [e] at this
      exact this
    · have g : Gz F3 H3 (upd F3 p (.tup (cutV vs b2 b3))) (upd H3 p (.tup (cutV vs b2 b3))) := .new w3.ex hp
      exact h3 _ _ _ g.gr (w3.gz g) ⟨p, _, rfl, SqT.of upd_same, (RpAll.mono g.ex _ _ ra).cut _ _⟩
  | str z =>
    cases r3
    simp only [] at h3
    split at h3
    · rename_i e
      split at e
      · rename_i hz
        cases e
        exact .inr (.inr ⟨_, rfl, hz, h3 _ F3 H3 .refl w3 rfl⟩)
      · cases e
    · exact h3.elim
  | _ => exact h3.elim
end

/-! ### argument lists, displays -/
abbrev DA := Ev → R (List PyData)
def RelA (K : PySem.W.Frag) : Rel (List PyData) (List V) := fun _ F' _ _ _ vs ds => RpAll K F' ds vs
theorem back_A {K : PySem.W.Frag} : Back (RelA K) := fun _ _ _ _ _ _ _ _ _ h => h
def liftA (K : PySem.W.Frag) (W : XW) (ta : DA) : TA := fun σ H Q => ∃ F ρ, Wd K F H σ ρ ∧ Out K W (RelA K) F H σ ρ Q (ta ρ)
def dArgs : List DE → DA
  | [] => fun ρ => .ok [] ρ
  | t :: ts => fun ρ => (t ρ).bnd fun d ρ1 => (dArgs ts ρ1).bnd fun ds ρ2 => .ok (d :: ds) ρ2
theorem dArgs_len : ∀ {ts : List DE} {ρ ρ' : Ev} {ds : List PyData}, dArgs ts ρ = .ok ds ρ' → ds.length = ts.length
  | [], ρ, ρ', ds, h => by cases h; rfl
  | t :: ts, ρ, ρ', ds, h => by
    unfold dArgs R.bnd at h
    cases q : t ρ with
    | ok d ρ1 =>
      rw [q] at h
      simp only [] at h
      cases q2 : dArgs ts ρ1 with
      | ok es ρ2 =>
        rw [q2] at h
        cases h
        simp [dArgs_len q2]
      | ex x => rw [q2] at h; cases h
      | st => rw [q2] at h; cases h
    | ex x => rw [q] at h; cases h
    | st => rw [q] at h; cases h
section
variable {X : Cx} {W : XW} {e : Expr} {es : List Expr} {te : DE} {ts : List DE} {pos : Pos}
theorem PA.imp {t t' : TA} (h : PA X es t) (k : ∀ σ H Q, t' σ H Q → t σ H Q) : PA X es t' := ⟨fun ps pins s σ H Q I hw => h.run ps pins s σ H Q I (k σ H Q hw)⟩
theorem px_nil : PA X [] (liftA X.K W (dArgs [])) := PA.imp pa_nil fun σ H Q ⟨F, ρ, w, h⟩ => h [] F H .refl w rfl
theorem px_cons (ha : PE X e (lift X.K W te)) (hr : PA X es (liftA X.K W (dArgs ts))) (hs : starEach (e :: es) X.env = (false, eval e X.env) :: starEach es X.env := by rfl) : PA X (e :: es) (liftA X.K W (dArgs (te :: ts))) := by
  refine PA.imp (pa_cons ha hr hs) fun σ H Q h => ?_
  obtain ⟨F, ρ, w, h⟩ := h
  refine ⟨F, ρ, w, (Out.bnd back_A h).imp ?_⟩
  rintro v H1 ⟨F1, ρ1, x, w1, r1, g1, h1⟩
  refine ⟨F1, ρ1, w1, (Out.bnd back_A h1).imp ?_⟩
  rintro vs H2 ⟨F2, ρ2, ds, w2, r2, g2, h2⟩
  exact h2 _ F2 H2 .refl w2 ⟨v, vs, rfl, Rp.mono g2.ex _ _ r1, r2⟩
def dTup (ts : List DE) : DE := fun ρ => (dArgs ts ρ).bnd fun ds ρ1 => .ok (.tuple ds) ρ1
def dLst (ts : List DE) : DE := fun ρ => (dArgs ts ρ).bnd fun ds ρ1 => .ok (.list ds) ρ1
def dLstV (ts : List DE) : DV := fun ρ => (dArgs ts ρ).bnd fun ds ρ1 => .ok (.l ds) ρ1
theorem args_run {K : PySem.W.Frag} {α β : Type} {Re : Rel α β} {F H : Hp} {σ : St} {ρ : Ev} {Q : β → Hp → Prop} {g : List PyData → Ev → R α} (hB : Back Re) (h : Out K W Re F H σ ρ Q ((dArgs ts ρ).bnd g)) :
    Out K W (RelA K) F H σ ρ (fun vs H1 => ∃ F1 ρ1 ds, Wd K F1 H1 σ ρ1 ∧ RpAll K F1 ds vs ∧ ds.length = ts.length ∧ Gr F H (Ft σ ρ) F1 H1 (Ft σ ρ1) ∧ Out K W Re F1 H1 σ ρ1 Q (g ds ρ1)) (dArgs ts ρ) := by
  cases q : dArgs ts ρ with
  | ok ds ρ1 =>
    rw [q] at h
    exact fun b F' H' g' w re => ⟨F', ρ1, ds, w, re, dArgs_len q, g', Out.pre hB g' h⟩
  | ex x => rw [q] at h; exact h
  | st => rw [q] at h; exact h
theorem px_tup {k : Nat} (h : PA X es (liftA X.K W (dArgs ts))) (hz : ts.length ≤ 1000 := by decide) : PE X (.Tuple es k pos) (lift X.K W (dTup ts)) := by
  refine PE.imp (pe_tup h) fun σ H Q h => ?_
  obtain ⟨F, ρ, w, h⟩ := h
  refine ⟨F, ρ, w, (args_run back_D h).imp ?_⟩
  rintro vs H1 ⟨F1, ρ1, ds, w1, r1, hl, g1, h1⟩
  refine ⟨by rw [r1.length, hl]; exact Nat.le_of_lt (small1000 hz), fun p hp => ?_⟩
  have g : Gz F1 H1 (upd F1 p (.tup vs)) (upd H1 p (.tup vs)) := .new w1.ex hp
  exact h1 _ _ _ g.gr (w1.gz g) ⟨p, vs, rfl, SqT.of upd_same, RpAll.mono g.ex _ _ r1⟩
theorem px_lst (h : PA X es (liftA X.K W (dArgs ts))) (hz : ts.length ≤ 1000 := by decide) : PE X (.List es pos) (lift X.K W (dLst ts)) := by
  refine PE.imp (pe_lst h) fun σ H Q h => ?_
  obtain ⟨F, ρ, w, h⟩ := h
  refine ⟨F, ρ, w, (args_run back_D h).imp ?_⟩
  rintro vs H1 ⟨F1, ρ1, ds, w1, r1, hl, g1, h1⟩
  refine ⟨by rw [r1.length, hl]; exact Nat.le_of_lt (small1000 hz), fun p hp => ?_⟩
  have g : Gz F1 H1 (upd F1 p (.lst vs)) (upd H1 p (.lst vs)) := .new w1.ex hp
  exact h1 _ _ _ g.gr (w1.gz g) ⟨p, vs, rfl, upd_same, RpAll.mono g.ex _ _ r1⟩
theorem px_lstV (h : PA X es (liftA X.K W (dArgs ts))) (hz : ts.length ≤ 1000 := by decide) : PE X (.List es pos) (liftV X.K W (dLstV ts)) := by
  refine PE.imp (pe_lst h) fun σ H Q h => ?_
  obtain ⟨F, ρ, w, h⟩ := h
  refine ⟨F, ρ, w, (args_run back_V h).imp ?_⟩
  rintro vs H1 ⟨F1, ρ1, ds, w1, r1, hl, g1, h1⟩
  refine ⟨by rw [r1.length, hl]; exact Nat.le_of_lt (small1000 hz), fun p hp => ?_⟩
  have g : Gz F1 H1 F1 (upd H1 p (.lst vs)) := .tmp w1.ex hp
  refine h1 _ _ _ g.gr (w1.gz g) ⟨p, rfl, ⟨vs, upd_same, w1.ex.free hp, r1⟩, hp, fun z => ?_⟩
  obtain ⟨⟨o, ho⟩, _⟩ := w1.ft_there z
  rw [hp] at ho; cases ho
/-! ### own values and data -/
def dFz (te : DV) : DE := fun ρ => (te ρ).bnd fun r ρ1 => match r with
  | .d x => .ok x ρ1
  | .l xs => .ok (.list xs) ρ1
  | _ => .st
def dD (te : DE) : DV := fun ρ => (te ρ).bnd fun x ρ1 => .ok (.d x) ρ1
theorem px_D (h : PE X e (lift X.K W te)) : PE X e (liftV X.K W (dD te)) := by
  refine PE.imp h fun σ H Q h => ?_
  obtain ⟨F, ρ, w, h⟩ := h
  refine ⟨F, ρ, w, (Out.bnd back_V h).imp ?_⟩
  rintro v H1 ⟨F1, ρ1, x, w1, r1, g1, h1⟩
  exact h1 v F1 H1 .refl w1 r1
/-- what is told, grown by one object of the heap -/
theorem Wd.grow {K : PySem.W.Frag} {F H : Hp} {σ : St} {ρ : Ev} (w : Wd K F H σ ρ) {p : Addr} {o : HO} (hp : H p = some o) (fp : F p = none) (nf : ¬ Ft σ ρ p) : Wd K (upd F p o) H σ ρ := by
  have sm : Same F (upd F p o) := same_upd fp
  refine ⟨fun a u z => ?_, w.len, fun i ov s h1 h2 => (w.at_ i ov s h1 h2).keep sm fun q hw ho => ?_, w.sep⟩
  · by_cases e : a = p
    · subst e; rw [upd_same] at z; rw [hp]; exact z
    · rw [upd_ne e] at z; exact w.ex a u z
  · have mq : Ft σ ρ q := ⟨i, s, h2, hw, by rw [h1, ho]⟩
    exact ⟨rfl, by rw [upd_ne (fun z => nf (by rw [← z]; exact mq))]; exact (w.ft_there mq).2⟩
theorem px_fz {te : DV} (h : PE X e (liftV X.K W te)) : PE X e (lift X.K W (dFz te)) := by
  refine PE.imp h fun σ H Q h => ?_
  obtain ⟨F, ρ, w, h⟩ := h
  refine ⟨F, ρ, w, ?_⟩
  unfold dFz at h
  cases q : te ρ with
  | ok r ρ1 =>
    rw [q] at h
    intro v F1 H1 g w1 re
    cases r with
    | d x => exact h v F1 H1 g w1 re
    | l xs =>
      obtain ⟨p, rfl, ⟨vs, hp, fp, ra⟩, h0, nf⟩ := re
      have w2 := w1.grow hp fp nf
      have sm : Same F1 (upd F1 p (.lst vs)) := same_upd fp
      refine h _ _ H1 ?_ w2 ⟨p, vs, rfl, upd_same, RpAll.mono sm _ _ ra⟩
      refine ⟨g.ex.trans sm, g.keep, g.dom, fun a o e1 e2 e3 => ?_, g.ft⟩
      rw [upd_ne (ne_of_none e1 h0)]
      exact g.nof a o e1 e2 e3
    | _ => exact h.elim
  | ex x => rw [q] at h; exact h
  | st => rw [q] at h; exact h
end
end Bd

set_option Elab.async false
set_option linter.all false
set_option maxRecDepth 100000
set_option maxHeartbeats 4000000
namespace Bd
open PySem PySem.Spec L2

/-! ### what a def promises, on data -/
/-- the arguments' slots in; the answer, the arguments' slots behind -/
abbrev DF := List Sl → R Sl
def RetV (K : PySem.W.Frag) (H F' H' : Hp) (v : V) : Sl → Prop
  | .d x => Rp K F' x v
  | .l xs => ∃ p, v = .ref p ∧ OwnOk K F' H' p (.l xs) ∧ H p = none
  | .t ps => ∃ p, v = .ref p ∧ OwnOk K F' H' p (.t ps) ∧ H p = none
  | _ => False
/-- S: the places of the parameters that may be own objects -/
abbrev EX := Exn → XK → Hp → Prop
/-- no exception leaves -/
def ex0 : EX := fun _ _ _ => False
def liftF (K : PySem.W.Frag) (ce : EX) (S : List Nat) (n : Nat) (f : DF) : Sp := fun vs H Q E => vs.length = n ∧ ∃ F as, Wd K F H (vs.map some) as ∧ (∀ (i : Nat) (s : Sl), as[i]? = some s → ownS s = true → i ∈ S) ∧ match f as with
  | .ok r as' => ∀ (v : V) (F' H' : Hp) (M' : Addr → Prop), Gr F H (Ft (vs.map some) as) F' H' M' → Same F' H' → (∀ (i : Nat) (u : V) (s : Sl), i ∈ S → vs[i]? = some u → as'[i]? = some s → SlOk K F' H' (some u) s) → RetV K H F' H' v r → Q v H'
  | .ex x => ∀ (F' H' : Hp) (M' : Addr → Prop), Gr F H (Ft (vs.map some) as) F' H' M' → Same F' H' → ce x E H'
  | .st => False

/-! ### calls of defs, all arguments data -/
def dCall (f : DF) (ts : List DE) : DV := fun ρ => (dArgs ts ρ).bnd fun ds ρ1 => match f (ds.map .d) with
  | .ok r _ => .ok r ρ1
  | .ex x => .ex x
  | .st => .st
theorem map_d_get {ds : List PyData} {i : Nat} {s : Sl} (h : (ds.map Sl.d)[i]? = some s) : ∃ d, ds[i]? = some d ∧ s = .d d := by
  rw [List.getElem?_map] at h
  cases q : ds[i]? with
  | none => rw [q] at h; cases h
  | some d => rw [q] at h; exact ⟨d, rfl, (Option.some.inj h).symm⟩
theorem wd_data {K : PySem.W.Frag} {F H : Hp} {ds : List PyData} {vs : List V} (s : Same F H) (h : RpAll K F ds vs) : Wd K F H (vs.map some) (ds.map .d) := by
  refine ⟨s, by simp [h.length], fun i o t h1 h2 => ?_, fun i j s t a h1 h2 => ?_⟩
  · obtain ⟨d, e, rfl⟩ := map_d_get h2
    obtain ⟨v, e1, r⟩ := h.get e
    rw [List.getElem?_map, e1] at h1
    cases h1
    exact ⟨v, rfl, r⟩
  · obtain ⟨d, e, rfl⟩ := map_d_get h1
    cases h2
theorem no_ft {σ : St} {ds : List PyData} {a : Addr} : ¬ Ft σ (ds.map .d) a := fun ⟨i, s, h1, h2, _⟩ => by
  obtain ⟨d, e, rfl⟩ := map_d_get h1
  cases h2
section
variable {X : Cx} {W : XW} {e : Expr} {es : List Expr} {ts : List DE} {pos p : Pos} {CX : CXT} {k : Nat} {g : Addr} {fd : FuncData} {ps : List Str} {f : DF} {E : XK} {x : Str} {ce : EX} {S : List Nat} {n : Nat}
theorem call_run {K : PySem.W.Frag} (hW : ∀ x H, W x H → ce x E H) (hn : ts.length = n) {σ : St} {H : Hp} {Q : VK} (h : liftV K W (dCall f ts) σ H Q) : tCall (liftF K ce S n f) [] E (liftA K W (dArgs ts)) σ H Q := by
  obtain ⟨F, ρ, w, h⟩ := h
  refine ⟨F, ρ, w, (args_run back_V h).imp ?_⟩
  rintro vs H1 ⟨F1, ρ1, ds, w1, r1, hl, g1, h1⟩
  rw [List.append_nil]
  refine ⟨by rw [r1.length, hl, hn], F1, ds.map .d, wd_data w1.ex r1, fun i s e1 e2 => ?_, ?_⟩
  · obtain ⟨d, e, rfl⟩ := map_d_get e1
    cases e2
  · cases q : f (ds.map .d) with
    | ok r as' =>
      rw [q] at h1
      intro v F' H' M' gr s' _ rv
      have gz : Gz F1 H1 F' H' := ⟨gr.ex, fun a o e => gr.keep a o e no_ft, s', fun a o e f => gr.nof a o e f no_ft⟩
      refine h1 v F' H' gz.gr (w1.gz gz) ?_
      have nf : ∀ q, H1 q = none → ¬ Ft σ ρ1 q := fun q hq z => by
        obtain ⟨⟨o, ho⟩, _⟩ := w1.ft_there z
        rw [hq] at ho; cases ho
      cases r with
      | d x => exact rv
      | l xs => obtain ⟨q, a, b, c⟩ := rv; exact ⟨q, a, b, c, nf q c⟩
      | t xs => obtain ⟨q, a, b, c⟩ := rv; exact ⟨q, a, b, c, nf q c⟩
      | non => exact rv.elim
      | s ns => exact rv.elim
    | ex x =>
      rw [q] at h1
      intro F' H' M' gr s'
      have gz : Gz F1 H1 F' H' := ⟨gr.ex, fun a o e => gr.keep a o e no_ft, s', fun a o e f => gr.nof a o e f no_ft⟩
      exact hW _ _ (h1 F' H' _ (gz.gr (M := Ft σ ρ1)) s')
    | st => rw [q] at h1; exact h1.elim
theorem px_call (G : FnOk X.prog X.w X.K X.mg X.base CX k g fd ps (liftF X.K ce S n f)) (hr : Room k X.A) (hm : X.mg x = some (.ref g)) (hk : PySem.W.keepIn X.K (.ref g) = true) (hb : Binds X.K fd ps []) (hx : Passes CX X E)
    (hW : ∀ x H, W x H → ce x E H) (ha : PA X (e :: es) (liftA X.K W (dArgs ts))) (hn : ts.length = n := by rfl) (hg : Gl X x := by rfl) (hdb : (x == ("__debug__" : Str)) = false := by decide)
    (he : starEach (e :: es) X.env = (false, eval e X.env) :: starEach es X.env := by rfl) (hpl : (backTo pos (starEach es X.env)).any (·.1) = false := by rfl) : PE X (.Call (.Name x p) (e :: es) [] pos) (liftV X.K W (dCall f ts)) :=
  PE.imp (pe_call G hr hg hm hk hb .nil hx ha hdb he hpl) fun σ H Q h => call_run hW hn h
end

/-! ### one argument an own object (or the script), at the name of slot i -/
abbrev RelM (K : PySem.W.Frag) (i : Nat) : Rel (List PyData × List PyData) (List V) := fun _ F' _ σ _ vs p => ∃ vs1 v vs2, vs = vs1 ++ v :: vs2 ∧ RpAll K F' p.1 vs1 ∧ σ[i]? = some (some v) ∧ RpAll K F' p.2 vs2
theorem back_M {K : PySem.W.Frag} {i : Nat} : Back (RelM K i) := fun _ _ _ _ _ _ _ _ _ h => h
def dMix (pre post : List DE) : Ev → R (List PyData × List PyData) := fun ρ => (dArgs pre ρ).bnd fun ds ρ1 => (dArgs post ρ1).bnd fun es ρ2 => .ok (ds, es) ρ2
def liftM (K : PySem.W.Frag) (W : XW) (i : Nat) (tm : Ev → R (List PyData × List PyData)) : TA := fun σ H Q => (∃ v, σ[i]? = some (some v)) ∧ ∃ F ρ, Wd K F H σ ρ ∧ Out K W (RelM K i) F H σ ρ Q (tm ρ)
theorem bnd_assoc {α β γ : Type} (r : R α) (f : α → Ev → R β) (g : β → Ev → R γ) : (r.bnd f).bnd g = r.bnd fun a ρ => (f a ρ).bnd g := by
  cases r <;> rfl
section
variable {X : Cx} {W : XW} {e : Expr} {es : List Expr} {pre post : List DE} {te : DE} {pos p : Pos}
theorem px_m0 {i : Nat} {x : Str} {px : Pos} (h : PE X (.Name x px) (tVar i)) (ha : PA X es (liftA X.K W (dArgs post))) (hs : starEach (.Name x px :: es) X.env = (false, eval (.Name x px) X.env) :: starEach es X.env := by rfl) :
    PA X (.Name x px :: es) (liftM X.K W i (dMix [] post)) := by
  refine PA.imp (pa_cons h ha hs) fun σ H Q h => ?_
  obtain ⟨⟨v, hv⟩, F, ρ, w, h⟩ := h
  refine ⟨v, hv, F, ρ, w, ?_⟩
  have h' : Out X.K W (RelM X.K i) F H σ ρ Q ((dArgs post ρ).bnd fun es ρ2 => .ok ([], es) ρ2) := h
  refine (Out.bnd back_M h').imp ?_
  rintro vs H1 ⟨F1, ρ1, ds, w1, r1, g1, h1⟩
  exact h1 _ F1 H1 .refl w1 ⟨[], v, vs, rfl, rfl, hv, r1⟩
theorem px_mc {i : Nat} (ha : PE X e (lift X.K W te)) (hr : PA X es (liftM X.K W i (dMix pre post))) (hs : starEach (e :: es) X.env = (false, eval e X.env) :: starEach es X.env := by rfl) :
    PA X (e :: es) (liftM X.K W i (dMix (te :: pre) post)) := by
  refine PA.imp (pa_cons ha hr hs) fun σ H Q h => ?_
  obtain ⟨hv, F, ρ, w, h⟩ := h
  refine ⟨F, ρ, w, ?_⟩
  have h' : Out X.K W (RelM X.K i) F H σ ρ Q ((te ρ).bnd fun d ρ1 => (dMix pre post ρ1).bnd fun q ρ2 => .ok (d :: q.1, q.2) ρ2) := by
    have e1 : dMix (te :: pre) post ρ = (te ρ).bnd fun d ρ1 => (dMix pre post ρ1).bnd fun q ρ2 => .ok (d :: q.1, q.2) ρ2 := by
      unfold dMix
      simp only [dArgs, bnd_assoc]
      rfl
    rw [← e1]; exact h
  refine (Out.bnd back_M h').imp ?_
  rintro v H1 ⟨F1, ρ1, d, w1, r1, g1, h1⟩
  refine ⟨hv, F1, ρ1, w1, (Out.bnd back_M h1).imp ?_⟩
  rintro vs H2 ⟨F2, ρ2, ⟨ds, es2⟩, w2, r2, g2, h2⟩
  obtain ⟨vs1, u, vs2, rfl, ra, hu, rb⟩ := r2
  exact h2 _ F2 H2 .refl w2 ⟨v :: vs1, u, vs2, rfl, ⟨v, vs1, rfl, Rp.mono g2.ex _ _ r1, ra⟩, hu, rb⟩
end
def dCallW (f : DF) (pre : List DE) (i : Nat) (post : List DE) : DV := fun ρ => (dMix pre post ρ).bnd fun q ρ2 => match ρ2[i]? with
  | some s => match f (q.1.map .d ++ s :: q.2.map .d) with
    | .ok r as' => if ownS s = true then (match as'[q.1.length]? with | some s' => .ok r (ρ2.set i s') | none => .st) else .ok r ρ2
    | .ex x => .ex x
    | .st => .st
  | none => .st
def isArg : Option Sl → Bool
  | some (.l _) => true
  | some (.t _) => true
  | some (.s _) => true
  | _ => false
def dCallV (f : DF) (pre : List DE) (i : Nat) (post : List DE) : DV := fun ρ => if isArg ρ[i]? = true then dCallW f pre i post ρ else .st
theorem get_mid {α β : Type} (f : α → β) {xs ys : List α} {s t : β} {i : Nat} (h : (xs.map f ++ s :: ys.map f)[i]? = some t) : (i = xs.length ∧ t = s) ∨ (i ≠ xs.length ∧ ∃ x, (xs ++ ys)[if i < xs.length then i else i - 1]? = some x ∧ t = f x) := by
  by_cases h1 : i < xs.length
  · rw [List.getElem?_append_left (by simpa using h1), List.getElem?_map] at h
    refine .inr ⟨by omega, xs[i], ?_, ?_⟩
    · rw [if_pos h1, List.getElem?_append_left h1, List.getElem?_eq_getElem h1]
    · rw [List.getElem?_eq_getElem h1] at h
      exact (Option.some.inj h).symm
  · rw [List.getElem?_append_right (by simpa using h1)] at h
    simp only [List.length_map] at h
    by_cases h2 : i = xs.length
    · subst h2
      simp at h
      exact .inl ⟨rfl, h.symm⟩
    · have e : i - xs.length = (i - 1 - xs.length) + 1 := by omega
      rw [e, List.getElem?_cons_succ, List.getElem?_map] at h
      cases q : ys[i - 1 - xs.length]? with
      | none => rw [q] at h; cases h
      | some y =>
        rw [q] at h
        refine .inr ⟨h2, y, ?_, (Option.some.inj h).symm⟩
        rw [if_neg h1, List.getElem?_append_right (by omega), q]
section
variable {X : Cx} {W : XW} {e : Expr} {es : List Expr} {pre post : List DE} {pos p : Pos} {CX : CXT} {k : Nat} {g : Addr} {fd : FuncData} {ps : List Str} {f : DF} {E : XK} {x : Str} {ce : EX} {S : List Nat} {n : Nat} {i : Nat}
theorem mid_get {α : Type} {vs1 vs2 : List α} {v : α} : (vs1 ++ v :: vs2)[vs1.length]? = some v := by simp
theorem wd_mid {K : PySem.W.Frag} {F H : Hp} {σ : St} {ρ : Ev} (w : Wd K F H σ ρ) {ds es : List PyData} {vs1 vs2 : List V} {v : V} {s : Sl} (r1 : RpAll K F ds vs1) (r2 : RpAll K F es vs2) (hv : σ[i]? = some (some v)) (hs : ρ[i]? = some s) :
    Wd K F H ((vs1 ++ v :: vs2).map some) (ds.map .d ++ s :: es.map .d) := by
  have ra : RpAll K F (ds ++ es) (vs1 ++ vs2) := r1.append r2
  have hl := r1.length
  refine ⟨w.ex, by simp [r1.length, r2.length], fun j o t h1 h2 => ?_, fun j l s' t a h1 h2 h3 h4 h5 h6 => ?_⟩
  · rcases get_mid Sl.d h2 with ⟨rfl, rfl⟩ | ⟨ne, d, e1, rfl⟩
    · rw [← hl, List.getElem?_map, mid_get] at h1
      cases h1
      exact w.at_ i _ _ hv hs
    · obtain ⟨u, e2, e3⟩ := ra.get e1
      have h1' : (vs1.map some ++ (some v) :: vs2.map some)[j]? = some o := by rw [← h1]; simp
      rcases get_mid (some : V → Option V) h1' with ⟨z, _⟩ | ⟨_, u', e4, rfl⟩
      · exact absurd (z.trans hl) ne
      · rw [hl] at e4
        rw [e2] at e4; cases e4
        exact ⟨u, rfl, e3⟩
  · rcases get_mid Sl.d h1 with ⟨rfl, rfl⟩ | ⟨_, d, _, rfl⟩
    · rcases get_mid Sl.d h3 with ⟨rfl, rfl⟩ | ⟨_, d, _, rfl⟩
      · rfl
      · cases h4
    · cases h2
theorem ft_mid {σ : St} {ρ : Ev} {ds es : List PyData} {vs1 vs2 : List V} {v : V} {s : Sl} (hl : vs1.length = ds.length) (hv : σ[i]? = some (some v)) (hs : ρ[i]? = some s) {a : Addr} (h : Ft ((vs1 ++ v :: vs2).map some) (ds.map .d ++ s :: es.map .d) a) : Ft σ ρ a ∧ v = .ref a ∧ ownS s = true := by
  obtain ⟨j, t, h1, h2, h3⟩ := h
  rcases get_mid Sl.d h1 with ⟨rfl, rfl⟩ | ⟨_, d, _, rfl⟩
  · rw [← hl, List.getElem?_map, mid_get] at h3
    cases h3
    exact ⟨⟨i, _, hs, h2, hv⟩, rfl, h2⟩
  · cases h2
theorem callV_run {K : PySem.W.Frag} (hW : ∀ x H, W x H → ce x E H) (hn : pre.length + 1 + post.length = n) (hS : pre.length ∈ S) {σ : St} {H : Hp} {Q : VK} (h : liftV K W (dCallV f pre i post) σ H Q) :
    tCall (liftF K ce S n f) [] E (liftM K W i (dMix pre post)) σ H Q := by
  obtain ⟨F, ρ, w, h⟩ := h
  unfold dCallV at h
  by_cases ha : isArg ρ[i]? = true
  case neg => rw [if_neg ha] at h; exact h.elim
  rw [if_pos ha] at h
  have hi : ∃ v, σ[i]? = some (some v) := by
    cases e : ρ[i]? with
    | none => rw [e] at ha; cases ha
    | some s =>
      obtain ⟨o, h1, h2⟩ := w.get e
      rw [e] at ha
      cases s with
      | l xs => obtain ⟨p, rfl, _⟩ := h2; exact ⟨_, h1⟩
      | t xs => obtain ⟨p, rfl, _⟩ := h2; exact ⟨_, h1⟩
      | s xs => obtain ⟨p, rfl, _⟩ := h2; exact ⟨_, h1⟩
      | non => cases ha
      | d x => cases ha
  refine ⟨hi, F, ρ, w, ?_⟩
  have hlen : ∀ q ρ2, dMix pre post ρ = .ok q ρ2 → q.1.length = pre.length ∧ q.2.length = post.length := fun q ρ2 e => by
    unfold dMix at e
    cases e1 : dArgs pre ρ with
    | ok ds ρ1 =>
      rw [e1] at e
      simp only [R.bnd] at e
      cases e2 : dArgs post ρ1 with
      | ok es ρ2 => rw [e2] at e; cases e; exact ⟨dArgs_len e1, dArgs_len e2⟩
      | ex x => rw [e2] at e; cases e
      | st => rw [e2] at e; cases e
    | ex x => rw [e1] at e; cases e
    | st => rw [e1] at e; cases e
  unfold dCallW at h
  cases q0 : dMix pre post ρ with
  | ex x => rw [q0] at h; exact h
  | st => rw [q0] at h; exact h
  | ok q ρ2 =>
    rw [q0] at h
    obtain ⟨hl1, hl2⟩ := hlen q ρ2 q0
    intro vs F1 H1 gr1 w1 re
    obtain ⟨vs1, v, vs2, rfl, r1, hv, r2⟩ := re
    have hq1 := r1.length
    have hq2 := r2.length
    cases es0 : ρ2[i]? with
    | none => simp only [R.bnd, es0] at h; exact h.elim
    | some s =>
      simp only [R.bnd, es0] at h
      rw [List.append_nil]
      have wm := wd_mid w1 r1 r2 hv es0
      refine ⟨by simp; omega, F1, _, wm, fun j t e1 e2 => ?_, ?_⟩
      · rcases get_mid Sl.d e1 with ⟨rfl, rfl⟩ | ⟨_, d, _, rfl⟩
        · rw [hl1]; exact hS
        · cases e2
      · have grM : ∀ {F' H' : Hp} {M' : Addr → Prop}, Gr F1 H1 (Ft ((vs1 ++ v :: vs2).map some) (q.1.map .d ++ s :: q.2.map .d)) F' H' M' → Gr F1 H1 (Ft σ ρ2) F' H' (Ft σ ρ2) := fun g =>
          ⟨g.ex, fun a o e n => g.keep a o e fun z => n (ft_mid hq1 hv es0 z).1, g.dom, fun a o e f n => g.nof a o e f fun z => n (ft_mid hq1 hv es0 z).1, fun a z => .inl z⟩
        cases qf : f (q.1.map .d ++ s :: q.2.map .d) with
        | st => rw [qf] at h; exact h.elim
        | ex x =>
          rw [qf] at h
          intro F' H' M' g s'
          exact hW _ _ (h F' H' _ (gr1.trans (grM g)) s')
        | ok r as' =>
          rw [qf] at h
          intro u F' H' M' g s' hsl rv
          simp only [] at h
          have gm := grM g
          have nf : ∀ (ρ3 : Ev), (∀ a, Ft σ ρ3 a → Ft σ ρ2 a) → ∀ q, H1 q = none → ¬ Ft σ ρ3 q := fun ρ3 hsub q hq z => by
            obtain ⟨⟨o, ho⟩, _⟩ := w1.ft_there (hsub q z)
            rw [hq] at ho; cases ho
          have fin : ∀ (ρ3 : Ev), (∀ a, Ft σ ρ3 a → Ft σ ρ2 a) → Wd K F' H' σ ρ3 → Out K W (RelV K) F H σ ρ Q (.ok r ρ3) → Q u H' := fun ρ3 hsub w3 hh => by
            refine hh u F' H' (gr1.trans (gm.less hsub)) w3 ?_
            have back : ∀ p, H1 p = none → H p = none := fun p hp => none_back gr1.dom hp
            cases r with
            | d x => exact rv
            | l xs => obtain ⟨p, a, b, c⟩ := rv; exact ⟨p, a, b, back p c, nf ρ3 hsub p c⟩
            | t xs => obtain ⟨p, a, b, c⟩ := rv; exact ⟨p, a, b, back p c, nf ρ3 hsub p c⟩
            | non => exact rv.elim
            | s ns => exact rv.elim
          have keepOther : ∀ (j : Nat) (o : Option V) (t : Sl), (j = i → ownS s = false) → σ[j]? = some o → ρ2[j]? = some t → SlOk K F' H' o t := fun j o t hj e1 e2 => by
            refine (w1.at_ j o t e1 e2).keep g.ex fun p hw ho => ?_
            have mp : Ft σ ρ2 p := ⟨j, t, e2, hw, by rw [e1, ho]⟩
            obtain ⟨⟨o1, ho1⟩, hf1⟩ := w1.ft_there mp
            have nm : ¬ Ft ((vs1 ++ v :: vs2).map some) (q.1.map .d ++ s :: q.2.map .d) p := fun z => by
              obtain ⟨_, rfl, hos⟩ := ft_mid hq1 hv es0 z
              have ej : j = i := w1.sep j i t s p e2 hw es0 hos (by rw [e1, ho]) hv
              rw [hj ej] at hos; cases hos
            exact ⟨(g.keep p o1 ho1 nm).trans ho1.symm, g.nof p o1 ho1 hf1 nm⟩
          by_cases hos : ownS s = true
          · rw [if_pos hos] at h
            cases ea : as'[q.1.length]? with
            | none => rw [ea] at h; exact h.elim
            | some t =>
              rw [ea] at h
              have st : SlOk K F' H' (some v) t := hsl q.1.length v t (by rw [hl1]; exact hS) (by rw [← hq1]; exact mid_get) ea
              have sub : ∀ a, Ft σ (ρ2.set i t) a → Ft σ ρ2 a := fun a ⟨j, t', h1, h2, h3⟩ => by
                rcases get_set h1 with ⟨rfl, rfl⟩ | ⟨_, h1⟩
                · exact ⟨j, s, es0, hos, h3⟩
                · exact ⟨j, t', h1, h2, h3⟩
              refine fin _ sub ⟨s', by simpa using w1.len, fun j o t' e1 e2 => ?_, fun j l t1 t2 a h1 h2 h3 h4 h5 h6 => ?_⟩ h
              · rcases get_set e2 with ⟨rfl, rfl⟩ | ⟨ne, e2⟩
                · rw [hv] at e1; cases e1; exact st
                · exact keepOther j o t' (fun z => absurd z ne) e1 e2
              · have f1 : ∃ t, ρ2[j]? = some t ∧ ownS t = true := by
                  rcases get_set h1 with ⟨rfl, rfl⟩ | ⟨_, h1⟩
                  · exact ⟨s, es0, hos⟩
                  · exact ⟨t1, h1, h2⟩
                have f2 : ∃ t, ρ2[l]? = some t ∧ ownS t = true := by
                  rcases get_set h3 with ⟨rfl, rfl⟩ | ⟨_, h3⟩
                  · exact ⟨s, es0, hos⟩
                  · exact ⟨t2, h3, h4⟩
                obtain ⟨u1, a1, b1⟩ := f1
                obtain ⟨u2, a2, b2⟩ := f2
                exact w1.sep j l u1 u2 a a1 b1 a2 b2 h5 h6
          · rw [if_neg hos] at h
            refine fin ρ2 (fun _ z => z) ⟨s', w1.len, fun j o t e1 e2 => keepOther j o t (fun _ => by simpa using hos) e1 e2, w1.sep⟩ h
theorem px_callV (G : FnOk X.prog X.w X.K X.mg X.base CX k g fd ps (liftF X.K ce S n f)) (hr : Room k X.A) (hm : X.mg x = some (.ref g)) (hk : PySem.W.keepIn X.K (.ref g) = true) (hb : Binds X.K fd ps []) (hx : Passes CX X E)
    (hW : ∀ x H, W x H → ce x E H) (ha : PA X (e :: es) (liftM X.K W i (dMix pre post))) (hS : pre.length ∈ S := by decide) (hn : pre.length + 1 + post.length = n := by rfl) (hg : Gl X x := by rfl) (hdb : (x == ("__debug__" : Str)) = false := by decide)
    (he : starEach (e :: es) X.env = (false, eval e X.env) :: starEach es X.env := by rfl) (hpl : (backTo pos (starEach es X.env)).any (·.1) = false := by rfl) : PE X (.Call (.Name x p) (e :: es) [] pos) (liftV X.K W (dCallV f pre i post)) :=
  PE.imp (pe_call G hr hg hm hk hb .nil hx ha hdb he hpl) fun σ H Q h => callV_run hW hn hS h
end
end Bd

set_option Elab.async false
set_option linter.all false
set_option maxRecDepth 100000
set_option maxHeartbeats 4000000
namespace Bd
open PySem PySem.Spec L2

inductive RS where
  | nx (ρ : Ev)
  | rt (r : Sl) (ρ : Ev)
  | bk (ρ : Ev)
  | ct (ρ : Ev)
  | ex (x : Exn)
  | st
abbrev DS := Ev → RS
/-- slots whose names are not stored -/
def Kp (S : List Nat) (σ σ' : St) : Prop := ∀ i ∈ S, σ'[i]? = σ[i]?
def OutS (K : PySem.W.Frag) (W : XW) (S : List Nat) (F H : Hp) (σ : St) (ρ : Ev) (D : Ends) : RS → Prop
  | .nx ρ' => ∀ (σ' : St) (F' H' : Hp), Gr F H (Ft σ ρ) F' H' (Ft σ' ρ') → Wd K F' H' σ' ρ' → Kp S σ σ' → D.nx σ' H'
  | .bk ρ' => ∀ (σ' : St) (F' H' : Hp), Gr F H (Ft σ ρ) F' H' (Ft σ' ρ') → Wd K F' H' σ' ρ' → Kp S σ σ' → D.bk σ' H'
  | .ct ρ' => ∀ (σ' : St) (F' H' : Hp), Gr F H (Ft σ ρ) F' H' (Ft σ' ρ') → Wd K F' H' σ' ρ' → Kp S σ σ' → D.ct σ' H'
  | .rt r ρ' => ∀ (v : V) (σ' : St) (F' H' : Hp) (M' : Addr → Prop), Gr F H (Ft σ ρ) F' H' M' → Wd K F' H' σ' ρ' → Kp S σ σ' → RetV K H F' H' v r → D.rt v H'
  | .ex x => ∀ (F' H' : Hp) (M' : Addr → Prop), Gr F H (Ft σ ρ) F' H' M' → Same F' H' → W x H'
  | .st => False
def liftS (K : PySem.W.Frag) (W : XW) (S : List Nat) (ts : DS) : TS := fun D σ H => ∃ F ρ, Wd K F H σ ρ ∧ OutS K W S F H σ ρ D (ts ρ)
section
variable {K : PySem.W.Frag} {W : XW} {S : List Nat} {F H F1 H1 : Hp} {σ σ1 : St} {ρ ρ1 : Ev} {D : Ends} {r : RS}
theorem RetV.back {F' H' : Hp} {v : V} {s : Sl} (k : ∀ x o, H x = some o → ∃ o', H1 x = some o') (h : RetV K H1 F' H' v s) : RetV K H F' H' v s := by
  cases s with
  | d x => exact h
  | l xs => obtain ⟨p, a, b, c⟩ := h; exact ⟨p, a, b, none_back k c⟩
  | t xs => obtain ⟨p, a, b, c⟩ := h; exact ⟨p, a, b, none_back k c⟩
  | non => exact h
  | s ns => exact h
theorem OutS.pre (g : Gr F H (Ft σ ρ) F1 H1 (Ft σ1 ρ1)) (kp : Kp S σ σ1) (h : OutS K W S F H σ ρ D r) : OutS K W S F1 H1 σ1 ρ1 D r := by
  cases r with
  | nx ρ' => exact fun σ' F' H' g' w k => h σ' F' H' (g.trans g') w fun i hi => (k i hi).trans (kp i hi)
  | bk ρ' => exact fun σ' F' H' g' w k => h σ' F' H' (g.trans g') w fun i hi => (k i hi).trans (kp i hi)
  | ct ρ' => exact fun σ' F' H' g' w k => h σ' F' H' (g.trans g') w fun i hi => (k i hi).trans (kp i hi)
  | rt s ρ' => exact fun v σ' F' H' M' g' w k rv => h v σ' F' H' M' (g.trans g') w (fun i hi => (k i hi).trans (kp i hi)) (rv.back g.dom)
  | ex x => exact fun F' H' M' g' s => h F' H' M' (g.trans g') s
  | st => exact h
theorem Kp.refl : Kp S σ σ := fun _ _ => rfl
/-- an expression's outcome, then a statement's -/
def R.thn {α : Type} (r : R α) (f : α → Ev → RS) : RS := match r with
  | .ok a ρ => f a ρ
  | .ex x => .ex x
  | .st => .st
theorem OutS.thn {α β : Type} {Re : Rel α β} {r : R α} {f : α → Ev → RS} (h : OutS K W S F H σ ρ D (r.thn f)) :
    Out K W Re F H σ ρ (fun b H1 => ∃ F1 ρ1 a, Wd K F1 H1 σ ρ1 ∧ Re H F1 H1 σ ρ1 b a ∧ Gr F H (Ft σ ρ) F1 H1 (Ft σ ρ1) ∧ OutS K W S F1 H1 σ ρ1 D (f a ρ1)) r := by
  cases r with
  | ok a ρ' => exact fun b F' H' g' w re => ⟨F', ρ', a, w, re, g', OutS.pre g' .refl h⟩
  | ex x => exact h
  | st => exact h
/-- a slot gets data -/
theorem Wd.setD {i : Nat} {x : PyData} {v : V} (w : Wd K F H σ ρ) (r : Rp K F x v) : Wd K F H (σ.set i (some v)) (ρ.set i (.d x)) ∧ (∀ a, Ft (σ.set i (some v)) (ρ.set i (.d x)) a → Ft σ ρ a) := by
  have key : ∀ (j : Nat) (t : Sl) (a : Addr), (ρ.set i (.d x))[j]? = some t → ownS t = true → (σ.set i (some v))[j]? = some (some (V.ref a)) → ρ[j]? = some t ∧ σ[j]? = some (some (V.ref a)) := fun j t a h1 h2 h3 => by
    rcases get_set h1 with ⟨rfl, rfl⟩ | ⟨ne, h1⟩
    · cases h2
    · rcases get_set h3 with ⟨rfl, _⟩ | ⟨_, h3⟩
      · exact absurd rfl ne
      · exact ⟨h1, h3⟩
  refine ⟨⟨w.ex, by simp [w.len], fun j o t e1 e2 => ?_, fun j l s t a h1 h2 h3 h4 h5 h6 => ?_⟩, fun a ⟨j, t, h1, h2, h3⟩ => ?_⟩
  · rcases get_set e2 with ⟨rfl, rfl⟩ | ⟨ne, e2⟩
    · rcases get_set e1 with ⟨_, rfl⟩ | ⟨ne, _⟩
      · exact ⟨v, rfl, r⟩
      · exact absurd rfl ne
    · rcases get_set e1 with ⟨rfl, _⟩ | ⟨_, e1⟩
      · exact absurd rfl ne
      · exact w.at_ j o t e1 e2
  · obtain ⟨a1, b1⟩ := key j s a h1 h2 h5
    obtain ⟨a2, b2⟩ := key l t a h3 h4 h6
    exact w.sep j l s t a a1 h2 a2 h4 b1 b2
  · obtain ⟨a1, b1⟩ := key j t a h1 h2 h3
    exact ⟨j, t, a1, h2, b1⟩
/-- a slot gets an own object that no slot has -/
theorem Wd.setO {i : Nat} {s : Sl} {p : Addr} (w : Wd K F H σ ρ) (hs : ownS s = true) (r : OwnOk K F H p s) (nf : ¬ Ft σ ρ p) : Wd K F H (σ.set i (some (.ref p))) (ρ.set i s) ∧ (∀ a, Ft (σ.set i (some (.ref p))) (ρ.set i s) a → Ft σ ρ a ∨ a = p) := by
  have key : ∀ (j : Nat) (t : Sl) (a : Addr), (ρ.set i s)[j]? = some t → ownS t = true → (σ.set i (some (.ref p)))[j]? = some (some (V.ref a)) → (j = i ∧ a = p) ∨ (j ≠ i ∧ ρ[j]? = some t ∧ σ[j]? = some (some (V.ref a))) := fun j t a h1 h2 h3 => by
    rcases get_set h1 with ⟨rfl, rfl⟩ | ⟨ne, h1⟩
    · rcases get_set h3 with ⟨_, e⟩ | ⟨ne, _⟩
      · cases e; exact .inl ⟨rfl, rfl⟩
      · exact absurd rfl ne
    · rcases get_set h3 with ⟨rfl, _⟩ | ⟨_, h3⟩
      · exact absurd rfl ne
      · exact .inr ⟨ne, h1, h3⟩
  refine ⟨⟨w.ex, by simp [w.len], fun j o t e1 e2 => ?_, fun j l s t a h1 h2 h3 h4 h5 h6 => ?_⟩, fun a ⟨j, t, h1, h2, h3⟩ => ?_⟩
  · rcases get_set e2 with ⟨rfl, rfl⟩ | ⟨ne, e2⟩
    · rcases get_set e1 with ⟨_, rfl⟩ | ⟨ne, _⟩
      · cases t with
        | l xs => exact ⟨p, rfl, r⟩
        | t xs => exact ⟨p, rfl, r⟩
        | non => cases hs
        | d x => cases hs
        | s ns => cases hs
      · exact absurd rfl ne
    · rcases get_set e1 with ⟨rfl, _⟩ | ⟨_, e1⟩
      · exact absurd rfl ne
      · exact w.at_ j o t e1 e2
  · rcases key j s a h1 h2 h5 with ⟨rfl, rfl⟩ | ⟨n1, a1, b1⟩
    · rcases key l t a h3 h4 h6 with ⟨rfl, _⟩ | ⟨_, a2, b2⟩
      · rfl
      · exact absurd ⟨l, t, a2, h4, b2⟩ nf
    · rcases key l t a h3 h4 h6 with ⟨rfl, rfl⟩ | ⟨_, a2, b2⟩
      · exact absurd ⟨j, s, a1, h2, b1⟩ nf
      · exact w.sep j l s t a a1 h2 a2 h4 b1 b2
  · rcases key j t a h1 h2 h3 with ⟨rfl, rfl⟩ | ⟨_, a1, b1⟩
    · exact .inr rfl
    · exact .inl ⟨j, t, a1, h2, b1⟩
/-- an own object is changed where it stands -/
theorem Wd.mut {i : Nat} {s t : Sl} {p : Addr} {o : HO} (w : Wd K F H σ ρ) (h : ρ[i]? = some s) (hs : ownS s = true) (ht : ownS t = true) (hp : σ[i]? = some (some (V.ref p))) (r : OwnOk K F (upd H p o) p t) :
    Wd K F (upd H p o) σ (ρ.set i t) ∧ Gr F H (Ft σ ρ) F (upd H p o) (Ft σ (ρ.set i t)) := by
  have mp : Ft σ ρ p := ⟨i, s, h, hs, hp⟩
  obtain ⟨⟨o0, hp0⟩, fp⟩ := w.ft_there mp
  have sub : ∀ a, Ft σ (ρ.set i t) a → Ft σ ρ a := fun a ⟨j, t', h1, h2, h3⟩ => by
    rcases get_set h1 with ⟨rfl, rfl⟩ | ⟨_, h1⟩
    · exact ⟨j, s, h, hs, h3⟩
    · exact ⟨j, t', h1, h2, h3⟩
  refine ⟨⟨fun a u z => ?_, by simpa using w.len, fun j ov t' e1 e2 => ?_, fun j l s1 t1 a h1 h2 h3 h4 h5 h6 => ?_⟩, ⟨.refl _, fun a u z n => ?_, fun a u z => ?_, fun _ _ _ f _ => f, fun a z => .inl (sub a z)⟩⟩
  · rw [upd_ne (ne_of_none z fp)]; exact w.ex a u z
  · rcases get_set e2 with ⟨rfl, rfl⟩ | ⟨ne, e2⟩
    · rw [hp] at e1; cases e1
      cases t' with
      | l xs => exact ⟨p, rfl, r⟩
      | t xs => exact ⟨p, rfl, r⟩
      | non => cases ht
      | d x => cases ht
      | s ns => cases ht
    · refine (w.at_ j ov t' e1 e2).keep (.refl _) fun q hw ho => ?_
      have nq : q ≠ p := fun z => ne (w.sep j i t' s p e2 hw h hs (by rw [e1, ho, z]) hp)
      exact ⟨upd_ne nq, (w.ft_there ⟨j, t', e2, hw, by rw [e1, ho]⟩).2⟩
  · have f1 : ∃ t, ρ[j]? = some t ∧ ownS t = true := by
      rcases get_set h1 with ⟨rfl, rfl⟩ | ⟨_, h1⟩
      · exact ⟨s, h, hs⟩
      · exact ⟨s1, h1, h2⟩
    have f2 : ∃ t, ρ[l]? = some t ∧ ownS t = true := by
      rcases get_set h3 with ⟨rfl, rfl⟩ | ⟨_, h3⟩
      · exact ⟨s, h, hs⟩
      · exact ⟨t1, h3, h4⟩
    obtain ⟨u1, a1, b1⟩ := f1
    obtain ⟨u2, a2, b2⟩ := f2
    exact w.sep j l u1 u2 a a1 b1 a2 b2 h5 h6
  · rw [upd_ne (fun e => n (by rw [e]; exact mp))]; exact z
  · by_cases e : a = p
    · subst e; exact ⟨o, upd_same⟩
    · exact ⟨u, by rw [upd_ne e]; exact z⟩
end

/-! ### statements -/
def dNext : DS := fun ρ => .nx ρ
def dSeq (a b : DS) : DS := fun ρ => match a ρ with
  | .nx ρ' => b ρ'
  | .rt r ρ' => .rt r ρ'
  | .bk ρ' => .bk ρ'
  | .ct ρ' => .ct ρ'
  | .ex x => .ex x
  | .st => .st
def dBrk : DS := fun ρ => .bk ρ
def dCnt : DS := fun ρ => .ct ρ
def dSet (i : Nat) (te : DE) : DS := fun ρ => (te ρ).thn fun d ρ1 => .nx (ρ1.set i (.d d))
def dSetV (i : Nat) (te : DV) : DS := fun ρ => (te ρ).thn fun s ρ1 => .nx (ρ1.set i s)
def dIfS (t : DT) (a b : DS) : DS := fun ρ => (t ρ).thn fun k ρ1 => if k = true then a ρ1 else b ρ1
def dRet (te : DE) : DS := fun ρ => (te ρ).thn fun d ρ1 => .rt (.d d) ρ1
def dRetV (te : DV) : DS := fun ρ => (te ρ).thn fun s ρ1 => .rt s ρ1
def dRetN : DS := fun ρ => .rt (.d .none) ρ
def dDrop (te : DV) : DS := fun ρ => (te ρ).thn fun _ ρ1 => .nx ρ1
def dNever : DS := fun _ => .st
section
variable {X : Cx} {W : XW} {S : List Nat} {st : Stmt} {rest body orelse : List Stmt} {ta tb : DS} {e c : Expr} {te : DE} {tv : DV} {tt : DT} {pos : Pos}
theorem PS.imp {t t' : TS} (h : PS X st t) (k : ∀ D σ H, t' D σ H → t D σ H) : PS X st t' := ⟨fun pins s σ H D I hw => h.run pins s σ H D I (k D σ H hw)⟩
theorem PSs.imp {t t' : TS} (h : PSs X rest t) (k : ∀ D σ H, t' D σ H → t D σ H) : PSs X rest t' := ⟨fun pins s σ H D I hw => h.run pins s σ H D I (k D σ H hw)⟩
theorem sx_nil : PSs X [] (liftS X.K W S dNext) := PSs.imp pss_nil fun D σ H ⟨F, ρ, w, h⟩ => h σ F H .refl w .refl
theorem sx_one (h : PS X st (liftS X.K W S ta)) : PSs X [st] (liftS X.K W S ta) := pss_one h
theorem sx_cons (h1 : PS X st (liftS X.K W S ta)) (h2 : PSs X rest (liftS X.K W S tb)) : PSs X (st :: rest) (liftS X.K W S (dSeq ta tb)) := by
  refine PSs.imp (pss_cons h1 h2) fun D σ H h => ?_
  obtain ⟨F, ρ, w, h⟩ := h
  refine ⟨F, ρ, w, ?_⟩
  unfold dSeq at h
  cases q : ta ρ with
  | nx ρ' => rw [q] at h; exact fun σ' F' H' g w' k => ⟨F', ρ', w', OutS.pre g k h⟩
  | rt r ρ' => rw [q] at h; exact h
  | bk ρ' => rw [q] at h; exact h
  | ct ρ' => rw [q] at h; exact h
  | ex x => rw [q] at h; exact h
  | st => rw [q] at h; exact h
theorem sx_pass : PS X (.Pass pos) (liftS X.K W S dNext) := PS.imp ps_pass fun D σ H ⟨F, ρ, w, h⟩ => h σ F H .refl w .refl
theorem sx_break : PS X (.Break pos) (liftS X.K W S dBrk) := PS.imp ps_break fun D σ H ⟨F, ρ, w, h⟩ => h σ F H .refl w .refl
theorem sx_continue : PS X (.Continue pos) (liftS X.K W S dCnt) := PS.imp ps_continue fun D σ H ⟨F, ρ, w, h⟩ => h σ F H .refl w .refl
theorem sx_never : PS X st (liftS X.K W S dNever) := PS.imp ps_never fun D σ H ⟨F, ρ, w, h⟩ => h.elim
theorem sx_if (hc : PT X c (liftT X.K W tt)) (ha : PSs X body (liftS X.K W S ta)) (hb : PSs X orelse (liftS X.K W S tb)) : PS X (.If c body orelse pos) (liftS X.K W S (dIfS tt ta tb)) := by
  refine PS.imp (ps_if hc ha hb) fun D σ H h => ?_
  obtain ⟨F, ρ, w, h⟩ := h
  refine ⟨F, ρ, w, (OutS.thn h).imp ?_⟩
  rintro v H1 ⟨F1, ρ1, x, w1, rfl, g1, h1⟩
  cases v with
  | true => exact ⟨F1, ρ1, w1, h1⟩
  | false => exact ⟨F1, ρ1, w1, h1⟩
theorem kp_set {i : Nat} {σ : St} {o : Option V} (hi : i ∉ S) : Kp S σ (σ.set i o) := fun j hj => List.getElem?_set_ne fun z => hi (by rw [z]; exact hj)
/-- what a store of data asks -/
theorem set_run {K : PySem.W.Frag} {i : Nat} (hi : i ∉ S) {D : Ends} {σ : St} {H : Hp} (h : liftS K W S (dSet i te) D σ H) : tAsg (lift K W te) (gName i) D σ H := by
  obtain ⟨F, ρ, w, h⟩ := h
  refine ⟨F, ρ, w, (OutS.thn h).imp ?_⟩
  rintro v H1 ⟨F1, ρ1, x, w1, r1, g1, h1⟩
  obtain ⟨w2, ft⟩ := w1.setD (i := i) r1
  exact h1 _ F1 H1 (Gr.refl.less ft) w2 (kp_set hi)
theorem setV_run {K : PySem.W.Frag} {i : Nat} (hi : i ∉ S) {D : Ends} {σ : St} {H : Hp} (h : liftS K W S (dSetV i tv) D σ H) : tAsg (liftV K W tv) (gName i) D σ H := by
  obtain ⟨F, ρ, w, h⟩ := h
  refine ⟨F, ρ, w, ?_⟩
  unfold dSetV at h
  cases q : tv ρ with
  | ex x => rw [q] at h; exact h
  | st => rw [q] at h; exact h
  | ok s ρ1 =>
    rw [q] at h
    intro v F1 H1 g1 w1 re
    have own : ∀ p, ownS s = true → v = .ref p → OwnOk K F1 H1 p s → H p = none → ¬ Ft σ ρ1 p → D.nx (σ.set i (some v)) H1 := fun p hs hv ho h0 nf => by
      subst hv
      obtain ⟨w2, ft⟩ := w1.setO (i := i) hs ho nf
      refine h _ F1 H1 ⟨g1.ex, g1.keep, g1.dom, g1.nof, fun a z => ?_⟩ w2 (kp_set hi)
      rcases ft a z with z | rfl
      · exact g1.ft a z
      · exact .inr h0
    cases s with
    | d x =>
      obtain ⟨w2, ft⟩ := w1.setD (i := i) (show Rp K F1 x v from re)
      exact h _ F1 H1 (g1.less ft) w2 (kp_set hi)
    | l xs => obtain ⟨p, a, b, c, d⟩ := re; exact own p rfl a b c d
    | t xs => obtain ⟨p, a, b, c, d⟩ := re; exact own p rfl a b c d
    | non => exact re.elim
    | s ns => exact re.elim
theorem sx_set {i : Nat} {x : Str} {pos' : Pos} (hN : X.N.Nodup) (he : PE X e (lift X.K W te)) (hx : Loc X.env.scope x) (hi : X.N[i]? = some x := by rfl) (hS : i ∉ S := by decide)
    (hs : swapsWith e (some (.Name x pos')) pos.line X.env = pure false := by rfl) (hf : X.fn x = true ∨ X.env.scope.names.lookup x = some .local := by first | exact .inl rfl | exact .inr rfl | assumption) : PS X (.Assign [.Name x pos'] e pos) (liftS X.K W S (dSet i te)) :=
  PS.imp (ps_set hN hi hx he hs hf) fun D σ H h => set_run hS h
theorem sx_setV {i : Nat} {x : Str} {pos' : Pos} (hN : X.N.Nodup) (he : PE X e (liftV X.K W tv)) (hx : Loc X.env.scope x) (hi : X.N[i]? = some x := by rfl) (hS : i ∉ S := by decide)
    (hs : swapsWith e (some (.Name x pos')) pos.line X.env = pure false := by rfl) (hf : X.fn x = true ∨ X.env.scope.names.lookup x = some .local := by first | exact .inl rfl | exact .inr rfl | assumption) : PS X (.Assign [.Name x pos'] e pos) (liftS X.K W S (dSetV i tv)) :=
  PS.imp (ps_set hN hi hx he hs hf) fun D σ H h => setV_run hS h
theorem sx_ret (he : PE X e (lift X.K W te)) : PS X (.Return (some e) pos) (liftS X.K W S (dRet te)) := by
  refine PS.imp (ps_ret he) fun D σ H h => ?_
  obtain ⟨F, ρ, w, h⟩ := h
  refine ⟨F, ρ, w, (OutS.thn h).imp ?_⟩
  rintro v H1 ⟨F1, ρ1, x, w1, r1, g1, h1⟩
  exact h1 v σ F1 H1 _ (Gr.refl (M := Ft σ ρ1)) w1 .refl r1
theorem sx_retV (he : PE X e (liftV X.K W tv)) : PS X (.Return (some e) pos) (liftS X.K W S (dRetV tv)) := by
  refine PS.imp (ps_ret he) fun D σ H h => ?_
  obtain ⟨F, ρ, w, h⟩ := h
  refine ⟨F, ρ, w, ?_⟩
  unfold dRetV at h
  cases q : tv ρ with
  | ex x => rw [q] at h; exact h
  | st => rw [q] at h; exact h
  | ok s ρ1 =>
    rw [q] at h
    intro v F1 H1 g1 w1 re
    refine h v σ F1 H1 _ g1 w1 .refl ?_
    cases s with
    | d x => exact re
    | l xs => obtain ⟨p, a, b, c, d⟩ := re; exact ⟨p, a, b, c⟩
    | t xs => obtain ⟨p, a, b, c, d⟩ := re; exact ⟨p, a, b, c⟩
    | non => exact re.elim
    | s ns => exact re.elim
theorem sx_retN : PS X (.Return none pos) (liftS X.K W S dRetN) := PS.imp ps_retN fun D σ H ⟨F, ρ, w, h⟩ => h .non σ F H _ (Gr.refl (M := Ft σ ρ)) w .refl rfl
theorem sx_drop (he : PE X e (liftV X.K W tv)) (hs : swapsWith e none pos.line X.env = pure false := by rfl) : PS X (.Expr e pos) (liftS X.K W S (dDrop tv)) := by
  refine PS.imp (ps_expr he hs) fun D σ H h => ?_
  obtain ⟨F, ρ, w, h⟩ := h
  refine ⟨F, ρ, w, (OutS.thn h).imp ?_⟩
  rintro v H1 ⟨F1, ρ1, x, w1, r1, g1, h1⟩
  exact h1 σ F1 H1 .refl w1 .refl
end

/-! ### changes of own lists -/
/-- x.append(e), x an own list in slot i -/
def dApp (i : Nat) (te : DE) : DS := fun ρ => match ρ[i]? with
  | some (.l _) => (te ρ).thn fun d ρ1 => match ρ1[i]? with
    | some (.l xs) => if xs.length < 100000 then .nx (ρ1.set i (.l (xs ++ [d]))) else .st
    | _ => .st
  | _ => .st
/-- x[e'] = e -/
def dPut (i : Nat) (ti te : DE) : DS := fun ρ => (te ρ).thn fun d ρ1 => match ρ1[i]? with
  | some (.l _) => (ti ρ1).thn fun k ρ2 => match ρ2[i]?, k with
    | some (.l xs), .int j => match ixN xs.length j with
      | some m => .nx (ρ2.set i (.l (xs.set m d)))
      | none => .st
    | _, _ => .st
  | _ => .st
section
variable {X : Cx} {W : XW} {S : List Nat} {e e' : Expr} {te ti : DE} {pos p1 p2 p3 : Pos} {x : Str}
theorem sx_app {i : Nat} {st : Stmt} (h0 : PS X st (tDrop (tBM X.K "list" rAppend (tVar i) (tCons (lift X.K W te) tNil)))) : PS X st (liftS X.K W S (dApp i te)) := by
  refine PS.imp h0 fun D σ H h => ?_
  obtain ⟨F, ρ, w, h⟩ := h
  unfold dApp at h
  split at h
  · rename_i ys e0
    obtain ⟨o, h1, p, rfl, vs0, hp0, fp0, ra0⟩ := w.get e0
    refine ⟨_, h1, .inl ⟨rfl, _, .inl (.inl hp0)⟩, F, ρ, w, (OutS.thn h).imp ?_⟩
    rintro v H1 ⟨F1, ρ1, d, w1, r1, g1, h2⟩
    split at h2
    · rename_i xs e1
      split at h2
      · rename_i hl
        obtain ⟨o, h3, q, rfl, vs, hq, fq, ra⟩ := w1.get e1
        rw [h1] at h3; cases h3
        refine ⟨p, vs, v, rfl, rfl, hq, by rw [ra.length]; exact Nat.lt_of_lt_of_le hl (by decide), ?_⟩
        obtain ⟨w2, g2⟩ := w1.mut (t := .l (xs ++ [d])) (o := .lst (vs ++ [v])) e1 rfl rfl h1 ⟨_, upd_same, fq, ra.append ⟨v, [], rfl, r1, rfl⟩⟩
        exact h2 σ F1 _ g2 w2 .refl
      · exact h2.elim
    · exact h2.elim
  · exact h.elim
theorem sx_put {i : Nat} {st : Stmt} (h0 : PS X st (tAsg (lift X.K W te) (gSub (tVar i) (lift X.K W ti) rSetL))) : PS X st (liftS X.K W S (dPut i ti te)) := by
  refine PS.imp h0 fun D σ H h => ?_
  obtain ⟨F, ρ, w, h⟩ := h
  refine ⟨F, ρ, w, (OutS.thn h).imp ?_⟩
  rintro v H1 ⟨F1, ρ1, d, w1, r1, g1, h1⟩
  split at h1
  · rename_i ys e0
    obtain ⟨o, h2, p, rfl, vs0, hp0, fp0, ra0⟩ := w1.get e0
    refine ⟨_, h2, F1, ρ1, w1, (OutS.thn h1).imp ?_⟩
    rintro u H2 ⟨F2, ρ2, k, w2, r2, g2, h3⟩
    split at h3
    · rename_i xs j e1
      split at h3
      · rename_i m em
        obtain ⟨o, h4, q, rfl, vs, hq, fq, ra⟩ := w2.get e1
        rw [h2] at h4; cases h4
        cases r2
        refine ⟨p, vs, j, m, rfl, rfl, hq, by rw [ra.length]; exact em, ?_⟩
        obtain ⟨w3, g3⟩ := w2.mut (t := .l (xs.set m d)) (o := .lst (vs.set m v)) e1 rfl rfl h2 ⟨_, upd_same, fq, ra.set m (Rp.mono g2.ex _ _ r1)⟩
        exact h3 σ F2 _ g3 w3 .refl
      · exact h3.elim
    · exact h3.elim
  · exact h1.elim
end

/-! ### reading an own list by place: it stays own -/
def dIxV (i : Nat) (ti : DE) : DE := fun ρ => match ρ[i]? with
  | some (.l _) => (ti ρ).bnd fun k ρ1 => match ρ1[i]?, k with
    | some (.l xs), .int j => match atI xs j with
      | some d => .ok d ρ1
      | none => .st
    | _, _ => .st
  | _ => .st
section
variable {X : Cx} {W : XW} {e' : Expr} {ti : DE} {pos p1 : Pos} {x : Str}
theorem px_ixV {i : Nat} (hv : PE X (.Name x p1) (tVar i)) (hi : PE X e' (lift X.K W ti)) (hs : PlainIx e') : PE X (.Subscript (.Name x p1) e' pos) (lift X.K W (dIxV i ti)) := by
  refine PE.imp (pe_ix ix_list hv hi hs) fun σ H Q h => ?_
  obtain ⟨F, ρ, w, h⟩ := h
  unfold dIxV at h
  split at h
  · rename_i ys e0
    obtain ⟨o, h1, p, rfl, vs0, hp0, fp0, ra0⟩ := w.get e0
    refine ⟨_, h1, F, ρ, w, (Out.bnd back_D h).imp ?_⟩
    rintro v H1 ⟨F1, ρ1, d, w1, r1, g1, h2⟩
    split at h2
    · rename_i xs j e1
      obtain ⟨o, h3, q, rfl, vs, hq, fq, ra⟩ := w1.get e1
      rw [h1] at h3; cases h3
      cases r1
      cases ed : atI xs j with
      | none => rw [ed] at h2; exact h2.elim
      | some d' =>
        rw [ed] at h2
        obtain ⟨u, e2, r2⟩ := atI_rp ra ed
        exact ⟨p, vs, j, u, rfl, rfl, SqL.of hq, e2, h2 u F1 H1 .refl w1 r2⟩
    · exact h2.elim
  · exact h.elim
end
end Bd

set_option Elab.async false
set_option linter.all false
set_option maxRecDepth 100000
set_option maxHeartbeats 4000000
namespace Bd
open PySem PySem.Spec L2

/-! ### what is walked, as a list of data -/
def ItOk (K : PySem.W.Frag) (F : Hp) (J : It) (ds : List PyData) : Prop := ∀ (i : Nat) (H : Hp), Same F H →
  (∀ d, ds[i]? = some d → J.go i H ∧ ∀ x H', J.yld i H x H' → ∀ F2, Same F F2 → Same F2 H → ∃ F3, Gz F2 H F3 H' ∧ Rp K F3 d x) ∧ (ds.length ≤ i → J.stop i H)
theorem ItOk.mono {K : PySem.W.Frag} {F F' : Hp} {J : It} {ds : List PyData} (h : ItOk K F J ds) (s : Same F F') : ItOk K F' J ds := fun i H hs => by
  obtain ⟨a, b⟩ := h i H (s.trans hs)
  refine ⟨fun d e => ?_, b⟩
  obtain ⟨c, k⟩ := a d e
  exact ⟨c, fun x H' y F2 s1 s2 => k x H' y F2 (s.trans s1) s2⟩
abbrev DI := Ev → R (List PyData)
def RelI (K : PySem.W.Frag) : Rel (List PyData) It := fun _ F' _ _ _ J ds => ItOk K F' J ds
theorem back_I {K : PySem.W.Frag} : Back (RelI K) := fun _ _ _ _ _ _ _ _ _ h => h
def liftI (K : PySem.W.Frag) (W : XW) (ti : DI) : TI := fun σ H R => ∃ F ρ, Wd K F H σ ρ ∧ Out K W (RelI K) F H σ ρ R (ti ρ)
theorem PI.imp {X : Cx} {tg iter : Expr} {t t' : TI} (h : PI X tg iter t) (k : ∀ σ H R, t' σ H R → t σ H R) : PI X tg iter t' := ⟨fun pins s σ H R I hw => h.run pins s σ H R I (k σ H R hw)⟩
theorem PI.or {X : Cx} {tg iter : Expr} {t t' : TI} (h : PI X tg iter t) (h' : PI X tg iter t') : PI X tg iter (fun σ H R => t σ H R ∨ t' σ H R) := ⟨fun pins s σ H R I hw => hw.elim (h.run pins s σ H R I) (h'.run pins s σ H R I)⟩
section
variable {K : PySem.W.Frag} {F : Hp}
theorem it_list {a : Addr} {vs : List V} {ds : List PyData} (h : F a = some (.lst vs)) (r : RpAll K F ds vs) : ItOk K F (Itl K a) ds := fun i H s => by
  have hs : SqL K H a vs := SqL.of (s _ _ h)
  refine ⟨fun d e => ?_, fun hl => ⟨vs, hs, by rw [r.length]; exact hl⟩⟩
  obtain ⟨v, e1, r1⟩ := r.get e
  refine ⟨⟨vs, v, hs, e1⟩, fun x H' y F2 s1 s2 => ?_⟩
  obtain ⟨rfl, z⟩ := y
  have e2 := z vs hs
  rw [e1] at e2; cases e2
  exact ⟨F2, .refl s2, Rp.mono s1 _ _ r1⟩
theorem it_tup {a : Addr} {vs : List V} {ds : List PyData} (h : SqT K F a vs) (r : RpAll K F ds vs) : ItOk K F (Itt K a) ds := fun i H s => by
  have hs : SqT K H a vs := seqT s h
  refine ⟨fun d e => ?_, fun hl => ⟨vs, hs, by rw [r.length]; exact hl⟩⟩
  obtain ⟨v, e1, r1⟩ := r.get e
  refine ⟨⟨vs, v, hs, e1⟩, fun x H' y F2 s1 s2 => ?_⟩
  obtain ⟨rfl, z⟩ := y
  have e2 := z vs hs
  rw [e1] at e2; cases e2
  exact ⟨F2, .refl s2, Rp.mono s1 _ _ r1⟩
def rangeD (lo : Int) (n : Nat) : List PyData := (List.range n).map fun (i : Nat) => PyData.int (lo + (i : Int))
theorem rangeD_get {lo : Int} {n i : Nat} {d : PyData} (h : (rangeD lo n)[i]? = some d) : i < n ∧ d = .int (lo + (i : Int)) := by
  unfold rangeD at h
  rw [List.getElem?_map] at h
  by_cases hi : i < n
  · rw [List.getElem?_range hi] at h
    exact ⟨hi, (Option.some.inj h).symm⟩
  · rw [List.getElem?_eq_none (by simpa using hi)] at h
    cases h
theorem it_range {lo : Int} {n : Nat} : ItOk K F (Itr lo n) (rangeD lo n) := fun i H s => by
  refine ⟨fun d e => ?_, fun hl => show n ≤ i by simpa [rangeD] using hl⟩
  obtain ⟨hi, rfl⟩ := rangeD_get e
  refine ⟨hi, fun x H' y F2 s1 s2 => ?_⟩
  obtain ⟨rfl, rfl⟩ := y
  exact ⟨F2, .refl s2, rfl⟩
end
/-- a text's signs -/
def signsD (s : Str) : List PyData := s.cps.toList.map fun c => .str ⟨#[c]⟩
theorem it_str {K : PySem.W.Frag} {F : Hp} {s : Str} : ItOk K F (Its s) (signsD s) := fun i H sm => by
  refine ⟨fun d e => ?_, fun hl => show s.cps.size ≤ i by simpa [signsD] using hl⟩
  unfold signsD at e
  rw [List.getElem?_map] at e
  cases q : s.cps.toList[i]? with
  | none => rw [q] at e; cases e
  | some c =>
    rw [q] at e
    cases e
    have hi : i < s.cps.size := by simpa using (List.getElem?_eq_some_iff.mp q).1
    have hc : s.cps[i]? = some c := by simpa using q
    refine ⟨hi, fun x H' y F2 s1 s2 => ?_⟩
    obtain ⟨rfl, c', h1, rfl⟩ := y
    rw [hc] at h1; cases h1
    exact ⟨F2, .refl s2, rfl⟩
/-- a list, a tuple, a text -/
def dSq (te : DE) : DI := fun ρ => (te ρ).bnd fun x ρ1 => match x with
  | .list ds => .ok ds ρ1
  | .tuple ds => .ok ds ρ1
  | .str s => .ok (signsD s) ρ1
  | _ => .st
def i62 (i : Int) : Bool := decide (-(2 ^ 62) ≤ i) && decide (i < 2 ^ 62)
def dRng1 (te : DE) : DI := fun ρ => (te ρ).bnd fun x ρ1 => match x with
  | .int j => if i62 j = true then .ok (rangeD 0 j.toNat) ρ1 else .st
  | _ => .st
def dRng2 (ta tb : DE) : DI := fun ρ => (ta ρ).bnd fun x ρ1 => (tb ρ1).bnd fun y ρ2 => match x, y with
  | .int i, .int j => if (i62 i && i62 j) = true then .ok (rangeD i (j - i).toNat) ρ2 else .st
  | _, _ => .st
section
variable {X : Cx} {W : XW} {tg e a b : Expr} {te ta tb : DE} {pos p : Pos}
theorem px_sq (he : PE X e (lift X.K W te)) : PI X tg e (liftI X.K W (dSq te)) := by
  refine PI.imp (Bd.PI.or (pi_list he) (Bd.PI.or (pi_tup he) (pi_str he))) fun σ H R h => ?_
  obtain ⟨F, ρ, w, h⟩ := h
  unfold dSq at h
  cases q : te ρ with
  | ex x => rw [q] at h; exact .inl ⟨F, ρ, w, by rw [q]; exact h⟩
  | st => rw [q] at h; exact h.elim
  | ok x ρ1 =>
    rw [q] at h
    cases x with
    | list ds =>
      refine .inl ⟨F, ρ, w, ?_⟩
      rw [q]
      intro v F1 H1 g1 w1 r1
      obtain ⟨a, vs, rfl, h1, ra⟩ := (show Rp X.K F1 (.list ds) v from r1)
      exact ⟨a, rfl, ⟨vs, SqL.of (w1.ex _ _ h1)⟩, h (Itl X.K a) F1 H1 g1 w1 (it_list h1 ra)⟩
    | tuple ds =>
      refine .inr (.inl ⟨F, ρ, w, ?_⟩)
      rw [q]
      intro v F1 H1 g1 w1 r1
      obtain ⟨a, vs, rfl, h1, ra⟩ := (show Rp X.K F1 (.tuple ds) v from r1)
      exact ⟨a, rfl, ⟨vs, seqT w1.ex h1⟩, h (Itt X.K a) F1 H1 g1 w1 (it_tup h1 ra)⟩
    | str z =>
      refine .inr (.inr ⟨F, ρ, w, ?_⟩)
      rw [q]
      intro v F1 H1 g1 w1 r1
      cases (show v = V.str z from r1)
      exact ⟨z, rfl, h (Its z) F1 H1 g1 w1 it_str⟩
    | _ => exact h.elim
theorem px_rng1 (hm : X.mg "range" = none) (ha : PA X [a] (liftA X.K W (dArgs [ta]))) (hg : Gl X "range" := by rfl) (hs : starEach [a] X.env = [(false, eval a X.env)] := by rfl) : PI X tg (.Call (.Name "range" p) [a] [] pos) (liftI X.K W (dRng1 ta)) := by
  refine PI.imp (pi_range1 hg hm ha hs) fun σ H R h => ?_
  obtain ⟨F, ρ, w, h⟩ := h
  refine ⟨F, ρ, w, ?_⟩
  unfold dRng1 at h
  unfold dArgs dArgs
  cases q : ta ρ with
  | ex x => rw [q] at h; exact h
  | st => rw [q] at h; exact h.elim
  | ok x ρ1 =>
    rw [q] at h
    cases x with
    | int j =>
      simp only [Bd.R.bnd] at h
      split at h
      · rename_i hj
        intro vs F1 H1 g1 w1 r1
        obtain ⟨v, vs', rfl, r2, rfl⟩ := r1
        cases r2
        unfold i62 at hj
        rw [Bool.and_eq_true] at hj
        exact ⟨j, rfl, of_decide_eq_true hj.1, of_decide_eq_true hj.2, h _ F1 H1 g1 w1 it_range⟩
      · exact h.elim
    | _ => exact h.elim
theorem px_rng2 (hm : X.mg "range" = none) (ha : PA X [a, b] (liftA X.K W (dArgs [ta, tb]))) (hg : Gl X "range" := by rfl) (hs : starEach [a, b] X.env = [(false, eval a X.env), (false, eval b X.env)] := by rfl) (hs2 : starEach [b] X.env = [(false, eval b X.env)] := by rfl) : PI X tg (.Call (.Name "range" p) [a, b] [] pos) (liftI X.K W (dRng2 ta tb)) := by
  refine PI.imp (pi_range2 hg hm ha hs hs2) fun σ H R h => ?_
  obtain ⟨F, ρ, w, h⟩ := h
  refine ⟨F, ρ, w, ?_⟩
  have e1 : dRng2 ta tb ρ = (dArgs [ta, tb] ρ).bnd fun ds ρ2 => match ds with
    | [.int i, .int j] => if (i62 i && i62 j) = true then .ok (rangeD i (j - i).toNat) ρ2 else .st
    | _ => .st := by
    unfold dRng2 dArgs dArgs dArgs
    simp only [bnd_assoc]
    congr 1
    funext x ρ1
    congr 1
    funext y ρ2
    cases x <;> cases y <;> rfl
  rw [e1] at h
  refine (Out.bnd back_I h).imp ?_
  rintro vs H1 ⟨F1, ρ1, ds, w1, r1, g1, h1⟩
  split at h1
  · rename_i i j
    obtain ⟨v, vs', rfl, r2, v2, vs2, rfl, r3, rfl⟩ := r1
    cases r2; cases r3
    split at h1
    · rename_i hj
      unfold i62 at hj
      simp only [Bool.and_eq_true] at hj
      exact ⟨i, j, rfl, ⟨of_decide_eq_true hj.1.1, of_decide_eq_true hj.1.2, of_decide_eq_true hj.2.1, of_decide_eq_true hj.2.2⟩, h1 _ F1 H1 .refl w1 it_range⟩
    · exact h1.elim
  · exact h1.elim
end

/-! ### targets -/
abbrev DG := PyData → Ev → Option Ev
def gN (i : Nat) : DG := fun d ρ => some (ρ.set i (.d d))
def gNs : List Nat → List PyData → Ev → Option Ev
  | [], [], ρ => some ρ
  | i :: is, d :: ds, ρ => gNs is ds (ρ.set i (.d d))
  | _, _, _ => none
def gT (is : List Nat) : DG := fun d ρ => match d with
  | .tuple ds => gNs is ds ρ
  | _ => none
def TgOk (K : PySem.W.Frag) (g : TG) (dg : DG) (S : List Nat) : Prop := ∀ (F H : Hp) (σ : St) (ρ ρ' : Ev) (d : PyData) (v : V) (Q : St → Hp → Prop), Wd K F H σ ρ → Rp K F d v → dg d ρ = some ρ' →
  (∀ σ', Wd K F H σ' ρ' → (∀ a, Ft σ' ρ' a → Ft σ ρ a) → Kp S σ σ' → Q σ' H) → g v σ H Q
theorem tg_name {K : PySem.W.Frag} {i : Nat} {S : List Nat} (hi : i ∉ S) : TgOk K (gName i) (gN i) S := fun F H σ ρ ρ' d v Q w r e k => by
  cases e
  obtain ⟨w2, ft⟩ := w.setD (i := i) r
  exact k _ w2 ft (kp_set hi)
def gNamesT : List Nat → TGs
  | [] => gNil
  | i :: is => gCons (gName i) (gNamesT is)
theorem tg_names {K : PySem.W.Frag} {S : List Nat} {F H : Hp} : ∀ (is : List Nat), (∀ i ∈ is, i ∉ S) → ∀ (σ : St) (ρ ρ' : Ev) (ds : List PyData) (vs : List V) (Q : St → Hp → Prop), Wd K F H σ ρ → RpAll K F ds vs → gNs is ds ρ = some ρ' →
    (∀ σ', Wd K F H σ' ρ' → (∀ a, Ft σ' ρ' a → Ft σ ρ a) → Kp S σ σ' → Q σ' H) → gNamesT is vs σ H Q
  | [], _, σ, ρ, ρ', ds, vs, Q, w, r, e, k => by
    cases ds with
    | nil => cases e; cases r; exact ⟨rfl, k σ w (fun _ z => z) .refl⟩
    | cons d ds => cases e
  | i :: is, hS, σ, ρ, ρ', ds, vs, Q, w, r, e, k => by
    cases ds with
    | nil => cases e
    | cons d ds =>
      obtain ⟨v, us, rfl, r1, r2⟩ := r
      obtain ⟨w2, ft⟩ := w.setD (i := i) r1
      refine ⟨v, us, rfl, ?_⟩
      refine tg_names is (fun j hj => hS j (List.mem_cons_of_mem _ hj)) _ _ ρ' ds us Q w2 r2 e fun σ' w3 ft3 kp => ?_
      exact k σ' w3 (fun a z => ft a (ft3 a z)) fun j hj => (kp j hj).trans (kp_set (hS i List.mem_cons_self) j hj)
theorem gNs_len : ∀ {is : List Nat} {ds : List PyData} {ρ ρ' : Ev}, gNs is ds ρ = some ρ' → ds.length = is.length
  | [], [], _, _, _ => rfl
  | [], _ :: _, _, _, e => by cases e
  | _ :: _, [], _, _, e => by cases e
  | i :: is, d :: ds, ρ, ρ', e => by
    rw [List.length_cons, List.length_cons, gNs_len (is := is) (ds := ds) e]
theorem tg_tup {K : PySem.W.Frag} {S : List Nat} {is : List Nat} (hS : ∀ i ∈ is, i ∉ S) : TgOk K (gTup K is.length (gNamesT is)) (gT is) S := fun F H σ ρ ρ' d v Q w r e k => by
  cases d with
  | tuple ds =>
    obtain ⟨a, vs, rfl, h1, ra⟩ := r
    exact ⟨a, vs, rfl, seqT w.ex h1, by rw [ra.length]; exact gNs_len e, tg_names is hS σ ρ ρ' ds vs Q w ra e k⟩
  | _ => cases e

/-! ### for -/
def forL (g : DG) (body : DS) : List PyData → Ev → RS
  | [], ρ => .nx ρ
  | d :: ds, ρ => match g d ρ with
    | none => .st
    | some ρ1 => match body ρ1 with
      | .nx ρ2 => forL g body ds ρ2
      | .ct ρ2 => forL g body ds ρ2
      | .bk ρ2 => .nx ρ2
      | .rt r ρ2 => .rt r ρ2
      | .ex x => .ex x
      | .st => .st
def dFor (ti : DI) (g : DG) (body : DS) : DS := fun ρ => (ti ρ).thn fun ds ρ1 => forL g body ds ρ1
section
variable {K : PySem.W.Frag} {W : XW} {S : List Nat}
theorem Gr.sub {F H : Hp} {M M' : Addr → Prop} (h : ∀ a, M' a → M a) : Gr F H M F H M' := Gr.refl.less h
theorem for_run {ti : DI} {g : TG} {dg : DG} {tb : DS} (hg : TgOk K g dg S) {D : Ends} {σ : St} {H : Hp} (h : liftS K W S (dFor ti dg tb) D σ H) : tFor (liftI K W ti) g (liftS K W S tb) D σ H := by
  obtain ⟨F, ρ, w, h⟩ := h
  refine ⟨F, ρ, w, (OutS.thn h).imp ?_⟩
  rintro J H1 ⟨F1, ρ1, ds, w1, it, g1, h1⟩
  refine ⟨fun i m σ' H' => m + i = ds.length ∧ ∃ F' ρ', Same F1 F' ∧ Wd K F' H' σ' ρ' ∧ OutS K W S F' H' σ' ρ' D (forL dg tb (ds.drop i) ρ'), ⟨ds.length, rfl, F1, ρ1, .refl _, w1, h1⟩, ?_⟩
  rintro i m σ' H' ⟨em, F', ρ', s1, w', h'⟩
  obtain ⟨ia, ib⟩ := (show ItOk K F1 J ds from it) i H' (s1.trans w'.ex)
  by_cases hi : i < ds.length
  · have ed : ds[i]? = some ds[i] := List.getElem?_eq_getElem hi
    obtain ⟨go, yl⟩ := ia _ ed
    rw [List.drop_eq_getElem_cons hi] at h'
    refine .inr ⟨go, fun σ2 H2 => ∃ F2 ρ2, Same F1 F2 ∧ Wd K F2 H2 σ2 ρ2 ∧ OutS K W S F2 H2 σ2 ρ2 D (forL dg tb (ds.drop (i + 1)) ρ2), fun σ2 H2 ⟨F2, ρ2, a, b, c⟩ => ⟨m - 1, by omega, by omega, F2, ρ2, a, b, c⟩, fun x H2 y => ?_⟩
    obtain ⟨F3, gz, rx⟩ := yl x H2 y F' s1 w'.ex
    have w3 := w'.gz gz
    have h3 := OutS.pre (gz.gr (M := Ft σ' ρ')) .refl h'
    unfold forL at h3
    cases eg : dg ds[i] ρ' with
    | none => rw [eg] at h3; exact h3.elim
    | some ρ3 =>
      rw [eg] at h3
      refine hg F3 H2 σ' ρ' ρ3 ds[i] x _ w3 rx eg fun σ3 w4 ft kp => ⟨F3, ρ3, w4, ?_⟩
      have h4 := OutS.pre (Gr.sub (F := F3) (H := H2) ft) kp h3
      simp only [] at h4
      cases eb : tb ρ3 with
      | nx ρ4 =>
        rw [eb] at h4
        exact fun σ5 F5 H5 g5 w5 k5 => ⟨F5, ρ4, (s1.trans gz.ex).trans g5.ex, w5, OutS.pre g5 k5 h4⟩
      | ct ρ4 =>
        rw [eb] at h4
        exact fun σ5 F5 H5 g5 w5 k5 => ⟨F5, ρ4, (s1.trans gz.ex).trans g5.ex, w5, OutS.pre g5 k5 h4⟩
      | bk ρ4 => rw [eb] at h4; exact h4
      | rt r ρ4 => rw [eb] at h4; exact h4
      | ex x => rw [eb] at h4; exact h4
      | st => rw [eb] at h4; exact h4
  · rw [List.drop_eq_nil_of_le (by omega)] at h'
    exact .inl ⟨ib (by omega), h' σ' F' H' .refl w' .refl⟩
end
section
variable {X : Cx} {W : XW} {S : List Nat} {tg iter c : Expr} {body : List Stmt} {ti : DI} {g : TG} {dg : DG} {tb : DS} {tt : DT} {pos : Pos}
theorem sx_for (hp : PassesOwn (model X.prog X.w) X.A X.env X.xe) (hi : PI X tg iter (liftI X.K W ti)) (hg : PG X tg g) (ht : TgOk X.K g dg S) (hb : PSs X body (liftS X.K W S tb)) (hc : X.calm = true := by rfl) (hs : ∀ x, foldedSetIterable iter X.env x = pure x := by intro _; rfl) :
    PS X (.For tg iter body [] pos) (liftS X.K W S (dFor ti dg tb)) :=
  PS.imp (ps_for hp hc hi hg hb hs) fun D σ H h => for_run ht h

/-! ### while -/
def whL (c : DT) (b : DS) : Nat → Ev → RS
  | 0, _ => .st
  | n + 1, ρ => (c ρ).thn fun k ρ1 => if k = true then (match b ρ1 with
      | .nx ρ2 => whL c b n ρ2
      | .ct ρ2 => whL c b n ρ2
      | .bk ρ2 => .nx ρ2
      | .rt r ρ2 => .rt r ρ2
      | .ex x => .ex x
      | .st => .st) else .nx ρ1
def dWhile (fuel : Ev → Nat) (c : DT) (b : DS) : DS := fun ρ => whL c b (fuel ρ) ρ
theorem sx_while (fuel : Ev → Nat) (hp : PassesOwn (model X.prog X.w) X.A X.env X.xe) (hc : PT X c (liftT X.K W tt)) (hb : PSs X body (liftS X.K W S tb)) : PS X (.While c body [] pos) (liftS X.K W S (dWhile fuel tt tb)) := by
  refine PS.imp (ps_while hp hc hb) fun D σ H h => ?_
  obtain ⟨F, ρ, w, h⟩ := h
  refine ⟨fun n σ' H' => ∃ F' ρ', Wd X.K F' H' σ' ρ' ∧ OutS X.K W S F' H' σ' ρ' D (whL tt tb n ρ'), ⟨_, F, ρ, w, h⟩, ?_⟩
  rintro n σ' H' ⟨F', ρ', w', h'⟩
  cases n with
  | zero => exact h'.elim
  | succ n =>
    unfold whL at h'
    refine ⟨F', ρ', w', (OutS.thn h').imp ?_⟩
    rintro v H1 ⟨F1, ρ1, x, w1, rfl, g1, h1⟩
    cases v with
    | true =>
      refine ⟨fun σ2 H2 => ∃ F2 ρ2, Wd X.K F2 H2 σ2 ρ2 ∧ OutS X.K W S F2 H2 σ2 ρ2 D (whL tt tb n ρ2), fun σ2 H2 ⟨F2, ρ2, a, b⟩ => ⟨n, Nat.lt_succ_self n, F2, ρ2, a, b⟩, F1, ρ1, w1, ?_⟩
      simp only [if_true] at h1
      cases eb : tb ρ1 with
      | nx ρ4 => rw [eb] at h1; exact fun σ5 F5 H5 g5 w5 k5 => ⟨F5, ρ4, w5, OutS.pre g5 k5 h1⟩
      | ct ρ4 => rw [eb] at h1; exact fun σ5 F5 H5 g5 w5 k5 => ⟨F5, ρ4, w5, OutS.pre g5 k5 h1⟩
      | bk ρ4 => rw [eb] at h1; exact h1
      | rt r ρ4 => rw [eb] at h1; exact h1
      | ex x => rw [eb] at h1; exact h1
      | st => rw [eb] at h1; exact h1
    | false => exact h1 σ' F1 H1 .refl w1 .refl
end
end Bd

set_option Elab.async false
set_option linter.all false
set_option maxRecDepth 100000
set_option maxHeartbeats 4000000
namespace Bd
open PySem PySem.Spec L2

/-! ### list comprehensions -/
def wipeE (ρ : Ev) : List Nat → Ev
  | [] => ρ
  | v :: vs => (wipeE ρ vs).set v .non
def keepD : Option Sl → Sl
  | some (.d x) => .d x
  | some (.s ns) => .s ns
  | _ => .non
/-- behind the block: the block's own names are as they were, if they held data -/
def backE (ρ ρ2 : Ev) : List Nat → Ev
  | [] => ρ2
  | v :: vs => (backE ρ ρ2 vs).set v (keepD ρ[v]?)
/-- nothing is raised within a block -/
def nox {α : Type} : R α → R α
  | .ok a ρ => .ok a ρ
  | _ => .st
def lcL (vs : List Nat) (g : DG) (tt : DT) (te : DE) : List PyData → List PyData → Ev → R (List PyData)
  | [], acc, ρ => .ok acc ρ
  | d :: ds, acc, ρ => match g d (wipeE ρ vs) with
    | none => .st
    | some ρ1 => (nox (tt ρ1)).bnd fun k ρ2 => if k = true then ((nox (te ρ2)).bnd fun y ρ3 => if acc.length < 100000 then lcL vs g tt te ds (acc ++ [y]) (backE ρ ρ3 vs) else .st) else lcL vs g tt te ds acc (backE ρ ρ2 vs)
def dLc (vs : List Nat) (ti : DI) (g : DG) (tt : DT) (te : DE) : DV := fun ρ => (ti ρ).bnd fun ds ρ1 => (lcL vs g tt te ds [] ρ1).bnd fun ys ρ2 => .ok (.l ys) ρ2
def dYes : DT := fun ρ => .ok true ρ
section
variable {K : PySem.W.Frag} {W : XW} {F H F' H' : Hp} {σ : St} {ρ ρ2 : Ev}
theorem wipeE_get {i : Nat} {s : Sl} : ∀ {vs : List Nat}, (wipeE ρ vs)[i]? = some s → s = .non ∨ ρ[i]? = some s
  | [], h => .inr h
  | v :: vs, h => by
    rcases get_set h with ⟨_, e⟩ | ⟨_, h⟩
    · exact .inl e
    · exact wipeE_get h
theorem wipeE_len : ∀ {vs : List Nat}, (wipeE ρ vs).length = ρ.length
  | [] => rfl
  | v :: vs => by unfold wipeE; rw [List.length_set]; exact wipeE_len
theorem backE_len : ∀ {vs : List Nat}, (backE ρ ρ2 vs).length = ρ2.length
  | [] => rfl
  | v :: vs => by unfold backE; rw [List.length_set]; exact backE_len
theorem backE_get {i : Nat} {s : Sl} : ∀ {vs : List Nat}, (backE ρ ρ2 vs)[i]? = some s → (i ∈ vs ∧ s = keepD ρ[i]?) ∨ (i ∉ vs ∧ ρ2[i]? = some s)
  | [], h => .inr ⟨by simp, h⟩
  | v :: vs, h => by
    rcases get_set h with ⟨rfl, e⟩ | ⟨ne, h⟩
    · exact .inl ⟨List.mem_cons_self, e⟩
    · rcases backE_get h with ⟨a, b⟩ | ⟨a, b⟩
      · exact .inl ⟨List.mem_cons_of_mem _ a, b⟩
      · exact .inr ⟨fun z => (List.mem_cons.mp z).elim ne a, b⟩
theorem keepD_own (o : Option Sl) : ownS (keepD o) = false := by
  unfold keepD
  split <;> rfl
theorem wipe_own {vs : List Nat} {i : Nat} {s : Sl} (h : (wipeE ρ vs)[i]? = some s) (hs : ownS s = true) : ρ[i]? = some s := by
  rcases wipeE_get h with rfl | h
  · cases hs
  · exact h
theorem wipe_at : ∀ {vs : List Nat} {i : Nat} {o : Option V}, (wipe σ vs)[i]? = some o → o = none ∨ (i ∉ vs ∧ σ[i]? = some o)
  | [], i, o, h => .inr ⟨by simp, h⟩
  | v :: vs, i, o, h => by
    rcases get_set h with ⟨rfl, e⟩ | ⟨ne, h⟩
    · exact .inl e
    · rcases wipe_at h with e | ⟨a, b⟩
      · exact .inl e
      · exact .inr ⟨fun z => (List.mem_cons.mp z).elim ne a, b⟩
theorem wipe_in : ∀ {vs : List Nat} {i : Nat} {o : Option V}, i ∈ vs → (wipe σ vs)[i]? = some o → o = none
  | v :: vs, i, o, hi, h => by
    rcases get_set h with ⟨_, e⟩ | ⟨ne, h⟩
    · exact e
    · rcases List.mem_cons.mp hi with e | hi
      · exact absurd e ne
      · exact wipe_in hi h
theorem wipeE_in : ∀ {vs : List Nat} {i : Nat} {s : Sl}, i ∈ vs → (wipeE ρ vs)[i]? = some s → s = .non
  | v :: vs, i, o, hi, h => by
    rcases get_set h with ⟨_, e⟩ | ⟨ne, h⟩
    · exact e
    · rcases List.mem_cons.mp hi with e | hi
      · exact absurd e ne
      · exact wipeE_in hi h
theorem ft_wipe {vs : List Nat} {a : Addr} (h : Ft (wipe σ vs) (wipeE ρ vs) a) : Ft σ ρ a := by
  obtain ⟨i, s, h1, h2, h3⟩ := h
  rcases wipe_at h3 with e | ⟨_, h3⟩
  · cases e
  · exact ⟨i, s, wipe_own h1 h2, h2, h3⟩
theorem Wd.wipe (w : Wd K F H σ ρ) (vs : List Nat) : Wd K F H (wipe σ vs) (wipeE ρ vs) := by
  refine ⟨w.ex, by rw [wipeE_len, wipe_length]; exact w.len, fun i o s h1 h2 => ?_, fun i j s t a h1 h2 h3 h4 h5 h6 => ?_⟩
  · by_cases hi : i ∈ vs
    · rw [wipeE_in hi h2]; trivial
    · rcases wipeE_get h2 with rfl | h2
      · trivial
      · rw [wipe_out hi] at h1
        exact w.at_ i o s h1 h2
  · rcases wipe_at h5 with e | ⟨_, h5⟩
    · cases e
    · rcases wipe_at h6 with e | ⟨_, h6⟩
      · cases e
      · exact w.sep i j s t a (wipe_own h1 h2) h2 (wipe_own h3 h4) h4 h5 h6
/-- behind the block's turn -/
theorem Wd.back {σ2 : St} {vs : List Nat} (w : Wd K F H σ ρ) (w2 : Wd K F' H' σ2 ρ2) (e : L2.wipe σ2 vs = L2.wipe σ vs) (s : Same F F') : Wd K F' H' σ (backE ρ ρ2 vs) ∧ (∀ a, Ft σ (backE ρ ρ2 vs) a → Ft σ2 ρ2 a) := by
  have out : ∀ i, i ∉ vs → σ2[i]? = σ[i]? := fun i hi => by
    have h1 := wipe_out (σ := σ2) hi
    have h2 := wipe_out (σ := σ) hi
    rw [← h1, ← h2, e]
  have key : ∀ (i : Nat) (t : Sl) (a : Addr), (backE ρ ρ2 vs)[i]? = some t → ownS t = true → σ[i]? = some (some (V.ref a)) → ρ2[i]? = some t ∧ σ2[i]? = some (some (V.ref a)) := fun i t a h1 h2 h3 => by
    rcases backE_get h1 with ⟨_, rfl⟩ | ⟨hi, h1⟩
    · rw [keepD_own] at h2; cases h2
    · exact ⟨h1, by rw [out i hi]; exact h3⟩
  have hl : σ2.length = σ.length := by
    have h1 := wipe_length σ2 vs
    have h2 := wipe_length σ vs
    rw [← h1, ← h2, e]
  refine ⟨⟨w2.ex, by rw [backE_len, w2.len, hl], fun i o t h1 h2 => ?_, fun i j t1 t2 a h1 h2 h3 h4 h5 h6 => ?_⟩, fun a ⟨i, t, h1, h2, h3⟩ => ?_⟩
  · rcases backE_get h2 with ⟨_, rfl⟩ | ⟨hi, h2⟩
    · cases q : ρ[i]? with
      | none => trivial
      | some x =>
        have h := w.at_ i o x h1 q
        cases x with
        | d y => obtain ⟨v, a, b⟩ := h; exact ⟨v, a, Rp.mono s _ _ b⟩
        | s ns => obtain ⟨v, a, b⟩ := h; exact ⟨v, a, s.seq b⟩
        | non => trivial
        | l xs => trivial
        | t xs => trivial
    · exact w2.at_ i o t (by rw [out i hi]; exact h1) h2
  · obtain ⟨a1, b1⟩ := key i t1 a h1 h2 h5
    obtain ⟨a2, b2⟩ := key j t2 a h3 h4 h6
    exact w2.sep i j t1 t2 a a1 h2 a2 h4 b1 b2
  · obtain ⟨a1, b1⟩ := key i t a h1 h2 h3
    exact ⟨i, t, a1, h2, b1⟩
/-- a target of a comprehension: it stores the block's own names alone -/
def TgW (K : PySem.W.Frag) (g : TG) (dg : DG) (vs : List Nat) : Prop := ∀ (F H : Hp) (σ : St) (ρ ρ' : Ev) (d : PyData) (v : V) (Q : St → Hp → Prop), Wd K F H σ ρ → Rp K F d v → dg d ρ = some ρ' →
  (∀ σ', Wd K F H σ' ρ' → (∀ a, Ft σ' ρ' a → Ft σ ρ a) → wipe σ' vs = wipe σ vs → Q σ' H) → g v σ H Q
theorem wipe_set {i : Nat} {o : Option V} : ∀ {vs : List Nat}, i ∈ vs → wipe (σ.set i o) vs = wipe σ vs
  | v :: vs, hi => by
    unfold wipe
    by_cases e : i ∈ vs
    · rw [wipe_set e]
    · have ev : v = i := by
        rcases List.mem_cons.mp hi with h | h
        · exact h.symm
        · exact absurd h e
      subst ev
      clear hi
      have key : ∀ (us : List Nat), wipe (σ.set v o) us = (wipe σ us).set v (if v ∈ us then none else o) ∨ (wipe σ us).length ≤ v := by
        intro us
        induction us with
        | nil => exact .inl (by simp [wipe])
        | cons u us ih =>
          rcases ih with ih | ih
          · left
            show (wipe (σ.set v o) us).set u none = ((wipe σ us).set u none).set v _
            rw [ih]
            by_cases hu : u = v
            · subst hu
              rw [List.set_set, List.set_set, if_pos List.mem_cons_self]
            · rw [List.set_comm _ _ (fun z => hu z.symm)]
              congr 1
              by_cases hm : v ∈ us
              · rw [if_pos hm, if_pos (List.mem_cons_of_mem _ hm)]
              · rw [if_neg hm, if_neg (fun z => (List.mem_cons.mp z).elim (fun z => hu z.symm) hm)]
          · right
            show ((wipe σ us).set u none).length ≤ v
            rw [List.length_set]; exact ih
      rcases key vs with h | h
      · rw [h, List.set_set]
      · rw [List.set_eq_of_length_le h, List.set_eq_of_length_le (by rw [wipe_length] at h ⊢; rw [List.length_set]; exact h)]
        have hh : σ.length ≤ v := by rw [wipe_length] at h; exact h
        rw [List.set_eq_of_length_le hh]
theorem tw_name {i : Nat} {vs : List Nat} (hi : i ∈ vs) : TgW K (gName i) (gN i) vs := fun F H σ ρ ρ' d v Q w r e k => by
  cases e
  obtain ⟨w2, ft⟩ := w.setD (i := i) r
  exact k _ w2 ft (wipe_set hi)
theorem tw_names {vs : List Nat} {F H : Hp} : ∀ (is : List Nat), (∀ i ∈ is, i ∈ vs) → ∀ (σ : St) (ρ ρ' : Ev) (ds : List PyData) (us : List V) (Q : St → Hp → Prop), Wd K F H σ ρ → RpAll K F ds us → gNs is ds ρ = some ρ' →
    (∀ σ', Wd K F H σ' ρ' → (∀ a, Ft σ' ρ' a → Ft σ ρ a) → wipe σ' vs = wipe σ vs → Q σ' H) → gNamesT is us σ H Q
  | [], _, σ, ρ, ρ', ds, us, Q, w, r, e, k => by
    cases ds with
    | nil => cases e; cases r; exact ⟨rfl, k σ w (fun _ z => z) rfl⟩
    | cons d ds => cases e
  | i :: is, hS, σ, ρ, ρ', ds, us, Q, w, r, e, k => by
    cases ds with
    | nil => cases e
    | cons d ds =>
      obtain ⟨v, us, rfl, r1, r2⟩ := r
      obtain ⟨w2, ft⟩ := w.setD (i := i) r1
      refine ⟨v, us, rfl, ?_⟩
      refine tw_names is (fun j hj => hS j (List.mem_cons_of_mem _ hj)) _ _ ρ' ds us Q w2 r2 e fun σ' w3 ft3 kp => ?_
      exact k σ' w3 (fun a z => ft a (ft3 a z)) (kp.trans (wipe_set (hS i List.mem_cons_self)))
theorem tw_tup {is vs : List Nat} (hS : ∀ i ∈ is, i ∈ vs) : TgW K (gTup K is.length (gNamesT is)) (gT is) vs := fun F H σ ρ ρ' d v Q w r e k => by
  cases d with
  | tuple ds =>
    obtain ⟨a, us, rfl, h1, ra⟩ := r
    exact ⟨a, us, rfl, seqT w.ex h1, by rw [ra.length]; exact gNs_len e, tw_names is hS σ ρ ρ' ds us Q w ra e k⟩
  | _ => cases e
theorem wipe_wipe : ∀ {vs us : List Nat}, (∀ v ∈ vs, v ∈ us) → wipe (wipe σ us) vs = wipe σ us
  | [], us, _ => rfl
  | v :: vs, us, h => by
    show (wipe (wipe σ us) vs).set v none = wipe σ us
    rw [wipe_wipe (vs := vs) (us := us) fun x hx => h x (List.mem_cons_of_mem _ hx)]
    have hv := h v List.mem_cons_self
    apply List.ext_getElem?
    intro i
    by_cases e : v = i
    · subst e
      by_cases hl : v < (wipe σ us).length
      · rw [List.getElem?_set_self hl, List.getElem?_eq_getElem hl]
        have := wipe_in (σ := σ) hv (List.getElem?_eq_getElem hl)
        rw [this]
      · rw [List.getElem?_eq_none (by rw [List.length_set]; omega), List.getElem?_eq_none (by omega)]
    · rw [List.getElem?_set_ne e]
abbrev W0 : XW := fun _ _ => False
/-- where a comprehension stands: F1, H1, ρ1 its start, D its new list -/
structure LcAt (K : PySem.W.Frag) (σ : St) (F1 H1 : Hp) (ρ1 : Ev) (D : Addr) (F' H' : Hp) (ρ' : Ev) (acc : List PyData) : Prop where
  sm : Same F1 F'
  wd : Wd K F' H' σ ρ'
  gr : Gr F1 H1 (Ft σ ρ1) F' H' (Ft σ ρ')
  lst : ∃ us, H' D = some (.lst us) ∧ RpAll K F' acc us
  fd : F' D = none
  nf : ¬ Ft σ ρ' D
theorem lc_run {vs : List Nat} {ti : DI} {g : TG} {dg : DG} {tt : DT} {te : DE} (hg : TgW K g dg vs) {Q : VK} (h : liftV K W (dLc vs ti dg tt te) σ H Q) : tLc (liftI K W ti) g (liftT K W0 tt) (lift K W0 te) vs σ H Q := by
  obtain ⟨F, ρ, w, h⟩ := h
  refine ⟨F, ρ, w, (Out.bnd back_V h).imp ?_⟩
  rintro J H1 ⟨F1, ρ1, ds, w1, it, g1, h1⟩
  intro D hD
  refine ⟨fun i m H' => m + i = ds.length ∧ ∃ F' ρ' acc, LcAt K σ F1 H1 ρ1 D F' H' ρ' acc ∧ Out K W (RelV K) F1 H1 σ ρ1 Q ((lcL vs dg tt te (ds.drop i) acc ρ').bnd fun ys ρ2 => .ok (.l ys) ρ2), ⟨ds.length, rfl, F1, ρ1, [], ?_, h1⟩, ?_⟩
  · have gz : Gz F1 H1 F1 (upd H1 D (.lst [])) := .tmp w1.ex hD
    refine ⟨.refl _, w1.gz gz, gz.gr, ⟨[], upd_same, rfl⟩, w1.ex.free hD, fun z => ?_⟩
    obtain ⟨⟨o, ho⟩, _⟩ := w1.ft_there z
    rw [hD] at ho; cases ho
  · rintro i m H' ⟨em, F', ρ', acc, A, h'⟩
    obtain ⟨ia, ib⟩ := (show ItOk K F1 J ds from it) i H' (A.sm.trans A.wd.ex)
    by_cases hi : i < ds.length
    case neg =>
      rw [List.drop_eq_nil_of_le (by omega)] at h'
      obtain ⟨us, hu, ra⟩ := A.lst
      exact .inl ⟨ib (by omega), h' (.ref D) F' H' A.gr A.wd ⟨D, rfl, ⟨us, hu, A.fd, ra⟩, hD, A.nf⟩⟩
    case pos =>
      have ed : ds[i]? = some ds[i] := List.getElem?_eq_getElem hi
      obtain ⟨go, yl⟩ := ia _ ed
      rw [List.drop_eq_getElem_cons hi] at h'
      refine .inr ⟨go, fun H2 => ∃ F2 ρ2 acc2, LcAt K σ F1 H1 ρ1 D F2 H2 ρ2 acc2 ∧ Out K W (RelV K) F1 H1 σ ρ1 Q ((lcL vs dg tt te (ds.drop (i + 1)) acc2 ρ2).bnd fun ys ρ2 => .ok (.l ys) ρ2), fun H2 ⟨F2, ρ2, acc2, a, b⟩ => ⟨m - 1, by omega, by omega, F2, ρ2, acc2, a, b⟩, fun x H2 y => ?_⟩
      obtain ⟨F3, gz, rx⟩ := yl x H2 y F' A.sm A.wd.ex
      have w3 := A.wd.gz gz
      unfold lcL at h'
      cases eg : dg ds[i] (wipeE ρ' vs) with
      | none => rw [eg] at h'; exact h'.elim
      | some ρ3 =>
        rw [eg] at h'
        simp only [] at h'
        refine hg F3 H2 _ _ ρ3 ds[i] x _ (w3.wipe vs) rx eg fun σ3 w4 ft kp => ?_
        have kp' : wipe σ3 vs = wipe σ vs := kp.trans (wipe_wipe fun _ z => z)
        refine ⟨kp', F3, ρ3, w4, ?_⟩
        have ft3 : ∀ a, Ft σ3 ρ3 a → Ft σ ρ' a := fun a z => ft_wipe (ft a z)
        have nf3 : ¬ Ft σ3 ρ3 D := fun z => A.nf (ft3 D z)
        obtain ⟨us, hu, ra⟩ := A.lst
        have hu3 : H2 D = some (.lst us) := gz.keep D _ hu
        have fd3 : F3 D = none := gz.nof D _ hu A.fd
        -- behind any part of the turn
        have stp : ∀ (F4 H4 : Hp) (ρ4 : Ev), Gr F3 H2 (Ft σ3 ρ3) F4 H4 (Ft σ3 ρ4) → Wd K F4 H4 σ3 ρ4 → LcAt K σ F1 H1 ρ1 D F4 H4 (backE ρ' ρ4 vs) acc ∧ H4 D = some (.lst us) ∧ RpAll K F4 acc us := fun F4 H4 ρ4 g4 w5 => by
          obtain ⟨w6, ft6⟩ := w3.back (vs := vs) w5 kp' g4.ex
          have hu4 := g4.keep D _ hu3 nf3
          have ra4 := RpAll.mono (gz.ex.trans g4.ex) _ _ ra
          refine ⟨⟨(A.sm.trans gz.ex).trans g4.ex, w6, (A.gr.trans (gz.gr (M := Ft σ ρ'))).trans ((Gr.sub (F := F3) (H := H2) ft3).trans (g4.less ft6)), ⟨us, hu4, ra4⟩, g4.nof D _ hu3 fd3 nf3, fun z => ?_⟩, hu4, ra4⟩
          rcases g4.ft D (ft6 D z) with z | z
          · exact nf3 z
          · rw [hu3] at z; cases z
        cases et : tt ρ3 with
        | ex x => rw [et] at h'; exact h'.elim
        | st => rw [et] at h'; exact h'.elim
        | ok k ρ4 =>
          rw [et] at h'
          intro b F4 H4 g4 w5 eb
          have eb' : b = k := eb
          subst eb'
          simp only [nox, R.bnd] at h'
          cases b with
          | false => exact ⟨F4, _, acc, (stp F4 H4 ρ4 g4 w5).1, h'⟩
          | true =>
            refine ⟨F4, ρ4, w5, ?_⟩
            simp only [if_true] at h'
            cases ee : te ρ4 with
            | ex x => rw [ee] at h'; exact h'.elim
            | st => rw [ee] at h'; exact h'.elim
            | ok y ρ5 =>
              rw [ee] at h'
              intro v F5 H5 g5 w6 r5
              simp only [] at h'
              by_cases hl : acc.length < 100000
              case neg => rw [if_neg hl] at h'; exact h'.elim
              rw [if_pos hl] at h'
              obtain ⟨A5, hu5, ra5⟩ := stp F5 H5 ρ5 (g4.trans g5) w6
              refine ⟨us, hu5, by rw [ra5.length]; exact Nat.lt_of_lt_of_le hl (by decide), F5, _, acc ++ [y], ?_, h'⟩
              have nq : ∀ q, Ft σ (backE ρ' ρ5 vs) q → q ≠ D := fun q z e => A5.nf (by rw [← e]; exact z)
              refine ⟨A5.sm, ⟨fun a u z => ?_, A5.wd.len, fun j o s e1 e2 => ?_, A5.wd.sep⟩, ⟨A5.gr.ex, fun a u z n => ?_, fun a u z => ?_, A5.gr.nof, A5.gr.ft⟩, ⟨_, upd_same, ra5.append ⟨v, [], rfl, r5, rfl⟩⟩, A5.fd, A5.nf⟩
              · rw [upd_ne (ne_of_none z A5.fd)]; exact A5.wd.ex a u z
              · refine (A5.wd.at_ j o s e1 e2).keep (.refl _) fun q hw ho => ?_
                have mq : Ft σ (backE ρ' ρ5 vs) q := ⟨j, s, e2, hw, by rw [e1, ho]⟩
                exact ⟨upd_ne (nq q mq), (A5.wd.ft_there mq).2⟩
              · rw [upd_ne (ne_of_none z hD)]; exact A5.gr.keep a u z n
              · rw [upd_ne (ne_of_none z hD)]; exact A5.gr.dom a u z
end
section
variable {X : Cx} {W : XW} {S : List Nat}
/-- a comprehension, by the layer's rule -/
theorem px_lc {e : Expr} {ti : DI} {g : TG} {dg : DG} {tt : DT} {te : DE} {vs : List Nat} (hg : TgW X.K g dg vs) (h : PE X e (tLc (liftI X.K W ti) g (liftT X.K W0 tt) (lift X.K W0 te) vs)) : PE X e (liftV X.K W (dLc vs ti dg tt te)) :=
  PE.imp h fun σ H Q h => lc_run hg h
theorem pts_d0 : PTs X [] (liftT X.K W dYes) := by
  have h : PTs X [] tYes := pts_nil
  exact ⟨fun pins s σ H Q I hw => h.run pins s σ H Q I (by
    obtain ⟨F, ρ, w, h⟩ := hw
    exact h true F H .refl w rfl)⟩
/-- y = [..] -/
theorem sx_setLc {i : Nat} {st : Stmt} {ti : DI} {g : TG} {dg : DG} {tt : DT} {te : DE} {vs : List Nat} (hg : TgW X.K g dg vs) (hi : i ∉ S) (h : PS X st (tAsg (tLc (liftI X.K W ti) g (liftT X.K W0 tt) (lift X.K W0 te) vs) (gName i))) :
    PS X st (liftS X.K W S (dSetV i (dLc vs ti dg tt te))) :=
  PS.imp h fun D σ H h => lc_run hg (setV_run hi h)
theorem blkOk_x {N N' : List Str} {sc sc' scope : Scope} {own : List (Str × Nat)} (e1 : N' = N) (e2 : sc' = sc) (h : blkC N sc scope own = true) : BlkOk N' sc' scope own := by
  subst e1 e2
  exact blkOk_by h
end
end Bd

set_option Elab.async false
set_option linter.all false
set_option maxRecDepth 100000
set_option maxHeartbeats 4000000
namespace Bd
open PySem PySem.Spec L2

/-! ### in, not in -/
def flatD : PyData → Bool
  | .none => true
  | .bool _ => true
  | .int _ => true
  | .str _ => true
  | _ => false
def memD (x : PyData) (ds : List PyData) : Bool := ds.any fun z => PyData.eqv z x
def fInB (x y : PyData) : Option Bool := match x, y with
  | .str c, .str s => match c.cps.toList with
    | [k] => some (decide (k ∈ s.cps.toList))
    | _ => none
  | x, .tuple ds => if flatD x && ds.all flatD then some (memD x ds) else none
  | x, .list ds => if flatD x && ds.all flatD then some (memD x ds) else if shp x && shp (.list ds) then some (memD x ds) else none
  | _, _ => none
def fIn : F2 := fun x y => (fInB x y).map fun b => .bool b
def fNotIn : F2 := fun x y => (fInB x y).map fun b => .bool (!b)
section
variable {X : Cx} {K : PySem.W.Frag}
theorem flat_rp {F : Hp} {x : PyData} {v : V} (r : Rp K F x v) (f : flatD x = true) : flatV v = true := by
  cases x <;> first | (cases r; rfl) | cases f
theorem flat_all {F : Hp} : ∀ {ds : List PyData} {vs : List V}, RpAll K F ds vs → ds.all flatD = true → vs.all flatV = true
  | [], _, r, _ => by cases r; rfl
  | d :: ds, _, r, f => by
    obtain ⟨v, vs, rfl, r1, r2⟩ := r
    rw [List.all_cons, Bool.and_eq_true] at f ⊢
    exact ⟨flat_rp r1 f.1, flat_all r2 f.2⟩
theorem eqV_eqv {F : Hp} {x y : PyData} {v u : V} (r1 : Rp K F x v) (r2 : Rp K F y u) (f1 : flatD x = true) (f2 : flatD y = true) : eqV v u = PyData.eqv x y := by
  cases x <;> first | (cases f1; done) | skip
  all_goals (cases y <;> first | (cases f2; done) | (cases r1; cases r2; first | rfl | (simp only [eqV, PyData.eqv])))
theorem inV_memD {F : Hp} {x : PyData} {v : V} (r : Rp K F x v) (f : flatD x = true) : ∀ {ds : List PyData} {vs : List V}, RpAll K F ds vs → ds.all flatD = true → inV v vs = memD x ds
  | [], _, r, _ => by cases r; rfl
  | d :: ds, _, r2, f2 => by
    obtain ⟨u, vs, rfl, r3, r4⟩ := r2
    rw [List.all_cons, Bool.and_eq_true] at f2
    show (eqV u v || inV v vs) = (PyData.eqv d x || memD x ds)
    rw [eqV_eqv r3 r f2.1 f, inV_memD r f r4 f2.2]
abbrev rInA (K : PySem.W.Frag) : R2 := fun x y H Q => rInS x y H Q ∨ (rIn K false x y H Q ∨ rInD K x y H Q)
abbrev rNotInA (K : PySem.W.Frag) : R2 := fun x y H Q => rNotInS x y H Q ∨ (rIn K true x y H Q ∨ rNotInD K x y H Q)
theorem or_in {k : Nat} (hr : Room k X.A) : OpR X (compareOp .In) (rInA X.K) := op_inS.or (op_in_seq.or (op_inD (by have := hr.un; omega)))
theorem or_notin {k : Nat} (hr : Room k X.A) : OpR X (compareOp .NotIn) (rNotInA X.K) := op_notInS.or (op_notIn_seq.or (op_notInD (by have := hr.un; omega)))
theorem in_cases {F H : Hp} {v u : V} {x y : PyData} {b : Bool} (s : Same F H) (r1 : Rp K F x v) (r2 : Rp K F y u) (e : fInB x y = some b) :
    (∃ (c : Nat) (z : Str), v = .str ⟨#[c]⟩ ∧ u = .str z ∧ decide (c ∈ z.cps.toList) = b) ∨ (∃ p xs, u = .ref p ∧ (SqL K H p xs ∨ SqT K H p xs) ∧ flatV v = true ∧ xs.all flatV = true ∧ inV v xs = b) ∨
    (∃ d ds, Dp K H v d ∧ Dp K H u (.list ds) ∧ SeqAt.shaped d = true ∧ SeqAt.shaped (.list ds) = true ∧ (ds.any fun z => PyData.eqv z d) = b) := by
  unfold fInB at e
  split at e
  · rename_i c z
    cases r1; cases r2
    split at e
    · rename_i k ek
      cases e
      refine .inl ⟨k, z, ?_, rfl, rfl⟩
      obtain ⟨⟨l⟩⟩ := c
      simp only at ek
      rw [ek]
    · cases e
  · rename_i ds
    split at e
    · rename_i h
      cases e
      rw [Bool.and_eq_true] at h
      obtain ⟨a, vs, rfl, h1, ra⟩ := r2
      exact .inr (.inl ⟨a, vs, rfl, .inr (seqT s h1), flat_rp r1 h.1, flat_all ra h.2, inV_memD r1 h.1 ra h.2⟩)
    · cases e
  · rename_i ds
    split at e
    · rename_i h
      cases e
      rw [Bool.and_eq_true] at h
      obtain ⟨a, vs, rfl, h1, ra⟩ := r2
      exact .inr (.inl ⟨a, vs, rfl, .inl (SqL.of (s _ _ h1)), flat_rp r1 h.1, flat_all ra h.2, inV_memD r1 h.1 ra h.2⟩)
    · split at e
      · rename_i h
        cases e
        rw [Bool.and_eq_true] at h
        exact .inr (.inr ⟨x, ds, (Rp.mono s _ _ r1).dp, (Rp.mono s _ _ r2).dp, h.1, h.2, rfl⟩)
      · cases e
  · cases e
theorem od_in : OpD K (rInA K) fIn := by
  intro F H v u x y z Q s r1 r2 e k
  unfold fIn at e
  cases q : fInB x y with
  | none => rw [q] at e; cases e
  | some b =>
    rw [q] at e; cases e
    rcases in_cases s r1 r2 q with ⟨c, z, rfl, rfl, rfl⟩ | ⟨p, xs, rfl, h1, h2, h3, rfl⟩ | ⟨d, ds, h1, h2, h3, h4, rfl⟩
    · exact .inl ⟨c, z, rfl, rfl, dspec s k rfl⟩
    · exact .inr (.inl ⟨p, xs, rfl, h1, h2, h3, dspec s k rfl⟩)
    · exact .inr (.inr ⟨d, ds, h1, h2, h3, h4, dspec s k rfl⟩)
theorem od_notin : OpD K (rNotInA K) fNotIn := by
  intro F H v u x y z Q s r1 r2 e k
  unfold fNotIn at e
  cases q : fInB x y with
  | none => rw [q] at e; cases e
  | some b =>
    rw [q] at e; cases e
    rcases in_cases s r1 r2 q with ⟨c, z, rfl, rfl, rfl⟩ | ⟨p, xs, rfl, h1, h2, h3, rfl⟩ | ⟨d, ds, h1, h2, h3, h4, rfl⟩
    · exact .inl ⟨c, z, rfl, rfl, dspec s k rfl⟩
    · exact .inr (.inl ⟨p, xs, rfl, h1, h2, h3, dspec s k rfl⟩)
    · exact .inr (.inr ⟨d, ds, h1, h2, h3, h4, dspec s k rfl⟩)
end

/-! ### a chain of two comparisons -/
def dChain (f f' : F2) (ta tb tc : DE) : DE := fun ρ => (ta ρ).bnd fun x ρ1 => (tb ρ1).bnd fun y ρ2 => match f x y with
  | some (.bool true) => (tc ρ2).bnd fun z ρ3 => (match f' y z with | some r => .ok r ρ3 | none => .st)
  | some (.bool false) => .ok (.bool false) ρ2
  | _ => .st
section
variable {X : Cx} {W : XW} {a b c : Expr} {ta tb tc : DE} {pos : Pos}
theorem chain_run {K : PySem.W.Frag} {r r' : R2} {f f' : F2} (hf : OpD K r f) (hf' : OpD K r' f') {σ : St} {H : Hp} {Q : VK} (h : lift K W (dChain f f' ta tb tc) σ H Q) : tChain r r' (lift K W ta) (lift K W tb) (lift K W tc) σ H Q := by
  obtain ⟨F, ρ, w, h⟩ := h
  refine ⟨F, ρ, w, (Out.bnd back_D h).imp ?_⟩
  rintro v H1 ⟨F1, ρ1, x, w1, r1, g1, h1⟩
  refine ⟨F1, ρ1, w1, (Out.bnd back_D h1).imp ?_⟩
  rintro u H2 ⟨F2, ρ2, y, w2, r2, g2, h2⟩
  cases e : f x y with
  | none => rw [e] at h2; exact h2.elim
  | some z =>
    rw [e] at h2
    refine hf F2 H2 v u x y z _ w2.ex (Rp.mono g2.ex _ _ r1) r2 e fun w' F' H' g rp => ?_
    cases z with
    | bool k =>
      have wg := w2.gz g
      have hg := Out.pre back_D (g.gr (M := Ft σ ρ2)) h2
      refine ⟨k, rp, ?_⟩
      cases k with
      | true =>
        refine ⟨F', ρ2, wg, (Out.bnd back_D hg).imp ?_⟩
        rintro t H3 ⟨F3, ρ3, z, w3, r3, g3, h3⟩
        cases e2 : f' y z with
        | none => rw [e2] at h3; exact h3.elim
        | some q =>
          rw [e2] at h3
          exact hf' F3 H3 u t y z q Q w3.ex (Rp.mono (g.ex.trans g3.ex) _ _ r2) r3 e2 fun w' F' H' g rp => h3 w' F' H' g.gr (w3.gz g) rp
      | false => exact hg _ F' H' .refl wg rfl
    | _ => exact h2.elim
theorem px_chain {op op' : CmpOp} {r r' : R2} {f f' : F2} (ho : OpR X (compareOp op) r) (hf : OpD X.K r f) (ho' : OpR X (compareOp op') r') (hf' : OpD X.K r' f') (ha : PE X a (lift X.K W ta)) (hb : PE X b (lift X.K W tb)) (hc : PE X c (lift X.K W tc))
    (hm : lastMarks [op, op'] [b, c] = false := by with_unfolding_all rfl) : PE X (.Compare a [op, op'] [b, c] pos) (lift X.K W (dChain f f' ta tb tc)) := PE.imp (pe_chain ho ho' ha hb hc hm) fun σ H Q h => chain_run hf hf' h
theorem px_tchain {op op' : CmpOp} {r r' : R2} {f f' : F2} (ho : OpR X (compareOp op) r) (hf : OpD X.K r f) (ho' : OpR X (compareOp op') r') (hf' : OpD X.K r' f') (ha : PE X a (lift X.K W ta)) (hb : PE X b (lift X.K W tb)) (hc : PE X c (lift X.K W tc))
    (hm : lastMarks [op, op'] [b, c] = false := by with_unfolding_all rfl) : PT X (.Compare a [op, op'] [b, c] pos) (liftT X.K W (dTst (dChain f f' ta tb tc))) := PT.imp (pt_chain ho ho' ha hb hc hm) fun σ H Q h => chain_run hf hf' (tst_run h)
end

/-! ### built-in functions -/
abbrev FC := List PyData → Option PyData
def dCB (f : FC) (ts : List DE) : DE := fun ρ => (dArgs ts ρ).bnd fun ds ρ1 => match f ds with
  | some z => .ok z ρ1
  | none => .st
def CallD (K : PySem.W.Frag) (r : List V → Hp → VK → Prop) (f : FC) : Prop := ∀ (F H : Hp) (vs : List V) (ds : List PyData) (z : PyData) (Q : VK), Same F H → RpAll K F ds vs → f ds = some z → (∀ w F' H', Gz F H F' H' → Rp K F' z w → Q w H') → r vs H Q
section
variable {X : Cx} {W : XW} {e : Expr} {ts : List DE}
theorem px_cb {r : List V → Hp → VK → Prop} {f : FC} (hf : CallD X.K r f) (h : PE X e (tCB r (liftA X.K W (dArgs ts)))) : PE X e (lift X.K W (dCB f ts)) := by
  refine PE.imp h fun σ H Q h => ?_
  obtain ⟨F, ρ, w, h⟩ := h
  refine ⟨F, ρ, w, (Out.bnd back_D h).imp ?_⟩
  rintro vs H1 ⟨F1, ρ1, ds, w1, r1, g1, h1⟩
  cases q : f ds with
  | none => rw [q] at h1; exact h1.elim
  | some z =>
    rw [q] at h1
    exact hf F1 H1 vs ds z Q w1.ex r1 q fun w' F' H' g rp => h1 w' F' H' g.gr (w1.gz g) rp
variable {K : PySem.W.Frag}
theorem rp1 {F : Hp} {d : PyData} {vs : List V} (h : RpAll K F [d] vs) : ∃ v, vs = [v] ∧ Rp K F d v := by
  obtain ⟨v, us, rfl, r, rfl⟩ := h
  exact ⟨v, rfl, r⟩
theorem rp2 {F : Hp} {d e : PyData} {vs : List V} (h : RpAll K F [d, e] vs) : ∃ v u, vs = [v, u] ∧ Rp K F d v ∧ Rp K F e u := by
  obtain ⟨v, us, rfl, r, u, ws, rfl, r2, rfl⟩ := h
  exact ⟨v, u, rfl, r, r2⟩
def cLen : FC
  | [.list xs] => some (.int xs.length)
  | [.tuple xs] => some (.int xs.length)
  | [.str s] => if s.length ≤ sizeLine then some (.int s.length) else none
  | _ => none
theorem cd_len : CallD K (fun xs H Q => ∃ x n, xs = [x] ∧ LenV K x H n ∧ Q (.int n) H) cLen := by
  intro F H vs ds z Q s r e k
  unfold cLen at e
  split at e
  · cases e
    obtain ⟨v, rfl, a, us, rfl, h1, ra⟩ := rp1 r
    exact ⟨_, _, rfl, .inl ⟨us, SqL.of (s _ _ h1), rfl⟩, by rw [ra.length]; exact dspec s k rfl⟩
  · cases e
    obtain ⟨v, rfl, a, us, rfl, h1, ra⟩ := rp1 r
    exact ⟨_, _, rfl, .inr ⟨us, seqT s h1, rfl⟩, by rw [ra.length]; exact dspec s k rfl⟩
  · split at e
    · rename_i hl
      cases e
      obtain ⟨v, rfl, rfl⟩ := rp1 r
      exact ⟨_, _, rfl, ⟨hl, rfl⟩, dspec s k rfl⟩
    · cases e
  · cases e
def cAbs : FC
  | [.int i] => some (.int (if i < 0 then -i else i))
  | _ => none
theorem cd_abs : CallD K (fun xs H Q => ∃ i, xs = [.int i] ∧ Q (.int (if i < 0 then -i else i)) H) cAbs := by
  intro F H vs ds z Q s r e k
  unfold cAbs at e
  split at e
  · cases e
    obtain ⟨v, rfl, rfl⟩ := rp1 r
    exact ⟨_, rfl, dspec s k rfl⟩
  · cases e
def cMax2 : FC
  | [.int i, .int j] => some (.int (if j > i then j else i))
  | _ => none
theorem cd_max2 : CallD K (fun xs H Q => ∃ i j, xs = [.int i, .int j] ∧ Q (.int (if j > i then j else i)) H) cMax2 := by
  intro F H vs ds z Q s r e k
  unfold cMax2 at e
  split at e
  · cases e
    obtain ⟨v, u, rfl, rfl, rfl⟩ := rp2 r
    exact ⟨_, _, rfl, dspec s k rfl⟩
  · cases e
def cMin2 : FC
  | [.int i, .int j] => some (.int (if j < i then j else i))
  | _ => none
theorem cd_min2 : CallD K (fun xs H Q => ∃ i j, xs = [.int i, .int j] ∧ Q (.int (if j < i then j else i)) H) cMin2 := by
  intro F H vs ds z Q s r e k
  unfold cMin2 at e
  split at e
  · cases e
    obtain ⟨v, u, rfl, rfl, rfl⟩ := rp2 r
    exact ⟨_, _, rfl, dspec s k rfl⟩
  · cases e
def cInt : FC
  | [.int i] => some (.int i)
  | [.bool b] => some (.int (if b then 1 else 0))
  | _ => none
theorem cd_int : CallD K (fun xs H Q => (∃ i, xs = [.int i] ∧ Q (.int i) H) ∨ ∃ k, xs = [.bl k] ∧ Q (.int (if k then 1 else 0)) H) cInt := by
  intro F H vs ds z Q s r e k
  unfold cInt at e
  split at e
  · cases e
    obtain ⟨v, rfl, rfl⟩ := rp1 r
    exact .inl ⟨_, rfl, dspec s k rfl⟩
  · cases e
    obtain ⟨v, rfl, rfl⟩ := rp1 r
    exact .inr ⟨_, rfl, dspec s k rfl⟩
  · cases e
def cList : FC
  | [.list xs] => some (.list xs)
  | [.tuple xs] => some (.list xs)
  | _ => none
theorem cd_list : CallD K (fun xs H Q => ∃ p ys, xs = [.ref p] ∧ (SqL K H p ys ∨ SqT K H p ys) ∧ ∀ l, H l = none → Q (.ref l) (upd H l (.lst ys))) cList := by
  intro F H vs ds z Q s r e k
  unfold cList at e
  split at e
  · cases e
    obtain ⟨v, rfl, a, us, rfl, h1, ra⟩ := rp1 r
    refine ⟨a, us, rfl, .inl (SqL.of (s _ _ h1)), fun p hp => ?_⟩
    have g : Gz F H (upd F p (.lst us)) (upd H p (.lst us)) := .new s hp
    exact k _ _ _ g ⟨p, us, rfl, upd_same, RpAll.mono g.ex _ _ ra⟩
  · cases e
    obtain ⟨v, rfl, a, us, rfl, h1, ra⟩ := rp1 r
    refine ⟨a, us, rfl, .inr (seqT s h1), fun p hp => ?_⟩
    have g : Gz F H (upd F p (.lst us)) (upd H p (.lst us)) := .new s hp
    exact k _ _ _ g ⟨p, us, rfl, upd_same, RpAll.mono g.ex _ _ ra⟩
  · cases e
def cTuple : FC
  | [.list xs] => some (.tuple xs)
  | [.tuple xs] => some (.tuple xs)
  | _ => none
theorem cd_tuple : CallD K (fun xs H Q => ∃ p ys, xs = [.ref p] ∧ ((SqL K H p ys ∧ ∀ l, H l = none → Q (.ref l) (upd H l (.tup ys))) ∨ (SqT K H p ys ∧ Q (.ref p) H))) cTuple := by
  intro F H vs ds z Q s r e k
  unfold cTuple at e
  split at e
  · cases e
    obtain ⟨v, rfl, a, us, rfl, h1, ra⟩ := rp1 r
    refine ⟨a, us, rfl, .inl ⟨SqL.of (s _ _ h1), fun p hp => ?_⟩⟩
    have g : Gz F H (upd F p (.tup us)) (upd H p (.tup us)) := .new s hp
    exact k _ _ _ g ⟨p, us, rfl, SqT.of upd_same, RpAll.mono g.ex _ _ ra⟩
  · cases e
    obtain ⟨v, rfl, a, us, rfl, h1, ra⟩ := rp1 r
    exact ⟨a, us, rfl, .inr ⟨seqT s h1, dspec s k ⟨a, us, rfl, h1, ra⟩⟩⟩
  · cases e
/-- the bools of a list -/
def boolsD : List PyData → Option (List Bool)
  | [] => some []
  | .bool b :: ds => (boolsD ds).map (b :: ·)
  | _ => none
theorem boolsD_map : ∀ {ds : List PyData} {bs : List Bool}, boolsD ds = some bs → ds = bs.map .bool
  | [], bs, h => by cases h; rfl
  | d :: ds, bs, h => by
    cases d with
    | bool b =>
      unfold boolsD at h
      cases q : boolsD ds with
      | none => rw [q] at h; cases h
      | some cs => rw [q] at h; cases h; rw [List.map_cons, boolsD_map q]
    | _ => cases h
def cAll : FC
  | [.list xs] => (boolsD xs).map fun bs => .bool (bs.all id)
  | _ => none
def cAny : FC
  | [.list xs] => (boolsD xs).map fun bs => .bool (bs.any id)
  | _ => none
theorem cd_all : CallD K (rAll K) cAll := by
  intro F H vs ds z Q s r e k
  unfold cAll at e
  split at e
  · rename_i xs
    cases q : boolsD xs with
    | none => rw [q] at e; cases e
    | some bs =>
      rw [q] at e; cases e
      obtain ⟨v, rfl, a, us, rfl, h1, ra⟩ := rp1 r
      rw [boolsD_map q] at ra
      have := ra.bools
      subst this
      exact ⟨a, bs, rfl, SqL.of (s _ _ h1), dspec s k rfl⟩
  · cases e
theorem cd_any : CallD K (rAny K) cAny := by
  intro F H vs ds z Q s r e k
  unfold cAny at e
  split at e
  · rename_i xs
    cases q : boolsD xs with
    | none => rw [q] at e; cases e
    | some bs =>
      rw [q] at e; cases e
      obtain ⟨v, rfl, a, us, rfl, h1, ra⟩ := rp1 r
      rw [boolsD_map q] at ra
      have := ra.bools
      subst this
      exact ⟨a, bs, rfl, SqL.of (s _ _ h1), dspec s k rfl⟩
  · cases e
def intsD : List PyData → Option (List Int)
  | [] => some []
  | .int b :: ds => (intsD ds).map (b :: ·)
  | _ => none
theorem intsD_map : ∀ {ds : List PyData} {bs : List Int}, intsD ds = some bs → ds = bs.map .int
  | [], bs, h => by cases h; rfl
  | d :: ds, bs, h => by
    cases d with
    | int b =>
      unfold intsD at h
      cases q : intsD ds with
      | none => rw [q] at h; cases h
      | some cs => rw [q] at h; cases h; rw [List.map_cons, intsD_map q]
    | _ => cases h
def cSum : FC
  | [.list xs] => (intsD xs).map fun bs => .int bs.sum
  | _ => none
theorem cd_sum : CallD K (rSum K) cSum := by
  intro F H vs ds z Q s r e k
  unfold cSum at e
  split at e
  · rename_i xs
    cases q : intsD xs with
    | none => rw [q] at e; cases e
    | some bs =>
      rw [q] at e; cases e
      obtain ⟨v, rfl, a, us, rfl, h1, ra⟩ := rp1 r
      rw [intsD_map q] at ra
      have := ra.ints
      subst this
      exact ⟨a, bs, rfl, SqL.of (s _ _ h1), dspec s k rfl⟩
  · cases e

/-! ### isinstance(x, int), bool, str, tuple -/
def tyN : PyData → String
  | .none => "NoneType"
  | .bool _ => "bool"
  | .int _ => "int"
  | .str _ => "str"
  | .list _ => "list"
  | .tuple _ => "tuple"
  | .dict _ => "dict"
def isI (d : PyData) (c : String) : Option Bool := match d, c with
  | .none, "int" => some false | .none, "bool" => some false | .none, "str" => some false | .none, "tuple" => some false
  | .bool _, "int" => some true | .bool _, "bool" => some true | .bool _, "str" => some false | .bool _, "tuple" => some false
  | .int _, "int" => some true | .int _, "bool" => some false | .int _, "str" => some false | .int _, "tuple" => some false
  | .str _, "int" => some false | .str _, "bool" => some false | .str _, "str" => some true | .str _, "tuple" => some false
  | .list _, "int" => some false | .list _, "bool" => some false | .list _, "str" => some false | .list _, "tuple" => some false
  | .tuple _, "int" => some false | .tuple _, "bool" => some false | .tuple _, "str" => some false | .tuple _, "tuple" => some true
  | _, _ => none
theorem isI_kit {d : PyData} {c : String} {b : Bool} (h : isI d c = some b) : kitB (tyN d) c = some b := by
  unfold isI at h
  split at h <;> first | (cases h; simp only [tyN]; decide +kernel) | cases h
theorem tyx_of {F H : Hp} {d : PyData} {v : V} (s : Same F H) (r : Rp K F d v) : TyX K H v (.type (tyN d)) := by
  cases d with
  | none => cases r; exact .base .non
  | bool b => cases r; exact .base (.bl b)
  | int i => cases r; exact .base (.int i)
  | str z => cases r; exact .base (.str z)
  | list xs => obtain ⟨a, us, rfl, h1, ra⟩ := r; exact .base (.lst (s _ _ h1))
  | tuple xs =>
    obtain ⟨a, us, rfl, h1, ra⟩ := r
    rcases seqT s h1 with (h | ⟨o, h⟩) | ⟨o, its, n, h, hc, _⟩
    · exact .base (.tup h)
    · exact .fTuple h
    · exact .kTuple h hc
  | dict kvs => exact r.elim
def dIsi (te : DE) (c : String) : DE := fun ρ => (te ρ).bnd fun x ρ1 => match isI x c with
  | some b => .ok (.bool b) ρ1
  | none => .st
theorem px_isi {te : DE} {c : String} (h : PE X e (tCB (rIsi X.K) (tCons (lift X.K W te) (tCons (tC (.ty c)) tNil)))) : PE X e (lift X.K W (dIsi te c)) := by
  refine PE.imp h fun σ H Q h => ?_
  obtain ⟨F, ρ, w, h⟩ := h
  refine ⟨F, ρ, w, (Out.bnd back_D h).imp ?_⟩
  rintro v H1 ⟨F1, ρ1, x, w1, r1, g1, h1⟩
  cases q : isI x c with
  | none => rw [q] at h1; exact h1.elim
  | some b =>
    rw [q] at h1
    exact ⟨v, .ty c, _, .type c, b, rfl, .ty c, tyx_of w1.ex r1, kit_ty (isI_kit q), h1 (.bl b) F1 H1 .refl w1 rfl⟩
end

/-! ### the script -/
def dLenS (i : Nat) : DE := fun ρ => match ρ[i]? with
  | some (.s ns) => .ok (.int ns.length) ρ
  | _ => .st
def dIxS (i : Nat) (ti : DE) : DE := fun ρ => match ρ[i]? with
  | some (.s ns) => (ti ρ).bnd fun k ρ1 => match k with
    | .int j => match atI ns j with
      | some n => .ok (.int n) ρ1
      | none => .st
    | _ => .st
  | _ => .st
theorem atI_map {α β : Type} (f : α → β) {xs : List α} {i : Int} {a : α} (h : atI xs i = some a) : atI (xs.map f) i = some (f a) := by
  unfold atI at h ⊢
  rw [List.length_map]
  cases q : ixN xs.length i with
  | none => rw [q] at h; cases h
  | some j =>
    rw [q] at h
    show (xs.map f)[j]? = some (f a)
    rw [List.getElem?_map]
    have h' : xs[j]? = some a := h
    rw [h']; rfl
section
variable {X : Cx} {W : XW} {e : Expr} {ti : DE} {i : Nat}
theorem px_lenS (h : PE X e (tCB (fun xs H Q => ∃ p ys, xs = [.ref p] ∧ (SqL X.K H p ys ∨ SqT X.K H p ys) ∧ Q (.int ys.length) H) (tCons (tVar i) tNil))) : PE X e (lift X.K W (dLenS i)) := by
  refine PE.imp h fun σ H Q h => ?_
  obtain ⟨F, ρ, w, h⟩ := h
  unfold dLenS at h
  split at h
  · rename_i ns e0
    obtain ⟨o, h1, a, rfl, hs⟩ := w.get e0
    refine ⟨_, h1, a, _, rfl, .inl (w.ex.seq hs), ?_⟩
    rw [List.length_map]
    exact h _ F H .refl w rfl
  · exact h.elim
theorem px_ixS (h : PE X e (tOp (rIxL X.K) (tVar i) (lift X.K W ti))) : PE X e (lift X.K W (dIxS i ti)) := by
  refine PE.imp h fun σ H Q h => ?_
  obtain ⟨F, ρ, w, h⟩ := h
  unfold dIxS at h
  split at h
  · rename_i ns e0
    obtain ⟨o, h1, a, rfl, hs⟩ := w.get e0
    refine ⟨_, h1, F, ρ, w, (Out.bnd back_D h).imp ?_⟩
    rintro v H1 ⟨F1, ρ1, x, w1, r1, g1, h2⟩
    cases x with
    | int j =>
      cases r1
      simp only [] at h2
      cases q : atI ns j with
      | none => rw [q] at h2; exact h2.elim
      | some n =>
        rw [q] at h2
        exact ⟨a, _, j, .int n, rfl, rfl, w1.ex.seq (g1.ex.seq hs), atI_map V.int q, h2 _ F1 H1 .refl w1 rfl⟩
    | _ => exact h2.elim
  · exact h.elim
end

/-! ### several targets -/
def dPar2 (i j : Nat) (ta tb : DV) : DS := fun ρ => (ta ρ).thn fun x ρ1 => (tb ρ1).thn fun y ρ2 => .nx ((ρ2.set i x).set j y)
def dPar3 (i j l : Nat) (ta tb tc : DE) : DS := fun ρ => (ta ρ).thn fun x ρ1 => (tb ρ1).thn fun y ρ2 => (tc ρ2).thn fun z ρ3 => .nx (((ρ3.set i (.d x)).set j (.d y)).set l (.d z))
/-- (a, b, ..) = a tuple -/
def dUnp (is : List Nat) (te : DE) : DS := fun ρ => (te ρ).thn fun d ρ1 => match gT is d ρ1 with
  | some ρ2 => .nx ρ2
  | none => .st
section
variable {X : Cx} {W : XW} {S : List Nat} {st : Stmt} {ta tb tc te : DE} {va vb : DV} {i j l : Nat}
/-- an own value or data, held aside -/
theorem held {K : PySem.W.Frag} {F H F1 H1 : Hp} {σ : St} {ρ ρ1 : Ev} {H0 : Hp} {x : Sl} {v : V} (re : Bd.RelV K H0 F H σ ρ v x) (g : Gr F H (Ft σ ρ) F1 H1 (Ft σ ρ1)) : Bd.RelV K H0 F1 H1 σ ρ1 v x := by
  have own : ∀ (p : Addr) (s : Sl), OwnOk K F H p s → ¬ Ft σ ρ p → OwnOk K F1 H1 p s ∧ ¬ Ft σ ρ1 p := fun p s ho nf => by
    obtain ⟨⟨o, hp⟩, fp⟩ := ho.there
    refine ⟨ho.keep g.ex ((g.keep p o hp nf).trans hp.symm) (g.nof p o hp fp nf), fun z => ?_⟩
    rcases g.ft p z with z | z
    · exact nf z
    · rw [hp] at z; cases z
  cases x with
  | d x => exact Rp.mono g.ex _ _ re
  | l xs => obtain ⟨p, a, b, c, d⟩ := re; obtain ⟨b', d'⟩ := own p _ b d; exact ⟨p, a, b', c, d'⟩
  | t xs => obtain ⟨p, a, b, c, d⟩ := re; obtain ⟨b', d'⟩ := own p _ b d; exact ⟨p, a, b', c, d'⟩
  | non => exact re
  | s ns => exact re
theorem put_held {K : PySem.W.Frag} {F H : Hp} {σ : St} {ρ : Ev} {H0 : Hp} {x : Sl} {v : V} (w : Wd K F H σ ρ) (re : Bd.RelV K H0 F H σ ρ v x) (i : Nat) :
    Wd K F H (σ.set i (some v)) (ρ.set i x) ∧ (∀ a, Ft (σ.set i (some v)) (ρ.set i x) a → Ft σ ρ a ∨ (v = .ref a ∧ ownS x = true ∧ H0 a = none)) := by
  cases x with
  | d x => obtain ⟨a, b⟩ := w.setD (i := i) (show Rp K F x v from re); exact ⟨a, fun q z => .inl (b q z)⟩
  | l xs =>
    obtain ⟨p, rfl, b, c, d⟩ := re
    obtain ⟨w2, ft⟩ := w.setO (i := i) rfl b d
    exact ⟨w2, fun q z => (ft q z).imp id fun e => ⟨by rw [e], rfl, by rw [e]; exact c⟩⟩
  | t xs =>
    obtain ⟨p, rfl, b, c, d⟩ := re
    obtain ⟨w2, ft⟩ := w.setO (i := i) rfl b d
    exact ⟨w2, fun q z => (ft q z).imp id fun e => ⟨by rw [e], rfl, by rw [e]; exact c⟩⟩
  | non => exact re.elim
  | s ns => exact re.elim
theorem sx_par2 (hi : i ∉ S) (hj : j ∉ S) (h : PS X st (tPar i j (tCons (liftV X.K W va) (tCons (liftV X.K W vb) tNil)))) : PS X st (liftS X.K W S (dPar2 i j va vb)) := by
  refine PS.imp h fun D σ H h => ?_
  obtain ⟨F, ρ, w, h⟩ := h
  refine ⟨F, ρ, w, ?_⟩
  unfold dPar2 at h
  cases q0 : va ρ with
  | ex y => rw [q0] at h; exact h
  | st => rw [q0] at h; exact h
  | ok x ρ1 =>
  rw [q0] at h
  intro v F1 H1 g1 w1 r1
  refine ⟨F1, ρ1, w1, ?_⟩
  simp only [R.thn] at h
  cases q : vb ρ1 with
  | ex y => rw [q] at h; exact fun F' H' M' g s => h F' H' M' (g1.trans g) s
  | st => rw [q] at h; exact h
  | ok y ρ2 =>
    rw [q] at h
    intro u H2F H2 g2 w2 r2
    have r1' := held r1 g2
    refine ⟨v, u, rfl, ?_⟩
    obtain ⟨w3, ft3⟩ := put_held w2 r1' i
    have nf : ∀ p, u = .ref p → ownS y = true → ¬ Ft (σ.set i (some v)) (ρ2.set i x) p := fun p hu hy z => by
      have r2' := r2
      rcases ft3 p z with z | ⟨rfl, hx, _⟩
      · cases y with
        | l xs => obtain ⟨p', a, b, c, d⟩ := r2'; rw [hu] at a; cases a; exact d z
        | t xs => obtain ⟨p', a, b, c, d⟩ := r2'; rw [hu] at a; cases a; exact d z
        | non => cases hy
        | d x => cases hy
        | s ns => cases hy
      · -- u is fresh against H1, v stands in H1
        have hv : ∃ o, H1 p = some o := by
          cases x with
          | l xs => obtain ⟨p', a, b, c, d⟩ := r1; cases a; exact b.there.1
          | t xs => obtain ⟨p', a, b, c, d⟩ := r1; cases a; exact b.there.1
          | non => cases hx
          | d x => cases hx
          | s ns => cases hx
        obtain ⟨o, ho⟩ := hv
        cases y with
        | l xs => obtain ⟨p', a, b, c, d⟩ := r2'; rw [hu] at a; cases a; rw [c] at ho; cases ho
        | t xs => obtain ⟨p', a, b, c, d⟩ := r2'; rw [hu] at a; cases a; rw [c] at ho; cases ho
        | non => cases hy
        | d x => cases hy
        | s ns => cases hy
    have r3 : Bd.RelV X.K H1 H2F H2 (σ.set i (some v)) (ρ2.set i x) u y := by
      cases y with
      | d x => exact r2
      | l xs => obtain ⟨p, a, b, c, d⟩ := r2; exact ⟨p, a, b, c, nf p a rfl⟩
      | t xs => obtain ⟨p, a, b, c, d⟩ := r2; exact ⟨p, a, b, c, nf p a rfl⟩
      | non => exact r2.elim
      | s ns => exact r2.elim
    obtain ⟨w4, ft4⟩ := put_held w3 r3 j
    have g := g1.trans g2
    refine h _ H2F H2 ⟨g.ex, g.keep, g.dom, g.nof, fun a z => ?_⟩ w4 (fun k hk => (kp_set hj k hk).trans (kp_set hi k hk))
    rcases ft4 a z with z | ⟨_, _, z⟩
    · rcases ft3 a z with z | ⟨_, _, z⟩
      · exact g.ft a z
      · exact .inr z
    · exact .inr (none_back g1.dom z)
theorem sx_par3 (hi : i ∉ S) (hj : j ∉ S) (hl : l ∉ S) (h : PS X st (tPar3 i j l (liftA X.K W (dArgs [ta, tb, tc])))) : PS X st (liftS X.K W S (dPar3 i j l ta tb tc)) := by
  refine PS.imp h fun D σ H h => ?_
  obtain ⟨F, ρ, w, h⟩ := h
  refine ⟨F, ρ, w, ?_⟩
  have e1 : dPar3 i j l ta tb tc ρ = (dArgs [ta, tb, tc] ρ).thn fun ds ρ3 => match ds with
    | [x, y, z] => .nx (((ρ3.set i (.d x)).set j (.d y)).set l (.d z))
    | _ => .st := by
    unfold dPar3 dArgs dArgs dArgs dArgs
    cases ta ρ with
    | ex y => rfl
    | st => rfl
    | ok x ρ1 =>
      simp only [R.thn, R.bnd]
      cases tb ρ1 with
      | ex y => rfl
      | st => rfl
      | ok y ρ2 =>
        simp only []
        cases tc ρ2 with
        | ex y => rfl
        | st => rfl
        | ok z ρ3 => rfl
  rw [e1] at h
  refine (OutS.thn h).imp ?_
  rintro vs H1 ⟨F1, ρ1, ds, w1, r1, g1, h1⟩
  split at h1
  · obtain ⟨v, us, rfl, r2, u, ws, rfl, r3, t, zs, rfl, r4, rfl⟩ := (show RpAll X.K F1 [_, _, _] vs from r1)
    obtain ⟨w2, f2⟩ := w1.setD (i := i) r2
    obtain ⟨w3, f3⟩ := w2.setD (i := j) r3
    obtain ⟨w4, f4⟩ := w3.setD (i := l) r4
    exact ⟨v, u, t, rfl, h1 _ F1 H1 (Gr.sub fun a z => f2 a (f3 a (f4 a z))) w4 fun k hk => (kp_set hl k hk).trans ((kp_set hj k hk).trans (kp_set hi k hk))⟩
  · exact h1.elim
theorem sx_unp {is : List Nat} (hS : ∀ i ∈ is, i ∉ S) (h : PS X st (tAsg (lift X.K W te) (gTup X.K is.length (gNamesT is)))) : PS X st (liftS X.K W S (dUnp is te)) := by
  refine PS.imp h fun D σ H h => ?_
  obtain ⟨F, ρ, w, h⟩ := h
  refine ⟨F, ρ, w, (OutS.thn h).imp ?_⟩
  rintro v H1 ⟨F1, ρ1, d, w1, r1, g1, h1⟩
  cases q : gT is d ρ1 with
  | none => rw [q] at h1; exact h1.elim
  | some ρ2 =>
    rw [q] at h1
    exact tg_tup hS F1 H1 σ ρ1 ρ2 d v _ w1 r1 q fun σ' w2 ft kp => h1 σ' F1 H1 (Gr.sub ft) w2 kp
end

/-! ### raise, in a def that lets nothing out -/
def dRaise (c : Str) : DS := fun _ => .ex ⟨c, none⟩
theorem sx_raise0 {X : Cx} {S : List Nat} {st : Stmt} {c : Str} : PS X st (liftS X.K W0 S (dRaise c)) := PS.imp ps_never fun D σ H ⟨F, ρ, w, h⟩ => (h F H _ (Gr.refl (M := Ft σ ρ)) w.ex : False)

/-! ### the built-in names -/
theorem bo_isinstance : bootBuiltins "isinstance" = some (.builtin "isinstance") := by decide +kernel
theorem bo_abs : bootBuiltins "abs" = some (.builtin "abs") := by decide +kernel
theorem bo_min : bootBuiltins "min" = some (.builtin "min") := by decide +kernel
theorem bo_max : bootBuiltins "max" = some (.builtin "max") := by decide +kernel
theorem bo_all : bootBuiltins "all" = some (.builtin "all") := by decide +kernel
theorem bo_any : bootBuiltins "any" = some (.builtin "any") := by decide +kernel
theorem bo_sum : bootBuiltins "sum" = some (.builtin "sum") := by decide +kernel
theorem bo_int : bootBuiltins "int" = some (.type "int") := by decide +kernel
theorem bo_bool : bootBuiltins "bool" = some (.type "bool") := by decide +kernel
theorem bo_str : bootBuiltins "str" = some (.type "str") := by decide +kernel
theorem bo_tuple : bootBuiltins "tuple" = some (.type "tuple") := by decide +kernel
theorem bo_list : bootBuiltins "list" = some (.type "list") := by decide +kernel
theorem bo_set : bootBuiltins "set" = some (.type "set") := by decide +kernel
theorem bo_dict : bootBuiltins "dict" = some (.type "dict") := by decide +kernel
theorem bo_sorted : bootBuiltins "sorted" = some (.builtin "sorted") := by decide +kernel

/-! ### a def -/
def dDef (m : Nat) (ts : DS) : DF := fun as => match ts (as ++ List.replicate (m - as.length) .non) with
  | .rt r ρ' => .ok r (ρ'.take as.length)
  | .nx ρ' => .ok (.d .none) (ρ'.take as.length)
  | .ex x => .ex x
  | _ => .st
theorem rep_get {α : Type} {l : List α} {n i : Nat} {a b : α} (h : (l ++ List.replicate n a)[i]? = some b) : l[i]? = some b ∨ (l.length ≤ i ∧ b = a) := by
  by_cases hi : i < l.length
  · rw [List.getElem?_append_left hi] at h; exact .inl h
  · rw [List.getElem?_append_right (by omega), List.getElem?_replicate] at h
    split at h
    · exact .inr ⟨by omega, (Option.some.inj h).symm⟩
    · cases h
theorem wd_start {K : PySem.W.Frag} {F H : Hp} {vs : List V} {as : List Sl} {N : List Str} (w : Wd K F H (vs.map some) as) : Wd K F H (L2.start N vs) (as ++ List.replicate (N.length - as.length) .non) ∧ (∀ a, Ft (L2.start N vs) (as ++ List.replicate (N.length - as.length) .non) a ↔ Ft (vs.map some) as a) := by
  have hl : as.length = vs.length := by rw [w.len]; simp
  have key : ∀ (i : Nat) (s : Sl) (a : Addr), (as ++ List.replicate (N.length - as.length) Sl.non)[i]? = some s → ownS s = true → (L2.start N vs)[i]? = some (some (V.ref a)) → as[i]? = some s ∧ (vs.map some)[i]? = some (some (V.ref a)) := fun i s a h1 h2 h3 => by
    rcases rep_get h1 with h1 | ⟨_, rfl⟩
    · refine ⟨h1, ?_⟩
      unfold L2.start at h3
      rcases rep_get h3 with h3 | ⟨_, e⟩
      · exact h3
      · cases e
    · cases h2
  refine ⟨⟨w.ex, ?_, fun i o s h1 h2 => ?_, fun i j s t a h1 h2 h3 h4 h5 h6 => ?_⟩, fun a => ⟨fun ⟨i, s, h1, h2, h3⟩ => ?_, fun ⟨i, s, h1, h2, h3⟩ => ⟨i, s, ?_, h2, ?_⟩⟩⟩
  · unfold L2.start; simp; omega
  · rcases rep_get h2 with h2 | ⟨_, rfl⟩
    · have hi : i < as.length := (List.getElem?_eq_some_iff.mp h2).1
      unfold L2.start at h1
      rw [List.getElem?_append_left (by simp; omega)] at h1
      exact w.at_ i o s h1 h2
    · trivial
  · obtain ⟨a1, b1⟩ := key i s a h1 h2 h5
    obtain ⟨a2, b2⟩ := key j t a h3 h4 h6
    exact w.sep i j s t a a1 h2 a2 h4 b1 b2
  · obtain ⟨a1, b1⟩ := key i s a h1 h2 h3
    exact ⟨i, s, a1, h2, b1⟩
  · have hi : i < as.length := (List.getElem?_eq_some_iff.mp h1).1
    rw [List.getElem?_append_left hi]; exact h1
  · have hi : i < as.length := (List.getElem?_eq_some_iff.mp h1).1
    unfold L2.start
    rw [List.getElem?_append_left (by simp; omega)]; exact h3
/-- what a body's reading asks, from the promise -/
theorem body_run {K : PySem.W.Frag} {W : XW} {ce : EX} {S : List Nat} {N : List Str} {n : Nat} {ts : DS} {vs : List V} {H : Hp} {Q : VK} {E : XK} (hN : n ≤ N.length) (hS : ∀ i ∈ S, i < n) (hW : ∀ x H, ce x E H → W x H) (h : liftF K ce S n (dDef N.length ts) vs H Q E) :
    liftS K W S ts { nx := fun _ H' => Q .non H', rt := Q } (L2.start N vs) H := by
  obtain ⟨hl, F, as, w, hS2, h⟩ := h
  have ha : as.length = n := by rw [w.len]; simpa using hl
  obtain ⟨w2, ft⟩ := wd_start (N := N) w
  refine ⟨F, _, w2, ?_⟩
  have ftr : ∀ {F' H' : Hp} {M' : Addr → Prop}, Gr F H (Ft (L2.start N vs) (as ++ List.replicate (N.length - as.length) .non)) F' H' M' → Gr F H (Ft (vs.map some) as) F' H' M' := fun g =>
    ⟨g.ex, fun a o e m => g.keep a o e fun z => m ((ft a).mp z), g.dom, fun a o e f m => g.nof a o e f fun z => m ((ft a).mp z), fun a z => (g.ft a z).imp (ft a).mp id⟩
  have slots : ∀ {F' H' : Hp} {σ' : St} {ρ' : Ev}, Wd K F' H' σ' ρ' → Kp S (L2.start N vs) σ' → ∀ (i : Nat) (u : V) (s : Sl), i ∈ S → vs[i]? = some u → (ρ'.take as.length)[i]? = some s → SlOk K F' H' (some u) s := fun w' kp i u s hi hu hs => by
    have hin := hS i hi
    rw [List.getElem?_take_of_lt (by omega)] at hs
    refine w'.at_ i _ s ?_ hs
    rw [kp i hi]
    unfold L2.start
    rw [List.getElem?_append_left (by simp; omega), List.getElem?_map, hu]
    rfl
  unfold dDef at h
  cases q : ts (as ++ List.replicate (N.length - as.length) .non) with
  | rt r ρ' =>
    rw [q] at h
    exact fun v σ' F' H' M' g w' kp rv => h v F' H' M' (ftr g) w'.ex (slots w' kp) rv
  | nx ρ' =>
    rw [q] at h
    exact fun σ' F' H' g w' kp => h .non F' H' _ (ftr g) w'.ex (slots w' kp) rfl
  | ex x =>
    rw [q] at h
    exact fun F' H' M' g s => hW _ _ (h F' H' M' (ftr g) s)
  | bk ρ' => rw [q] at h; exact h.elim
  | ct ρ' => rw [q] at h; exact h.elim
  | st => rw [q] at h; exact h.elim
/-- a def that raises nothing -/
theorem fn_ok {P : Program} {w : World} {K : PySem.W.Frag} {mg : Str → Option Value} {base : Heap} {x qual : Str} {st : Stmt} {f : Addr} {fd : FuncData} {N ps : List Str} {k m n : Nat} {S : List Nat} {ts : DS}
    (F : Fun K x qual st f fd) (Sc : FnScope N ps (defScope st)) (hm : N.length = m) (hn : ps.length = n) (hS : ∀ i ∈ S, i < n)
    (hb : ∀ (cdv : Value) (A : Around) (outer : List Env) (s : Shared) (H : Hp) (E : XK), Room k (A.deeper (PyProof.Rows.envOfC qual (defScope st) s.heap.objs.size f cdv)) → PSs (cxOf CX0 P w K mg base N qual (defScope st) f cdv A outer s H E).nox (defBody st) (liftS K W0 S ts)) :
    FnOk P w K mg base CX0 (k + 1) f fd ps (liftF K ex0 S n (dDef m ts)) := by
  subst hm hn
  have hN : ps.length ≤ N.length := by
    have := congrArg List.length Sc.pre
    rw [List.length_take] at this
    omega
  exact F.ok Sc (fun vs H Q E h => h.1) fun cdv A outer s H vs Q E hr h => ⟨_, hb cdv A outer s H E hr, body_run hN hS (fun _ _ z => z) h⟩
/-! ### constants that are tuples -/
def absAll : List Value → Option (List V)
  | [] => some []
  | u :: us => match absV u, absAll us with
    | some x, some xs => some (x :: xs)
    | _, _ => none
theorem relV_of {x : V} {u : Value} (h : absV u = some x) : L2.RelV x u := by
  cases u <;> simp only [absV, Option.some.injEq, reduceCtorEq] at h <;> subst h <;> first | rfl | exact ⟨_, rfl⟩
theorem vals_of : ∀ {us : List Value} {xs : List V}, absAll us = some xs → L2.Vals xs us
  | [], xs, h => by cases h; exact .nil
  | u :: us, xs, h => by
    unfold absAll at h
    cases e1 : absV u with
    | none => rw [e1] at h; cases h
    | some x =>
      cases e2 : absAll us with
      | none => rw [e1, e2] at h; cases h
      | some ys =>
        rw [e1, e2] at h
        cases h
        exact .cons (relV_of e1) (vals_of e2)
theorem sqT_of {K : PySem.W.Frag} {F : Hp} {a : Addr} {vs : List V} {d : Option Addr} {its : Array Value} {n : Nat} {s : Array (Option Value)} (kl : K.lookup a = some ⟨.type "tuple", d, .seq its n, s⟩) (kx : absAll its.toList = some vs) (h : vs.length ≤ 1000) : SqT K F a vs :=
  .inr ⟨_, its, n, kl, rfl, rfl, by
    have e := (vals_of kx).length
    simp only [Array.length_toList] at e
    have : (1000 : Nat) ≤ sizeLine := by decide
    omega, vals_of kx⟩
end Bd

set_option Elab.async false
set_option linter.all false
set_option maxRecDepth 100000
set_option maxHeartbeats 4000000
namespace Bd
open PySem PySem.Spec L2

/-! ### the end of a law -/
theorem law_end {K : PySem.W.Frag} {H : Hp} {a : Addr} {ns : List Int} {f : DF} (hS : SqL K H a (ns.map V.int)) (h : ∃ as, f [.s ns] = .ok (.d (.bool true)) as) : liftF K ex0 [0] 1 f [.ref a] H (fun v _ => v = .bl true) fun _ _ _ => False := by
  obtain ⟨as, e⟩ := h
  refine ⟨rfl, H, [.s ns], ⟨.refl _, rfl, fun i o s h1 h2 => ?_, fun i j s t b h1 h2 => ?_⟩, fun i s h1 h2 => ?_, ?_⟩
  · cases i with
    | zero => cases h1; cases h2; exact ⟨a, rfl, hS⟩
    | succ i => cases h2
  · cases i with
    | zero => cases h1; cases h2
    | succ i => cases h1
  · cases i with
    | zero => cases h1; cases h2
    | succ i => cases h1
  · rw [e]
    exact fun v F' H' M' g s k r => r

/-! ### running statements on data -/
/-- the statement goes through and leads to P -/
def Goes (s : DS) (ρ : Ev) (P : Ev → Prop) : Prop := ∃ ρ', s ρ = .nx ρ' ∧ P ρ'
theorem goes_seq {a b : DS} {ρ : Ev} {P : Ev → Prop} (h : Goes a ρ fun ρ' => Goes b ρ' P) : Goes (dSeq a b) ρ P := by
  obtain ⟨ρ1, e1, ρ2, e2, p⟩ := h
  exact ⟨ρ2, by unfold dSeq; rw [e1]; exact e2, p⟩
theorem goes_next {ρ : Ev} {P : Ev → Prop} (h : P ρ) : Goes dNext ρ P := ⟨ρ, rfl, h⟩
theorem goes_set {i : Nat} {te : DE} {ρ ρ1 : Ev} {d : PyData} {P : Ev → Prop} (e : te ρ = .ok d ρ1) (h : P (ρ1.set i (.d d))) : Goes (dSet i te) ρ P := ⟨_, by unfold dSet; rw [e]; rfl, h⟩
theorem goes_setV {i : Nat} {te : DV} {ρ ρ1 : Ev} {s : Sl} {P : Ev → Prop} (e : te ρ = .ok s ρ1) (h : P (ρ1.set i s)) : Goes (dSetV i te) ρ P := ⟨_, by unfold dSetV; rw [e]; rfl, h⟩
theorem goes_if {t : DT} {a b : DS} {ρ ρ1 : Ev} {k : Bool} {P : Ev → Prop} (e : t ρ = .ok k ρ1) (h1 : k = true → Goes a ρ1 P) (h2 : k = false → Goes b ρ1 P) : Goes (dIfS t a b) ρ P := by
  cases k with
  | true =>
    obtain ⟨ρ2, e2, p⟩ := h1 rfl
    exact ⟨ρ2, by unfold dIfS; rw [e]; exact e2, p⟩
  | false =>
    obtain ⟨ρ2, e2, p⟩ := h2 rfl
    exact ⟨ρ2, by unfold dIfS; rw [e]; exact e2, p⟩
/-- a test that fails, no else -/
theorem goes_no {t : DT} {a : DS} {ρ ρ1 : Ev} {P : Ev → Prop} (e : t ρ = .ok false ρ1) (h : P ρ1) : Goes (dIfS t a dNext) ρ P := goes_if e (fun z => nomatch z) fun _ => goes_next h
theorem forL_inv {g : DG} {body : DS} : ∀ (ds : List PyData) (n : Nat) (I : Nat → Ev → Prop) (ρ : Ev), I n ρ → (∀ (i : Nat) (d : PyData) (ρ : Ev), ds[i]? = some d → I (n + i) ρ → ∃ ρ1, g d ρ = some ρ1 ∧ Goes body ρ1 (I (n + i + 1))) → ∃ ρ', forL g body ds ρ = .nx ρ' ∧ I (n + ds.length) ρ'
  | [], n, I, ρ, h0, _ => ⟨ρ, rfl, h0⟩
  | d :: ds, n, I, ρ, h0, hs => by
    obtain ⟨ρ1, e1, ρ2, e2, h2⟩ := hs 0 d ρ rfl h0
    have ih := forL_inv (g := g) (body := body) ds (n + 1) I ρ2 (by simpa using h2) fun i d' ρ3 hd hI => by
      have := hs (i + 1) d' ρ3 (by simpa using hd) (by rw [show n + (i + 1) = n + 1 + i by omega]; exact hI)
      rw [show n + (i + 1) + 1 = n + 1 + i + 1 by omega] at this
      exact this
    obtain ⟨ρ', e3, h3⟩ := ih
    refine ⟨ρ', ?_, by rw [List.length_cons, show n + (ds.length + 1) = n + 1 + ds.length by omega]; exact h3⟩
    unfold forL
    rw [e1]
    simp only [e2]
    exact e3
/-- a loop, by an invariant that tells nothing of the turn -/
theorem goes_for {ti : DI} {g : DG} {body : DS} {ρ ρ1 : Ev} {ds : List PyData} {P : Ev → Prop} (I : Ev → Prop) (e : ti ρ = .ok ds ρ1) (h0 : I ρ1) (hs : ∀ (d : PyData) (ρ : Ev), d ∈ ds → I ρ → ∃ ρ1, g d ρ = some ρ1 ∧ Goes body ρ1 I) (hd : ∀ ρ, I ρ → P ρ) : Goes (dFor ti g body) ρ P := by
  obtain ⟨ρ', e1, h1⟩ := forL_inv (g := g) (body := body) ds 0 (fun _ => I) ρ1 h0 fun i d ρ hi hI => hs d ρ (List.mem_of_getElem? hi) hI
  exact ⟨ρ', by unfold dFor; rw [e]; exact e1, hd ρ' h1⟩
theorem mem_range {lo : Int} {n : Nat} {d : PyData} (h : d ∈ rangeD lo n) : ∃ i : Nat, i < n ∧ d = .int (lo + (i : Int)) := by
  unfold rangeD at h
  obtain ⟨i, hi, rfl⟩ := List.mem_map.mp h
  exact ⟨i, List.mem_range.mp hi, rfl⟩
/-- a call with one own argument -/
theorem callV_eq {f : DF} {pre post : List DE} {i : Nat} {ρ ρ2 : Ev} {xs ys : List PyData} {s s' r : Sl} {as' : List Sl} (h0 : isArg ρ[i]? = true) (h1 : dMix pre post ρ = .ok (xs, ys) ρ2) (h2 : ρ2[i]? = some s) (h3 : f (xs.map .d ++ s :: ys.map .d) = .ok r as') (h4 : ownS s = true) (h5 : as'[xs.length]? = some s') :
    dCallV f pre i post ρ = .ok r (ρ2.set i s') := by
  unfold dCallV dCallW
  rw [if_pos h0, h1]
  simp only [R.bnd, h2, h3, h4, if_true, h5]
theorem call_eq {f : DF} {ts : List DE} {ρ ρ1 : Ev} {ds : List PyData} {r : Sl} {as' : List Sl} (h1 : dArgs ts ρ = .ok ds ρ1) (h2 : f (ds.map .d) = .ok r as') : dCall f ts ρ = .ok r ρ1 := by
  unfold dCall
  rw [h1]
  simp only [R.bnd, h2]
/-- a def's end -/
theorem dDef_eq {m : Nat} {ts : DS} {as : List Sl} {r : Sl} {ρ' : Ev} (h : ts (as ++ List.replicate (m - as.length) .non) = .rt r ρ') : dDef m ts as = .ok r (ρ'.take as.length) := by
  unfold dDef
  rw [h]
theorem seq_end {a b : DS} {ρ : Ev} {P : Ev → Prop} {r : Sl} (h : Goes a ρ P) (h2 : ∀ ρ', P ρ' → ∃ ρ2, b ρ' = .rt r ρ2) : ∃ ρ2, dSeq a b ρ = .rt r ρ2 := by
  obtain ⟨ρ1, e1, p⟩ := h
  obtain ⟨ρ2, e2⟩ := h2 ρ1 p
  exact ⟨ρ2, by unfold dSeq; rw [e1]; exact e2⟩
end Bd

set_option Elab.async false
set_option linter.all false
set_option maxRecDepth 100000
set_option maxHeartbeats 4000000
namespace Bd
open PySem PySem.Spec L2
def k_FAR : PyData := .int (10 ^ 15)
def k_STILL : PyData := .tuple [.int 0, .int 0, .int 0]
def b_law_source : DS := (dSeq (dSet 2 (dC (.int 0)))
    (dSeq (dIfS (dTst (dOp fLt (dVar 1) (dLenS 0))) (dSet 2 (dCB cAbs [(dIxS 0 (dVar 1))])) dNext)
    (dSeq (dIfS (dTst (dOp fLt (dVar 2) (dOp fPow (dC (.int 10)) (dC (.int 18))))) (dRetV (dLstV [(dC (.int 0)), (dOp fAdd (dC (.int 1)) (dOp fMod (dCB cInt [(dOp fAdd (dOp fMul (dVar 2) (dC (.int 7919))) (dOp fMul (dC (.int 104729)) (dVar 1)))]) (dC (.int 2147483646))))])) dNext)
    (dRetV (dLstV [(dVar 2), (dOp fAdd (dC (.int 1)) (dOp fMod (dCB cInt [(dOp fAdd (dVar 2) (dVar 1))]) (dC (.int 2147483646))))])))))
def w_law_source : DF := dDef 3 b_law_source
def b_law_draw : DS := (dSeq (dIfS (dTst (dOp fGt (dIxV 0 (dC (.int 0))) (dC (.int 0)))) (dSeq (dSet 2 (dOp fMod (dCB cInt [(dIxV 0 (dC (.int 0)))]) (dVar 1)))
    (dSeq (dPut 0 (dC (.int 0)) (dOp fDiv (dIxV 0 (dC (.int 0))) (dVar 1)))
    (dRet (dVar 2)))) dNext)
    (dSeq (dPut 0 (dC (.int 1)) (dOp fMod (dCB cInt [(dOp fMul (dIxV 0 (dC (.int 1))) (dC (.int 48271)))]) (dC (.int 2147483647))))
    (dRet (dOp fMod (dCB cInt [(dOp fDiv (dOp fMod (dCB cInt [(dOp fMul (dIxV 0 (dC (.int 1))) (dIxV 0 (dC (.int 1))))]) (dC (.int 2147483629))) (dC (.int 64)))]) (dVar 1)))))
def w_law_draw : DF := dDef 3 b_law_draw
def b_law_choice : DS := (dRet (dOp fIx (dVar 1) (dFz (dCallV w_law_draw [] 0 [(dCB cLen [(dVar 1)])]))))
def w_law_choice : DF := dDef 2 b_law_choice
def b_law_motion : DS := (dRet (dTup [(dFz (dCallV w_law_draw [] 0 [(dC (.int 2))])), (dOp fSub (dFz (dCallV w_law_draw [] 0 [(dOp fAdd (dOp fMul (dC (.int 2)) (dVar 1)) (dC (.int 1)))])) (dVar 1)), (dFz (dCallV w_law_draw [] 0 [(dC (.int 2))]))]))
def w_law_motion : DF := dDef 2 b_law_motion
def b_is_between : DS := (dRet (dAndV (dIsi (dVar 0) "int") (dAndV (dNotV (dIsi (dVar 0) "bool")) (dChain fLe fLe (dVar 1) (dVar 0) (dVar 2)))))
def w_is_between : DF := dDef 3 b_is_between
def b_is_integer : DS := (dRet (dAndV (dIsi (dVar 0) "int") (dNotV (dIsi (dVar 0) "bool"))))
def w_is_integer : DF := dDef 1 b_is_integer
def b_is_motion : DS := (dSeq (dIfS (dOr (dNot (dTst (dIsi (dVar 0) "tuple"))) (dTst (dOp fNe (dCB cLen [(dVar 0)]) (dC (.int 3))))) (dRet (dC (.bool false))) dNext)
    (dRet (dAndV (dFz (dCall w_is_between [(dOp fIx (dVar 0) (dC (.int 0))), (dC (.int 0)), (dC (.int 1))])) (dAndV (dFz (dCall w_is_integer [(dOp fIx (dVar 0) (dC (.int 1)))])) (dFz (dCall w_is_between [(dOp fIx (dVar 0) (dC (.int 2))), (dC (.int 0)), (dC (.int 1))]))))))
def w_is_motion : DF := dDef 1 b_is_motion
def b_is_cell : DS := (dSeq (dIfS (dOr (dNot (dTst (dIsi (dVar 0) "tuple"))) (dTst (dOp fNe (dCB cLen [(dVar 0)]) (dC (.int 2))))) (dRet (dC (.bool false))) dNext)
    (dRet (dAndV (dFz (dCall w_is_integer [(dOp fIx (dVar 0) (dC (.int 0)))])) (dFz (dCall w_is_between [(dOp fIx (dVar 0) (dC (.int 1))), (dC (.int 0)), (dC (.int 1))])))))
def w_is_cell : DF := dDef 1 b_is_cell
def b_need_motion : DS := (dIfS (dNot (dTst (dFz (dCall w_is_motion [(dVar 0)])))) (dRaise "InvalidMotion") dNext)
def w_need_motion : DF := dDef 1 b_need_motion
def b_need_cell : DS := (dIfS (dNot (dTst (dFz (dCall w_is_cell [(dVar 0)])))) (dRaise "InvalidCell") dNext)
def w_need_cell : DF := dDef 1 b_need_cell
def b_need_number : DS := (dIfS (dNot (dTst (dFz (dCall w_is_between [(dVar 0), (dVar 1), (dVar 2)])))) (dRaise "InvalidNumber") dNext)
def w_need_number : DF := dDef 3 b_need_number
def b_behind : DS := (dSeq (dSet 2 (dIf (dTst (dOp fEq (dOp fIx (dVar 0) (dC (.int 0))) (dC (.int 1)))) (dOp fSub (dOp fIx (dVar 0) (dC (.int 1))) (dOp fIx (dVar 1) (dC (.int 1)))) (dOp fAdd (dOp fIx (dVar 0) (dC (.int 1))) (dOp fIx (dVar 1) (dC (.int 1))))))
    (dRet (dTup [(dOp fMod (dOp fAdd (dOp fIx (dVar 0) (dC (.int 0))) (dOp fIx (dVar 1) (dC (.int 0)))) (dC (.int 2))), (dVar 2), (dOp fMod (dOp fAdd (dOp fIx (dVar 0) (dC (.int 2))) (dOp fIx (dVar 1) (dC (.int 2)))) (dC (.int 2)))])))
def w_behind : DF := dDef 3 b_behind
def b_back : DS := (dRet (dIf (dTst (dOp fEq (dOp fIx (dVar 0) (dC (.int 0))) (dC (.int 1)))) (dVar 0) (dTup [(dC (.int 0)), (dUn fNeg (dOp fIx (dVar 0) (dC (.int 1)))), (dOp fIx (dVar 0) (dC (.int 2)))])))
def w_back : DF := dDef 1 b_back
def b_carry : DS := (dSeq (dSet 2 (dIf (dTst (dOp fEq (dOp fIx (dVar 0) (dC (.int 0))) (dC (.int 1)))) (dOp fSub (dOp fIx (dVar 0) (dC (.int 1))) (dOp fIx (dVar 1) (dC (.int 0)))) (dOp fAdd (dOp fIx (dVar 0) (dC (.int 1))) (dOp fIx (dVar 1) (dC (.int 0))))))
    (dRet (dTup [(dVar 2), (dOp fMod (dOp fAdd (dOp fIx (dVar 1) (dC (.int 1))) (dOp fIx (dVar 0) (dC (.int 2)))) (dC (.int 2)))])))
def w_carry : DF := dDef 3 b_carry
def b_seen : DS := (dRet (dFz (dCall w_behind [(dVar 1), (dFz (dCall w_behind [(dVar 0), (dFz (dCall w_back [(dVar 1)]))]))])))
def w_seen : DF := dDef 2 b_seen
def b_done : DS := (dSeq (dDrop (dCall w_need_motion [(dVar 0)]))
    (dSeq (dDrop (dCall w_need_motion [(dVar 1)]))
    (dRet (dFz (dCall w_behind [(dVar 0), (dVar 1)])))))
def w_done : DF := dDef 2 b_done
def b_undone : DS := (dSeq (dDrop (dCall w_need_motion [(dVar 0)]))
    (dRet (dFz (dCall w_back [(dVar 0)]))))
def w_undone : DF := dDef 1 b_undone
def b_carried : DS := (dSeq (dDrop (dCall w_need_motion [(dVar 0)]))
    (dSeq (dDrop (dCall w_need_cell [(dVar 1)]))
    (dRet (dFz (dCall w_carry [(dVar 0), (dVar 1)])))))
def w_carried : DF := dDef 2 b_carried
def b_repeated : DS := (dSeq (dDrop (dCall w_need_motion [(dVar 0)]))
    (dSeq (dDrop (dCall w_need_number [(dVar 1), (dUn fNeg (dC k_FAR)), (dC k_FAR)]))
    (dSeq (dIfS (dTst (dOp fEq (dOp fIx (dVar 0) (dC (.int 0))) (dC (.int 1)))) (dRet (dIf (dTst (dOp fEq (dOp fMod (dVar 1) (dC (.int 2))) (dC (.int 1)))) (dVar 0) (dC k_STILL))) dNext)
    (dRet (dTup [(dC (.int 0)), (dOp fMul (dOp fIx (dVar 0) (dC (.int 1))) (dVar 1)), (dOp fMod (dOp fMul (dOp fIx (dVar 0) (dC (.int 2))) (dVar 1)) (dC (.int 2)))])))))
def w_repeated : DF := dDef 2 b_repeated
def b_turns_round : DS := (dSeq (dDrop (dCall w_need_motion [(dVar 0)]))
    (dSeq (dIfS (dTst (dOp fEq (dVar 0) (dC k_STILL))) (dRet (dC (.int 1))) dNext)
    (dRet (dIf (dOr (dTst (dOp fEq (dOp fIx (dVar 0) (dC (.int 0))) (dC (.int 1)))) (dTst (dOp fEq (dOp fIx (dVar 0) (dC (.int 1))) (dC (.int 0))))) (dC (.int 2)) (dC (.int 0))))))
def w_turns_round : DF := dDef 1 b_turns_round
def b_seen_by : DS := (dSeq (dDrop (dCall w_need_motion [(dVar 0)]))
    (dSeq (dDrop (dCall w_need_motion [(dVar 1)]))
    (dRet (dFz (dCall w_seen [(dVar 0), (dVar 1)])))))
def w_seen_by : DF := dDef 2 b_seen_by
def b_law_done : DS := (dSeq (dSet 2 (dOp fAdd (dOp fIx (dVar 0) (dC (.int 1))) (dIf (dTst (dOp fEq (dOp fIx (dVar 0) (dC (.int 0))) (dC (.int 0)))) (dOp fIx (dVar 1) (dC (.int 1))) (dUn fNeg (dOp fIx (dVar 1) (dC (.int 1)))))))
    (dRet (dTup [(dOp fMod (dCB cInt [(dOp fAdd (dOp fIx (dVar 0) (dC (.int 0))) (dOp fIx (dVar 1) (dC (.int 0))))]) (dC (.int 2))), (dVar 2), (dOp fMod (dCB cInt [(dOp fAdd (dOp fIx (dVar 0) (dC (.int 2))) (dOp fIx (dVar 1) (dC (.int 2))))]) (dC (.int 2)))])))
def w_law_done : DF := dDef 3 b_law_done
def b_law_back : DS := (dRet (dTup [(dOp fIx (dVar 0) (dC (.int 0))), (dIf (dTst (dOp fEq (dOp fIx (dVar 0) (dC (.int 0))) (dC (.int 1)))) (dOp fIx (dVar 0) (dC (.int 1))) (dUn fNeg (dOp fIx (dVar 0) (dC (.int 1))))), (dOp fIx (dVar 0) (dC (.int 2)))]))
def w_law_back : DF := dDef 1 b_law_back
end Bd

set_option Elab.async false
set_option linter.all false
set_option maxRecDepth 100000
set_option maxHeartbeats 4000000
namespace Bd
open PySem PySem.Spec L2
theorem atI0 {α : Type} {x : α} {xs : List α} : atI (x :: xs) 0 = some x := atI_nat (j := 0) rfl
theorem atI1 {α : Type} {x y : α} {xs : List α} : atI (x :: y :: xs) 1 = some y := atI_nat (j := 1) rfl
theorem atI2 {α : Type} {x y z : α} {xs : List α} : atI (x :: y :: z :: xs) 2 = some z := atI_nat (j := 2) rfl
theorem atI3 {α : Type} {x y z u : α} {xs : List α} : atI (x :: y :: z :: u :: xs) 3 = some u := atI_nat (j := 3) rfl
theorem ixN0 {n : Nat} : ixN (n + 1) 0 = some 0 := by unfold ixN; simp
theorem ixN1 {n : Nat} : ixN (n + 2) 1 = some 1 := by unfold ixN; simp; omega
theorem fEq_int (i j : Int) : fEq (.int i) (.int j) = some (.bool (decide (i = j))) := rfl
theorem fNe_int (i j : Int) : fNe (.int i) (.int j) = some (.bool (!decide (i = j))) := rfl
theorem fEq_str (i j : Str) : fEq (.str i) (.str j) = some (.bool (decide (i = j))) := rfl
theorem fNe_str (i j : Str) : fNe (.str i) (.str j) = some (.bool (!decide (i = j))) := rfl
local macro_rules | `(tactic| walk_at "ev") => `(tactic| simp only [dDef, dSeq, dIfS, dTst, dOp, dIxV, dC, dVar, dCB, dPut, dSet, dSetV, dRet, dRetV, dRetN, dDrop, dApp, dUn, dIf, dAnd, dOr, dNot, dAndV, dOrV, dNotV, dChain, dIsi, dTup, dLst, dLstV, dArgs, dFz, dD, dCall, dCallV, dCallW, dMix, dLenS, dIxS, dSl, dNoP, dP, dPar2, dPar3, dUnp, gT, gNs, dNext, dRaise, dSq, dRng1, dRng2, R.bnd, R.thn, isArg, ownS, fAdd, fSub, fMul, fDiv, fMod, fPow, fNeg, fEq_int, fNe_int, fEq_str, fNe_str, fLt, fLe, fGt, fGe, fIx, fIs, fIsNot, cInt, cAbs, cLen, cMin2, cMax2, cList, cTuple, isI, List.cons_append, List.nil_append, List.length_cons, List.length_nil, List.replicate, List.getElem?_cons_zero, List.getElem?_cons_succ, List.getElem?_nil, List.set_cons_zero, List.set_cons_succ, List.map_cons, List.map_nil, List.take_succ_cons, List.take_zero, List.take_nil, if_true, if_false, Bool.true_eq_false, Bool.false_eq_true, decide_eq_true_eq, Nat.add_sub_cancel, Nat.reduceAdd, Nat.reduceSub, reduceIte, atI0, atI1, atI2, atI3, ixN0, ixN1, Bool.and_true, Bool.true_and, and_true, true_and, and_self, not_true, not_false, decide_true, decide_false, Bool.not_true, Bool.not_false, eq_self, *])
/-! ### the draws -/
structure Src (a b : Int) : Prop where
  lo : 0 ≤ b
  hi : b < 2147483648
theorem sm_of {i : Int} (h1 : -(2 ^ 200) < i) (h2 : i < 2 ^ 200) : sm i = true := decide_eq_true (by omega)
theorem draw_ok {a b n : Int} (h : Src a b) (hn : 0 < n) (hs : n < 2 ^ 200) : ∃ r a' b', w_law_draw [.l [.int a, .int b], .d (.int n)] = .ok (.d (.int r)) [.l [.int a', .int b'], .d (.int n)] ∧ 0 ≤ r ∧ r < n ∧ Src a' b' := by
  have sn : sm n = true := sm_of (by omega) hs
  have dn : decide (0 < n) = true := decide_eq_true hn
  obtain ⟨h1, h2⟩ := h
  by_cases ha : 0 < a
  · have da : decide (0 < a) = true := decide_eq_true ha
    refine ⟨a % n, a / n, b, ?_, Int.emod_nonneg _ (by omega), Int.emod_lt_of_pos _ hn, ⟨h1, h2⟩⟩
    unfold w_law_draw b_law_draw
    walk_at "ev"
  · have da : decide (0 < a) = false := decide_eq_false ha
    have sb : sm b = true := sm_of (by omega) (by omega)
    have s1 : sm 48271 = true := by decide
    have d1 : decide ((0 : Int) < 2147483647) = true := by decide
    have d2 : decide ((0 : Int) < 2147483629) = true := by decide
    have d3 : decide ((0 : Int) < 64) = true := by decide
    have p1 : (0 : Int) < 2147483647 := by decide
    have p2 : (0 : Int) < 2147483629 := by decide
    have s3 : sm 64 = true := by decide
    have c1 : 0 ≤ b * 48271 % 2147483647 := Int.emod_nonneg _ (by decide)
    have c2 : b * 48271 % 2147483647 < 2147483647 := Int.emod_lt_of_pos _ (by decide)
    have sc : sm (b * 48271 % 2147483647) = true := sm_of (by omega) (by omega)
    refine ⟨(b * 48271 % 2147483647) * (b * 48271 % 2147483647) % 2147483629 / 64 % n, a, b * 48271 % 2147483647, ?_, Int.emod_nonneg _ (by omega), Int.emod_lt_of_pos _ hn, ⟨c1, by omega⟩⟩
    unfold w_law_draw b_law_draw
    walk_at "ev"
theorem choice_ok {a b : Int} {ds : List PyData} (h : Src a b) (h0 : 0 < ds.length) (hl : ds.length ≤ 1000) : ∃ r a' b', w_law_choice [.l [.int a, .int b], .d (.list ds)] = .ok (.d r) [.l [.int a', .int b'], .d (.list ds)] ∧ r ∈ ds ∧ Src a' b' := by
  obtain ⟨r, a', b', e, h1, h2, h3⟩ := draw_ok (n := (ds.length : Int)) h (by omega) (by omega)
  obtain ⟨k, rfl⟩ : ∃ k : Nat, r = (k : Int) := ⟨r.toNat, by omega⟩
  have hk : k < ds.length := by omega
  have ei : atI ds (k : Int) = some ds[k] := atI_nat (List.getElem?_eq_getElem hk)
  refine ⟨ds[k], a', b', ?_, List.getElem_mem hk, h3⟩
  unfold w_law_choice b_law_choice
  walk_at "ev"
theorem motion_ok {a b most : Int} (h : Src a b) (h0 : 0 ≤ most) (hm : most < 2 ^ 190) : ∃ f s w a' b', w_law_motion [.l [.int a, .int b], .d (.int most)] = .ok (.d (.tuple [.int f, .int s, .int w])) [.l [.int a', .int b'], .d (.int most)] ∧ 0 ≤ f ∧ f < 2 ∧ -most ≤ s ∧ s ≤ most ∧ 0 ≤ w ∧ w < 2 ∧ Src a' b' := by
  obtain ⟨f, a1, b1, e1, f1, f2, s1⟩ := draw_ok (n := 2) h (by decide) (by decide)
  obtain ⟨s, a2, b2, e2, g1, g2, s2⟩ := draw_ok (n := 2 * most + 1) s1 (by omega) (by omega)
  obtain ⟨w, a3, b3, e3, w1, w2, s3⟩ := draw_ok (n := 2) s2 (by decide) (by decide)
  refine ⟨f, s - most, w, a3, b3, ?_, f1, f2, by omega, by omega, w1, w2, s3⟩
  have m1 : sm most = true := sm_of (by omega) (by omega)
  have m2 : sm 2 = true := by decide
  unfold w_law_motion b_law_motion
  walk_at "ev"
theorem source_ok {ns : List Int} {i : Int} (h0 : 0 ≤ i) (hi : i ≤ 1000) : ∃ a b, w_law_source [.s ns, .d (.int i)] = .ok (.l [.int a, .int b]) [.s ns, .d (.int i)] ∧ Src a b := by
  have p1 : (0 : Int) < 2147483646 := by decide
  have p2 : (0 : Int) ≤ 18 ∧ (18 : Int) ≤ 1000000 ∧ Int.natAbs 10 < 2 ^ 64 := by decide
  have p3 : (10 : Int) ^ (Int.toNat 18) = 1000000000000000000 := by decide
  have si : sm i = true := sm_of (by omega) (by omega)
  have sc : sm 104729 = true := by decide
  have sd : sm 7919 = true := by decide
  -- what is left of the number read
  have fin : ∀ c : Int, Src c (1 + (c + i) % 2147483646) ∧ Src 0 (1 + (c * 7919 + 104729 * i) % 2147483646) := fun c => by
    have h1 := Int.emod_nonneg (c + i) (show (2147483646 : Int) ≠ 0 by decide)
    have h2 := Int.emod_lt_of_pos (c + i) p1
    have h3 := Int.emod_nonneg (c * 7919 + 104729 * i) (show (2147483646 : Int) ≠ 0 by decide)
    have h4 := Int.emod_lt_of_pos (c * 7919 + 104729 * i) p1
    exact ⟨⟨by omega, by omega⟩, ⟨by omega, by omega⟩⟩
  have tail : ∀ c : Int, 0 ≤ c → ∃ a b, (dSeq (dIfS (dTst (dOp fLt (dVar 2) (dOp fPow (dC (.int 10)) (dC (.int 18))))) (dRetV (dLstV [(dC (.int 0)), (dOp fAdd (dC (.int 1)) (dOp fMod (dCB cInt [(dOp fAdd (dOp fMul (dVar 2) (dC (.int 7919))) (dOp fMul (dC (.int 104729)) (dVar 1)))]) (dC (.int 2147483646))))])) dNext)
      (dRetV (dLstV [(dVar 2), (dOp fAdd (dC (.int 1)) (dOp fMod (dCB cInt [(dOp fAdd (dVar 2) (dVar 1))]) (dC (.int 2147483646))))]))) [.s ns, .d (.int i), .d (.int c)] = .rt (.l [.int a, .int b]) [.s ns, .d (.int i), .d (.int c)] ∧ Src a b := fun c hc => by
    by_cases h : c < 1000000000000000000
    · have dh : decide (c < 1000000000000000000) = true := decide_eq_true h
      have s2 : sm c = true := sm_of (by omega) (by omega)
      refine ⟨0, 1 + (c * 7919 + 104729 * i) % 2147483646, ?_, (fin c).2⟩
      walk_at "ev"
    · have dh : decide (c < 1000000000000000000) = false := decide_eq_false h
      refine ⟨c, 1 + (c + i) % 2147483646, ?_, (fin c).1⟩
      walk_at "ev"
  by_cases hn : i < (ns.length : Int)
  · obtain ⟨k, rfl⟩ : ∃ k : Nat, i = (k : Int) := ⟨i.toNat, by omega⟩
    have hk : k < ns.length := by omega
    have ei : atI ns (k : Int) = some ns[k] := atI_nat (List.getElem?_eq_getElem hk)
    have dn : decide ((k : Int) < (ns.length : Int)) = true := decide_eq_true hn
    obtain ⟨a, b, e, hs⟩ := tail (if ns[k] < 0 then -ns[k] else ns[k]) (by split <;> omega)
    refine ⟨a, b, ?_, hs⟩
    unfold w_law_source b_law_source dDef
    rw [show ([Sl.s ns, Sl.d (.int (k : Int))] ++ List.replicate (3 - [Sl.s ns, Sl.d (.int (k : Int))].length) Sl.non) = [Sl.s ns, Sl.d (.int (k : Int)), Sl.non] from rfl]
    have step : ∀ b2 : DS, dSeq (dSet 2 (dC (.int 0))) (dSeq (dIfS (dTst (dOp fLt (dVar 1) (dLenS 0))) (dSet 2 (dCB cAbs [(dIxS 0 (dVar 1))])) dNext) b2) [.s ns, .d (.int (k : Int)), .non] = b2 [.s ns, .d (.int (k : Int)), .d (.int (if ns[k] < 0 then -ns[k] else ns[k]))] := fun b2 => by
      clear tail fin e
      walk_at "ev"
    rw [step, e]
    rfl
  · have dn : decide (i < (ns.length : Int)) = false := decide_eq_false hn
    obtain ⟨a, b, e, hs⟩ := tail 0 (by omega)
    refine ⟨a, b, ?_, hs⟩
    unfold w_law_source b_law_source dDef
    rw [show ([Sl.s ns, Sl.d (.int i)] ++ List.replicate (3 - [Sl.s ns, Sl.d (.int i)].length) Sl.non) = [Sl.s ns, Sl.d (.int i), Sl.non] from rfl]
    have step : ∀ b2 : DS, dSeq (dSet 2 (dC (.int 0))) (dSeq (dIfS (dTst (dOp fLt (dVar 1) (dLenS 0))) (dSet 2 (dCB cAbs [(dIxS 0 (dVar 1))])) dNext) b2) [.s ns, .d (.int i), .non] = b2 [.s ns, .d (.int i), .d (.int 0)] := fun b2 => by
      clear tail fin e
      walk_at "ev"
    rw [step, e]
    rfl
end Bd

set_option Elab.async false
set_option linter.all false
set_option maxRecDepth 100000
set_option maxHeartbeats 4000000
namespace Bd
open PySem PySem.Spec L2
local macro_rules | `(tactic| walk_at "ev") => `(tactic| simp only [dDef, dSeq, dIfS, dTst, dOp, dIxV, dC, dVar, dCB, dPut, dSet, dSetV, dRet, dRetV, dRetN, dDrop, dApp, dUn, dIf, dAnd, dOr, dNot, dAndV, dOrV, dNotV, dChain, dIsi, dTup, dLst, dLstV, dArgs, dFz, dD, dCall, dCallV, dCallW, dMix, dLenS, dIxS, dSl, dNoP, dP, dPar2, dPar3, dUnp, gT, gNs, dNext, dRaise, dSq, dRng1, dRng2, R.bnd, R.thn, isArg, ownS, fAdd, fSub, fMul, fDiv, fMod, fPow, fNeg, fEq_int, fNe_int, fEq_str, fNe_str, fLt, fLe, fGt, fGe, fIx, fIs, fIsNot, cInt, cAbs, cLen, cMin2, cMax2, cList, cTuple, isI, List.cons_append, List.nil_append, List.length_cons, List.length_nil, List.replicate, List.getElem?_cons_zero, List.getElem?_cons_succ, List.getElem?_nil, List.set_cons_zero, List.set_cons_succ, List.map_cons, List.map_nil, List.take_succ_cons, List.take_zero, List.take_nil, if_true, if_false, Bool.true_eq_false, Bool.false_eq_true, decide_eq_true_eq, Nat.add_sub_cancel, Nat.reduceAdd, Nat.reduceSub, reduceIte, atI0, atI1, atI2, atI3, ixN0, ixN1, Bool.and_true, Bool.true_and, and_true, true_and, and_self, not_true, not_false, decide_true, decide_false, Bool.not_true, Bool.not_false, eq_self, *])
/-! ### motions, cells -/
def bi (b : Bool) : Int := if b then 1 else 0
structure Mo where
  f : Bool
  s : Int
  w : Bool
deriving DecidableEq
def Mo.e (m : Mo) : PyData := .tuple [.int (bi m.f), .int m.s, .int (bi m.w)]
def Mo.mul (a b : Mo) : Mo := ⟨xor a.f b.f, if a.f then a.s - b.s else a.s + b.s, xor a.w b.w⟩
def Mo.inv (a : Mo) : Mo := ⟨a.f, if a.f then a.s else -a.s, a.w⟩
def Mo.one : Mo := ⟨false, 0, false⟩
structure Ce where
  c : Int
  s : Bool
deriving DecidableEq
def Ce.e (c : Ce) : PyData := .tuple [.int c.c, .int (bi c.s)]
def Mo.act (m : Mo) (c : Ce) : Ce := ⟨if m.f then m.s - c.c else m.s + c.c, xor c.s m.w⟩
theorem bi_inj {a b : Bool} : (bi a == bi b) = decide (a = b) := by cases a <;> cases b <;> rfl
theorem Mo.eqv (a b : Mo) : PyData.eqv a.e b.e = decide (a = b) := by
  obtain ⟨f, s, w⟩ := a; obtain ⟨f', s', w'⟩ := b
  show ((bi f == bi f') && ((s == s') && ((bi w == bi w') && true))) = _
  rw [bi_inj, bi_inj, Bool.beq_eq_decide_eq]
  by_cases h1 : f = f' <;> by_cases h2 : s = s' <;> by_cases h3 : w = w' <;> simp [h1, h2, h3]
theorem Ce.eqv (a b : Ce) : PyData.eqv a.e b.e = decide (a = b) := by
  obtain ⟨f, s⟩ := a; obtain ⟨f', s'⟩ := b
  show ((f == f') && ((bi s == bi s') && true)) = _
  rw [bi_inj, Bool.beq_eq_decide_eq]
  by_cases h1 : f = f' <;> by_cases h2 : s = s' <;> simp [h1, h2]
theorem Mo.shp (a : Mo) : shp a.e = true := rfl
theorem Ce.shp (a : Ce) : Bd.shp a.e = true := rfl
theorem Mo.fNe (a b : Mo) : Bd.fNe a.e b.e = some (.bool (!decide (a = b))) := by
  rw [← Mo.eqv]; rfl
theorem Mo.fEq (a b : Mo) : Bd.fEq a.e b.e = some (.bool (decide (a = b))) := by
  rw [← Mo.eqv]; rfl
theorem Ce.fNe (a b : Ce) : Bd.fNe a.e b.e = some (.bool (!decide (a = b))) := by
  rw [← Ce.eqv]; rfl
theorem Ce.fEq (a b : Ce) : Bd.fEq a.e b.e = some (.bool (decide (a = b))) := by
  rw [← Ce.eqv]; rfl
theorem motionM_ok {a b most : Int} (h : Src a b) (h0 : 0 ≤ most) (hm : most < 2 ^ 190) : ∃ (m : Mo) (a' b' : Int), w_law_motion [.l [.int a, .int b], .d (.int most)] = .ok (.d m.e) [.l [.int a', .int b'], .d (.int most)] ∧ -most ≤ m.s ∧ m.s ≤ most ∧ Src a' b' := by
  obtain ⟨f, s, w, a', b', e, f1, f2, s1, s2, w1, w2, h'⟩ := motion_ok h h0 hm
  refine ⟨⟨decide (f = 1), s, decide (w = 1)⟩, a', b', ?_, s1, s2, h'⟩
  rw [e]
  have k : ∀ x : Int, 0 ≤ x → x < 2 → bi (decide (x = 1)) = x := fun x h1 h2 => by
    rcases (show x = 0 ∨ x = 1 by omega) with rfl | rfl <;> rfl
  unfold Mo.e
  rw [k f f1 f2, k w w1 w2]
theorem is_motion_eq (m : Mo) : w_is_motion [.d m.e] = .ok (.d (.bool true)) [.d m.e] := by
  obtain ⟨f, s, w⟩ := m; cases f <;> cases w <;> rfl
theorem need_motion_eq (m : Mo) : w_need_motion [.d m.e] = .ok (.d .none) [.d m.e] := by
  obtain ⟨f, s, w⟩ := m; cases f <;> cases w <;> rfl
theorem need_cell_eq (m : Ce) : w_need_cell [.d m.e] = .ok (.d .none) [.d m.e] := by
  obtain ⟨f, s⟩ := m; cases s <;> rfl
theorem behind_eq (a b : Mo) : w_behind [.d a.e, .d b.e] = .ok (.d (a.mul b).e) [.d a.e, .d b.e] := by
  obtain ⟨f, s, w⟩ := a; obtain ⟨f', s', w'⟩ := b
  cases f <;> cases w <;> cases f' <;> cases w' <;> rfl
theorem back_eq (a : Mo) : w_back [.d a.e] = .ok (.d a.inv.e) [.d a.e] := by
  obtain ⟨f, s, w⟩ := a; cases f <;> cases w <;> rfl
theorem carry_eq (a : Mo) (c : Ce) : w_carry [.d a.e, .d c.e] = .ok (.d (a.act c).e) [.d a.e, .d c.e] := by
  obtain ⟨f, s, w⟩ := a; obtain ⟨x, y⟩ := c; cases f <;> cases w <;> cases y <;> rfl
theorem seen_eq (a b : Mo) : w_seen [.d a.e, .d b.e] = .ok (.d (b.mul (a.mul b.inv)).e) [.d a.e, .d b.e] := by
  have e1 := back_eq b
  have e2 := behind_eq a b.inv
  have e3 := behind_eq b (a.mul b.inv)
  unfold w_seen b_seen
  walk_at "ev"
theorem done_eq (a b : Mo) : w_done [.d a.e, .d b.e] = .ok (.d (a.mul b).e) [.d a.e, .d b.e] := by
  have e1 := need_motion_eq a
  have e2 := need_motion_eq b
  have e3 := behind_eq a b
  unfold w_done b_done
  walk_at "ev"
theorem undone_eq (a : Mo) : w_undone [.d a.e] = .ok (.d a.inv.e) [.d a.e] := by
  have e1 := need_motion_eq a
  have e3 := back_eq a
  unfold w_undone b_undone
  walk_at "ev"
theorem carried_eq (a : Mo) (c : Ce) : w_carried [.d a.e, .d c.e] = .ok (.d (a.act c).e) [.d a.e, .d c.e] := by
  have e1 := need_motion_eq a
  have e2 := need_cell_eq c
  have e3 := carry_eq a c
  unfold w_carried b_carried
  walk_at "ev"
theorem seen_by_eq (a b : Mo) : w_seen_by [.d a.e, .d b.e] = .ok (.d (b.mul (a.mul b.inv)).e) [.d a.e, .d b.e] := by
  have e1 := need_motion_eq a
  have e2 := need_motion_eq b
  have e3 := seen_eq a b
  unfold w_seen_by b_seen_by
  walk_at "ev"
theorem law_done_eq (a b : Mo) : w_law_done [.d a.e, .d b.e] = .ok (.d (a.mul b).e) [.d a.e, .d b.e] := by
  obtain ⟨f, s, w⟩ := a; obtain ⟨f', s', w'⟩ := b
  cases f <;> cases w <;> cases f' <;> cases w' <;> rfl
theorem law_back_eq (a : Mo) : w_law_back [.d a.e] = .ok (.d a.inv.e) [.d a.e] := by
  obtain ⟨f, s, w⟩ := a; cases f <;> cases w <;> rfl
/-! the mathematics -/
theorem Mo.ext' {a b : Mo} (h1 : a.f = b.f) (h2 : a.s = b.s) (h3 : a.w = b.w) : a = b := by
  cases a; cases b; cases h1; cases h2; cases h3; rfl
theorem Mo.assoc (a b c : Mo) : (a.mul b).mul c = a.mul (b.mul c) := by
  obtain ⟨f, s, w⟩ := a; obtain ⟨f', s', w'⟩ := b; obtain ⟨f2, s2, w2⟩ := c
  cases f <;> cases f' <;> cases w <;> cases w' <;> cases w2 <;> simp [Mo.mul] <;> omega
theorem Mo.mul_inv (a : Mo) : a.mul a.inv = Mo.one := by
  obtain ⟨f, s, w⟩ := a
  cases f <;> cases w <;> simp [Mo.mul, Mo.inv, Mo.one] <;> omega
theorem Mo.inv_mul (a : Mo) : a.inv.mul a = Mo.one := by
  obtain ⟨f, s, w⟩ := a
  cases f <;> cases w <;> simp [Mo.mul, Mo.inv, Mo.one] <;> omega
theorem Mo.mul_one (a : Mo) : a.mul Mo.one = a := by
  obtain ⟨f, s, w⟩ := a
  cases f <;> cases w <;> simp [Mo.mul, Mo.one]
theorem Mo.one_mul (a : Mo) : Mo.one.mul a = a := by
  obtain ⟨f, s, w⟩ := a
  cases f <;> cases w <;> simp [Mo.mul, Mo.one]
theorem Mo.act_mul (a b : Mo) (c : Ce) : (a.mul b).act c = a.act (b.act c) := by
  obtain ⟨f, s, w⟩ := a; obtain ⟨f', s', w'⟩ := b; obtain ⟨x, y⟩ := c
  cases f <;> cases f' <;> cases w <;> cases w' <;> cases y <;> simp [Mo.mul, Mo.act] <;> omega
theorem Mo.inv_mul_rev (a b : Mo) : (a.mul b).inv = b.inv.mul a.inv := by
  obtain ⟨f, s, w⟩ := a; obtain ⟨f', s', w'⟩ := b
  cases f <;> cases f' <;> cases w <;> cases w' <;> simp [Mo.mul, Mo.inv] <;> omega
theorem Mo.inv_inv (a : Mo) : a.inv.inv = a := by
  obtain ⟨f, s, w⟩ := a
  cases f <;> cases w <;> simp [Mo.inv]
end Bd

set_option Elab.async false
set_option linter.all false
set_option maxRecDepth 100000
set_option maxHeartbeats 4000000
namespace Bd
open PySem PySem.Spec L2
local macro_rules | `(tactic| walk_at "ev") => `(tactic| simp only [dDef, dSeq, dIfS, dTst, dOp, dIxV, dC, dVar, dCB, dPut, dSet, dSetV, dRet, dRetV, dRetN, dDrop, dApp, dUn, dIf, dAnd, dOr, dNot, dAndV, dOrV, dNotV, dChain, dIsi, dTup, dLst, dLstV, dArgs, dFz, dD, dCall, dCallV, dCallW, dMix, dLenS, dIxS, dSl, dNoP, dP, dPar2, dPar3, dUnp, gT, gNs, dNext, dRaise, dSq, dRng1, dRng2, R.bnd, R.thn, isArg, ownS, fAdd, fSub, fMul, fDiv, fMod, fPow, fNeg, fEq_int, fNe_int, fEq_str, fNe_str, fLt, fLe, fGt, fGe, fIx, fIs, fIsNot, cInt, cAbs, cLen, cMin2, cMax2, cList, cTuple, isI, List.cons_append, List.nil_append, List.length_cons, List.length_nil, List.replicate, List.getElem?_cons_zero, List.getElem?_cons_succ, List.getElem?_nil, List.set_cons_zero, List.set_cons_succ, List.map_cons, List.map_nil, List.take_succ_cons, List.take_zero, List.take_nil, if_true, if_false, Bool.true_eq_false, Bool.false_eq_true, decide_eq_true_eq, Nat.add_sub_cancel, Nat.reduceAdd, Nat.reduceSub, reduceIte, atI0, atI1, atI2, atI3, ixN0, ixN1, Bool.and_true, Bool.true_and, and_true, true_and, and_self, not_true, not_false, decide_true, decide_false, Bool.not_true, Bool.not_false, eq_self, *])
theorem seq_step {a b : DS} {ρ ρ1 : Ev} {P : Ev → Prop} (e : a ρ = .nx ρ1) (h : Goes b ρ1 P) : Goes (dSeq a b) ρ P := goes_seq ⟨ρ1, e, h⟩
theorem end_step {a : DS} {ρ ρ1 : Ev} {P : Ev → Prop} (e : a ρ = .nx ρ1) (h : P ρ1) : Goes a ρ P := ⟨ρ1, e, h⟩
/-- the frame of a law: the script, a turn, the source, n other slots -/
def Sh (ns : List Int) (n : Nat) (ρ : Ev) : Prop := ∃ (x : Sl) (a b : Int) (r : List Sl), r.length = n ∧ Src a b ∧ ρ = .s ns :: x :: .l [.int a, .int b] :: r
theorem rng_law {ns : List Int} (hl : ns.length ≤ 63) (m : Int) (hm : 0 ≤ m) (hm2 : m ≤ 100) (ρ : Ev) (hρ : ρ[0]? = some (.s ns)) : ∃ k : Nat, dRng1 (dOp fAdd (dC (.int 1)) (dCB cMin2 [(dLenS 0), (dC (.int m))])) ρ = .ok (rangeD 0 k) ρ ∧ k ≤ 200 := by
  have h62 : i62 (1 + (if m < (ns.length : Int) then m else (ns.length : Int))) = true := by
    unfold i62
    split <;> simp <;> omega
  refine ⟨(1 + (if m < (ns.length : Int) then m else (ns.length : Int))).toNat, ?_, by split <;> omega⟩
  walk_at "ev"
/-- a law of the usual shape -/
theorem law_shell {ns : List Int} (hl : ns.length ≤ 63) {m : Int} (hm : 0 ≤ m) (hm2 : m ≤ 100) {n : Nat} {rest ret : DS} (hb : ∀ ρ, Sh ns n ρ → Goes rest ρ (Sh ns n))
    (hr : ∀ r : List Sl, r.length = n + 2 → ∃ ρ2, ret (.s ns :: r) = .rt (.d (.bool true)) ρ2) :
    ∃ as, dDef (n + 3) (dSeq (dFor (dRng1 (dOp fAdd (dC (.int 1)) (dCB cMin2 [(dLenS 0), (dC (.int m))]))) (gN 1) (dSeq (dSetV 2 (dCallV w_law_source [] 0 [(dVar 1)])) rest)) ret) [.s ns] = .ok (.d (.bool true)) as := by
  have main : ∃ ρ2, (dSeq (dFor (dRng1 (dOp fAdd (dC (.int 1)) (dCB cMin2 [(dLenS 0), (dC (.int m))]))) (gN 1) (dSeq (dSetV 2 (dCallV w_law_source [] 0 [(dVar 1)])) rest)) ret) ([.s ns] ++ List.replicate (n + 3 - [Sl.s ns].length) .non) = .rt (.d (.bool true)) ρ2 := by
    refine seq_end (P := fun ρ => ∃ r : List Sl, r.length = n + 2 ∧ ρ = .s ns :: r) ?_ (fun ρ ⟨r, h1, h2⟩ => by rw [h2]; exact hr r h1)
    obtain ⟨k, ek, hk⟩ := rng_law hl m hm hm2 ([.s ns] ++ List.replicate (n + 3 - [Sl.s ns].length) .non) rfl
    refine goes_for (fun ρ => ∃ r : List Sl, r.length = n + 2 ∧ ρ = .s ns :: r) ek ⟨_, by simp, rfl⟩ ?_ fun _ h => h
    rintro d ρ hd ⟨r, hr', rfl⟩
    obtain ⟨i, hi, rfl⟩ := mem_range hd
    match r, hr' with
    | a1 :: a2 :: r, hr' =>
    refine ⟨_, rfl, ?_⟩
    obtain ⟨a, b, es, hs⟩ := source_ok (ns := ns) (i := 0 + (i : Int)) (by omega) (by omega)
    refine seq_step (ρ1 := .s ns :: .d (.int (0 + (i : Int))) :: .l [.int a, .int b] :: r) (by walk_at "ev") ?_
    obtain ⟨ρ', e', x, a', b', r', h1, h2, h3⟩ := hb _ ⟨_, a, b, r, by simp at hr'; omega, hs, rfl⟩
    exact ⟨ρ', e', _, by simp [h1], h3⟩
  obtain ⟨ρ2, e⟩ := main
  exact ⟨_, dDef_eq e⟩
/-- the loop over turns -/
theorem turns {ns : List Int} {n : Nat} {c : Int} (hc : 0 ≤ c) (hc2 : c ≤ 1000) {body : DS} {P : Ev → Prop} (hb : ∀ (j : Int) (x : Sl) (a b : Int) (r : List Sl), r.length = n → Src a b → Goes body (.s ns :: x :: .l [.int a, .int b] :: .d (.int j) :: r) (Sh ns (n + 1))) {ρ : Ev} (h0 : Sh ns (n + 1) ρ) (hP : ∀ ρ, Sh ns (n + 1) ρ → P ρ) :
    Goes (dFor (dRng1 (dC (.int c))) (gN 3) body) ρ P := by
  have h62 : i62 c = true := by
    unfold i62
    simp; omega
  refine goes_for (Sh ns (n + 1)) (ds := rangeD 0 c.toNat) (ρ1 := ρ) (by walk_at "ev") h0 ?_ hP
  rintro d ρ hd ⟨x, a, b, r, hr, hs, rfl⟩
  obtain ⟨j, hj, rfl⟩ := mem_range hd
  match r, hr with
  | a1 :: r, hr =>
  exact ⟨_, rfl, hb _ x a b r (by simpa using hr) hs⟩
end Bd

set_option Elab.async false
set_option linter.all false
set_option maxRecDepth 100000
set_option maxHeartbeats 4000000
namespace Bd
open PySem PySem.Spec L2
theorem fIx_l (xs : List PyData) (i : Int) : fIx (.list xs) (.int i) = atI xs i := rfl
theorem fIx_t (xs : List PyData) (i : Int) : fIx (.tuple xs) (.int i) = atI xs i := rfl
theorem bi_eq1 (b : Bool) : decide (bi b = 1) = b := by cases b <;> rfl
theorem bi_ne1 (b : Bool) : (!decide (bi b = 1)) = !b := by cases b <;> rfl
theorem bi_eq0 (b : Bool) : decide (bi b = 0) = !b := by cases b <;> rfl
theorem ixf (m : Mo) : fIx m.e (.int 0) = some (.int (bi m.f)) := rfl
theorem ixs (m : Mo) : fIx m.e (.int 1) = some (.int m.s) := rfl
theorem ixw (m : Mo) : fIx m.e (.int 2) = some (.int (bi m.w)) := rfl
theorem ixc (m : Ce) : fIx m.e (.int 0) = some (.int m.c) := rfl
theorem ixd (m : Ce) : fIx m.e (.int 1) = some (.int (bi m.s)) := rfl
theorem ce_fold (x : Int) (b : Bool) : PyData.tuple [.int x, .int (bi b)] = Ce.e ⟨x, b⟩ := rfl
theorem mo_fold (f w : Bool) (x : Int) : PyData.tuple [.int (bi f), .int x, .int (bi w)] = Mo.e ⟨f, x, w⟩ := rfl
theorem mo_one : PyData.tuple [.int 0, .int 0, .int 0] = Mo.one.e := rfl
theorem draw2_ok {a b : Int} (h : Src a b) : ∃ (k : Bool) (a' b' : Int), w_law_draw [.l [.int a, .int b], .d (.int 2)] = .ok (.d (.int (bi k))) [.l [.int a', .int b'], .d (.int 2)] ∧ Src a' b' := by
  obtain ⟨r, a', b', e, h1, h2, h'⟩ := draw_ok (n := 2) h (by decide) (by decide)
  rcases (show r = 0 ∨ r = 1 by omega) with rfl | rfl
  · exact ⟨false, a', b', e, h'⟩
  · exact ⟨true, a', b', e, h'⟩
def con (a b : Mo) : Mo := b.mul (a.mul b.inv)
theorem con_f (a b : Mo) : (con a b).f = a.f := by
  obtain ⟨f, s, w⟩ := a; obtain ⟨f', s', w'⟩ := b
  cases f <;> cases f' <;> rfl
theorem con_w (a b : Mo) : (con a b).w = a.w := by
  obtain ⟨f, s, w⟩ := a; obtain ⟨f', s', w'⟩ := b
  cases w <;> cases w' <;> rfl
theorem con_s (a b : Mo) : (con a b).s = if a.f then (if b.f then 2 * b.s - a.s else a.s + 2 * b.s) else (if b.f then -a.s else a.s) := by
  obtain ⟨f, s, w⟩ := a; obtain ⟨f', s', w'⟩ := b
  cases f <;> cases f' <;> simp [con, Mo.mul, Mo.inv] <;> omega
/-- how often until it comes round -/
def trn (m : Mo) : Int := if m = Mo.one then 1 else if m.f || decide (m.s = 0) then 2 else 0
theorem sm_n0 : sm 0 = true := by rfl
theorem sm_n1 : sm 1 = true := by rfl
theorem sm_n2 : sm 2 = true := by rfl
theorem sm_n3 : sm 3 = true := by rfl
theorem sm_n4 : sm 4 = true := by rfl
theorem sm_n5 : sm 5 = true := by rfl
theorem sm_n6 : sm 6 = true := by rfl
theorem sm_n7 : sm 7 = true := by rfl
theorem sm_n8 : sm 8 = true := by rfl
theorem sm_n9 : sm 9 = true := by rfl
theorem sm_n10 : sm 10 = true := by rfl
theorem sm_n11 : sm 11 = true := by rfl
theorem sm_n12 : sm 12 = true := by rfl
theorem sm_n13 : sm 13 = true := by rfl
theorem sm_n14 : sm 14 = true := by rfl
theorem sm_n15 : sm 15 = true := by rfl
theorem sm_n16 : sm 16 = true := by rfl
theorem sm_n20 : sm 20 = true := by rfl
theorem sm_n24 : sm 24 = true := by rfl
theorem sm_n30 : sm 30 = true := by rfl
theorem sm_n40 : sm 40 = true := by rfl
theorem sm_n50 : sm 50 = true := by rfl
theorem sm_n60 : sm 60 = true := by rfl
theorem sm_n100 : sm 100 = true := by rfl
theorem sm_n7919 : sm 7919 = true := by rfl
theorem seen_con (a b : Mo) : w_seen [.d a.e, .d b.e] = .ok (.d (con a b).e) [.d a.e, .d b.e] := seen_eq a b
theorem seen_by_con (a b : Mo) : w_seen_by [.d a.e, .d b.e] = .ok (.d (con a b).e) [.d a.e, .d b.e] := seen_by_eq a b
theorem con_act (a b : Mo) (c : Ce) : (con a b).act (b.act c) = b.act (a.act c) := by
  unfold con
  rw [← Mo.act_mul, ← Mo.act_mul, Mo.assoc, Mo.assoc, Mo.inv_mul, Mo.mul_one]
theorem con_inv (a b : Mo) : con (con a b) b.inv = a := by
  unfold con
  rw [Mo.inv_inv, Mo.assoc, Mo.assoc, Mo.inv_mul, Mo.mul_one, ← Mo.assoc, Mo.inv_mul, Mo.one_mul]
theorem con_one (a : Mo) : con a Mo.one = a := by
  unfold con
  rw [show Mo.one.inv = Mo.one from rfl, Mo.mul_one, Mo.one_mul]
theorem con_mul (a o b : Mo) : con (a.mul o) b = (con a b).mul (con o b) := by
  unfold con
  have : ∀ x : Mo, b.inv.mul (b.mul x) = x := fun x => by rw [← Mo.assoc, Mo.inv_mul, Mo.one_mul]
  simp only [Mo.assoc, this]
theorem con_con (m o b : Mo) : con m (o.mul b) = con (con m b) o := by
  unfold con
  rw [Mo.inv_mul_rev, Mo.assoc, Mo.assoc, Mo.assoc]
theorem one_con (b : Mo) : con Mo.one b = Mo.one := by
  unfold con
  rw [Mo.one_mul, Mo.mul_inv]
theorem trn_con (a b : Mo) : trn (con a b) = trn a := by
  have h1 : (con a b = Mo.one) = (a = Mo.one) := by
    apply propext
    constructor
    · intro h
      rw [← con_inv a b, h, one_con]
    · rintro rfl
      exact one_con b
  unfold trn
  rw [con_f, con_s]
  simp only [h1]
  by_cases h : a = Mo.one
  · rw [if_pos h, if_pos h]
  · rw [if_neg h, if_neg h]
    cases a.f with
    | true => rfl
    | false =>
      cases b.f with
      | true =>
        have : decide (-a.s = 0) = decide (a.s = 0) := decide_eq_decide.mpr (by omega)
        simp [this]
      | false => rfl
/-! ### loops and comprehensions, by invariants -/
theorem goes_rng {ti : DI} {g : DG} {body : DS} {ρ ρ1 : Ev} {lo : Int} {n : Nat} {P : Ev → Prop} (I : Nat → Ev → Prop) (e : ti ρ = .ok (rangeD lo n) ρ1) (h0 : I 0 ρ1) (hs : ∀ (i : Nat) (ρ : Ev), i < n → I i ρ → ∃ ρ1, g (.int (lo + (i : Int))) ρ = some ρ1 ∧ Goes body ρ1 (I (i + 1))) (hd : ∀ ρ, I n ρ → P ρ) : Goes (dFor ti g body) ρ P := by
  obtain ⟨ρ', e1, h1⟩ := forL_inv (g := g) (body := body) (rangeD lo n) 0 I ρ1 h0 fun i d ρ hi hI => by
    obtain ⟨hn, rfl⟩ := rangeD_get hi
    rw [Nat.zero_add] at hI ⊢
    exact hs i ρ hn hI
  refine ⟨ρ', by unfold dFor; rw [e]; exact e1, hd ρ' ?_⟩
  rw [Nat.zero_add] at h1
  unfold rangeD at h1
  simpa using h1
theorem lcL_ok {vs : List Nat} {g : DG} {tt : DT} {te : DE} (I : Ev → Prop) (f : PyData → Option PyData) : ∀ (ds : List PyData) (acc : List PyData) (ρ : Ev), I ρ → acc.length + ds.length ≤ 100000 →
    (∀ d ∈ ds, ∀ ρ, I ρ → ∃ ρ1 ρ2, g d (wipeE ρ vs) = some ρ1 ∧ tt ρ1 = .ok (f d).isSome ρ2 ∧ match f d with | none => I (backE ρ ρ2 vs) | some y => ∃ ρ3, te ρ2 = .ok y ρ3 ∧ I (backE ρ ρ3 vs)) →
    ∃ ρ', lcL vs g tt te ds acc ρ = .ok (acc ++ ds.filterMap f) ρ' ∧ I ρ'
  | [], acc, ρ, h0, _, _ => ⟨ρ, by unfold lcL; simp, h0⟩
  | d :: ds, acc, ρ, h0, hl, hs => by
    obtain ⟨ρ1, ρ2, e1, e2, h⟩ := hs d List.mem_cons_self ρ h0
    rw [List.length_cons] at hl
    unfold lcL
    cases hf : f d with
    | none =>
      rw [hf] at e2 h
      obtain ⟨ρ', e3, h3⟩ := lcL_ok I f ds acc _ h (by omega) fun d' hd => hs d' (List.mem_cons_of_mem _ hd)
      refine ⟨ρ', ?_, h3⟩
      simp only [e1, e2, nox, R.bnd, Option.isSome_none, Bool.false_eq_true, if_false, e3, List.filterMap_cons, hf]
    | some y =>
      rw [hf] at e2 h
      obtain ⟨ρ3, e4, h⟩ := h
      obtain ⟨ρ', e3, h3⟩ := lcL_ok I f ds (acc ++ [y]) _ h (by simp; omega) fun d' hd => hs d' (List.mem_cons_of_mem _ hd)
      refine ⟨ρ', ?_, h3⟩
      simp only [e1, e2, e4, nox, R.bnd, Option.isSome_some, if_true, show acc.length < 100000 by omega, e3, List.filterMap_cons, hf, List.append_assoc, List.cons_append, List.nil_append]
theorem lc_ok {vs : List Nat} {ti : DI} {g : DG} {tt : DT} {te : DE} {ρ ρ1 : Ev} {ds : List PyData} (I : Ev → Prop) (f : PyData → Option PyData) (e : ti ρ = .ok ds ρ1) (h0 : I ρ1) (hl : ds.length ≤ 100000)
    (hs : ∀ d ∈ ds, ∀ ρ, I ρ → ∃ ρ1 ρ2, g d (wipeE ρ vs) = some ρ1 ∧ tt ρ1 = .ok (f d).isSome ρ2 ∧ match f d with | none => I (backE ρ ρ2 vs) | some y => ∃ ρ3, te ρ2 = .ok y ρ3 ∧ I (backE ρ ρ3 vs)) :
    ∃ ρ', dLc vs ti g tt te ρ = .ok (.l (ds.filterMap f)) ρ' ∧ I ρ' := by
  obtain ⟨ρ', e1, h1⟩ := lcL_ok I f ds [] ρ1 h0 (by simpa using hl) hs
  refine ⟨ρ', ?_, h1⟩
  unfold dLc
  simp only [e, e1, R.bnd, List.nil_append]
theorem lc_map {vs : List Nat} {ti : DI} {g : DG} {te : DE} {ρ ρ1 : Ev} {ds : List PyData} (I : Ev → Prop) (f : PyData → PyData) (e : ti ρ = .ok ds ρ1) (h0 : I ρ1) (hl : ds.length ≤ 100000)
    (hs : ∀ d ∈ ds, ∀ ρ, I ρ → ∃ ρ1 ρ3, g d (wipeE ρ vs) = some ρ1 ∧ te ρ1 = .ok (f d) ρ3 ∧ I (backE ρ ρ3 vs)) :
    ∃ ρ', dLc vs ti g dYes te ρ = .ok (.l (ds.map f)) ρ' ∧ I ρ' := by
  obtain ⟨ρ', e1, h1⟩ := lc_ok (vs := vs) (g := g) (tt := dYes) (te := te) I (fun d => some (f d)) e h0 hl fun d hd ρ hI => by
    obtain ⟨ρ1, ρ3, h1, h2, h3⟩ := hs d hd ρ hI
    exact ⟨ρ1, ρ1, h1, rfl, ρ3, h2, h3⟩
  refine ⟨ρ', ?_, h1⟩
  rw [e1]
  congr 2
  induction ds with
  | nil => rfl
  | cons d ds ih => simp
theorem fNe_bool (a b : Bool) : fNe (.bool a) (.bool b) = some (.bool (!decide (a = b))) := by cases a <;> cases b <;> rfl
theorem fEq_bool (a b : Bool) : fEq (.bool a) (.bool b) = some (.bool (decide (a = b))) := by cases a <;> cases b <;> rfl
/-! ### motions, again and again -/
def odd (n : Int) : Bool := decide (n % 2 = 1)
theorem odd_add (a b : Int) : odd (a + b) = xor (odd a) (odd b) := by
  unfold odd
  rcases Int.emod_two_eq a with h | h <;> rcases Int.emod_two_eq b with h' | h' <;> rw [h, h', show (a + b) % 2 = _ from Int.add_emod a b 2, h, h'] <;> rfl
theorem odd_neg (a : Int) : odd (-a) = odd a := by
  unfold odd
  apply decide_eq_decide.mpr
  omega
theorem odd_mul (a b : Int) : odd (a * b) = (odd a && odd b) := by
  unfold odd
  rcases Int.emod_two_eq a with h | h <;> rcases Int.emod_two_eq b with h' | h' <;> rw [h, h', show (a * b) % 2 = _ from Int.mul_emod a b 2, h, h'] <;> rfl
def Mo.rep (m : Mo) (n : Int) : Mo := ⟨m.f && odd n, if m.f then (if odd n then m.s else 0) else m.s * n, m.w && odd n⟩
theorem Mo.rep_add (m : Mo) (a b : Int) : m.rep (a + b) = (m.rep a).mul (m.rep b) := by
  obtain ⟨f, s, w⟩ := m
  unfold Mo.rep Mo.mul
  rw [odd_add]
  cases f <;> cases w <;> cases odd a <;> cases odd b <;> simp [Int.mul_add]
theorem Mo.rep_neg (m : Mo) (a : Int) : m.rep (-a) = (m.rep a).inv := by
  obtain ⟨f, s, w⟩ := m
  unfold Mo.rep Mo.inv
  rw [odd_neg]
  cases f <;> cases w <;> cases odd a <;> simp [Int.mul_neg]
theorem Mo.rep_sub (m : Mo) (a b : Int) : m.rep (a - b) = (m.rep a).mul (m.rep b).inv := by
  rw [← Mo.rep_neg, ← Mo.rep_add, Int.sub_eq_add_neg]
theorem Mo.rep_zero (m : Mo) : m.rep 0 = Mo.one := by
  obtain ⟨f, s, w⟩ := m
  cases f <;> cases w <;> simp [Mo.rep, Mo.one, odd]
theorem Mo.rep_one (m : Mo) : m.rep 1 = m := by
  obtain ⟨f, s, w⟩ := m
  cases f <;> cases w <;> simp [Mo.rep, odd]
theorem Mo.rep_rep (m : Mo) (a b : Int) : (m.rep a).rep b = m.rep (a * b) := by
  obtain ⟨f, s, w⟩ := m
  unfold Mo.rep
  rw [odd_mul]
  cases f <;> cases w <;> cases odd a <;> cases odd b <;> simp [Int.mul_assoc]
theorem Mo.rep_succ (m : Mo) (n : Int) : m.mul (m.rep n) = m.rep (n + 1) := by
  rw [Int.add_comm, Mo.rep_add, Mo.rep_one]
theorem trn_rep (m : Mo) : m.rep (trn m) = if trn m = 0 then Mo.one else Mo.one := by
  obtain ⟨f, s, w⟩ := m
  unfold trn
  by_cases h : (⟨f, s, w⟩ : Mo) = Mo.one
  · rw [if_pos h, Mo.rep_one, h]; rfl
  · rw [if_neg h]
    cases f with
    | true => cases w <;> simp [Mo.rep, Mo.one, odd]
    | false =>
      by_cases hs : s = 0
      · subst hs; cases w <;> simp [Mo.rep, Mo.one, odd]
      · simp [hs, Mo.rep, Mo.one, odd]
theorem rep_ne (m : Mo) (n : Int) (h : trn m = 0) (hn : 0 < n) : m.rep n ≠ Mo.one := by
  obtain ⟨f, s, w⟩ := m
  unfold trn at h
  by_cases e : (⟨f, s, w⟩ : Mo) = Mo.one
  · rw [if_pos e] at h; cases h
  · rw [if_neg e] at h
    cases f with
    | true => cases h
    | false =>
      by_cases hs : s = 0
      · subst hs; cases h
      · intro q
        have : s * n = 0 := congrArg Mo.s q
        rcases Int.mul_eq_zero.mp this with h | h <;> omega
end Bd

set_option Elab.async false
set_option linter.all false
set_option maxRecDepth 100000
set_option maxHeartbeats 4000000
namespace Bd
open PySem PySem.Spec L2
/-! ### the text -/
def topS (i : Nat) : Stmt := PySem.Challenge.pw_bandmotions_k03_whole_motions_again_and.main.body.getD i (.Pass ⟨0, 0, 0, 0⟩)
abbrev s_is_between : Stmt := topS 7
theorem sc_is_between : FnScope ["value", "low", "high"] ["value", "low", "high"] (defScope s_is_between) := ⟨rfl, rfl, rfl, by decide +kernel, rfl, by decide +kernel, by decide +kernel⟩
abbrev s_is_integer : Stmt := topS 8
theorem sc_is_integer : FnScope ["value"] ["value"] (defScope s_is_integer) := ⟨rfl, rfl, rfl, by decide +kernel, rfl, by decide +kernel, by decide +kernel⟩
abbrev s_is_motion : Stmt := topS 9
theorem sc_is_motion : FnScope ["value"] ["value"] (defScope s_is_motion) := ⟨rfl, rfl, rfl, by decide +kernel, rfl, by decide +kernel, by decide +kernel⟩
abbrev s_need_motion : Stmt := topS 10
theorem sc_need_motion : FnScope ["motion"] ["motion"] (defScope s_need_motion) := ⟨rfl, rfl, rfl, by decide +kernel, rfl, by decide +kernel, by decide +kernel⟩
abbrev s_need_number : Stmt := topS 11
theorem sc_need_number : FnScope ["number", "low", "high"] ["number", "low", "high"] (defScope s_need_number) := ⟨rfl, rfl, rfl, by decide +kernel, rfl, by decide +kernel, by decide +kernel⟩
abbrev s_behind : Stmt := topS 12
theorem sc_behind : FnScope ["one", "other", "shift"] ["one", "other"] (defScope s_behind) := ⟨rfl, rfl, rfl, by decide +kernel, rfl, by decide +kernel, by decide +kernel⟩
abbrev s_back : Stmt := topS 13
theorem sc_back : FnScope ["motion"] ["motion"] (defScope s_back) := ⟨rfl, rfl, rfl, by decide +kernel, rfl, by decide +kernel, by decide +kernel⟩
abbrev s_done : Stmt := topS 14
theorem sc_done : FnScope ["one", "other"] ["one", "other"] (defScope s_done) := ⟨rfl, rfl, rfl, by decide +kernel, rfl, by decide +kernel, by decide +kernel⟩
abbrev s_undone : Stmt := topS 15
theorem sc_undone : FnScope ["motion"] ["motion"] (defScope s_undone) := ⟨rfl, rfl, rfl, by decide +kernel, rfl, by decide +kernel, by decide +kernel⟩
abbrev s_repeated : Stmt := topS 16
theorem sc_repeated : FnScope ["motion", "times"] ["motion", "times"] (defScope s_repeated) := ⟨rfl, rfl, rfl, by decide +kernel, rfl, by decide +kernel, by decide +kernel⟩
abbrev s_turns_round : Stmt := topS 17
theorem sc_turns_round : FnScope ["motion"] ["motion"] (defScope s_turns_round) := ⟨rfl, rfl, rfl, by decide +kernel, rfl, by decide +kernel, by decide +kernel⟩
abbrev s_law_source : Stmt := topS 19
theorem sc_law_source : FnScope ["script", "index", "cell"] ["script", "index"] (defScope s_law_source) := ⟨rfl, rfl, rfl, by decide +kernel, rfl, by decide +kernel, by decide +kernel⟩
abbrev s_law_draw : Stmt := topS 20
theorem sc_law_draw : FnScope ["source", "size", "drawn"] ["source", "size"] (defScope s_law_draw) := ⟨rfl, rfl, rfl, by decide +kernel, rfl, by decide +kernel, by decide +kernel⟩
abbrev s_law_choice : Stmt := topS 21
theorem sc_law_choice : FnScope ["source", "items"] ["source", "items"] (defScope s_law_choice) := ⟨rfl, rfl, rfl, by decide +kernel, rfl, by decide +kernel, by decide +kernel⟩
abbrev s_law_motion : Stmt := topS 22
theorem sc_law_motion : FnScope ["source", "most"] ["source", "most"] (defScope s_law_motion) := ⟨rfl, rfl, rfl, by decide +kernel, rfl, by decide +kernel, by decide +kernel⟩
abbrev s_law_done : Stmt := topS 23
theorem sc_law_done : FnScope ["one", "other", "shift"] ["one", "other"] (defScope s_law_done) := ⟨rfl, rfl, rfl, by decide +kernel, rfl, by decide +kernel, by decide +kernel⟩
abbrev s_law_back : Stmt := topS 24
theorem sc_law_back : FnScope ["motion"] ["motion"] (defScope s_law_back) := ⟨rfl, rfl, rfl, by decide +kernel, rfl, by decide +kernel, by decide +kernel⟩
abbrev s_law : Stmt := topS 25
theorem sc_law : FnScope ["script", "k", "source", "turn", "motion", "here", "times", "first", "second", "small", "count"] ["script"] (defScope s_law) := ⟨rfl, rfl, rfl, by decide +kernel, rfl, by decide +kernel, by decide +kernel⟩
/-! ### the mirror -/
def b_law : DS := (dSeq (dFor (dRng1 (dOp fAdd (dC (.int 1)) (dCB cMin2 [(dLenS 0), (dC (.int 10))]))) (gN 1)
    (dSeq (dSetV 2 (dCallV w_law_source [] 0 [(dVar 1)]))
    (dFor (dRng1 (dC (.int 4))) (gN 3)
    (dSeq (dUnp [4, 5] (dTup [(dFz (dCallV w_law_motion [] 2 [(dFz (dCallV w_law_choice [] 2 [(dLst [(dC (.int 2)), (dC (.int 30))])]))])), (dTup [(dC (.int 0)), (dC (.int 0)), (dC (.int 0))])]))
    (dSeq (dFor (dRng1 (dC (.int 9))) (gN 6)
    (dSeq (dIfS (dOr (dTst (dOp fNe (dFz (dCall w_repeated [(dVar 4), (dVar 6)])) (dVar 5))) (dTst (dOp fNe (dFz (dCall w_repeated [(dVar 4), (dUn fNeg (dVar 6))])) (dFz (dCall w_law_back [(dVar 5)]))))) (dRet (dC (.bool false))) dNext)
    (dSetV 5 (dCall w_law_done [(dVar 4), (dVar 5)]))))
    (dSeq (dPar2 7 8 (dCallV w_law_draw [] 2 [(dOp fPow (dC (.int 10)) (dC (.int 14)))]) (dCallV w_law_draw [] 2 [(dOp fPow (dC (.int 10)) (dC (.int 14)))]))
    (dSeq (dIfS (dTst (dOp fNe (dFz (dCall w_repeated [(dVar 4), (dOp fAdd (dVar 7) (dVar 8))])) (dFz (dCall w_done [(dFz (dCall w_repeated [(dVar 4), (dVar 7)])), (dFz (dCall w_repeated [(dVar 4), (dVar 8)]))])))) (dRet (dC (.bool false))) dNext)
    (dSeq (dIfS (dTst (dOp fNe (dFz (dCall w_repeated [(dVar 4), (dOp fSub (dVar 7) (dVar 8))])) (dFz (dCall w_done [(dFz (dCall w_repeated [(dVar 4), (dVar 7)])), (dFz (dCall w_undone [(dFz (dCall w_repeated [(dVar 4), (dVar 8)]))]))])))) (dRet (dC (.bool false))) dNext)
    (dSeq (dSetV 9 (dCallV w_law_draw [] 2 [(dC (.int 9))]))
    (dSeq (dIfS (dTst (dOp fNe (dFz (dCall w_repeated [(dFz (dCall w_repeated [(dVar 4), (dVar 7)])), (dVar 9)])) (dFz (dCall w_repeated [(dVar 4), (dOp fMul (dVar 7) (dVar 9))])))) (dRet (dC (.bool false))) dNext)
    (dSeq (dSetV 10 (dCall w_turns_round [(dVar 4)]))
    (dSeq (dIfS (dOr (dTst (dOp fNotIn (dVar 10) (dLst [(dC (.int 0)), (dC (.int 1)), (dC (.int 2))]))) (dTst (dOp fNe (dOp fEq (dVar 10) (dC (.int 1))) (dOp fEq (dVar 4) (dTup [(dC (.int 0)), (dC (.int 0)), (dC (.int 0))]))))) (dRet (dC (.bool false))) dNext)
    (dSeq (dIfS (dAnd (dTst (dOp fGt (dVar 10) (dC (.int 0)))) (dTst (dOp fNe (dFz (dCall w_repeated [(dVar 4), (dVar 10)])) (dTup [(dC (.int 0)), (dC (.int 0)), (dC (.int 0))])))) (dRet (dC (.bool false))) dNext)
    (dSeq (dIfS (dAnd (dTst (dOp fEq (dVar 10) (dC (.int 0)))) (dTst (dOp fIn (dTup [(dC (.int 0)), (dC (.int 0)), (dC (.int 0))]) (dFz (dLc [6] (dRng2 (dC (.int 1)) (dC (.int 6))) (gN 6) dYes (dFz (dCall w_repeated [(dVar 4), (dVar 6)]))))))) (dRet (dC (.bool false))) dNext)
    (dIfS (dAnd (dTst (dOp fEq (dVar 10) (dC (.int 2)))) (dTst (dOp fEq (dVar 4) (dTup [(dC (.int 0)), (dC (.int 0)), (dC (.int 0))])))) (dRet (dC (.bool false))) dNext)))))))))))))))
    (dRet (dAndV (dOp fEq (dFz (dCall w_repeated [(dTup [(dC (.int 0)), (dC (.int 2)), (dC (.int 1))]), (dC (.int 5))])) (dTup [(dC (.int 0)), (dC (.int 10)), (dC (.int 1))])) (dAndV (dOp fEq (dFz (dCall w_turns_round [(dTup [(dC (.int 0)), (dC (.int 0)), (dC (.int 1))])])) (dC (.int 2))) (dOp fEq (dFz (dCall w_turns_round [(dTup [(dC (.int 0)), (dC (.int 0)), (dC (.int 0))])])) (dC (.int 1)))))))
def w_law : DF := dDef 11 b_law
/-! ### what the top has left -/
structure Tx (K : PySem.W.Frag) (mg : Str → Option Value) where
  f_is_between : Addr
  d_is_between : FuncData
  F_is_between : Fun K "is_between" "is_between" s_is_between f_is_between d_is_between
  b_is_between : Binds K d_is_between ["value", "low", "high"] []
  m_is_between : mg "is_between" = some (.ref f_is_between)
  f_is_integer : Addr
  d_is_integer : FuncData
  F_is_integer : Fun K "is_integer" "is_integer" s_is_integer f_is_integer d_is_integer
  b_is_integer : Binds K d_is_integer ["value"] []
  m_is_integer : mg "is_integer" = some (.ref f_is_integer)
  f_is_motion : Addr
  d_is_motion : FuncData
  F_is_motion : Fun K "is_motion" "is_motion" s_is_motion f_is_motion d_is_motion
  b_is_motion : Binds K d_is_motion ["value"] []
  m_is_motion : mg "is_motion" = some (.ref f_is_motion)
  f_need_motion : Addr
  d_need_motion : FuncData
  F_need_motion : Fun K "need_motion" "need_motion" s_need_motion f_need_motion d_need_motion
  b_need_motion : Binds K d_need_motion ["motion"] []
  m_need_motion : mg "need_motion" = some (.ref f_need_motion)
  f_need_number : Addr
  d_need_number : FuncData
  F_need_number : Fun K "need_number" "need_number" s_need_number f_need_number d_need_number
  b_need_number : Binds K d_need_number ["number", "low", "high"] []
  m_need_number : mg "need_number" = some (.ref f_need_number)
  f_behind : Addr
  d_behind : FuncData
  F_behind : Fun K "behind" "behind" s_behind f_behind d_behind
  b_behind : Binds K d_behind ["one", "other"] []
  m_behind : mg "behind" = some (.ref f_behind)
  f_back : Addr
  d_back : FuncData
  F_back : Fun K "back" "back" s_back f_back d_back
  b_back : Binds K d_back ["motion"] []
  m_back : mg "back" = some (.ref f_back)
  f_done : Addr
  d_done : FuncData
  F_done : Fun K "done" "done" s_done f_done d_done
  b_done : Binds K d_done ["one", "other"] []
  m_done : mg "done" = some (.ref f_done)
  f_undone : Addr
  d_undone : FuncData
  F_undone : Fun K "undone" "undone" s_undone f_undone d_undone
  b_undone : Binds K d_undone ["motion"] []
  m_undone : mg "undone" = some (.ref f_undone)
  f_repeated : Addr
  d_repeated : FuncData
  F_repeated : Fun K "repeated" "repeated" s_repeated f_repeated d_repeated
  b_repeated : Binds K d_repeated ["motion", "times"] []
  m_repeated : mg "repeated" = some (.ref f_repeated)
  f_turns_round : Addr
  d_turns_round : FuncData
  F_turns_round : Fun K "turns_round" "turns_round" s_turns_round f_turns_round d_turns_round
  b_turns_round : Binds K d_turns_round ["motion"] []
  m_turns_round : mg "turns_round" = some (.ref f_turns_round)
  f_law_source : Addr
  d_law_source : FuncData
  F_law_source : Fun K "_law_source" "_law_source" s_law_source f_law_source d_law_source
  b_law_source : Binds K d_law_source ["script", "index"] []
  m_law_source : mg "_law_source" = some (.ref f_law_source)
  f_law_draw : Addr
  d_law_draw : FuncData
  F_law_draw : Fun K "_law_draw" "_law_draw" s_law_draw f_law_draw d_law_draw
  b_law_draw : Binds K d_law_draw ["source", "size"] []
  m_law_draw : mg "_law_draw" = some (.ref f_law_draw)
  f_law_choice : Addr
  d_law_choice : FuncData
  F_law_choice : Fun K "_law_choice" "_law_choice" s_law_choice f_law_choice d_law_choice
  b_law_choice : Binds K d_law_choice ["source", "items"] []
  m_law_choice : mg "_law_choice" = some (.ref f_law_choice)
  f_law_motion : Addr
  d_law_motion : FuncData
  F_law_motion : Fun K "_law_motion" "_law_motion" s_law_motion f_law_motion d_law_motion
  b_law_motion : Binds K d_law_motion ["source", "most"] []
  m_law_motion : mg "_law_motion" = some (.ref f_law_motion)
  f_law_done : Addr
  d_law_done : FuncData
  F_law_done : Fun K "_law_done" "_law_done" s_law_done f_law_done d_law_done
  b_law_done : Binds K d_law_done ["one", "other"] []
  m_law_done : mg "_law_done" = some (.ref f_law_done)
  f_law_back : Addr
  d_law_back : FuncData
  F_law_back : Fun K "_law_back" "_law_back" s_law_back f_law_back d_law_back
  b_law_back : Binds K d_law_back ["motion"] []
  m_law_back : mg "_law_back" = some (.ref f_law_back)
  f_law : Addr
  d_law : FuncData
  F_law : Fun K "law" "law" s_law f_law d_law
  b_law : Binds K d_law ["script"] []
  m_law : mg "law" = some (.ref f_law)
  n_abs : mg "abs" = none
  n_bool : mg "bool" = none
  n_int : mg "int" = none
  n_isinstance : mg "isinstance" = none
  n_len : mg "len" = none
  n_min : mg "min" = none
  n_range : mg "range" = none
  n_tuple : mg "tuple" = none
  kv_FAR : ∃ (v : V) (u : Value), mg "FAR" = some u ∧ L2.RelV v u ∧ ∀ F, Rp K F k_FAR v
  kv_STILL : ∃ (v : V) (u : Value), mg "STILL" = some u ∧ L2.RelV v u ∧ ∀ F, Rp K F k_STILL v
section
variable {P : Program} {w : World} {K : PySem.W.Frag} {mg : Str → Option Value} {base : Heap}
theorem Tx.c_FAR (T : Tx K mg) {X : Cx} {W : XW} {pos : Pos} (hK : X.K = K := by rfl) (hM : X.mg = mg := by rfl) (hg : Gl X "FAR" := by rfl) : PE X (.Name "FAR" pos) (lift X.K W (dC k_FAR)) := by
  obtain ⟨v, u, h1, h2, h3⟩ := T.kv_FAR
  subst hK hM
  exact px_gl hg h1 h2 h3
theorem Tx.c_STILL (T : Tx K mg) {X : Cx} {W : XW} {pos : Pos} (hK : X.K = K := by rfl) (hM : X.mg = mg := by rfl) (hg : Gl X "STILL" := by rfl) : PE X (.Name "STILL" pos) (lift X.K W (dC k_STILL)) := by
  obtain ⟨v, u, h1, h2, h3⟩ := T.kv_STILL
  subst hK hM
  exact px_gl hg h1 h2 h3
theorem ok_is_between (T : Tx K mg) : FnOk P w K mg base CX0 1 T.f_is_between T.d_is_between ["value", "low", "high"] (liftF K ex0 [] 3 w_is_between) :=
  fn_ok (k := 0) (m := 3) (n := 3) (S := []) (N := ["value", "low", "high"]) (ps := ["value", "low", "high"]) (ts := b_is_between) T.F_is_between sc_is_between rfl rfl (by decide) fun cdv A outer s H E hr =>
    (sx_one (sx_ret (px_andV (px_isi (pe_callB call_isi (by rfl) T.n_isinstance bo_isinstance (pa_cons (px_var 0 (pv 0)) (pa_cons (pe_bltn (v := .ty "int") (by rfl) T.n_int bo_int rfl) pa_nil)))) (px_andV (px_notV (px_isi (pe_callB call_isi (by rfl) T.n_isinstance bo_isinstance (pa_cons (px_var 0 (pv 0)) (pa_cons (pe_bltn (v := .ty "bool") (by rfl) T.n_bool bo_bool rfl) pa_nil))))) (px_one (px_chain op_le od_le op_le od_le (px_var 1 (pv 1)) (px_var 0 (pv 0)) (px_var 2 (pv 2))))))))
theorem ok_is_integer (T : Tx K mg) : FnOk P w K mg base CX0 1 T.f_is_integer T.d_is_integer ["value"] (liftF K ex0 [] 1 w_is_integer) :=
  fn_ok (k := 0) (m := 1) (n := 1) (S := []) (N := ["value"]) (ps := ["value"]) (ts := b_is_integer) T.F_is_integer sc_is_integer rfl rfl (by decide) fun cdv A outer s H E hr =>
    (sx_one (sx_ret (px_andV (px_isi (pe_callB call_isi (by rfl) T.n_isinstance bo_isinstance (pa_cons (px_var 0 (pv 0)) (pa_cons (pe_bltn (v := .ty "int") (by rfl) T.n_int bo_int rfl) pa_nil)))) (px_one (px_notV (px_isi (pe_callB call_isi (by rfl) T.n_isinstance bo_isinstance (pa_cons (px_var 0 (pv 0)) (pa_cons (pe_bltn (v := .ty "bool") (by rfl) T.n_bool bo_bool rfl) pa_nil)))))))))
theorem ok_is_motion (T : Tx K mg) : FnOk P w K mg base CX0 2 T.f_is_motion T.d_is_motion ["value"] (liftF K ex0 [] 1 w_is_motion) :=
  fn_ok (k := 1) (m := 1) (n := 1) (S := []) (N := ["value"]) (ps := ["value"]) (ts := b_is_motion) T.F_is_motion sc_is_motion rfl rfl (by decide) fun cdv A outer s H E hr =>
    (sx_cons (sx_if (L2.PW.pt (px_or (px_not (px_tv (px_isi (pe_callB call_isi (by rfl) T.n_isinstance bo_isinstance (pa_cons (px_var 0 (pv 0)) (pa_cons (pe_bltn (v := .ty "tuple") (by rfl) T.n_tuple bo_tuple rfl) pa_nil)))))) (px_or1 (px_tc (or_ne hr) od_ne (px_cb cd_len (pe_callB call_len (by rfl) T.n_len PySem.boot_len (px_cons (px_var 0 (pv 0)) px_nil))) px_int (nomark _))))) (sx_one (sx_ret px_bl)) sx_nil)
    (sx_one (sx_ret (px_andV (px_fz (px_call (ok_is_between T) (hr.mono (by decide)) T.m_is_between T.F_is_between.kp T.b_is_between pass0 (fun _ _ z => z) (px_cons (px_ix ix_seq od_ix (px_var 0 (pv 0)) px_int (fun _ _ => rfl)) (px_cons px_int (px_cons px_int px_nil))))) (px_andV (px_fz (px_call (ok_is_integer T) (hr.mono (by decide)) T.m_is_integer T.F_is_integer.kp T.b_is_integer pass0 (fun _ _ z => z) (px_cons (px_ix ix_seq od_ix (px_var 0 (pv 0)) px_int (fun _ _ => rfl)) px_nil))) (px_one (px_fz (px_call (ok_is_between T) (hr.mono (by decide)) T.m_is_between T.F_is_between.kp T.b_is_between pass0 (fun _ _ z => z) (px_cons (px_ix ix_seq od_ix (px_var 0 (pv 0)) px_int (fun _ _ => rfl)) (px_cons px_int (px_cons px_int px_nil)))))))))))
theorem ok_need_motion (T : Tx K mg) : FnOk P w K mg base CX0 3 T.f_need_motion T.d_need_motion ["motion"] (liftF K ex0 [] 1 w_need_motion) :=
  fn_ok (k := 2) (m := 1) (n := 1) (S := []) (N := ["motion"]) (ps := ["motion"]) (ts := b_need_motion) T.F_need_motion sc_need_motion rfl rfl (by decide) fun cdv A outer s H E hr =>
    (sx_one (sx_if (px_not (px_tv (px_fz (px_call (ok_is_motion T) (hr.mono (by decide)) T.m_is_motion T.F_is_motion.kp T.b_is_motion pass0 (fun _ _ z => z) (px_cons (px_var 0 (pv 0)) px_nil))))) (sx_one sx_raise0) sx_nil))
theorem ok_need_number (T : Tx K mg) : FnOk P w K mg base CX0 2 T.f_need_number T.d_need_number ["number", "low", "high"] (liftF K ex0 [] 3 w_need_number) :=
  fn_ok (k := 1) (m := 3) (n := 3) (S := []) (N := ["number", "low", "high"]) (ps := ["number", "low", "high"]) (ts := b_need_number) T.F_need_number sc_need_number rfl rfl (by decide) fun cdv A outer s H E hr =>
    (sx_one (sx_if (px_not (px_tv (px_fz (px_call (ok_is_between T) (hr.mono (by decide)) T.m_is_between T.F_is_between.kp T.b_is_between pass0 (fun _ _ z => z) (px_cons (px_var 0 (pv 0)) (px_cons (px_var 1 (pv 1)) (px_cons (px_var 2 (pv 2)) px_nil))))))) (sx_one sx_raise0) sx_nil))
theorem ok_behind (T : Tx K mg) : FnOk P w K mg base CX0 1 T.f_behind T.d_behind ["one", "other"] (liftF K ex0 [] 2 w_behind) :=
  fn_ok (k := 0) (m := 3) (n := 2) (S := []) (N := ["one", "other", "shift"]) (ps := ["one", "other"]) (ts := b_behind) T.F_behind sc_behind rfl rfl (by decide) fun cdv A outer s H E hr =>
    (sx_cons (sx_set (i := 2) sc_behind.nd (px_if (px_tc (or_eq hr) od_eq (px_ix ix_seq od_ix (px_var 0 (pv 0)) px_int (fun _ _ => rfl)) px_int (nomark _)) (px_op op_sub od_sub (px_ix ix_seq od_ix (px_var 0 (pv 0)) px_int (fun _ _ => rfl)) (px_ix ix_seq od_ix (px_var 1 (pv 1)) px_int (fun _ _ => rfl))) (px_op or_add od_add (px_ix ix_seq od_ix (px_var 0 (pv 0)) px_int (fun _ _ => rfl)) (px_ix ix_seq od_ix (px_var 1 (pv 1)) px_int (fun _ _ => rfl)))) (Or.inl rfl))
    (sx_one (sx_ret (px_tup (px_cons (px_op op_mod od_mod (px_op or_add od_add (px_ix ix_seq od_ix (px_var 0 (pv 0)) px_int (fun _ _ => rfl)) (px_ix ix_seq od_ix (px_var 1 (pv 1)) px_int (fun _ _ => rfl))) px_int) (px_cons (px_var 2 (pv 2)) (px_cons (px_op op_mod od_mod (px_op or_add od_add (px_ix ix_seq od_ix (px_var 0 (pv 0)) px_int (fun _ _ => rfl)) (px_ix ix_seq od_ix (px_var 1 (pv 1)) px_int (fun _ _ => rfl))) px_int) px_nil)))))))
theorem ok_back (T : Tx K mg) : FnOk P w K mg base CX0 1 T.f_back T.d_back ["motion"] (liftF K ex0 [] 1 w_back) :=
  fn_ok (k := 0) (m := 1) (n := 1) (S := []) (N := ["motion"]) (ps := ["motion"]) (ts := b_back) T.F_back sc_back rfl rfl (by decide) fun cdv A outer s H E hr =>
    (sx_one (sx_ret (px_if (px_tc (or_eq hr) od_eq (px_ix ix_seq od_ix (px_var 0 (pv 0)) px_int (fun _ _ => rfl)) px_int (nomark _)) (px_var 0 (pv 0)) (px_tup (px_cons px_int (px_cons (px_un un_neg ud_neg (px_ix ix_seq od_ix (px_var 0 (pv 0)) px_int (fun _ _ => rfl))) (px_cons (px_ix ix_seq od_ix (px_var 0 (pv 0)) px_int (fun _ _ => rfl)) px_nil)))))))
theorem ok_done (T : Tx K mg) : FnOk P w K mg base CX0 4 T.f_done T.d_done ["one", "other"] (liftF K ex0 [] 2 w_done) :=
  fn_ok (k := 3) (m := 2) (n := 2) (S := []) (N := ["one", "other"]) (ps := ["one", "other"]) (ts := b_done) T.F_done sc_done rfl rfl (by decide) fun cdv A outer s H E hr =>
    (sx_cons (sx_drop (px_call (ok_need_motion T) (hr.mono (by decide)) T.m_need_motion T.F_need_motion.kp T.b_need_motion pass0 (fun _ _ z => z) (px_cons (px_var 0 (pv 0)) px_nil)))
    (sx_cons (sx_drop (px_call (ok_need_motion T) (hr.mono (by decide)) T.m_need_motion T.F_need_motion.kp T.b_need_motion pass0 (fun _ _ z => z) (px_cons (px_var 1 (pv 1)) px_nil)))
    (sx_one (sx_ret (px_fz (px_call (ok_behind T) (hr.mono (by decide)) T.m_behind T.F_behind.kp T.b_behind pass0 (fun _ _ z => z) (px_cons (px_var 0 (pv 0)) (px_cons (px_var 1 (pv 1)) px_nil))))))))
theorem ok_undone (T : Tx K mg) : FnOk P w K mg base CX0 4 T.f_undone T.d_undone ["motion"] (liftF K ex0 [] 1 w_undone) :=
  fn_ok (k := 3) (m := 1) (n := 1) (S := []) (N := ["motion"]) (ps := ["motion"]) (ts := b_undone) T.F_undone sc_undone rfl rfl (by decide) fun cdv A outer s H E hr =>
    (sx_cons (sx_drop (px_call (ok_need_motion T) (hr.mono (by decide)) T.m_need_motion T.F_need_motion.kp T.b_need_motion pass0 (fun _ _ z => z) (px_cons (px_var 0 (pv 0)) px_nil)))
    (sx_one (sx_ret (px_fz (px_call (ok_back T) (hr.mono (by decide)) T.m_back T.F_back.kp T.b_back pass0 (fun _ _ z => z) (px_cons (px_var 0 (pv 0)) px_nil))))))
theorem ok_repeated (T : Tx K mg) : FnOk P w K mg base CX0 4 T.f_repeated T.d_repeated ["motion", "times"] (liftF K ex0 [] 2 w_repeated) :=
  fn_ok (k := 3) (m := 2) (n := 2) (S := []) (N := ["motion", "times"]) (ps := ["motion", "times"]) (ts := b_repeated) T.F_repeated sc_repeated rfl rfl (by decide) fun cdv A outer s H E hr =>
    (sx_cons (sx_drop (px_call (ok_need_motion T) (hr.mono (by decide)) T.m_need_motion T.F_need_motion.kp T.b_need_motion pass0 (fun _ _ z => z) (px_cons (px_var 0 (pv 0)) px_nil)))
    (sx_cons (sx_drop (px_call (ok_need_number T) (hr.mono (by decide)) T.m_need_number T.F_need_number.kp T.b_need_number pass0 (fun _ _ z => z) (px_cons (px_var 1 (pv 1)) (px_cons (px_un un_neg ud_neg (T.c_FAR)) (px_cons (T.c_FAR) px_nil)))))
    (sx_cons (sx_if (px_tc (or_eq hr) od_eq (px_ix ix_seq od_ix (px_var 0 (pv 0)) px_int (fun _ _ => rfl)) px_int (nomark _)) (sx_one (sx_ret (px_if (px_tc (or_eq hr) od_eq (px_op op_mod od_mod (px_var 1 (pv 1)) px_int) px_int (nomark _)) (px_var 0 (pv 0)) (T.c_STILL)))) sx_nil)
    (sx_one (sx_ret (px_tup (px_cons px_int (px_cons (px_op or_mul od_mul (px_ix ix_seq od_ix (px_var 0 (pv 0)) px_int (fun _ _ => rfl)) (px_var 1 (pv 1))) (px_cons (px_op op_mod od_mod (px_op or_mul od_mul (px_ix ix_seq od_ix (px_var 0 (pv 0)) px_int (fun _ _ => rfl)) (px_var 1 (pv 1))) px_int) px_nil)))))))))
theorem ok_turns_round (T : Tx K mg) : FnOk P w K mg base CX0 4 T.f_turns_round T.d_turns_round ["motion"] (liftF K ex0 [] 1 w_turns_round) :=
  fn_ok (k := 3) (m := 1) (n := 1) (S := []) (N := ["motion"]) (ps := ["motion"]) (ts := b_turns_round) T.F_turns_round sc_turns_round rfl rfl (by decide) fun cdv A outer s H E hr =>
    (sx_cons (sx_drop (px_call (ok_need_motion T) (hr.mono (by decide)) T.m_need_motion T.F_need_motion.kp T.b_need_motion pass0 (fun _ _ z => z) (px_cons (px_var 0 (pv 0)) px_nil)))
    (sx_cons (sx_if (px_tc (or_eq hr) od_eq (px_var 0 (pv 0)) (T.c_STILL) (nomark _)) (sx_one (sx_ret px_int)) sx_nil)
    (sx_one (sx_ret (px_if (L2.PW.pt (px_or (px_tc (or_eq hr) od_eq (px_ix ix_seq od_ix (px_var 0 (pv 0)) px_int (fun _ _ => rfl)) px_int (nomark _)) (px_or1 (px_tc (or_eq hr) od_eq (px_ix ix_seq od_ix (px_var 0 (pv 0)) px_int (fun _ _ => rfl)) px_int (nomark _))))) px_int px_int)))))
theorem ok_law_source (T : Tx K mg) : FnOk P w K mg base CX0 1 T.f_law_source T.d_law_source ["script", "index"] (liftF K ex0 [0] 2 w_law_source) :=
  fn_ok (k := 0) (m := 3) (n := 2) (S := [0]) (N := ["script", "index", "cell"]) (ps := ["script", "index"]) (ts := b_law_source) T.F_law_source sc_law_source rfl rfl (by decide) fun cdv A outer s H E hr =>
    (sx_cons (sx_set (i := 2) sc_law_source.nd px_int (Or.inl rfl))
    (sx_cons (sx_if (px_tc op_lt od_lt (px_var 1 (pv 1)) (px_lenS (i := 0) (pe_callB call_len_seq (by rfl) T.n_len PySem.boot_len (pa_cons (pv 0) pa_nil))) (nomark _)) (sx_one (sx_set (i := 2) sc_law_source.nd (px_cb cd_abs (pe_callB call_abs (by rfl) T.n_abs bo_abs (px_cons (px_ixS (pe_ix ix_list (pv 0) (px_var 1 (pv 1)) (fun _ _ => rfl))) px_nil))) (Or.inl rfl))) sx_nil)
    (sx_cons (sx_if (px_tc op_lt od_lt (px_var 2 (pv 2)) (px_op op_pow od_pow px_int px_int) (nomark _)) (sx_one (sx_retV (px_lstV (px_cons px_int (px_cons (px_op or_add od_add px_int (px_op op_mod od_mod (px_cb cd_int (pe_callTy call_int1 (by rfl) T.n_int bo_int (px_cons (px_op or_add od_add (px_op or_mul od_mul (px_var 2 (pv 2)) px_int) (px_op or_mul od_mul px_int (px_var 1 (pv 1)))) px_nil))) px_int)) px_nil))))) sx_nil)
    (sx_one (sx_retV (px_lstV (px_cons (px_var 2 (pv 2)) (px_cons (px_op or_add od_add px_int (px_op op_mod od_mod (px_cb cd_int (pe_callTy call_int1 (by rfl) T.n_int bo_int (px_cons (px_op or_add od_add (px_var 2 (pv 2)) (px_var 1 (pv 1))) px_nil))) px_int)) px_nil))))))))
theorem ok_law_draw (T : Tx K mg) : FnOk P w K mg base CX0 1 T.f_law_draw T.d_law_draw ["source", "size"] (liftF K ex0 [0] 2 w_law_draw) :=
  fn_ok (k := 0) (m := 3) (n := 2) (S := [0]) (N := ["source", "size", "drawn"]) (ps := ["source", "size"]) (ts := b_law_draw) T.F_law_draw sc_law_draw rfl rfl (by decide) fun cdv A outer s H E hr =>
    (sx_cons (sx_if (px_tc op_gt od_gt (px_ixV (pv 0) px_int (fun _ _ => rfl)) px_int (nomark _)) (sx_cons (sx_set (i := 2) sc_law_draw.nd (px_op op_mod od_mod (px_cb cd_int (pe_callTy call_int1 (by rfl) T.n_int bo_int (px_cons (px_ixV (pv 0) px_int (fun _ _ => rfl)) px_nil))) (px_var 1 (pv 1))) (Or.inl rfl))
    (sx_cons (sx_put (i := 0) (ps_asg (px_op op_fdivW od_div (px_ixV (pv 0) px_int (fun _ _ => rfl)) (px_var 1 (pv 1))) (pg_sub (pv 0) px_int set_list)))
    (sx_one (sx_ret (px_var 2 (pv 2)))))) sx_nil)
    (sx_cons (sx_put (i := 0) (ps_asg (px_op op_mod od_mod (px_cb cd_int (pe_callTy call_int1 (by rfl) T.n_int bo_int (px_cons (px_op or_mul od_mul (px_ixV (pv 0) px_int (fun _ _ => rfl)) px_int) px_nil))) px_int) (pg_sub (pv 0) px_int set_list)))
    (sx_one (sx_ret (px_op op_mod od_mod (px_cb cd_int (pe_callTy call_int1 (by rfl) T.n_int bo_int (px_cons (px_op op_fdivW od_div (px_op op_mod od_mod (px_cb cd_int (pe_callTy call_int1 (by rfl) T.n_int bo_int (px_cons (px_op or_mul od_mul (px_ixV (pv 0) px_int (fun _ _ => rfl)) (px_ixV (pv 0) px_int (fun _ _ => rfl))) px_nil))) px_int) px_int) px_nil))) (px_var 1 (pv 1)))))))
theorem ok_law_choice (T : Tx K mg) : FnOk P w K mg base CX0 2 T.f_law_choice T.d_law_choice ["source", "items"] (liftF K ex0 [0] 2 w_law_choice) :=
  fn_ok (k := 1) (m := 2) (n := 2) (S := [0]) (N := ["source", "items"]) (ps := ["source", "items"]) (ts := b_law_choice) T.F_law_choice sc_law_choice rfl rfl (by decide) fun cdv A outer s H E hr =>
    (sx_one (sx_ret (px_ix ix_seq od_ix (px_var 1 (pv 1)) (px_fz (px_callV (ok_law_draw T) (hr.mono (by decide)) T.m_law_draw T.F_law_draw.kp T.b_law_draw pass0 (fun _ _ z => z) (px_m0 (i := 0) (pv 0) (px_cons (px_cb cd_len (pe_callB call_len (by rfl) T.n_len PySem.boot_len (px_cons (px_var 1 (pv 1)) px_nil))) px_nil)))) (fun _ _ => rfl))))
theorem ok_law_motion (T : Tx K mg) : FnOk P w K mg base CX0 2 T.f_law_motion T.d_law_motion ["source", "most"] (liftF K ex0 [0] 2 w_law_motion) :=
  fn_ok (k := 1) (m := 2) (n := 2) (S := [0]) (N := ["source", "most"]) (ps := ["source", "most"]) (ts := b_law_motion) T.F_law_motion sc_law_motion rfl rfl (by decide) fun cdv A outer s H E hr =>
    (sx_one (sx_ret (px_tup (px_cons (px_fz (px_callV (ok_law_draw T) (hr.mono (by decide)) T.m_law_draw T.F_law_draw.kp T.b_law_draw pass0 (fun _ _ z => z) (px_m0 (i := 0) (pv 0) (px_cons px_int px_nil)))) (px_cons (px_op op_sub od_sub (px_fz (px_callV (ok_law_draw T) (hr.mono (by decide)) T.m_law_draw T.F_law_draw.kp T.b_law_draw pass0 (fun _ _ z => z) (px_m0 (i := 0) (pv 0) (px_cons (px_op or_add od_add (px_op or_mul od_mul px_int (px_var 1 (pv 1))) px_int) px_nil)))) (px_var 1 (pv 1))) (px_cons (px_fz (px_callV (ok_law_draw T) (hr.mono (by decide)) T.m_law_draw T.F_law_draw.kp T.b_law_draw pass0 (fun _ _ z => z) (px_m0 (i := 0) (pv 0) (px_cons px_int px_nil)))) px_nil))))))
theorem ok_law_done (T : Tx K mg) : FnOk P w K mg base CX0 1 T.f_law_done T.d_law_done ["one", "other"] (liftF K ex0 [] 2 w_law_done) :=
  fn_ok (k := 0) (m := 3) (n := 2) (S := []) (N := ["one", "other", "shift"]) (ps := ["one", "other"]) (ts := b_law_done) T.F_law_done sc_law_done rfl rfl (by decide) fun cdv A outer s H E hr =>
    (sx_cons (sx_set (i := 2) sc_law_done.nd (px_op or_add od_add (px_ix ix_seq od_ix (px_var 0 (pv 0)) px_int (fun _ _ => rfl)) (px_if (px_tc (or_eq hr) od_eq (px_ix ix_seq od_ix (px_var 0 (pv 0)) px_int (fun _ _ => rfl)) px_int (nomark _)) (px_ix ix_seq od_ix (px_var 1 (pv 1)) px_int (fun _ _ => rfl)) (px_un un_neg ud_neg (px_ix ix_seq od_ix (px_var 1 (pv 1)) px_int (fun _ _ => rfl))))) (Or.inl rfl))
    (sx_one (sx_ret (px_tup (px_cons (px_op op_mod od_mod (px_cb cd_int (pe_callTy call_int1 (by rfl) T.n_int bo_int (px_cons (px_op or_add od_add (px_ix ix_seq od_ix (px_var 0 (pv 0)) px_int (fun _ _ => rfl)) (px_ix ix_seq od_ix (px_var 1 (pv 1)) px_int (fun _ _ => rfl))) px_nil))) px_int) (px_cons (px_var 2 (pv 2)) (px_cons (px_op op_mod od_mod (px_cb cd_int (pe_callTy call_int1 (by rfl) T.n_int bo_int (px_cons (px_op or_add od_add (px_ix ix_seq od_ix (px_var 0 (pv 0)) px_int (fun _ _ => rfl)) (px_ix ix_seq od_ix (px_var 1 (pv 1)) px_int (fun _ _ => rfl))) px_nil))) px_int) px_nil)))))))
theorem ok_law_back (T : Tx K mg) : FnOk P w K mg base CX0 1 T.f_law_back T.d_law_back ["motion"] (liftF K ex0 [] 1 w_law_back) :=
  fn_ok (k := 0) (m := 1) (n := 1) (S := []) (N := ["motion"]) (ps := ["motion"]) (ts := b_law_back) T.F_law_back sc_law_back rfl rfl (by decide) fun cdv A outer s H E hr =>
    (sx_one (sx_ret (px_tup (px_cons (px_ix ix_seq od_ix (px_var 0 (pv 0)) px_int (fun _ _ => rfl)) (px_cons (px_if (px_tc (or_eq hr) od_eq (px_ix ix_seq od_ix (px_var 0 (pv 0)) px_int (fun _ _ => rfl)) px_int (nomark _)) (px_ix ix_seq od_ix (px_var 0 (pv 0)) px_int (fun _ _ => rfl)) (px_un un_neg ud_neg (px_ix ix_seq od_ix (px_var 0 (pv 0)) px_int (fun _ _ => rfl)))) (px_cons (px_ix ix_seq od_ix (px_var 0 (pv 0)) px_int (fun _ _ => rfl)) px_nil))))))
theorem ok_law (T : Tx K mg) : FnOk P w K mg base CX0 5 T.f_law T.d_law ["script"] (liftF K ex0 [0] 1 w_law) :=
  fn_ok (k := 4) (m := 11) (n := 1) (S := [0]) (N := ["script", "k", "source", "turn", "motion", "here", "times", "first", "second", "small", "count"]) (ps := ["script"]) (ts := b_law) T.F_law sc_law rfl rfl (by decide) fun cdv A outer s H E hr =>
    (sx_cons (sx_for PassesOwn.never (px_rng1 T.n_range (px_cons (px_op or_add od_add px_int (px_cb cd_min2 (pe_callB (call_min2 rfl) (by rfl) T.n_min bo_min (px_cons (px_lenS (i := 0) (pe_callB call_len_seq (by rfl) T.n_len PySem.boot_len (pa_cons (pv 0) pa_nil))) (px_cons px_int px_nil))))) px_nil)) (pg_name (i := 1) sc_law.nd rfl (Or.inl rfl)) (tg_name (by decide))
    (sx_cons (sx_setV (i := 2) sc_law.nd (px_callV (ok_law_source T) (hr.mono (by decide)) T.m_law_source T.F_law_source.kp T.b_law_source pass0 (fun _ _ z => z) (px_m0 (i := 0) (pv 0) (px_cons (px_var 1 (pv 1)) px_nil))) (Or.inl rfl))
    (sx_one (sx_for PassesOwn.never (px_rng1 T.n_range (px_cons px_int px_nil)) (pg_name (i := 3) sc_law.nd rfl (Or.inl rfl)) (tg_name (by decide))
    (sx_cons (sx_unp (is := [4, 5]) (by decide) (ps_asg (px_tup (px_cons (px_fz (px_callV (ok_law_motion T) (hr.mono (by decide)) T.m_law_motion T.F_law_motion.kp T.b_law_motion pass0 (fun _ _ z => z) (px_m0 (i := 2) (pv 2) (px_cons (px_fz (px_callV (ok_law_choice T) (hr.mono (by decide)) T.m_law_choice T.F_law_choice.kp T.b_law_choice pass0 (fun _ _ z => z) (px_m0 (i := 2) (pv 2) (px_cons (px_lst (px_cons px_int (px_cons px_int px_nil))) px_nil)))) px_nil)))) (px_cons (px_tup (px_cons px_int (px_cons px_int (px_cons px_int px_nil)))) px_nil))) (pg_tup rfl (pgs_cons (pg_name (i := 4) sc_law.nd rfl (Or.inr rfl)) (pgs_cons (pg_name (i := 5) sc_law.nd rfl (Or.inl rfl)) pgs_nil)))))
    (sx_cons (sx_for PassesOwn.never (px_rng1 T.n_range (px_cons px_int px_nil)) (pg_name (i := 6) sc_law.nd rfl (Or.inl rfl)) (tg_name (by decide))
    (sx_cons (sx_if (L2.PW.pt (px_or (px_tc (or_ne hr) od_ne (px_fz (px_call (ok_repeated T) (hr.mono (by decide)) T.m_repeated T.F_repeated.kp T.b_repeated pass0 (fun _ _ z => z) (px_cons (px_var 4 (pv 4)) (px_cons (px_var 6 (pv 6)) px_nil)))) (px_var 5 (pv 5)) (nomark _)) (px_or1 (px_tc (or_ne hr) od_ne (px_fz (px_call (ok_repeated T) (hr.mono (by decide)) T.m_repeated T.F_repeated.kp T.b_repeated pass0 (fun _ _ z => z) (px_cons (px_var 4 (pv 4)) (px_cons (px_un un_neg ud_neg (px_var 6 (pv 6))) px_nil)))) (px_fz (px_call (ok_law_back T) (hr.mono (by decide)) T.m_law_back T.F_law_back.kp T.b_law_back pass0 (fun _ _ z => z) (px_cons (px_var 5 (pv 5)) px_nil))) (nomark _))))) (sx_one (sx_ret px_bl)) sx_nil)
    (sx_one (sx_setV (i := 5) sc_law.nd (px_call (ok_law_done T) (hr.mono (by decide)) T.m_law_done T.F_law_done.kp T.b_law_done pass0 (fun _ _ z => z) (px_cons (px_var 4 (pv 4)) (px_cons (px_var 5 (pv 5)) px_nil))) (Or.inl rfl)))))
    (sx_cons (sx_par2 (by decide) (by decide) (ps_par (i := 7) (j := 8) rfl sc_law.nd rfl rfl (by decide) rfl rfl (pa_cons (px_callV (ok_law_draw T) (hr.mono (by decide)) T.m_law_draw T.F_law_draw.kp T.b_law_draw pass0 (fun _ _ z => z) (px_m0 (i := 2) (pv 2) (px_cons (px_op op_pow od_pow px_int px_int) px_nil))) (pa_cons (px_callV (ok_law_draw T) (hr.mono (by decide)) T.m_law_draw T.F_law_draw.kp T.b_law_draw pass0 (fun _ _ z => z) (px_m0 (i := 2) (pv 2) (px_cons (px_op op_pow od_pow px_int px_int) px_nil))) pa_nil)) (by rfl)))
    (sx_cons (sx_if (px_tc (or_ne hr) od_ne (px_fz (px_call (ok_repeated T) (hr.mono (by decide)) T.m_repeated T.F_repeated.kp T.b_repeated pass0 (fun _ _ z => z) (px_cons (px_var 4 (pv 4)) (px_cons (px_op or_add od_add (px_var 7 (pv 7)) (px_var 8 (pv 8))) px_nil)))) (px_fz (px_call (ok_done T) (hr.mono (by decide)) T.m_done T.F_done.kp T.b_done pass0 (fun _ _ z => z) (px_cons (px_fz (px_call (ok_repeated T) (hr.mono (by decide)) T.m_repeated T.F_repeated.kp T.b_repeated pass0 (fun _ _ z => z) (px_cons (px_var 4 (pv 4)) (px_cons (px_var 7 (pv 7)) px_nil)))) (px_cons (px_fz (px_call (ok_repeated T) (hr.mono (by decide)) T.m_repeated T.F_repeated.kp T.b_repeated pass0 (fun _ _ z => z) (px_cons (px_var 4 (pv 4)) (px_cons (px_var 8 (pv 8)) px_nil)))) px_nil)))) (nomark _)) (sx_one (sx_ret px_bl)) sx_nil)
    (sx_cons (sx_if (px_tc (or_ne hr) od_ne (px_fz (px_call (ok_repeated T) (hr.mono (by decide)) T.m_repeated T.F_repeated.kp T.b_repeated pass0 (fun _ _ z => z) (px_cons (px_var 4 (pv 4)) (px_cons (px_op op_sub od_sub (px_var 7 (pv 7)) (px_var 8 (pv 8))) px_nil)))) (px_fz (px_call (ok_done T) (hr.mono (by decide)) T.m_done T.F_done.kp T.b_done pass0 (fun _ _ z => z) (px_cons (px_fz (px_call (ok_repeated T) (hr.mono (by decide)) T.m_repeated T.F_repeated.kp T.b_repeated pass0 (fun _ _ z => z) (px_cons (px_var 4 (pv 4)) (px_cons (px_var 7 (pv 7)) px_nil)))) (px_cons (px_fz (px_call (ok_undone T) (hr.mono (by decide)) T.m_undone T.F_undone.kp T.b_undone pass0 (fun _ _ z => z) (px_cons (px_fz (px_call (ok_repeated T) (hr.mono (by decide)) T.m_repeated T.F_repeated.kp T.b_repeated pass0 (fun _ _ z => z) (px_cons (px_var 4 (pv 4)) (px_cons (px_var 8 (pv 8)) px_nil)))) px_nil))) px_nil)))) (nomark _)) (sx_one (sx_ret px_bl)) sx_nil)
    (sx_cons (sx_setV (i := 9) sc_law.nd (px_callV (ok_law_draw T) (hr.mono (by decide)) T.m_law_draw T.F_law_draw.kp T.b_law_draw pass0 (fun _ _ z => z) (px_m0 (i := 2) (pv 2) (px_cons px_int px_nil))) (Or.inl rfl))
    (sx_cons (sx_if (px_tc (or_ne hr) od_ne (px_fz (px_call (ok_repeated T) (hr.mono (by decide)) T.m_repeated T.F_repeated.kp T.b_repeated pass0 (fun _ _ z => z) (px_cons (px_fz (px_call (ok_repeated T) (hr.mono (by decide)) T.m_repeated T.F_repeated.kp T.b_repeated pass0 (fun _ _ z => z) (px_cons (px_var 4 (pv 4)) (px_cons (px_var 7 (pv 7)) px_nil)))) (px_cons (px_var 9 (pv 9)) px_nil)))) (px_fz (px_call (ok_repeated T) (hr.mono (by decide)) T.m_repeated T.F_repeated.kp T.b_repeated pass0 (fun _ _ z => z) (px_cons (px_var 4 (pv 4)) (px_cons (px_op or_mul od_mul (px_var 7 (pv 7)) (px_var 9 (pv 9))) px_nil)))) (nomark _)) (sx_one (sx_ret px_bl)) sx_nil)
    (sx_cons (sx_setV (i := 10) sc_law.nd (px_call (ok_turns_round T) (hr.mono (by decide)) T.m_turns_round T.F_turns_round.kp T.b_turns_round pass0 (fun _ _ z => z) (px_cons (px_var 4 (pv 4)) px_nil)) (Or.inl rfl))
    (sx_cons (sx_if (L2.PW.pt (px_or (px_tc (or_notin hr) od_notin (px_var 10 (pv 10)) (px_lst (px_cons px_int (px_cons px_int (px_cons px_int px_nil)))) (by rfl)) (px_or1 (px_tc (or_ne hr) od_ne (px_cmp (or_eq hr) od_eq (px_var 10 (pv 10)) px_int (nomark _)) (px_cmp (or_eq hr) od_eq (px_var 4 (pv 4)) (px_tup (px_cons px_int (px_cons px_int (px_cons px_int px_nil)))) (nomark _)) (nomark _))))) (sx_one (sx_ret px_bl)) sx_nil)
    (sx_cons (sx_if (L2.PW.pt (px_and (px_tc op_gt od_gt (px_var 10 (pv 10)) px_int (nomark _)) (px_and1 (px_tc (or_ne hr) od_ne (px_fz (px_call (ok_repeated T) (hr.mono (by decide)) T.m_repeated T.F_repeated.kp T.b_repeated pass0 (fun _ _ z => z) (px_cons (px_var 4 (pv 4)) (px_cons (px_var 10 (pv 10)) px_nil)))) (px_tup (px_cons px_int (px_cons px_int (px_cons px_int px_nil)))) (nomark _))))) (sx_one (sx_ret px_bl)) sx_nil)
    (sx_cons (sx_if (L2.PW.pt (px_and (px_tc (or_eq hr) od_eq (px_var 10 (pv 10)) px_int (nomark _)) (px_and1 (px_tc (or_in hr) od_in (px_tup (px_cons px_int (px_cons px_int (px_cons px_int px_nil)))) (px_fz (px_lc (tw_name (vs := [6]) (by decide)) (pe_lc rfl sc_law.nd (px_rng2 T.n_range (px_cons px_int (px_cons px_int px_nil))) (blkOk_x (N := ["script", "k", "source", "turn", "motion", "here", "times", "first", "second", "small", "count"]) (sc := defScope s_law) (own := [("times", 6)]) rfl rfl (by decide +kernel)) (fun _ _ _ _ _ => (pg_name (i := 6) sc_law.nd rfl (Or.inl rfl))) (fun _ _ _ _ _ => pts_d0) (fun _ _ _ _ _ => (px_fz (px_call (ok_repeated T) (hr.mono (by decide)) T.m_repeated T.F_repeated.kp T.b_repeated pass0 (fun _ _ z => z) (px_cons (px_var 4 (pv 4)) (px_cons (px_var 6 (pv 6)) px_nil)))))))) (by rfl))))) (sx_one (sx_ret px_bl)) sx_nil)
    (sx_one (sx_if (L2.PW.pt (px_and (px_tc (or_eq hr) od_eq (px_var 10 (pv 10)) px_int (nomark _)) (px_and1 (px_tc (or_eq hr) od_eq (px_var 4 (pv 4)) (px_tup (px_cons px_int (px_cons px_int (px_cons px_int px_nil)))) (nomark _))))) (sx_one (sx_ret px_bl)) sx_nil)))))))))))))))))
    (sx_one (sx_ret (px_andV (px_cmp (or_eq hr) od_eq (px_fz (px_call (ok_repeated T) (hr.mono (by decide)) T.m_repeated T.F_repeated.kp T.b_repeated pass0 (fun _ _ z => z) (px_cons (px_tup (px_cons px_int (px_cons px_int (px_cons px_int px_nil)))) (px_cons px_int px_nil)))) (px_tup (px_cons px_int (px_cons px_int (px_cons px_int px_nil)))) (nomark _)) (px_andV (px_cmp (or_eq hr) od_eq (px_fz (px_call (ok_turns_round T) (hr.mono (by decide)) T.m_turns_round T.F_turns_round.kp T.b_turns_round pass0 (fun _ _ z => z) (px_cons (px_tup (px_cons px_int (px_cons px_int (px_cons px_int px_nil)))) px_nil))) px_int (nomark _)) (px_one (px_cmp (or_eq hr) od_eq (px_fz (px_call (ok_turns_round T) (hr.mono (by decide)) T.m_turns_round T.F_turns_round.kp T.b_turns_round pass0 (fun _ _ z => z) (px_cons (px_tup (px_cons px_int (px_cons px_int (px_cons px_int px_nil)))) px_nil))) px_int (nomark _))))))))
end
/-! ### the end -/
theorem all_mk {l : PySem.W.OpenLaw} {w : World} {K : PySem.W.Frag} {h : Heap} {mg : Str → Option Value} {fa : Addr} (X : K.In h) (G : h.Ns mainGlobals mg) (hfa : mg "law" = some (.ref fa))
    {f0 : Addr} {od0 an0 : Option Addr} {sl0 : Array (Option Value)} {oc0 kV0 dc0 pm0 cd0 ct0 : Value}
    (a0 : PySem.W.nsIn K mainGlobals "is_between" = some (some (.ref f0))) (l0 : K.lookup f0 = some ⟨oc0, od0, .func (PySem.W.fnOf "is_between" "is_between" (defArgs s_is_between) (defBody s_is_between) (defScope s_is_between) .none kV0 dc0 pm0 an0 cd0 ct0), sl0⟩) (c0 : PySem.W.codeIn K cd0 "is_between" = true) (k0 : PySem.W.keepIn K (.ref f0) = true)
    {f1 : Addr} {od1 an1 : Option Addr} {sl1 : Array (Option Value)} {oc1 kV1 dc1 pm1 cd1 ct1 : Value}
    (a1 : PySem.W.nsIn K mainGlobals "is_integer" = some (some (.ref f1))) (l1 : K.lookup f1 = some ⟨oc1, od1, .func (PySem.W.fnOf "is_integer" "is_integer" (defArgs s_is_integer) (defBody s_is_integer) (defScope s_is_integer) .none kV1 dc1 pm1 an1 cd1 ct1), sl1⟩) (c1 : PySem.W.codeIn K cd1 "is_integer" = true) (k1 : PySem.W.keepIn K (.ref f1) = true)
    {f2 : Addr} {od2 an2 : Option Addr} {sl2 : Array (Option Value)} {oc2 kV2 dc2 pm2 cd2 ct2 : Value}
    (a2 : PySem.W.nsIn K mainGlobals "is_motion" = some (some (.ref f2))) (l2 : K.lookup f2 = some ⟨oc2, od2, .func (PySem.W.fnOf "is_motion" "is_motion" (defArgs s_is_motion) (defBody s_is_motion) (defScope s_is_motion) .none kV2 dc2 pm2 an2 cd2 ct2), sl2⟩) (c2 : PySem.W.codeIn K cd2 "is_motion" = true) (k2 : PySem.W.keepIn K (.ref f2) = true)
    {f3 : Addr} {od3 an3 : Option Addr} {sl3 : Array (Option Value)} {oc3 kV3 dc3 pm3 cd3 ct3 : Value}
    (a3 : PySem.W.nsIn K mainGlobals "need_motion" = some (some (.ref f3))) (l3 : K.lookup f3 = some ⟨oc3, od3, .func (PySem.W.fnOf "need_motion" "need_motion" (defArgs s_need_motion) (defBody s_need_motion) (defScope s_need_motion) .none kV3 dc3 pm3 an3 cd3 ct3), sl3⟩) (c3 : PySem.W.codeIn K cd3 "need_motion" = true) (k3 : PySem.W.keepIn K (.ref f3) = true)
    {f4 : Addr} {od4 an4 : Option Addr} {sl4 : Array (Option Value)} {oc4 kV4 dc4 pm4 cd4 ct4 : Value}
    (a4 : PySem.W.nsIn K mainGlobals "need_number" = some (some (.ref f4))) (l4 : K.lookup f4 = some ⟨oc4, od4, .func (PySem.W.fnOf "need_number" "need_number" (defArgs s_need_number) (defBody s_need_number) (defScope s_need_number) .none kV4 dc4 pm4 an4 cd4 ct4), sl4⟩) (c4 : PySem.W.codeIn K cd4 "need_number" = true) (k4 : PySem.W.keepIn K (.ref f4) = true)
    {f5 : Addr} {od5 an5 : Option Addr} {sl5 : Array (Option Value)} {oc5 kV5 dc5 pm5 cd5 ct5 : Value}
    (a5 : PySem.W.nsIn K mainGlobals "behind" = some (some (.ref f5))) (l5 : K.lookup f5 = some ⟨oc5, od5, .func (PySem.W.fnOf "behind" "behind" (defArgs s_behind) (defBody s_behind) (defScope s_behind) .none kV5 dc5 pm5 an5 cd5 ct5), sl5⟩) (c5 : PySem.W.codeIn K cd5 "behind" = true) (k5 : PySem.W.keepIn K (.ref f5) = true)
    {f6 : Addr} {od6 an6 : Option Addr} {sl6 : Array (Option Value)} {oc6 kV6 dc6 pm6 cd6 ct6 : Value}
    (a6 : PySem.W.nsIn K mainGlobals "back" = some (some (.ref f6))) (l6 : K.lookup f6 = some ⟨oc6, od6, .func (PySem.W.fnOf "back" "back" (defArgs s_back) (defBody s_back) (defScope s_back) .none kV6 dc6 pm6 an6 cd6 ct6), sl6⟩) (c6 : PySem.W.codeIn K cd6 "back" = true) (k6 : PySem.W.keepIn K (.ref f6) = true)
    {f7 : Addr} {od7 an7 : Option Addr} {sl7 : Array (Option Value)} {oc7 kV7 dc7 pm7 cd7 ct7 : Value}
    (a7 : PySem.W.nsIn K mainGlobals "done" = some (some (.ref f7))) (l7 : K.lookup f7 = some ⟨oc7, od7, .func (PySem.W.fnOf "done" "done" (defArgs s_done) (defBody s_done) (defScope s_done) .none kV7 dc7 pm7 an7 cd7 ct7), sl7⟩) (c7 : PySem.W.codeIn K cd7 "done" = true) (k7 : PySem.W.keepIn K (.ref f7) = true)
    {f8 : Addr} {od8 an8 : Option Addr} {sl8 : Array (Option Value)} {oc8 kV8 dc8 pm8 cd8 ct8 : Value}
    (a8 : PySem.W.nsIn K mainGlobals "undone" = some (some (.ref f8))) (l8 : K.lookup f8 = some ⟨oc8, od8, .func (PySem.W.fnOf "undone" "undone" (defArgs s_undone) (defBody s_undone) (defScope s_undone) .none kV8 dc8 pm8 an8 cd8 ct8), sl8⟩) (c8 : PySem.W.codeIn K cd8 "undone" = true) (k8 : PySem.W.keepIn K (.ref f8) = true)
    {f9 : Addr} {od9 an9 : Option Addr} {sl9 : Array (Option Value)} {oc9 kV9 dc9 pm9 cd9 ct9 : Value}
    (a9 : PySem.W.nsIn K mainGlobals "repeated" = some (some (.ref f9))) (l9 : K.lookup f9 = some ⟨oc9, od9, .func (PySem.W.fnOf "repeated" "repeated" (defArgs s_repeated) (defBody s_repeated) (defScope s_repeated) .none kV9 dc9 pm9 an9 cd9 ct9), sl9⟩) (c9 : PySem.W.codeIn K cd9 "repeated" = true) (k9 : PySem.W.keepIn K (.ref f9) = true)
    {f10 : Addr} {od10 an10 : Option Addr} {sl10 : Array (Option Value)} {oc10 kV10 dc10 pm10 cd10 ct10 : Value}
    (a10 : PySem.W.nsIn K mainGlobals "turns_round" = some (some (.ref f10))) (l10 : K.lookup f10 = some ⟨oc10, od10, .func (PySem.W.fnOf "turns_round" "turns_round" (defArgs s_turns_round) (defBody s_turns_round) (defScope s_turns_round) .none kV10 dc10 pm10 an10 cd10 ct10), sl10⟩) (c10 : PySem.W.codeIn K cd10 "turns_round" = true) (k10 : PySem.W.keepIn K (.ref f10) = true)
    {f11 : Addr} {od11 an11 : Option Addr} {sl11 : Array (Option Value)} {oc11 kV11 dc11 pm11 cd11 ct11 : Value}
    (a11 : PySem.W.nsIn K mainGlobals "_law_source" = some (some (.ref f11))) (l11 : K.lookup f11 = some ⟨oc11, od11, .func (PySem.W.fnOf "_law_source" "_law_source" (defArgs s_law_source) (defBody s_law_source) (defScope s_law_source) .none kV11 dc11 pm11 an11 cd11 ct11), sl11⟩) (c11 : PySem.W.codeIn K cd11 "_law_source" = true) (k11 : PySem.W.keepIn K (.ref f11) = true)
    {f12 : Addr} {od12 an12 : Option Addr} {sl12 : Array (Option Value)} {oc12 kV12 dc12 pm12 cd12 ct12 : Value}
    (a12 : PySem.W.nsIn K mainGlobals "_law_draw" = some (some (.ref f12))) (l12 : K.lookup f12 = some ⟨oc12, od12, .func (PySem.W.fnOf "_law_draw" "_law_draw" (defArgs s_law_draw) (defBody s_law_draw) (defScope s_law_draw) .none kV12 dc12 pm12 an12 cd12 ct12), sl12⟩) (c12 : PySem.W.codeIn K cd12 "_law_draw" = true) (k12 : PySem.W.keepIn K (.ref f12) = true)
    {f13 : Addr} {od13 an13 : Option Addr} {sl13 : Array (Option Value)} {oc13 kV13 dc13 pm13 cd13 ct13 : Value}
    (a13 : PySem.W.nsIn K mainGlobals "_law_choice" = some (some (.ref f13))) (l13 : K.lookup f13 = some ⟨oc13, od13, .func (PySem.W.fnOf "_law_choice" "_law_choice" (defArgs s_law_choice) (defBody s_law_choice) (defScope s_law_choice) .none kV13 dc13 pm13 an13 cd13 ct13), sl13⟩) (c13 : PySem.W.codeIn K cd13 "_law_choice" = true) (k13 : PySem.W.keepIn K (.ref f13) = true)
    {f14 : Addr} {od14 an14 : Option Addr} {sl14 : Array (Option Value)} {oc14 kV14 dc14 pm14 cd14 ct14 : Value}
    (a14 : PySem.W.nsIn K mainGlobals "_law_motion" = some (some (.ref f14))) (l14 : K.lookup f14 = some ⟨oc14, od14, .func (PySem.W.fnOf "_law_motion" "_law_motion" (defArgs s_law_motion) (defBody s_law_motion) (defScope s_law_motion) .none kV14 dc14 pm14 an14 cd14 ct14), sl14⟩) (c14 : PySem.W.codeIn K cd14 "_law_motion" = true) (k14 : PySem.W.keepIn K (.ref f14) = true)
    {f15 : Addr} {od15 an15 : Option Addr} {sl15 : Array (Option Value)} {oc15 kV15 dc15 pm15 cd15 ct15 : Value}
    (a15 : PySem.W.nsIn K mainGlobals "_law_done" = some (some (.ref f15))) (l15 : K.lookup f15 = some ⟨oc15, od15, .func (PySem.W.fnOf "_law_done" "_law_done" (defArgs s_law_done) (defBody s_law_done) (defScope s_law_done) .none kV15 dc15 pm15 an15 cd15 ct15), sl15⟩) (c15 : PySem.W.codeIn K cd15 "_law_done" = true) (k15 : PySem.W.keepIn K (.ref f15) = true)
    {f16 : Addr} {od16 an16 : Option Addr} {sl16 : Array (Option Value)} {oc16 kV16 dc16 pm16 cd16 ct16 : Value}
    (a16 : PySem.W.nsIn K mainGlobals "_law_back" = some (some (.ref f16))) (l16 : K.lookup f16 = some ⟨oc16, od16, .func (PySem.W.fnOf "_law_back" "_law_back" (defArgs s_law_back) (defBody s_law_back) (defScope s_law_back) .none kV16 dc16 pm16 an16 cd16 ct16), sl16⟩) (c16 : PySem.W.codeIn K cd16 "_law_back" = true) (k16 : PySem.W.keepIn K (.ref f16) = true)
    {f17 : Addr} {od17 an17 : Option Addr} {sl17 : Array (Option Value)} {oc17 kV17 dc17 pm17 cd17 ct17 : Value}
    (a17 : PySem.W.nsIn K mainGlobals "law" = some (some (.ref f17))) (l17 : K.lookup f17 = some ⟨oc17, od17, .func (PySem.W.fnOf "law" "law" (defArgs s_law) (defBody s_law) (defScope s_law) .none kV17 dc17 pm17 an17 cd17 ct17), sl17⟩) (c17 : PySem.W.codeIn K cd17 "law" = true) (k17 : PySem.W.keepIn K (.ref f17) = true)
    (z_abs : PySem.W.nsIn K mainGlobals "abs" = some none)
    (z_bool : PySem.W.nsIn K mainGlobals "bool" = some none)
    (z_int : PySem.W.nsIn K mainGlobals "int" = some none)
    (z_isinstance : PySem.W.nsIn K mainGlobals "isinstance" = some none)
    (z_len : PySem.W.nsIn K mainGlobals "len" = some none)
    (z_min : PySem.W.nsIn K mainGlobals "min" = some none)
    (z_range : PySem.W.nsIn K mainGlobals "range" = some none)
    (z_tuple : PySem.W.nsIn K mainGlobals "tuple" = some none)
    {kt_FAR : Tok} (kg_FAR : PySem.W.nsIn K mainGlobals "FAR" = some (some (.int ((10 ^ 15)) kt_FAR)))
    {ka_STILL : Addr} {kd_STILL : Option Addr} {ki_STILL : Array Value} {kn_STILL : Nat} {ks_STILL : Array (Option Value)} (kg_STILL : PySem.W.nsIn K mainGlobals "STILL" = some (some (.ref ka_STILL))) (kl_STILL : K.lookup ka_STILL = some ⟨.type "tuple", kd_STILL, .seq ki_STILL kn_STILL, ks_STILL⟩) (kx_STILL : absAll ki_STILL.toList = some [.int 0, .int 0, .int 0])
    : ∃ fd : FuncData, (∀ (s : Shared) (v : Value), BindsTo s fd ⟨[v], []⟩ [("script", v)]) ∧ ∀ base : Heap, K.In base → base.Ns mainGlobals mg → FnOk l.prog w K mg base CX0 5 fa fd ["script"] (liftF K ex0 [0] 1 w_law) := by
  have e : f17 = fa := by
    have e := hfa.symm.trans (PySem.W.mg_of X G a17)
    cases e; rfl
  subst e
  have F0 := fun_mk (st := s_is_between) l0 c0 k0
  have b0 := F0.binds (ps := ["value", "low", "high"]) fun _ _ _ _ _ _ us hl => match us, hl with | [_, _, _], _ => rfl
  have F1 := fun_mk (st := s_is_integer) l1 c1 k1
  have b1 := F1.binds (ps := ["value"]) fun _ _ _ _ _ _ us hl => match us, hl with | [_], _ => rfl
  have F2 := fun_mk (st := s_is_motion) l2 c2 k2
  have b2 := F2.binds (ps := ["value"]) fun _ _ _ _ _ _ us hl => match us, hl with | [_], _ => rfl
  have F3 := fun_mk (st := s_need_motion) l3 c3 k3
  have b3 := F3.binds (ps := ["motion"]) fun _ _ _ _ _ _ us hl => match us, hl with | [_], _ => rfl
  have F4 := fun_mk (st := s_need_number) l4 c4 k4
  have b4 := F4.binds (ps := ["number", "low", "high"]) fun _ _ _ _ _ _ us hl => match us, hl with | [_, _, _], _ => rfl
  have F5 := fun_mk (st := s_behind) l5 c5 k5
  have b5 := F5.binds (ps := ["one", "other"]) fun _ _ _ _ _ _ us hl => match us, hl with | [_, _], _ => rfl
  have F6 := fun_mk (st := s_back) l6 c6 k6
  have b6 := F6.binds (ps := ["motion"]) fun _ _ _ _ _ _ us hl => match us, hl with | [_], _ => rfl
  have F7 := fun_mk (st := s_done) l7 c7 k7
  have b7 := F7.binds (ps := ["one", "other"]) fun _ _ _ _ _ _ us hl => match us, hl with | [_, _], _ => rfl
  have F8 := fun_mk (st := s_undone) l8 c8 k8
  have b8 := F8.binds (ps := ["motion"]) fun _ _ _ _ _ _ us hl => match us, hl with | [_], _ => rfl
  have F9 := fun_mk (st := s_repeated) l9 c9 k9
  have b9 := F9.binds (ps := ["motion", "times"]) fun _ _ _ _ _ _ us hl => match us, hl with | [_, _], _ => rfl
  have F10 := fun_mk (st := s_turns_round) l10 c10 k10
  have b10 := F10.binds (ps := ["motion"]) fun _ _ _ _ _ _ us hl => match us, hl with | [_], _ => rfl
  have F11 := fun_mk (st := s_law_source) l11 c11 k11
  have b11 := F11.binds (ps := ["script", "index"]) fun _ _ _ _ _ _ us hl => match us, hl with | [_, _], _ => rfl
  have F12 := fun_mk (st := s_law_draw) l12 c12 k12
  have b12 := F12.binds (ps := ["source", "size"]) fun _ _ _ _ _ _ us hl => match us, hl with | [_, _], _ => rfl
  have F13 := fun_mk (st := s_law_choice) l13 c13 k13
  have b13 := F13.binds (ps := ["source", "items"]) fun _ _ _ _ _ _ us hl => match us, hl with | [_, _], _ => rfl
  have F14 := fun_mk (st := s_law_motion) l14 c14 k14
  have b14 := F14.binds (ps := ["source", "most"]) fun _ _ _ _ _ _ us hl => match us, hl with | [_, _], _ => rfl
  have F15 := fun_mk (st := s_law_done) l15 c15 k15
  have b15 := F15.binds (ps := ["one", "other"]) fun _ _ _ _ _ _ us hl => match us, hl with | [_, _], _ => rfl
  have F16 := fun_mk (st := s_law_back) l16 c16 k16
  have b16 := F16.binds (ps := ["motion"]) fun _ _ _ _ _ _ us hl => match us, hl with | [_], _ => rfl
  have F17 := fun_mk (st := s_law) l17 c17 k17
  have b17 := F17.binds (ps := ["script"]) fun _ _ _ _ _ _ us hl => match us, hl with | [_], _ => rfl
  let T : Tx K mg := {
    f_is_between := f0, d_is_between := _, F_is_between := F0, b_is_between := b0, m_is_between := PySem.W.mg_of X G a0
    f_is_integer := f1, d_is_integer := _, F_is_integer := F1, b_is_integer := b1, m_is_integer := PySem.W.mg_of X G a1
    f_is_motion := f2, d_is_motion := _, F_is_motion := F2, b_is_motion := b2, m_is_motion := PySem.W.mg_of X G a2
    f_need_motion := f3, d_need_motion := _, F_need_motion := F3, b_need_motion := b3, m_need_motion := PySem.W.mg_of X G a3
    f_need_number := f4, d_need_number := _, F_need_number := F4, b_need_number := b4, m_need_number := PySem.W.mg_of X G a4
    f_behind := f5, d_behind := _, F_behind := F5, b_behind := b5, m_behind := PySem.W.mg_of X G a5
    f_back := f6, d_back := _, F_back := F6, b_back := b6, m_back := PySem.W.mg_of X G a6
    f_done := f7, d_done := _, F_done := F7, b_done := b7, m_done := PySem.W.mg_of X G a7
    f_undone := f8, d_undone := _, F_undone := F8, b_undone := b8, m_undone := PySem.W.mg_of X G a8
    f_repeated := f9, d_repeated := _, F_repeated := F9, b_repeated := b9, m_repeated := PySem.W.mg_of X G a9
    f_turns_round := f10, d_turns_round := _, F_turns_round := F10, b_turns_round := b10, m_turns_round := PySem.W.mg_of X G a10
    f_law_source := f11, d_law_source := _, F_law_source := F11, b_law_source := b11, m_law_source := PySem.W.mg_of X G a11
    f_law_draw := f12, d_law_draw := _, F_law_draw := F12, b_law_draw := b12, m_law_draw := PySem.W.mg_of X G a12
    f_law_choice := f13, d_law_choice := _, F_law_choice := F13, b_law_choice := b13, m_law_choice := PySem.W.mg_of X G a13
    f_law_motion := f14, d_law_motion := _, F_law_motion := F14, b_law_motion := b14, m_law_motion := PySem.W.mg_of X G a14
    f_law_done := f15, d_law_done := _, F_law_done := F15, b_law_done := b15, m_law_done := PySem.W.mg_of X G a15
    f_law_back := f16, d_law_back := _, F_law_back := F16, b_law_back := b16, m_law_back := PySem.W.mg_of X G a16
    f_law := f17, d_law := _, F_law := F17, b_law := b17, m_law := PySem.W.mg_of X G a17
    n_abs := PySem.W.mg_none_of X G z_abs
    n_bool := PySem.W.mg_none_of X G z_bool
    n_int := PySem.W.mg_none_of X G z_int
    n_isinstance := PySem.W.mg_none_of X G z_isinstance
    n_len := PySem.W.mg_none_of X G z_len
    n_min := PySem.W.mg_none_of X G z_min
    n_range := PySem.W.mg_none_of X G z_range
    n_tuple := PySem.W.mg_none_of X G z_tuple
    kv_FAR := ⟨.int _, _, PySem.W.mg_of X G kg_FAR, ⟨_, rfl⟩, fun F => rfl⟩
    kv_STILL := ⟨.ref ka_STILL, _, PySem.W.mg_of X G kg_STILL, rfl, fun F => ⟨ka_STILL, _, rfl, sqT_of kl_STILL kx_STILL (by decide), by simp [RpAll, Rp]⟩⟩
  }
  exact ⟨_, fun s v => .of_eq rfl, fun base _ _ => ok_law T⟩
end Bd

set_option Elab.async false
set_option linter.all false
set_option maxRecDepth 100000
set_option maxHeartbeats 4000000
namespace Bd
open PySem PySem.Spec L2
local macro_rules | `(tactic| walk_at "ev") => `(tactic| simp only [dDef, dSeq, dIfS, dTst, dOp, dIxV, dC, dVar, dCB, dPut, dSet, dSetV, dRet, dRetV, dRetN, dDrop, dApp, dUn, dIf, dAnd, dOr, dNot, dAndV, dOrV, dNotV, dChain, dIsi, dTup, dLst, dLstV, dArgs, dFz, dD, dCall, dCallV, dCallW, dMix, dLenS, dIxS, dSl, dNoP, dP, dPar2, dPar3, dUnp, gT, gNs, dNext, dRaise, dSq, dRng1, dRng2, R.bnd, R.thn, isArg, ownS, fAdd, fSub, fMul, fDiv, fMod, fPow, fNeg, fEq_int, fNe_int, fEq_str, fNe_str, fLt, fLe, fGt, fGe, fIx_l, fIx_t, fIs, fIsNot, cInt, cAbs, cLen, cMin2, cMax2, cList, cTuple, isI, List.cons_append, List.nil_append, List.length_cons, List.length_nil, List.replicate, List.getElem?_cons_zero, List.getElem?_cons_succ, List.getElem?_nil, List.set_cons_zero, List.set_cons_succ, List.map_cons, List.map_nil, List.take_succ_cons, List.take_zero, List.take_nil, if_true, if_false, Bool.true_eq_false, Bool.false_eq_true, decide_eq_true_eq, Nat.add_sub_cancel, Nat.reduceAdd, Nat.reduceSub, reduceIte, atI0, atI1, atI2, atI3, ixN0, ixN1, Bool.and_true, Bool.true_and, and_true, true_and, and_self, not_true, not_false, decide_true, decide_false, Bool.not_true, Bool.not_false, eq_self, seen_by_con, con_f, con_w, bi_eq1, bi_eq0, done_eq, undone_eq, carried_eq, is_motion_eq, need_motion_eq, need_cell_eq, behind_eq, back_eq, carry_eq, seen_con, law_done_eq, law_back_eq, Mo.fNe, Mo.fEq, Ce.fNe, Ce.fEq, ixf, ixs, ixw, ixc, ixd, ce_fold, mo_fold, mo_one, wipeE, backE, dYes, Int.zero_add, fNe_bool, fEq_bool, sm_n0, sm_n1, sm_n2, sm_n3, sm_n4, sm_n5, sm_n6, sm_n7, sm_n8, sm_n9, sm_n10, sm_n11, sm_n12, sm_n13, sm_n14, sm_n15, sm_n16, sm_n20, sm_n24, sm_n30, sm_n40, sm_n50, sm_n60, sm_n100, sm_n7919, *])
local macro_rules | `(tactic| walk_at "st") => `(tactic| (refine seq_step (by (walk_at "ev"); rfl) ?_))
theorem turns_round_eq (m : Mo) : w_turns_round [.d m.e] = .ok (.d (.int (trn m))) [.d m.e] := by
  have e2 : fEq m.e k_STILL = some (.bool (decide (m = Mo.one))) := Mo.fEq m Mo.one
  unfold w_turns_round b_turns_round
  by_cases h : m = Mo.one
  · have e3 : trn m = 1 := by unfold trn; rw [if_pos h]
    rw [e3]
    subst h
    walk_at "ev"
  · cases hf : m.f with
    | true =>
      have e3 : trn m = 2 := by unfold trn; rw [if_neg h, hf]; rfl
      rw [e3]
      walk_at "ev"
    | false =>
      by_cases hs : m.s = 0
      · have e3 : trn m = 2 := by unfold trn; rw [if_neg h, hf, hs]; rfl
        rw [e3]
        walk_at "ev"
      · have e3 : trn m = 0 := by unfold trn; rw [if_neg h, hf, decide_eq_false hs]; rfl
        rw [e3]
        walk_at "ev"
theorem far_eq : k_FAR = .int 1000000000000000 := by
  unfold k_FAR
  congr 1
theorem need_number_eq {x a b : Int} (h1 : a ≤ x) (h2 : x ≤ b) : w_need_number [.d (.int x), .d (.int a), .d (.int b)] = .ok (.d .none) [.d (.int x), .d (.int a), .d (.int b)] := by
  have e : w_is_between [.d (.int x), .d (.int a), .d (.int b)] = .ok (.d (.bool true)) [.d (.int x), .d (.int a), .d (.int b)] := by
    unfold w_is_between b_is_between
    walk_at "ev"
  unfold w_need_number b_need_number
  walk_at "ev"
theorem rep_w (w : Bool) (n : Int) : bi w * n % 2 = bi (w && odd n) := by
  cases w
  · simp [bi]
  · unfold odd
    rcases Int.emod_two_eq n with h | h <;> simp [bi, h]
theorem repeated_eq (m : Mo) (n : Int) (h1 : -1000000000000000 ≤ n) (h2 : n ≤ 1000000000000000) (hs : sm m.s = true) : w_repeated [.d m.e, .d (.int n)] = .ok (.d (m.rep n).e) [.d m.e, .d (.int n)] := by
  have e1 := need_number_eq h1 h2
  have e2 := far_eq
  have e3 : k_STILL = Mo.one.e := rfl
  have g1 : sm n = true := sm_of (by omega) (by omega)
  have g2 : sm (bi m.w) = true := by cases m.w <;> rfl
  have q : (0 : Int) < 2 := by decide
  have e4 := rep_w m.w n
  unfold w_repeated b_repeated
  cases hf : m.f with
  | true =>
    by_cases ho : n % 2 = 1
    · have e5 : m.rep n = m := by
        obtain ⟨f, s, w⟩ := m
        cases hf
        simp [Mo.rep, odd, ho]
      walk_at "ev"
    · have e5 : m.rep n = Mo.one := by
        obtain ⟨f, s, w⟩ := m
        cases hf
        simp [Mo.rep, odd, ho, Mo.one]
      walk_at "ev"
  | false =>
    have e5 : Mo.e ⟨false, m.s * n, m.w && odd n⟩ = (m.rep n).e := by
      obtain ⟨f, s, w⟩ := m
      cases hf
      simp [Mo.rep]
    have e6 : ∀ x k, PyData.tuple [.int 0, .int x, .int (bi k)] = Mo.e ⟨false, x, k⟩ := fun _ _ => rfl
    walk_at "ev"
theorem law_true (ns : List Int) (hl : ns.length ≤ 63) : ∃ as, w_law [.s ns] = .ok (.d (.bool true)) as := by
  refine law_shell (n := 8) hl (by decide) (by decide) ?_ (fun r hr => ⟨_, rfl⟩)
  intro ρ h0
  refine turns (n := 7) (c := 4) (by decide) (by decide) ?_ h0 fun _ h => h
  intro j x a b r hr hs
  match r, hr with
  | [b4, b5, b6, b7, b8, b9, b10], _ =>
  obtain ⟨mo, c, d, em, hm, hs1⟩ := choice_ok (ds := [.int 2, .int 30]) hs (by decide) (by decide)
  obtain ⟨most, rfl, hb0, hb1⟩ : ∃ m : Int, mo = .int m ∧ 0 ≤ m ∧ m ≤ 30 := by
    simp only [List.mem_cons, List.not_mem_nil, or_false] at hm
    rcases hm with rfl | rfl <;> exact ⟨_, rfl, by decide, by decide⟩
  obtain ⟨m, c1, d1, e1, hm1, hm2, hs2⟩ := motionM_ok (most := most) hs1 hb0 (by omega)
  walk_at "st"
  clear em e1 hs1 hs
  have hsm : sm m.s = true := sm_of (by omega) (by omega)
  refine goes_seq (goes_rng (fun i ρ => ∃ (x6 : Sl), ρ = [.s ns, x, .l [.int c1, .int d1], .d (.int j), .d m.e, .d (m.rep (i : Int)).e, x6, b7, b8, b9, b10]) (lo := 0) (n := 9) rfl ⟨_, by rw [show ((0 : Nat) : Int) = 0 from rfl, Mo.rep_zero]⟩ ?_ ?_)
  · rintro i ρ hi ⟨x6, rfl⟩
    refine ⟨_, rfl, ?_⟩
    have q1 := repeated_eq m (i : Int) (by omega) (by omega) hsm
    have q2 := repeated_eq m (-(i : Int)) (by omega) (by omega) hsm
    have q3 := Mo.rep_neg m i
    have q4 := Mo.rep_succ m i
    have q5 : (0 : Int) + i = i := by omega
    have q6 : ((i + 1 : Nat) : Int) = i + 1 := rfl
    walk_at "st"
    refine end_step (by (walk_at "ev"); rfl) ?_
    exact ⟨_, rfl⟩
  rintro ρ ⟨x6, rfl⟩
  obtain ⟨u, c2, d2, eu, hu0, hu1, hs3⟩ := draw_ok (n := 100000000000000) hs2 (by decide) (by decide)
  obtain ⟨v, c3, d3, ev, hv0, hv1, hs4⟩ := draw_ok (n := 100000000000000) hs3 (by decide) (by decide)
  have p3 : (10 : Int) ^ (Int.toNat 14) = 100000000000000 := by decide
  have p2 : (0 : Int) ≤ 14 ∧ (14 : Int) ≤ 1000000 ∧ Int.natAbs 10 < 2 ^ 64 := by decide
  walk_at "st"
  clear eu ev p3 p2 hs2 hs3
  have q1 := repeated_eq m u (by omega) (by omega) hsm
  have q2 := repeated_eq m v (by omega) (by omega) hsm
  have q3 := repeated_eq m (u + v) (by omega) (by omega) hsm
  have q4 := Mo.rep_add m u v
  walk_at "st"
  clear q3 q4
  have q3 := repeated_eq m (u - v) (by omega) (by omega) hsm
  have q4 := Mo.rep_sub m u v
  walk_at "st"
  clear q3 q4 q2
  obtain ⟨k, c5, d5, ek, hk0, hk1, hs5⟩ := draw_ok (n := 9) hs4 (by decide) (by decide)
  walk_at "st"
  clear ek hs4
  have g1 : sm u = true := sm_of (by omega) (by omega)
  have g2 : sm k = true := sm_of (by omega) (by omega)
  have hmul : 0 ≤ u * k ∧ u * k ≤ 1000000000000000 := by
    constructor
    · exact Int.mul_nonneg hu0 hk0
    · have : u * k ≤ 100000000000000 * 9 := Int.mul_le_mul (by omega) (by omega) hk0 (by omega)
      omega
  have hsr : sm (m.rep u).s = true := by
    have : -(30 * 100000000000000) ≤ (m.rep u).s ∧ (m.rep u).s ≤ 30 * 100000000000000 := by
      unfold Mo.rep
      cases m.f
      · simp only [Bool.false_eq_true, if_false]
        have h1 : m.s.natAbs ≤ 30 := by omega
        have h2 : u.natAbs ≤ 100000000000000 := by omega
        have h3 : (m.s * u).natAbs ≤ 30 * 100000000000000 := by
          rw [Int.natAbs_mul]
          exact Nat.mul_le_mul h1 h2
        omega
      · cases odd u <;> simp <;> omega
    exact sm_of (by omega) (by omega)
  have q2 := repeated_eq (m.rep u) k (by omega) (by omega) hsr
  have q3 := repeated_eq m (u * k) (by omega) (by omega) hsm
  have q4 := Mo.rep_rep m u k
  walk_at "st"
  clear q1 q2 q3 q4 hsr hmul
  have q1 := turns_round_eq m
  walk_at "st"
  clear q1
  have ht : (trn m = 1 ∧ m = Mo.one) ∨ (trn m = 2 ∧ m ≠ Mo.one ∧ m.rep 2 = Mo.one) ∨ (trn m = 0 ∧ m ≠ Mo.one) := by
    have h2 := trn_rep m
    by_cases h : m = Mo.one
    · exact .inl ⟨by unfold trn; rw [if_pos h], h⟩
    · by_cases h' : (m.f || decide (m.s = 0)) = true
      · have h3 : trn m = 2 := by unfold trn; rw [if_neg h, if_pos h']
        rw [h3] at h2
        exact .inr (.inl ⟨h3, h, h2⟩)
      · exact .inr (.inr ⟨by unfold trn; rw [if_neg h, if_neg h'], h⟩)
  have i0 : fNotIn (.int 0) (.list [.int 0, .int 1, .int 2]) = some (.bool false) := rfl
  have i1 : fNotIn (.int 1) (.list [.int 0, .int 1, .int 2]) = some (.bool false) := rfl
  have i2 : fNotIn (.int 2) (.list [.int 0, .int 1, .int 2]) = some (.bool false) := rfl
  have z1 : ((0 : Int) = 1) = False := by decide
  have z2 : ((2 : Int) = 1) = False := by decide
  have z3 : ((1 : Int) = 0) = False := by decide
  have z4 : ((2 : Int) = 0) = False := by decide
  have z5 : ((1 : Int) = 2) = False := by decide
  have z6 : ((0 : Int) = 2) = False := by decide
  have z7 : (0 : Int) < 1 := by decide
  have z8 : (0 : Int) < 2 := by decide
  have z9 : ((0 : Int) < 0) = False := by decide
  rcases ht with ⟨t, hm0⟩ | ⟨t, hm0, hm3⟩ | ⟨t, hm0⟩
  · have q2 := repeated_eq m 1 (by omega) (by omega) hsm
    have q3 := Mo.rep_one m
    rw [t]
    subst hm0
    clear hsm hm1 hm2 t
    walk_at "st"
    walk_at "st"
    walk_at "st"
    refine end_step (by (walk_at "ev"); rfl) ?_
    exact ⟨_, _, _, _, rfl, hs5, rfl⟩
  · have q2 := repeated_eq m 2 (by omega) (by omega) hsm
    rw [t]
    clear hsm hm1 hm2 t
    walk_at "st"
    walk_at "st"
    walk_at "st"
    refine end_step (by (walk_at "ev"); rfl) ?_
    exact ⟨_, _, _, _, rfl, hs5, rfl⟩
  · rw [t]
    walk_at "st"
    walk_at "st"
    obtain ⟨ρ', elc, hlc⟩ := lc_map (vs := [6]) (ti := dRng2 (dC (.int 1)) (dC (.int 6))) (g := gN 6) (te := dFz (dCall w_repeated [(dVar 4), (dVar 6)])) (ρ := [.s ns, x, .l [.int c5, .int d5], .d (.int j), .d m.e, .d (m.rep (9 : Nat)).e, x6, .d (.int u), .d (.int v), .d (.int k), .d (.int 0)]) (ds := rangeD 1 5)
      (fun ρ => ∃ x6, ρ = [.s ns, x, .l [.int c5, .int d5], .d (.int j), .d m.e, .d (m.rep (9 : Nat)).e, x6, .d (.int u), .d (.int v), .d (.int k), .d (.int 0)])
      (fun d => match d with | .int i => (m.rep i).e | d => d) rfl ⟨_, rfl⟩ (by decide) (by
        rintro d hd ρ ⟨x6, rfl⟩
        obtain ⟨i, hi, rfl⟩ := mem_range hd
        have q1 := repeated_eq m (1 + (i : Int)) (by omega) (by omega) hsm
        exact ⟨_, _, rfl, by walk_at "ev"; rfl, _, rfl⟩)
    obtain ⟨y6, rfl⟩ := hlc
    have ex : (rangeD 1 5).map (fun d => match d with | .int i => (m.rep i).e | d => d) = [(m.rep 1).e, (m.rep 2).e, (m.rep 3).e, (m.rep 4).e, (m.rep 5).e] := rfl
    rw [ex] at elc
    have ein : fIn Mo.one.e (.list [(m.rep 1).e, (m.rep 2).e, (m.rep 3).e, (m.rep 4).e, (m.rep 5).e]) = some (.bool false) := by
      have h1 := rep_ne m 1 t (by decide)
      have h2 := rep_ne m 2 t (by decide)
      have h3 := rep_ne m 3 t (by decide)
      have h4 := rep_ne m 4 t (by decide)
      have h5 := rep_ne m 5 t (by decide)
      have : fIn Mo.one.e (.list [(m.rep 1).e, (m.rep 2).e, (m.rep 3).e, (m.rep 4).e, (m.rep 5).e]) = some (.bool (memD Mo.one.e [(m.rep 1).e, (m.rep 2).e, (m.rep 3).e, (m.rep 4).e, (m.rep 5).e])) := rfl
      rw [this]
      simp [memD, Mo.eqv, h1, h2, h3, h4, h5]
    walk_at "st"
    refine end_step (by (walk_at "ev"); rfl) ?_
    exact ⟨_, _, _, _, rfl, hs5, rfl⟩

end Bd
open PySem PySem.W PyProof.Rows
set_option maxRecDepth 100000 in
set_option maxHeartbeats 0 in
theorem PySem.Challenge.cw_bandmotions_k03_whole_motions_again_and_holds : PySem.Challenge.rw_bandmotions_k03_whole_motions_again_and.Holds := by
  w_on; o_law; k_head; (case hw => w_witness2)
  k_fill
  refine L2.walk_of (l := PySem.Challenge.rw_bandmotions_k03_whole_motions_again_and) (n := 63) (k := 5) (x := "script") (CX := fun _ => L2.CX0) (sp := fun w => Bd.liftF _ Bd.ex0 [0] 1 Bd.w_law) rfl (by decide) rfl ⟨rfl, by decide, by decide⟩ (fun w h Y => PySem.W.kIn_of Y) ?F (fun w H a ns hl _ hS => Bd.law_end hS (Bd.law_true ns hl)) (fun _ _ _ _ _ h => h)
  case F =>
    intro w mg fa h KX G hmg
    refine' Bd.all_mk KX G hmg ?a0 ?l0 ?c0 ?k0 ?a1 ?l1 ?c1 ?k1 ?a2 ?l2 ?c2 ?k2 ?a3 ?l3 ?c3 ?k3 ?a4 ?l4 ?c4 ?k4 ?a5 ?l5 ?c5 ?k5 ?a6 ?l6 ?c6 ?k6 ?a7 ?l7 ?c7 ?k7 ?a8 ?l8 ?c8 ?k8 ?a9 ?l9 ?c9 ?k9 ?a10 ?l10 ?c10 ?k10 ?a11 ?l11 ?c11 ?k11 ?a12 ?l12 ?c12 ?k12 ?a13 ?l13 ?c13 ?k13 ?a14 ?l14 ?c14 ?k14 ?a15 ?l15 ?c15 ?k15 ?a16 ?l16 ?c16 ?k16 ?a17 ?l17 ?c17 ?k17 ?z_abs ?z_bool ?z_int ?z_isinstance ?z_len ?z_min ?z_range ?z_tuple ?kg_FAR ?kg_STILL ?kl_STILL ?kx_STILL
    (case a0 => k_is); (case l0 => k_is); (case c0 => k_is); (case k0 => k_is); (case a1 => k_is); (case l1 => k_is)
    (case c1 => k_is); (case k1 => k_is); (case a2 => k_is); (case l2 => k_is); (case c2 => k_is); (case k2 => k_is)
    (case a3 => k_is); (case l3 => k_is); (case c3 => k_is); (case k3 => k_is); (case a4 => k_is); (case l4 => k_is)
    (case c4 => k_is); (case k4 => k_is); (case a5 => k_is); (case l5 => k_is); (case c5 => k_is); (case k5 => k_is)
    (case a6 => k_is); (case l6 => k_is); (case c6 => k_is); (case k6 => k_is); (case a7 => k_is); (case l7 => k_is)
    (case c7 => k_is); (case k7 => k_is); (case a8 => k_is); (case l8 => k_is); (case c8 => k_is); (case k8 => k_is)
    (case a9 => k_is); (case l9 => k_is); (case c9 => k_is); (case k9 => k_is); (case a10 => k_is); (case l10 => k_is)
    (case c10 => k_is); (case k10 => k_is); (case a11 => k_is); (case l11 => k_is); (case c11 => k_is); (case k11 => k_is)
    (case a12 => k_is); (case l12 => k_is); (case c12 => k_is); (case k12 => k_is); (case a13 => k_is); (case l13 => k_is)
    (case c13 => k_is); (case k13 => k_is); (case a14 => k_is); (case l14 => k_is); (case c14 => k_is); (case k14 => k_is)
    (case a15 => k_is); (case l15 => k_is); (case c15 => k_is); (case k15 => k_is); (case a16 => k_is); (case l16 => k_is)
    (case c16 => k_is); (case k16 => k_is); (case a17 => k_is); (case l17 => k_is); (case c17 => k_is); (case k17 => k_is)
    (case z_abs => k_is); (case z_bool => k_is); (case z_int => k_is); (case z_isinstance => k_is); (case z_len => k_is); (case z_min => k_is)
    (case z_range => k_is); (case z_tuple => k_is); (case kg_FAR => k_is); (case kg_STILL => k_is); (case kl_STILL => k_is); (case kx_STILL => rfl)
#print axioms PySem.Challenge.cw_bandmotions_k03_whole_motions_again_and_holds
