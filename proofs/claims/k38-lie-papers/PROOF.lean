import PyProof.Rows.All
import Wide.All
import OpenK.AllK
import Wide.FinOn
import HandS.ForMost
import HandS.Gcd
import HandS.Wide
import HandS.WideBits
import HandS.Style
import HandS.Walk
import PySem.Challenge.RW_talkmost_k38_whole_lie_papers_bound_lies
set_option Elab.async false
set_option linter.all false
set_option maxRecDepth 100000
set_option maxHeartbeats 2000000
namespace Tm
open PySem L2

/-! ### heaps: F the part that no longer changes, H the whole -/
theorem sameT {K : PySem.W.Frag} {H H' : Hp} {a : Addr} {xs : List V} (e : Same H H') (h : SqT K H a xs) : SqT K H' a xs := by
  rcases h with (h | ⟨o, h⟩) | h
  · exact .inl (.inl (e _ _ h))
  · exact .inl (.inr ⟨o, e _ _ h⟩)
  · exact .inr h
theorem same_new {H : Hp} {p : Addr} {o : HO} (h : H p = none) : Same H (upd H p o) := fun b x e => by
  rw [upd_ne (ne_of_none e h)]
  exact e
structure Ext (F H F' H' : Hp) : Prop where
  ff : Same F F'
  fh : Same F' H'
  hh : Same H H'
  fr : ∀ b o, F b = none → H b = some o → F' b = none
theorem Ext.refl {F H : Hp} (s : Same F H) : Ext F H F H := ⟨Same.refl _, s, Same.refl _, fun b o h _ => h⟩
theorem Ext.trans {F H F1 H1 F2 H2 : Hp} (a : Ext F H F1 H1) (b : Ext F1 H1 F2 H2) : Ext F H F2 H2 :=
  ⟨a.ff.trans b.ff, b.fh, a.hh.trans b.hh, fun x o h k => b.fr x o (a.fr x o h k) (a.hh _ _ k)⟩
theorem Ext.new {F H : Hp} {p : Addr} {o : HO} (s : Same F H) (hp : H p = none) : Ext F H (upd F p o) (upd H p o) := by
  have fp : F p = none := s.free hp
  refine ⟨same_new fp, fun b u e => ?_, same_new hp, fun b u h k => ?_⟩
  · by_cases q : b = p
    · subst q
      rw [upd_same] at e ⊢
      exact e
    · rw [upd_ne q] at e ⊢
      exact s _ _ e
  · rw [upd_ne (ne_of_none k hp)]
    exact h
/-- new, not yet frozen -/
theorem Ext.raw {F H : Hp} {p : Addr} {o : HO} (s : Same F H) (hp : H p = none) : Ext F H F (upd H p o) :=
  ⟨Same.refl _, s.trans (same_new hp), same_new hp, fun b u h k => h⟩
/-- an object that is not frozen is changed: seen from an earlier state in which it was not -/
theorem Ext.mut {F0 H0 F H : Hp} {p : Addr} {o : HO} (e : Ext F0 H0 F H) (fp : F p = none) (hp : H0 p = none) : Ext F0 H0 F (upd H p o) := by
  refine ⟨e.ff, fun b u h => ?_, fun b u h => ?_, e.fr⟩
  · rw [upd_ne (ne_of_none h fp)]
    exact e.fh _ _ h
  · rw [upd_ne (ne_of_none h hp)]
    exact e.hh _ _ h
/-- an object that stands is frozen -/
theorem Ext.freeze {F0 H0 F H : Hp} {p : Addr} {o : HO} (e : Ext F0 H0 F H) (s0 : Same F0 H0) (h : H p = some o) (fp : F p = none) (hp : H0 p = none) : Ext F0 H0 (upd F p o) H := by
  refine ⟨e.ff.trans (same_new fp), fun b u k => ?_, e.hh, fun b u k l => ?_⟩
  · by_cases q : b = p
    · subst q
      rw [upd_same] at k
      rw [h]
      exact k
    · rw [upd_ne q] at k
      exact e.fh _ _ k
  · rw [upd_ne (ne_of_none l hp)]
    exact e.fr _ _ k l

/-! ### data -/
class Py (α : Type) where
  rep : PySem.W.Frag → Hp → V → α → Prop
  mono : ∀ {K : PySem.W.Frag} {F F' : Hp} {v : V} {d : α}, Same F F' → rep K F v d → rep K F' v d
def Reps {α : Type} [Py α] (K : PySem.W.Frag) (F : Hp) (vs : List V) (xs : List α) : Prop :=
  vs.length = xs.length ∧ ∀ (i : Nat) (v : V) (x : α), vs[i]? = some v → xs[i]? = some x → Py.rep K F v x
theorem Reps.mono {α : Type} [Py α] {K : PySem.W.Frag} {F F' : Hp} {vs : List V} {xs : List α} (s : Same F F') (h : Reps K F vs xs) : Reps K F' vs xs :=
  ⟨h.1, fun i v x a b => Py.mono s (h.2 i v x a b)⟩
theorem Reps.nil {α : Type} [Py α] {K : PySem.W.Frag} {F : Hp} : Reps K F [] ([] : List α) := ⟨rfl, fun i v x a => by simp at a⟩
theorem Reps.snoc {α : Type} [Py α] {K : PySem.W.Frag} {F : Hp} {vs : List V} {xs : List α} {v : V} {x : α} (h : Reps K F vs xs) (r : Py.rep K F v x) : Reps K F (vs ++ [v]) (xs ++ [x]) := by
  refine ⟨by simp [h.1], fun i w y a b => ?_⟩
  by_cases q : i < vs.length
  · rw [List.getElem?_append_left q] at a
    rw [List.getElem?_append_left (by rw [← h.1]; exact q)] at b
    exact h.2 i w y a b
  · have e : i = vs.length := by
      have l := (List.getElem?_eq_some_iff.mp a).1
      simp at l
      omega
    subst e
    rw [List.getElem?_append_right (Nat.le_refl _)] at a
    rw [List.getElem?_append_right (by rw [h.1]; exact Nat.le_refl _)] at b
    simp at a
    simp [h.1] at b
    rw [← a, ← b]
    exact r
theorem Reps.get {α : Type} [Py α] {K : PySem.W.Frag} {F : Hp} {vs : List V} {xs : List α} {i : Nat} {x : α} (h : Reps K F vs xs) (e : xs[i]? = some x) : ∃ v, vs[i]? = some v ∧ Py.rep K F v x := by
  have l : i < vs.length := by
    rw [h.1]
    exact (List.getElem?_eq_some_iff.mp e).1
  exact ⟨vs[i], List.getElem?_eq_getElem l, h.2 i _ x (List.getElem?_eq_getElem l) e⟩
theorem Reps.set {α : Type} [Py α] {K : PySem.W.Frag} {F : Hp} {vs : List V} {xs : List α} {v : V} {x : α} {j : Nat} (h : Reps K F vs xs) (r : Py.rep K F v x) : Reps K F (vs.set j v) (xs.set j x) := by
  refine ⟨by simp [h.1], fun i w y a b => ?_⟩
  by_cases q : j = i
  · subst q
    have l1 : j < vs.length := by
      have := (List.getElem?_eq_some_iff.mp a).1
      simpa using this
    have l2 : j < xs.length := by
      rw [← h.1]
      exact l1
    rw [List.getElem?_set_self l1] at a
    rw [List.getElem?_set_self l2] at b
    rw [← Option.some.inj a, ← Option.some.inj b]
    exact r
  · rw [List.getElem?_set_ne q] at a b
    exact h.2 i w y a b

instance : Py Int := ⟨fun _ _ v i => v = .int i, fun _ h => h⟩
instance : Py Nat := ⟨fun _ _ v n => v = .int (n : Int), fun _ h => h⟩
instance : Py Bool := ⟨fun _ _ v b => v = .bl b, fun _ h => h⟩
instance : Py Unit := ⟨fun _ _ v _ => v = .non, fun _ h => h⟩
instance : Py Rat := ⟨fun K F v q => ∃ a, v = .ref a ∧ SqT K F a [.int q.num, .int (q.den : Int)], fun s ⟨a, h1, h2⟩ => ⟨a, h1, sameT s h2⟩⟩
instance {α β : Type} [Py α] [Py β] : Py (α × β) := ⟨fun K F v d => ∃ a x y, v = .ref a ∧ SqT K F a [x, y] ∧ Py.rep K F x d.1 ∧ Py.rep K F y d.2,
  fun s ⟨a, x, y, h1, h2, h3, h4⟩ => ⟨a, x, y, h1, sameT s h2, Py.mono s h3, Py.mono s h4⟩⟩
instance {α : Type} [Py α] : Py (List α) := ⟨fun K F v d => ∃ a vs, v = .ref a ∧ SqL K F a vs ∧ Reps K F vs d, fun s ⟨a, vs, h1, h2, h3⟩ => ⟨a, vs, h1, s.seq h2, h3.mono s⟩⟩
instance {α : Type} [Py α] : Py (Option α) := ⟨fun K F v d => match d with
  | none => v = .non
  | some x => v ≠ .non ∧ Py.rep K F v x, fun {K F F' v d} s h => by
    cases d with
    | none => exact h
    | some x => exact ⟨h.1, Py.mono s h.2⟩⟩
/-- a list that was made since Hb -/
structure NL (Hb : Hp) (α : Type) where
  l : List α
instance {Hb : Hp} {α : Type} [Py α] : Py (NL Hb α) := ⟨fun K F v d => ∃ a vs, v = .ref a ∧ F a = some (.lst vs) ∧ Hb a = none ∧ Reps K F vs d.l, fun s ⟨a, vs, h1, h2, h0, h3⟩ => ⟨a, vs, h1, s _ _ h2, h0, h3.mono s⟩⟩
/-- three in a tuple -/
structure T3 (α β γ : Type) where
  x : α
  y : β
  z : γ
instance {α β γ : Type} [Py α] [Py β] [Py γ] : Py (T3 α β γ) := ⟨fun K F v d => ∃ a x y z, v = .ref a ∧ SqT K F a [x, y, z] ∧ Py.rep K F x d.x ∧ Py.rep K F y d.y ∧ Py.rep K F z d.z,
  fun s ⟨a, x, y, z, h1, h2, h3, h4, h5⟩ => ⟨a, x, y, z, h1, sameT s h2, Py.mono s h3, Py.mono s h4, Py.mono s h5⟩⟩
structure T5 (α β γ δ ε : Type) where
  x : α
  y : β
  z : γ
  u : δ
  w : ε
instance {α β γ δ ε : Type} [Py α] [Py β] [Py γ] [Py δ] [Py ε] : Py (T5 α β γ δ ε) := ⟨fun K F v d => ∃ a x y z u w, v = .ref a ∧ SqT K F a [x, y, z, u, w] ∧ Py.rep K F x d.x ∧ Py.rep K F y d.y ∧ Py.rep K F z d.z ∧ Py.rep K F u d.u ∧ Py.rep K F w d.w,
  fun s ⟨a, x, y, z, u, w, h1, h2, h3, h4, h5, h6, h7⟩ => ⟨a, x, y, z, u, w, h1, sameT s h2, Py.mono s h3, Py.mono s h4, Py.mono s h5, Py.mono s h6, Py.mono s h7⟩⟩
/-- a Game -/
structure Gm where
  s : Nat
  ks : List Nat
  as : List Nat
  ws : List (List Rat)
  ps : List (List (List (List Rat)))
structure GmC (K : PySem.W.Frag) (C : Addr) : Prop where
  cl : Cls K C
  nS : NoAttr K C "states"
  nK : NoAttr K C "kinds"
  nA : NoAttr K C "acts"
  nW : NoAttr K C "weights"
  nP : NoAttr K C "pays"
instance : Py Gm := ⟨fun K F v g => ∃ p C dx fs v1 v2 v3 v4 v5, v = .ref p ∧ F p = some (.ins C dx fs) ∧ GmC K C ∧
    (fs.lookup ("states" : Str) = some v1 ∧ Py.rep K F v1 g.s) ∧ (fs.lookup ("kinds" : Str) = some v2 ∧ Py.rep K F v2 g.ks) ∧ (fs.lookup ("acts" : Str) = some v3 ∧ Py.rep K F v3 g.as) ∧
    (fs.lookup ("weights" : Str) = some v4 ∧ Py.rep K F v4 g.ws) ∧ (fs.lookup ("pays" : Str) = some v5 ∧ Py.rep K F v5 g.ps),
  fun s ⟨p, C, dx, fs, v1, v2, v3, v4, v5, h1, h2, h3, ⟨a1, b1⟩, ⟨a2, b2⟩, ⟨a3, b3⟩, ⟨a4, b4⟩, a5, b5⟩ =>
    ⟨p, C, dx, fs, v1, v2, v3, v4, v5, h1, s _ _ h2, h3, ⟨a1, Py.mono s b1⟩, ⟨a2, Py.mono s b2⟩, ⟨a3, Py.mono s b3⟩, ⟨a4, Py.mono s b4⟩, a5, Py.mono s b5⟩⟩

/-! ### the store -/
inductive Slot : Type 1 where
  | any
  | dat {α : Type} [inst : Py α] (d : α)
  /-- a list under construction -/
  | own {α : Type} [inst : Py α] (xs : List α)
def Slot.isOwn : Slot → Bool
  | @Slot.own _ _ _ => true
  | _ => false
def Slot.ok (K : PySem.W.Frag) (H0 F H : Hp) : Slot → Option V → Prop
  | .any, _ => True
  | @Slot.dat _ _ d, o => ∃ v, o = some v ∧ Py.rep K F v d
  | @Slot.own _ _ xs, o => ∃ a vs, o = some (.ref a) ∧ H a = some (.lst vs) ∧ F a = none ∧ H0 a = none ∧ Reps K F vs xs
/-- the entry's heaps, and a frozen part known since -/
structure En where
  F0 : Hp
  H0 : Hp
  Fb : Hp
structure Stt (K : PySem.W.Frag) (E : En) (F H : Hp) (σ : St) (Γ : List Slot) : Prop where
  s0 : Same E.F0 E.H0
  ext : Ext E.F0 E.H0 F H
  bs : Same E.Fb F
  len : σ.length = Γ.length
  ok : ∀ (i : Nat) (s : Slot), Γ[i]? = some s → ∃ o, σ[i]? = some o ∧ s.ok K E.H0 F H o
  sep : ∀ (i j : Nat) (s t : Slot) (a : Addr), i ≠ j → Γ[i]? = some s → Γ[j]? = some t → s.isOwn = true → t.isOwn = true → σ[i]? = some (some (.ref a)) → σ[j]? = some (some (.ref a)) → False
variable {K : PySem.W.Frag} {E : En} {F H F' H' : Hp} {σ : St} {Γ Γ' : List Slot} {α β : Type} [Py α] [Py β]
theorem Slot.ok.mono {s : Slot} {o : Option V} {H0 : Hp} (h : s.ok K H0 F H o) (e : Ext F H F' H') : s.ok K H0 F' H' o := by
  cases s with
  | any => exact trivial
  | dat d =>
    obtain ⟨v, h1, h2⟩ := h
    exact ⟨v, h1, Py.mono e.ff h2⟩
  | own xs =>
    obtain ⟨a, vs, h1, h2, h3, h4, h5⟩ := h
    exact ⟨a, vs, h1, e.hh _ _ h2, e.fr _ _ h3 h2, h4, h5.mono e.ff⟩
theorem Stt.mono (h : Stt K E F H σ Γ) (e : Ext F H F' H') : Stt K E F' H' σ Γ :=
  ⟨h.s0, h.ext.trans e, h.bs.trans e.ff, h.len, fun i s k => let ⟨o, a, b⟩ := h.ok i s k; ⟨o, a, b.mono e⟩, h.sep⟩
theorem Stt.fh (h : Stt K E F H σ Γ) : Same F H := h.ext.fh
theorem Stt.at {i : Nat} {d : α} (h : Stt K E F H σ Γ) (k : Γ[i]? = some (.dat d)) : ∃ v, σ[i]? = some (some v) ∧ Py.rep K F v d := by
  obtain ⟨o, h1, v, rfl, h2⟩ := h.ok i _ k
  exact ⟨v, h1, h2⟩
theorem Stt.atOwn {i : Nat} {xs : List α} (h : Stt K E F H σ Γ) (k : Γ[i]? = some (.own xs)) : ∃ a vs, σ[i]? = some (some (.ref a)) ∧ H a = some (.lst vs) ∧ F a = none ∧ E.H0 a = none ∧ Reps K F vs xs := by
  obtain ⟨o, h1, a, vs, rfl, h2⟩ := h.ok i _ k
  exact ⟨a, vs, h1, h2⟩
theorem Stt.setDat {i : Nat} {v : V} {d : α} (h : Stt K E F H σ Γ) (r : Py.rep K F v d) : Stt K E F H (σ.set i (some v)) (Γ.set i (.dat d)) := by
  refine ⟨h.s0, h.ext, h.bs, by simp [h.len], fun j s k => ?_, fun j l s t a n k1 k2 o1 o2 => ?_⟩
  · by_cases q : i = j
    · subst q
      have l : i < Γ.length := by
        have := (List.getElem?_eq_some_iff.mp k).1
        simpa using this
      rw [List.getElem?_set_self l] at k
      cases k
      exact ⟨some v, List.getElem?_set_self (by rw [h.len]; exact l), v, rfl, r⟩
    · rw [List.getElem?_set_ne q] at k ⊢
      exact h.ok j s k
  · by_cases q : i = j
    · subst q
      have l' : i < Γ.length := by
        have := (List.getElem?_eq_some_iff.mp k1).1
        simpa using this
      rw [List.getElem?_set_self l'] at k1
      cases k1
      exact nomatch o1
    · by_cases q2 : i = l
      · subst q2
        have l' : i < Γ.length := by
          have := (List.getElem?_eq_some_iff.mp k2).1
          simpa using this
        rw [List.getElem?_set_self l'] at k2
        cases k2
        exact nomatch o2
      · rw [List.getElem?_set_ne q] at k1 ⊢
        rw [List.getElem?_set_ne q2] at k2 ⊢
        exact h.sep j l s t a n k1 k2 o1 o2
/-- a slot forgotten (its value what it may) -/
theorem Stt.setAny {i : Nat} {o : Option V} (h : Stt K E F H σ Γ) : Stt K E F H (σ.set i o) (Γ.set i .any) := by
  refine ⟨h.s0, h.ext, h.bs, by simp [h.len], fun j s k => ?_, fun j l s t a n k1 k2 o1 o2 => ?_⟩
  · by_cases q : i = j
    · subst q
      have l : i < Γ.length := by
        have := (List.getElem?_eq_some_iff.mp k).1
        simpa using this
      rw [List.getElem?_set_self l] at k
      cases k
      exact ⟨o, List.getElem?_set_self (by rw [h.len]; exact l), trivial⟩
    · rw [List.getElem?_set_ne q] at k ⊢
      exact h.ok j s k
  · by_cases q : i = j
    · subst q
      have l' : i < Γ.length := by
        have := (List.getElem?_eq_some_iff.mp k1).1
        simpa using this
      rw [List.getElem?_set_self l'] at k1
      cases k1
      exact nomatch o1
    · by_cases q2 : i = l
      · subst q2
        have l' : i < Γ.length := by
          have := (List.getElem?_eq_some_iff.mp k2).1
          simpa using this
        rw [List.getElem?_set_self l'] at k2
        cases k2
        exact nomatch o2
      · rw [List.getElem?_set_ne q] at k1 ⊢
        rw [List.getElem?_set_ne q2] at k2 ⊢
        exact h.sep j l s t a n k1 k2 o1 o2
/-- a new list under construction -/
theorem Stt.setNew {i : Nat} {p : Addr} (h : Stt K E F H σ Γ) (hp : H p = none) : Stt K E F (upd H p (.lst [])) (σ.set i (some (.ref p))) (Γ.set i (.own ([] : List α))) := by
  have e : Ext F H F (upd H p (.lst [])) := Ext.raw h.fh hp
  have g := h.mono e
  have h0 : E.H0 p = none := h.ext.hh.free hp
  refine ⟨h.s0, g.ext, g.bs, by simp [h.len], fun j s k => ?_, fun j l s t a n k1 k2 o1 o2 => ?_⟩
  · by_cases q : i = j
    · subst q
      have l : i < Γ.length := by
        have := (List.getElem?_eq_some_iff.mp k).1
        simpa using this
      rw [List.getElem?_set_self l] at k
      cases k
      exact ⟨_, List.getElem?_set_self (by rw [h.len]; exact l), p, [], rfl, upd_same, h.fh.free hp, h0, Reps.nil⟩
    · rw [List.getElem?_set_ne q] at k ⊢
      exact g.ok j s k
  · have other : ∀ (m : Nat) (s : Slot), i ≠ m → Γ[m]? = some s → s.isOwn = true → σ[m]? = some (some (.ref p)) → False := by
      intro m s nm km om em
      cases s with
      | own xs =>
        obtain ⟨o, e1, b, vs, rfl, e2, _⟩ := h.ok m _ km
        rw [e1] at em
        cases em
        rw [hp] at e2
        cases e2
      | any => exact nomatch om
      | dat d => exact nomatch om
    by_cases q : i = j
    · subst q
      have li : i < Γ.length := by
        have := (List.getElem?_eq_some_iff.mp k1).1
        simpa using this
      rw [List.getElem?_set_self (by rw [h.len]; exact li)]
      intro ea
      cases ea
      rw [List.getElem?_set_ne n] at k2 ⊢
      exact other l t n k2 o2
    · by_cases q2 : i = l
      · subst q2
        have li : i < Γ.length := by
          have := (List.getElem?_eq_some_iff.mp k2).1
          simpa using this
        rw [List.getElem?_set_self (show i < σ.length by rw [h.len]; exact li)]
        rw [List.getElem?_set_ne q] at k1 ⊢
        intro eb ea
        cases ea
        exact other j s q k1 o1 eb
      · rw [List.getElem?_set_ne q] at k1 ⊢
        rw [List.getElem?_set_ne q2] at k2 ⊢
        exact h.sep j l s t a n k1 k2 o1 o2
/-- the list under construction in slot i becomes another -/
theorem Stt.setList {i : Nat} {a : Addr} {xs ys : List α} {ws : List V} (h : Stt K E F H σ Γ) (k : Γ[i]? = some (.own xs)) (ha : σ[i]? = some (some (.ref a))) (r : Reps K F ws ys) : Stt K E F (upd H a (.lst ws)) σ (Γ.set i (.own ys)) := by
  obtain ⟨b, vs, e1, hb, fb, b0, _⟩ := h.atOwn k
  have hab : b = a := by
    rw [e1] at ha
    cases ha
    rfl
  subst hab
  have li : i < Γ.length := (List.getElem?_eq_some_iff.mp k).1
  refine ⟨h.s0, h.ext.mut fb b0, h.bs, by simp [h.len], fun j s kj => ?_, fun j l s t c n k1 k2 o1 o2 => ?_⟩
  · by_cases q : i = j
    · subst q
      rw [List.getElem?_set_self li] at kj
      cases kj
      exact ⟨_, ha, b, ws, rfl, upd_same, fb, b0, r⟩
    · rw [List.getElem?_set_ne q] at kj
      obtain ⟨o, e2, r2⟩ := h.ok j s kj
      refine ⟨o, e2, ?_⟩
      cases s with
      | any => exact trivial
      | dat d => exact r2
      | own zs =>
        obtain ⟨c, us, rfl, hc, fc, c0, r3⟩ := r2
        have ncb : c ≠ b := fun z => by
          subst z
          exact h.sep i j _ _ c q k kj rfl rfl ha e2
        exact ⟨c, us, rfl, by rw [upd_ne ncb]; exact hc, fc, c0, r3⟩
  · have tr : ∀ (m : Nat) (u : Slot), (Γ.set i (.own ys))[m]? = some u → u.isOwn = true → ∃ u' : Slot, Γ[m]? = some u' ∧ u'.isOwn = true := by
      intro m u km om
      by_cases q : i = m
      · subst q
        exact ⟨_, k, rfl⟩
      · rw [List.getElem?_set_ne q] at km
        exact ⟨u, km, om⟩
    obtain ⟨s', k1', o1'⟩ := tr _ _ k1 o1
    obtain ⟨t', k2', o2'⟩ := tr _ _ k2 o2
    exact h.sep j l s' t' c n k1' k2' o1' o2'
/-- a list under construction is done -/
theorem Stt.freeze {i : Nat} {xs : List α} (h : Stt K E F H σ Γ) (k : Γ[i]? = some (.own xs)) : ∃ F', Stt K E F' H σ (Γ.set i (.dat xs)) := by
  obtain ⟨a, vs, ha, hH, fa, a0, r⟩ := h.atOwn k
  have li : i < Γ.length := (List.getElem?_eq_some_iff.mp k).1
  refine ⟨upd F a (.lst vs), h.s0, h.ext.freeze h.s0 hH fa a0, h.bs.trans (same_new fa), by simp [h.len], fun j s kj => ?_, fun j l s t c n k1 k2 o1 o2 => ?_⟩
  · by_cases q : i = j
    · subst q
      rw [List.getElem?_set_self li] at kj
      cases kj
      exact ⟨_, ha, .ref a, rfl, a, vs, rfl, .inl (.inl upd_same), r.mono (same_new fa)⟩
    · rw [List.getElem?_set_ne q] at kj
      obtain ⟨o, e2, r2⟩ := h.ok j s kj
      refine ⟨o, e2, ?_⟩
      cases s with
      | any => exact trivial
      | dat d =>
        obtain ⟨v, rfl, r3⟩ := r2
        exact ⟨v, rfl, Py.mono (same_new fa) r3⟩
      | own zs =>
        obtain ⟨c, us, rfl, hc, fc, c0, r3⟩ := r2
        have nca : c ≠ a := fun z => by
          subst z
          exact h.sep i j _ _ c q k kj rfl rfl ha e2
        exact ⟨c, us, rfl, hc, by rw [upd_ne nca]; exact fc, c0, r3.mono (same_new fa)⟩
  · have tr : ∀ (m : Nat) (u : Slot), (Γ.set i (.dat xs))[m]? = some u → u.isOwn = true → Γ[m]? = some u := by
      intro m u km om
      by_cases q : i = m
      · subst q
        rw [List.getElem?_set_self li] at km
        cases km
        exact nomatch om
      · rw [List.getElem?_set_ne q] at km
        exact km
    exact h.sep j l s t c n (tr _ _ k1 o1) (tr _ _ k2 o2) o1 o2
/-- slots forgotten -/
inductive Wk : List Slot → List Slot → Prop where
  | nil : Wk [] []
  | keep {s t : Slot} {Γ Γ' : List Slot} (e : s = t) (h : Wk Γ Γ') : Wk (s :: Γ) (t :: Γ')
  | drop {s : Slot} {Γ Γ' : List Slot} (h : Wk Γ Γ') : Wk (s :: Γ) (.any :: Γ')
theorem Wk.refl : ∀ Γ : List Slot, Wk Γ Γ
  | [] => .nil
  | _ :: Γ => .keep rfl (Wk.refl Γ)
theorem Wk.length : ∀ {Γ Γ' : List Slot}, Wk Γ Γ' → Γ.length = Γ'.length
  | _, _, .nil => rfl
  | _, _, .keep _ h => by simp [h.length]
  | _, _, .drop h => by simp [h.length]
theorem Wk.get : ∀ {Γ Γ' : List Slot} {i : Nat} {s : Slot}, Wk Γ Γ' → Γ'[i]? = some s → Γ[i]? = some s ∨ s = .any
  | _, _, i, s, .nil, e => by simp at e
  | _, _, 0, s, .keep q h, e => .inl (by rw [q]; exact e)
  | _, _, i + 1, s, .keep q h, e => by
    have := Wk.get (i := i) (s := s) h (by simpa using e)
    simpa using this
  | _, _, 0, s, .drop h, e => .inr (by simpa using e.symm)
  | _, _, i + 1, s, .drop h, e => by
    have := Wk.get (i := i) (s := s) h (by simpa using e)
    simpa using this
theorem Stt.weak (h : Stt K E F H σ Γ) (w : Wk Γ Γ') : Stt K E F H σ Γ' := by
  refine ⟨h.s0, h.ext, h.bs, by rw [h.len, w.length], fun i s k => ?_, fun i j s t a n k1 k2 o1 o2 => ?_⟩
  · rcases w.get k with k' | rfl
    · exact h.ok i s k'
    · have l : i < σ.length := by
        rw [h.len, w.length]
        exact (List.getElem?_eq_some_iff.mp k).1
      exact ⟨σ[i], List.getElem?_eq_getElem l, trivial⟩
  · rcases w.get k1 with k1' | rfl
    · rcases w.get k2 with k2' | rfl
      · exact h.sep i j s t a n k1' k2' o1 o2
      · exact nomatch o2
    · exact nomatch o1
end Tm

namespace Tm
open PySem L2
section
variable {K : PySem.W.Frag} {E : En} {F H F' H' : Hp} {σ : St} {Γ Γ' : List Slot} {α β γ : Type} [Py α] [Py β] [Py γ]
/-! ### expressions -/
/-- the expression gives some datum of P, and new objects alone -/
def EvP (K : PySem.W.Frag) (E : En) (te : TE) (Γ : List Slot) (P : α → Prop) : Prop :=
  ∀ (F H : Hp) (σ : St), Stt K E F H σ Γ → ∀ Q : VK, (∀ (d : α) (v : V) (F' H' : Hp), P d → Ext F H F' H' → Py.rep K F' v d → Q v H') → te σ H Q
abbrev Ev (K : PySem.W.Frag) (E : En) (te : TE) (Γ : List Slot) (d : α) : Prop := EvP K E te Γ (fun x => x = d)
def EvT (K : PySem.W.Frag) (E : En) (tt : TT) (Γ : List Slot) (b : Bool) : Prop :=
  ∀ (F H : Hp) (σ : St), Stt K E F H σ Γ → ∀ Q : Bool → Hp → Prop, (∀ (F' H' : Hp), Ext F H F' H' → Q b H') → tt σ H Q
/-- a list of arguments -/
def RepsS (K : PySem.W.Frag) (F : Hp) : List V → List Slot → Prop
  | [], [] => True
  | v :: vs, (@Slot.dat _ _ d) :: ss => Py.rep K F v d ∧ RepsS K F vs ss
  | _, _ => False
theorem RepsS.mono {K : PySem.W.Frag} {F F' : Hp} (s : Same F F') : ∀ {vs : List V} {ss : List Slot}, RepsS K F vs ss → RepsS K F' vs ss
  | [], [], h => h
  | v :: vs, (@Slot.dat _ _ d) :: ss, h => ⟨Py.mono s h.1, RepsS.mono s h.2⟩
  | [], _ :: _, h => h.elim
  | _ :: _, [], h => h.elim
  | _ :: _, .any :: _, h => h.elim
  | _ :: _, (@Slot.own _ _ _) :: _, h => h.elim
theorem RepsS.len {K : PySem.W.Frag} {F : Hp} : ∀ {vs : List V} {ss : List Slot}, RepsS K F vs ss → vs.length = ss.length
  | [], [], h => rfl
  | v :: vs, (@Slot.dat _ _ d) :: ss, h => by simp [RepsS.len h.2]
  | [], _ :: _, h => h.elim
  | _ :: _, [], h => h.elim
  | _ :: _, .any :: _, h => h.elim
  | _ :: _, (@Slot.own _ _ _) :: _, h => h.elim
theorem RepsS.get {K : PySem.W.Frag} {F : Hp} : ∀ {vs : List V} {ss : List Slot} {i : Nat} {s : Slot}, RepsS K F vs ss → ss[i]? = some s → ∃ (v : V) (α : Type) (inst : Py α) (d : α), s = @Slot.dat α inst d ∧ vs[i]? = some v ∧ Py.rep K F v d
  | v :: vs, (@Slot.dat α inst d) :: ss, 0, s, h, e => ⟨v, α, inst, d, by simpa using e.symm, rfl, h.1⟩
  | v :: vs, (@Slot.dat α inst d) :: ss, i + 1, s, h, e => by
    obtain ⟨w, α', inst', d', h1, h2, h3⟩ := RepsS.get (i := i) (s := s) h.2 (by simpa using e)
    exact ⟨w, α', inst', d', h1, by simpa using h2, h3⟩
  | [], [], i, s, h, e => by simp at e
  | [], _ :: _, _, _, h, _ => h.elim
  | _ :: _, [], _, _, h, _ => h.elim
  | _ :: _, .any :: _, _, _, h, _ => h.elim
  | _ :: _, (@Slot.own _ _ _) :: _, _, _, h, _ => h.elim
def EvA (K : PySem.W.Frag) (E : En) (ta : TA) (Γ : List Slot) (ss : List Slot) : Prop :=
  ∀ (F H : Hp) (σ : St), Stt K E F H σ Γ → ∀ Q : List V → Hp → Prop, (∀ (vs : List V) (F' H' : Hp), Ext F H F' H' → RepsS K F' vs ss → Q vs H') → ta σ H Q

theorem EvP.imp {te : TE} {P P' : α → Prop} (h : EvP K E te Γ P) (i : ∀ d, P d → P' d) : EvP K E te Γ P' := fun F H σ S Q k => h F H σ S Q fun d v F' H' p => k d v F' H' (i d p)
theorem Ev.to {te : TE} {d d' : α} (h : Ev K E te Γ d) (e : d = d') : Ev K E te Γ d' := e ▸ h
/-- from one kind of datum to another of the same look -/
theorem EvP.conv {te : TE} {P : α → Prop} {P' : β → Prop} (h : EvP K E te Γ P) (i : ∀ (F : Hp) (v : V) (d : α), P d → Py.rep K F v d → ∃ d' : β, P' d' ∧ Py.rep K F v d') : EvP K E te Γ P' :=
  fun F H σ S Q k => h F H σ S Q fun d v F' H' p x r => let ⟨d', p', r'⟩ := i F' v d p r; k d' v F' H' p' x r'
theorem Ev.int {te : TE} {n : Nat} (h : Ev K E te Γ n) : Ev K E te Γ (n : Int) := EvP.conv h fun _ _ d e r => ⟨(d : Int), by rw [e], r⟩
theorem Ev.nat {te : TE} {i : Int} {n : Nat} (h : Ev K E te Γ i) (e : i = (n : Int)) : Ev K E te Γ n := EvP.conv h fun _ v d e' r => ⟨n, rfl, by rw [e', e] at r; exact r⟩
theorem EvP.list {te : TE} {Hb : Hp} {P : NL Hb α → Prop} {P' : List α → Prop} (h : EvP K E te Γ P) (i : ∀ d, P d → P' d.l) : EvP K E te Γ P' :=
  EvP.conv h fun _ v d p ⟨a, vs, h1, h2, _, h3⟩ => ⟨d.l, i d p, a, vs, h1, .inl (.inl h2), h3⟩
theorem EvP.some {te : TE} {P : α → Prop} (h : EvP K E te Γ P) (nn : ∀ (F : Hp) (v : V) (d : α), Py.rep K F v d → v ≠ .non) : EvP K E te Γ (fun o : Option α => ∃ d, o = .some d ∧ P d) :=
  EvP.conv h fun F v d p r => ⟨.some d, ⟨d, rfl, p⟩, nn F v d r, r⟩

theorem ev_var {i : Nat} {d : α} (k : Γ[i]? = some (.dat d)) : Ev K E (tVar i) Γ d := fun F H σ S Q q => by
  obtain ⟨v, h1, h2⟩ := S.at k
  exact ⟨v, h1, q d v F H rfl (Ext.refl S.fh) h2⟩
theorem ev_int {i : Int} : Ev K E (tC (.int i)) Γ i := fun F H σ S Q q => q i _ F H rfl (Ext.refl S.fh) rfl
theorem ev_nat {i : Int} (n : Nat) (e : i = (n : Int) := by rfl) : Ev K E (tC (.int i)) Γ n := fun F H σ S Q q => q n _ F H rfl (Ext.refl S.fh) (by rw [e]; rfl)
theorem ev_bl {b : Bool} : Ev K E (tC (.bl b)) Γ b := fun F H σ S Q q => q b _ F H rfl (Ext.refl S.fh) rfl
theorem ev_non : Ev K E (tC .non) Γ () := fun F H σ S Q q => q () _ F H rfl (Ext.refl S.fh) rfl
theorem ev_nonO : Ev K E (tC .non) Γ (none : Option α) := fun F H σ S Q q => q none _ F H rfl (Ext.refl S.fh) rfl
/-- a value of the written part -/
theorem ev_glob {v : V} {d : α} (r : ∀ F, Py.rep K F v d) : Ev K E (tC v) Γ d := fun F H σ S Q q => q d v F H rfl (Ext.refl S.fh) (r F)

/-! operators on ints -/
theorem ev_opI {ta tb : TE} {C : Int → Int → Prop} {g : Int → Int → Int} {i j : Int} (ha : Ev K E ta Γ i) (hb : Ev K E tb Γ j) (c : C i j) : Ev K E (tOp (rI C fun i j => .int (g i j)) ta tb) Γ (g i j) := fun F H σ S Q q => by
  refine ha F H σ S _ fun d v F1 H1 e x r => ?_
  subst e
  refine hb F1 H1 σ (S.mono x) _ fun d2 v2 F2 H2 e2 x2 r2 => ?_
  subst e2
  exact ⟨d, d2, r, r2, c, q _ _ F2 H2 rfl (x.trans x2) rfl⟩
theorem ev_opI0 {ta tb : TE} {g : Int → Int → Int} {i j : Int} (ha : Ev K E ta Γ i) (hb : Ev K E tb Γ j) : Ev K E (tOp (rI0 fun i j => .int (g i j)) ta tb) Γ (g i j) := fun F H σ S Q q => by
  refine ha F H σ S _ fun d v F1 H1 e x r => ?_
  subst e
  refine hb F1 H1 σ (S.mono x) _ fun d2 v2 F2 H2 e2 x2 r2 => ?_
  subst e2
  exact ⟨d, d2, r, r2, q _ _ F2 H2 rfl (x.trans x2) rfl⟩
theorem ev_opB0 {ta tb : TE} {g : Int → Int → Bool} {i j : Int} (ha : Ev K E ta Γ i) (hb : Ev K E tb Γ j) : Ev K E (tOp (rI0 fun i j => .bl (g i j)) ta tb) Γ (g i j) := fun F H σ S Q q => by
  refine ha F H σ S _ fun d v F1 H1 e x r => ?_
  subst e
  refine hb F1 H1 σ (S.mono x) _ fun d2 v2 F2 H2 e2 x2 r2 => ?_
  subst e2
  exact ⟨d, d2, r, r2, q _ _ F2 H2 rfl (x.trans x2) rfl⟩
theorem ev_neg {ta : TE} {i : Int} (ha : Ev K E ta Γ i) : Ev K E (tUn (rU fun i => .int (-i)) ta) Γ (-i) := fun F H σ S Q q => by
  refine ha F H σ S _ fun d v F1 H1 e x r => ?_
  subst e
  exact ⟨d, r, q _ _ F1 H1 rfl x rfl⟩
theorem ev_eqI {ta tb : TE} {i j : Int} (ha : Ev K E ta Γ i) (hb : Ev K E tb Γ j) : Ev K E (tOp rEq ta tb) Γ (decide (i = j)) := fun F H σ S Q q => by
  refine ha F H σ S _ fun d v F1 H1 e x r => ?_
  subst e
  refine hb F1 H1 σ (S.mono x) _ fun d2 v2 F2 H2 e2 x2 r2 => ?_
  subst e2
  rw [r, r2]
  refine ⟨rfl, ?_⟩
  have z : decide (V.int d = V.int d2) = decide (d = d2) := decide_eq_decide.mpr ⟨fun h => V.int.inj h, fun h => by rw [h]⟩
  rw [z]
  exact q _ _ F2 H2 rfl (x.trans x2) rfl
theorem ev_neI {ta tb : TE} {i j : Int} (ha : Ev K E ta Γ i) (hb : Ev K E tb Γ j) : Ev K E (tOp rNe ta tb) Γ (!decide (i = j)) := fun F H σ S Q q => by
  refine ha F H σ S _ fun d v F1 H1 e x r => ?_
  subst e
  refine hb F1 H1 σ (S.mono x) _ fun d2 v2 F2 H2 e2 x2 r2 => ?_
  subst e2
  rw [r, r2]
  refine ⟨rfl, ?_⟩
  have z : decide (V.int d = V.int d2) = decide (d = d2) := decide_eq_decide.mpr ⟨fun h => V.int.inj h, fun h => by rw [h]⟩
  rw [z]
  exact q _ _ F2 H2 rfl (x.trans x2) rfl
theorem ev_eqN {ta tb : TE} {i j : Nat} (ha : Ev K E ta Γ i) (hb : Ev K E tb Γ j) : Ev K E (tOp rEq ta tb) Γ (decide (i = j)) := by
  have h := ev_eqI ha.int hb.int
  rwa [show decide ((i : Int) = (j : Int)) = decide (i = j) from decide_eq_decide.mpr Int.ofNat_inj] at h
theorem ev_neN {ta tb : TE} {i j : Nat} (ha : Ev K E ta Γ i) (hb : Ev K E tb Γ j) : Ev K E (tOp rNe ta tb) Γ (!decide (i = j)) := by
  have h := ev_neI ha.int hb.int
  rwa [show decide ((i : Int) = (j : Int)) = decide (i = j) from decide_eq_decide.mpr Int.ofNat_inj] at h
theorem ev_addN {ta tb : TE} {i j : Nat} (ha : Ev K E ta Γ i) (hb : Ev K E tb Γ j) : Ev K E (tOp (rI0 fun i j => .int (i + j)) ta tb) Γ (i + j) := (ev_opI0 (g := fun i j => i + j) ha.int hb.int).nat (by simp)
theorem ev_subN {ta tb : TE} {i j : Nat} (ha : Ev K E ta Γ i) (hb : Ev K E tb Γ j) (l : j ≤ i) : Ev K E (tOp (rI0 fun i j => .int (i - j)) ta tb) Γ (i - j) := (ev_opI0 (g := fun i j => i - j) ha.int hb.int).nat (by
  show (i : Int) - (j : Int) = ((i - j : Nat) : Int)
  omega)
theorem cmul_l {i j : Int} (h : i.natAbs < 2 ^ 64) : CMul i j := .inl (by omega)
theorem cmul_r {i j : Int} (h : j.natAbs < 2 ^ 64) : CMul i j := .inr (by omega)
theorem ev_mulI {ta tb : TE} {i j : Int} (ha : Ev K E ta Γ i) (hb : Ev K E tb Γ j) (c : CMul i j) : Ev K E (tOp (rI CMul fun i j => .int (i * j)) ta tb) Γ (i * j) := ev_opI (g := fun i j => i * j) ha hb c
theorem ev_mulN {ta tb : TE} {i j : Nat} (ha : Ev K E ta Γ i) (hb : Ev K E tb Γ j) (c : i < 2 ^ 64 ∨ j < 2 ^ 64) : Ev K E (tOp (rI CMul fun i j => .int (i * j)) ta tb) Γ (i * j) := by
  refine (ev_opI (g := fun i j => i * j) ha.int hb.int ?_).nat (by simp)
  rcases c with c | c
  · exact cmul_l (by omega)
  · exact cmul_r (by omega)
theorem ev_modI {ta tb : TE} {i j : Int} (ha : Ev K E ta Γ i) (hb : Ev K E tb Γ j) (c : 0 < j) : Ev K E (tOp (rI (fun _ j => 0 < j) fun i j => .int (i % j)) ta tb) Γ (i % j) := ev_opI (g := fun i j => i % j) ha hb c
theorem ev_modN {ta tb : TE} {i j : Nat} (ha : Ev K E ta Γ i) (hb : Ev K E tb Γ j) (c : 0 < j) : Ev K E (tOp (rI (fun _ j => 0 < j) fun i j => .int (i % j)) ta tb) Γ (i % j) := (ev_opI (g := fun i j => i % j) ha.int hb.int (by omega)).nat (by simp)
theorem ev_divI {ta tb : TE} {i j : Int} (ha : Ev K E ta Γ i) (hb : Ev K E tb Γ j) (c : CDiv i j) : Ev K E (tOp (rI CDiv fun i j => .int (i / j)) ta tb) Γ (i / j) := ev_opI (g := fun i j => i / j) ha hb c
theorem ev_divN {ta tb : TE} {i j : Nat} (ha : Ev K E ta Γ i) (hb : Ev K E tb Γ j) (c : 0 < j) (c2 : j < 1073741824) : Ev K E (tOp (rI CDiv fun i j => .int (i / j)) ta tb) Γ (i / j) := (ev_opI (C := CDiv) (g := fun i j => i / j) ha.int hb.int ⟨by omega, by omega⟩).nat (by simp)
theorem ev_divW {ta tb : TE} {i j : Int} (ha : Ev K E ta Γ i) (hb : Ev K E tb Γ j) (c : CDivW i j) : Ev K E (tOp (rI CDivW fun i j => .int (i / j)) ta tb) Γ (i / j) := ev_opI (g := fun i j => i / j) ha hb c
theorem ev_mulX {ta tb : TE} {i j : Int} (ha : Ev K E ta Γ i) (hb : Ev K E tb Γ j) (c : CMulX i j) : Ev K E (tOp (rI CMulX fun i j => .int (i * j)) ta tb) Γ (i * j) := ev_opI (g := fun i j => i * j) ha hb c
theorem ev_addI {ta tb : TE} {i j : Int} (ha : Ev K E ta Γ i) (hb : Ev K E tb Γ j) : Ev K E (tOp (rI0 fun i j => .int (i + j)) ta tb) Γ (i + j) := ev_opI0 (g := fun i j => i + j) ha hb
theorem ev_subI {ta tb : TE} {i j : Int} (ha : Ev K E ta Γ i) (hb : Ev K E tb Γ j) : Ev K E (tOp (rI0 fun i j => .int (i - j)) ta tb) Γ (i - j) := ev_opI0 (g := fun i j => i - j) ha hb
theorem ev_powI {ta tb : TE} {i j : Int} (ha : Ev K E ta Γ i) (hb : Ev K E tb Γ j) (c : CPow i j) : Ev K E (tOp (rI CPow fun i j => .int (i ^ j.toNat)) ta tb) Γ (i ^ j.toNat) := ev_opI (g := fun i j => i ^ j.toNat) ha hb c
theorem ev_ltI {ta tb : TE} {i j : Int} (ha : Ev K E ta Γ i) (hb : Ev K E tb Γ j) : Ev K E (tOp (rI0 fun i j => .bl (decide (i < j))) ta tb) Γ (decide (i < j)) := ev_opB0 (g := fun i j => decide (i < j)) ha hb
theorem ev_gtI {ta tb : TE} {i j : Int} (ha : Ev K E ta Γ i) (hb : Ev K E tb Γ j) : Ev K E (tOp (rI0 fun i j => .bl (decide (j < i))) ta tb) Γ (decide (j < i)) := ev_opB0 (g := fun i j => decide (j < i)) ha hb
theorem ev_ltN {ta tb : TE} {i j : Nat} (ha : Ev K E ta Γ i) (hb : Ev K E tb Γ j) : Ev K E (tOp (rI0 fun i j => .bl (decide (i < j))) ta tb) Γ (decide (i < j)) := by
  have h := ev_ltI ha.int hb.int
  rwa [show decide ((i : Int) < (j : Int)) = decide (i < j) from decide_eq_decide.mpr Int.ofNat_lt] at h
theorem ev_gtN {ta tb : TE} {i j : Nat} (ha : Ev K E ta Γ i) (hb : Ev K E tb Γ j) : Ev K E (tOp (rI0 fun i j => .bl (decide (j < i))) ta tb) Γ (decide (j < i)) := by
  have h := ev_gtI ha.int hb.int
  rwa [show decide ((j : Int) < (i : Int)) = decide (j < i) from decide_eq_decide.mpr Int.ofNat_lt] at h
/-! is None, is True -/
theorem ev_isN {ta : TE} {o : Option α} (ha : Ev K E ta Γ o) : Ev K E (tIsN ta) Γ o.isNone := fun F H σ S Q q => by
  refine ha F H σ S _ fun d v F1 H1 e x r => ?_
  subst e
  cases d with
  | none =>
    have r : v = .non := r
    subst r
    exact q _ _ F1 H1 rfl x rfl
  | some y =>
    have e : decide (v = V.non) = false := decide_eq_false r.1
    show Q (.bl (decide (v = .non))) H1
    rw [e]
    exact q _ _ F1 H1 rfl x rfl
theorem ev_isNP {ta : TE} {P : Option α → Prop} (ha : EvP K E ta Γ P) : EvP K E (tIsN ta) Γ (fun b : Bool => ∃ o, P o ∧ b = o.isNone) := fun F H σ S Q q => by
  refine ha F H σ S _ fun d v F1 H1 p x r => ?_
  cases d with
  | none =>
    have r : v = .non := r
    subst r
    exact q _ _ F1 H1 ⟨_, p, rfl⟩ x rfl
  | some y =>
    have e : decide (v = V.non) = false := decide_eq_false r.1
    show Q (.bl (decide (v = .non))) H1
    rw [e]
    exact q _ _ F1 H1 ⟨_, p, rfl⟩ x rfl
theorem ev_notN {ta : TE} {o : Option α} (ha : Ev K E ta Γ o) : Ev K E (tNotN ta) Γ o.isSome := fun F H σ S Q q => by
  refine ha F H σ S _ fun d v F1 H1 e x r => ?_
  subst e
  cases d with
  | none =>
    have r : v = .non := r
    subst r
    exact q _ _ F1 H1 rfl x rfl
  | some y =>
    have e : decide (v = V.non) = false := decide_eq_false r.1
    show Q (.bl (!decide (v = .non))) H1
    rw [e]
    exact q _ _ F1 H1 rfl x rfl
theorem ev_isB {ta tb : TE} {a b : Bool} (ha : Ev K E ta Γ a) (hb : Ev K E tb Γ b) : Ev K E (tOp rIsB ta tb) Γ (decide (a = b)) := fun F H σ S Q q => by
  refine ha F H σ S _ fun d v F1 H1 e x r => ?_
  subst e
  refine hb F1 H1 σ (S.mono x) _ fun d2 v2 F2 H2 e2 x2 r2 => ?_
  subst e2
  exact ⟨d, d2, r, r2, q _ _ F2 H2 rfl (x.trans x2) rfl⟩
theorem ev_isNotB {ta tb : TE} {a b : Bool} (ha : Ev K E ta Γ a) (hb : Ev K E tb Γ b) : Ev K E (tOp rNotB ta tb) Γ (!decide (a = b)) := fun F H σ S Q q => by
  refine ha F H σ S _ fun d v F1 H1 e x r => ?_
  subst e
  refine hb F1 H1 σ (S.mono x) _ fun d2 v2 F2 H2 e2 x2 r2 => ?_
  subst e2
  exact ⟨d, d2, r, r2, q _ _ F2 H2 rfl (x.trans x2) rfl⟩
theorem ev_orV {ta tb : TE} {a b : Bool} (ha : Ev K E ta Γ a) (hb : a = false → Ev K E tb Γ b) : Ev K E (tOrV ta tb) Γ (a || b) := fun F H σ S Q q => by
  refine ha F H σ S _ fun d v F1 H1 e x r => ?_
  subst e
  refine ⟨d, r, ?_⟩
  cases d with
  | true => exact iteT (q true _ F1 H1 rfl x rfl)
  | false =>
    refine iteF ?_
    exact hb rfl F1 H1 σ (S.mono x) _ fun d2 v2 F2 H2 e2 x2 r2 => q d2 v2 F2 H2 (by rw [e2, Bool.false_or]) (x.trans x2) r2
theorem ev_notV {ta : TE} {a : Bool} (ha : Ev K E ta Γ a) : Ev K E (tNotV ta) Γ (!a) := fun F H σ S Q q => by
  refine ha F H σ S _ fun d v F1 H1 e x r => ?_
  subst e
  exact ⟨d, r, q _ _ F1 H1 rfl x rfl⟩
/-! tests -/
theorem evt_test {te : TE} {b : Bool} (h : Ev K E te Γ b) : EvT K E (tTest te) Γ b := fun F H σ S Q q => by
  refine h F H σ S _ fun d v F1 H1 e x r => ?_
  subst e
  exact ⟨d, r, q F1 H1 x⟩
theorem evt_b {te : TE} {b : Bool} (h : Ev K E te Γ b) : EvT K E (tB te) Γ b := fun F H σ S Q q => by
  refine h F H σ S _ fun d v F1 H1 e x r => ?_
  subst e
  exact ⟨d, r, q F1 H1 x⟩
theorem evt_not {t : TT} {b : Bool} (h : EvT K E t Γ b) : EvT K E (tNot t) Γ (!b) := fun F H σ S Q q => h F H σ S _ fun F1 H1 x => q F1 H1 x
theorem evt_and {t u : TT} {a b : Bool} (h : EvT K E t Γ a) (h2 : a = true → EvT K E u Γ b) : EvT K E (tAnd t u) Γ (a && b) := fun F H σ S Q q => by
  refine h F H σ S _ fun F1 H1 x => ?_
  cases a with
  | false => exact iteF (q F1 H1 x)
  | true => exact iteT (h2 rfl F1 H1 σ (S.mono x) _ fun F2 H2 x2 => by
      have := q F2 H2 (x.trans x2)
      simpa using this)
theorem evt_or {t u : TT} {a b : Bool} (h : EvT K E t Γ a) (h2 : a = false → EvT K E u Γ b) : EvT K E (tOr t u) Γ (a || b) := fun F H σ S Q q => by
  refine h F H σ S _ fun F1 H1 x => ?_
  cases a with
  | true => exact iteT (q F1 H1 x)
  | false => exact iteF (h2 rfl F1 H1 σ (S.mono x) _ fun F2 H2 x2 => by
      have := q F2 H2 (x.trans x2)
      simpa using this)
theorem evt_yes : EvT K E tYes Γ true := fun F H σ S Q q => q F H (Ext.refl S.fh)
theorem EvT.to {t : TT} {b b' : Bool} (h : EvT K E t Γ b) (e : b = b') : EvT K E t Γ b' := e ▸ h
/-! arguments, tuples, displays -/
theorem eva_nil : EvA K E tNil Γ [] := fun F H σ S Q q => q [] F H (Ext.refl S.fh) trivial
theorem eva_cons {te : TE} {tr : TA} {d : α} {ss : List Slot} (h : Ev K E te Γ d) (hr : EvA K E tr Γ ss) : EvA K E (tCons te tr) Γ (.dat d :: ss) := fun F H σ S Q q => by
  refine h F H σ S _ fun d' v F1 H1 e x r => ?_
  subst e
  exact hr F1 H1 σ (S.mono x) _ fun vs F2 H2 x2 r2 => q _ F2 H2 (x.trans x2) ⟨Py.mono x2.ff r, r2⟩
theorem reps1 {F : Hp} {vs : List V} {d : α} (h : RepsS K F vs [.dat d]) : ∃ v, vs = [v] ∧ Py.rep K F v d := by
  match vs, h with
  | [v], h => exact ⟨v, rfl, h.1⟩
theorem reps2 {F : Hp} {vs : List V} {d : α} {d2 : β} (h : RepsS K F vs [.dat d, .dat d2]) : ∃ v v2, vs = [v, v2] ∧ Py.rep K F v d ∧ Py.rep K F v2 d2 := by
  match vs, h with
  | [v, v2], h => exact ⟨v, v2, rfl, h.1, h.2.1⟩
theorem reps3 {F : Hp} {vs : List V} {d : α} {d2 : β} {d3 : γ} (h : RepsS K F vs [.dat d, .dat d2, .dat d3]) : ∃ v v2 v3, vs = [v, v2, v3] ∧ Py.rep K F v d ∧ Py.rep K F v2 d2 ∧ Py.rep K F v3 d3 := by
  match vs, h with
  | [v, v2, v3], h => exact ⟨v, v2, v3, rfl, h.1, h.2.1, h.2.2.1⟩
/-- one call of a builtin that hands back a number or a truth value -/
theorem ev_len {ta : TA} {xs : List α} (h : EvA K E ta Γ [.dat xs]) : Ev K E (tCB (fun xs H Q => ∃ p ys, xs = [.ref p] ∧ (SqL K H p ys ∨ SqT K H p ys) ∧ Q (.int ys.length) H) ta) Γ xs.length := fun F H σ S Q q => by
  refine h F H σ S _ fun vs F1 H1 x r => ?_
  obtain ⟨v, rfl, a, ys, rfl, h1, h2⟩ := reps1 r
  exact ⟨a, ys, rfl, .inl (x.fh.seq h1), q _ _ F1 H1 rfl x (by rw [h2.1]; rfl)⟩
theorem ev_int1 {ta : TA} {i : Int} (h : EvA K E ta Γ [.dat i]) : Ev K E (tCB (fun xs H Q => (∃ i, xs = [.int i] ∧ Q (.int i) H) ∨ ∃ k, xs = [.bl k] ∧ Q (.int (if k then 1 else 0)) H) ta) Γ i := fun F H σ S Q q => by
  refine h F H σ S _ fun vs F1 H1 x r => ?_
  obtain ⟨v, rfl, r1⟩ := reps1 r
  exact .inl ⟨i, by rw [show v = V.int i from r1], q _ _ F1 H1 rfl x rfl⟩
theorem ev_int1N {ta : TA} {i : Nat} (h : EvA K E ta Γ [.dat i]) : Ev K E (tCB (fun xs H Q => (∃ i, xs = [.int i] ∧ Q (.int i) H) ∨ ∃ k, xs = [.bl k] ∧ Q (.int (if k then 1 else 0)) H) ta) Γ i := fun F H σ S Q q => by
  refine h F H σ S _ fun vs F1 H1 x r => ?_
  obtain ⟨v, rfl, r1⟩ := reps1 r
  exact .inl ⟨i, by rw [show v = V.int (i : Int) from r1], q _ _ F1 H1 rfl x rfl⟩
theorem ev_int1B {ta : TA} {b : Bool} (h : EvA K E ta Γ [.dat b]) : Ev K E (tCB (fun xs H Q => (∃ i, xs = [.int i] ∧ Q (.int i) H) ∨ ∃ k, xs = [.bl k] ∧ Q (.int (if k then 1 else 0)) H) ta) Γ (if b then (1 : Int) else 0) := fun F H σ S Q q => by
  refine h F H σ S _ fun vs F1 H1 x r => ?_
  obtain ⟨v, rfl, r1⟩ := reps1 r
  exact .inr ⟨b, by rw [show v = V.bl b from r1], q _ _ F1 H1 rfl x rfl⟩
theorem ev_abs {ta : TA} {i : Int} (h : EvA K E ta Γ [.dat i]) : Ev K E (tCB (fun xs H Q => ∃ i, xs = [.int i] ∧ Q (.int (if i < 0 then -i else i)) H) ta) Γ i.natAbs := fun F H σ S Q q => by
  refine h F H σ S _ fun vs F1 H1 x r => ?_
  obtain ⟨v, rfl, r1⟩ := reps1 r
  refine ⟨i, by rw [show v = V.int i from r1], q _ _ F1 H1 rfl x ?_⟩
  show V.int _ = V.int _
  congr 1
  split <;> omega
theorem ev_gcd {ta : TA} {i j : Int} (h : EvA K E ta Γ [.dat i, .dat j]) : Ev K E (tCB rGcd ta) Γ (Nat.gcd i.natAbs j.natAbs) := fun F H σ S Q q => by
  refine h F H σ S _ fun vs F1 H1 x r => ?_
  obtain ⟨v, v2, rfl, r, r2⟩ := reps2 r
  exact ⟨i, j, by rw [show v = V.int i from r, show v2 = V.int j from r2], q _ _ F1 H1 rfl x rfl⟩
theorem ev_sum {ta : TA} {xs : List Nat} (h : EvA K E ta Γ [.dat xs]) : Ev K E (tCB (rSum K) ta) Γ xs.sum := fun F H σ S Q q => by
  refine h F H σ S _ fun vs F1 H1 x r => ?_
  obtain ⟨v, rfl, a, ys, rfl, h1, h2⟩ := reps1 r
  have e : ys = (xs.map fun n : Nat => (n : Int)).map V.int := by
    refine List.ext_getElem? fun i => ?_
    rw [List.getElem?_map, List.getElem?_map]
    cases k : xs[i]? with
    | none =>
      have l : ys.length ≤ i := by
        rw [h2.1]
        exact List.getElem?_eq_none_iff.mp k
      rw [List.getElem?_eq_none_iff.mpr l]
      rfl
    | some n =>
      obtain ⟨w, e1, e2⟩ := h2.get k
      rw [e1, show w = V.int (n : Int) from e2]
      rfl
  have s : ((xs.map fun n : Nat => (n : Int)).sum) = ((xs.sum : Nat) : Int) := by
    have : ∀ l : List Nat, (l.map fun n : Nat => (n : Int)).sum = ((l.sum : Nat) : Int) := by
      intro l
      induction l with
      | nil => rfl
      | cons y l ih => simp [ih]
    exact this xs
  refine ⟨a, _, rfl, by rw [← e]; exact x.fh.seq h1, ?_⟩
  rw [s]
  exact q _ _ F1 H1 rfl x rfl
theorem ev_bits {ta : TE} {i : Int} (h : Ev K E ta Γ i) : Ev K E (tBits ta) Γ (Builtin.Int.intBits i) := fun F H σ S Q q => by
  refine h F H σ S _ fun d v F1 H1 e x r => ?_
  subst e
  exact ⟨d, r, q _ _ F1 H1 rfl x rfl⟩
/-- list(xs): a new list -/
theorem ev_listNL {ta : TA} {xs : List α} (h : EvA K E ta Γ [.dat xs]) : Ev K E (tCB (fun xs H Q => ∃ p ys, xs = [.ref p] ∧ (SqL K H p ys ∨ SqT K H p ys) ∧ ∀ l, H l = none → Q (.ref l) (upd H l (.lst ys))) ta) Γ (⟨xs⟩ : NL E.H0 α) := fun F H σ S Q q => by
  refine h F H σ S _ fun vs F1 H1 x r => ?_
  obtain ⟨v, rfl, a, ys, rfl, h1, h2⟩ := reps1 r
  refine ⟨a, ys, rfl, .inl (x.fh.seq h1), fun l hl => ?_⟩
  have y : Ext F1 H1 (upd F1 l (.lst ys)) (upd H1 l (.lst ys)) := Ext.new x.fh hl
  exact q _ _ _ _ rfl (x.trans y) ⟨l, ys, rfl, upd_same, (S.ext.trans x).hh.free hl, h2.mono y.ff⟩
theorem Ev.list {te : TE} {Hb : Hp} {xs : List α} (h : Ev K E te Γ (⟨xs⟩ : NL Hb α)) : Ev K E te Γ xs := EvP.list h fun d e => by rw [e]
theorem ev_list {ta : TA} {xs : List α} (h : EvA K E ta Γ [.dat xs]) : Ev K E (tCB (fun xs H Q => ∃ p ys, xs = [.ref p] ∧ (SqL K H p ys ∨ SqT K H p ys) ∧ ∀ l, H l = none → Q (.ref l) (upd H l (.lst ys))) ta) Γ xs := Ev.list (ev_listNL h)
theorem ev_tup2 {ta : TA} {a : α} {b : β} (h : EvA K E ta Γ [.dat a, .dat b]) : Ev K E (tTup ta) Γ (a, b) := fun F H σ S Q q => by
  refine h F H σ S _ fun vs F1 H1 x r => ?_
  obtain ⟨v, v2, rfl, r, r2⟩ := reps2 r
  refine ⟨by show 2 ≤ sizeLine; decide, fun p hp => ?_⟩
  have y : Ext F1 H1 (upd F1 p (.tup [v, v2])) (upd H1 p (.tup [v, v2])) := Ext.new x.fh hp
  exact q _ _ _ _ rfl (x.trans y) ⟨p, v, v2, rfl, .inl (.inl upd_same), Py.mono y.ff r, Py.mono y.ff r2⟩
/-- a fraction in lowest terms -/
theorem ev_rat {ta : TA} {a : Int} {b : Int} {z : Rat} (h : EvA K E ta Γ [.dat a, .dat b]) (e1 : a = z.num) (e2 : b = (z.den : Int)) : Ev K E (tTup ta) Γ z := fun F H σ S Q q => by
  refine h F H σ S _ fun vs F1 H1 x r => ?_
  obtain ⟨v, v2, rfl, r, r2⟩ := reps2 r
  refine ⟨by show 2 ≤ sizeLine; decide, fun p hp => ?_⟩
  have y : Ext F1 H1 (upd F1 p (.tup [v, v2])) (upd H1 p (.tup [v, v2])) := Ext.new x.fh hp
  refine q _ _ _ _ rfl (x.trans y) ⟨p, rfl, .inl (.inl ?_)⟩
  rw [upd_same, show v = V.int a from r, show v2 = V.int b from r2, e1, e2]
theorem ev_tup3 {ta : TA} {a : α} {b : β} {c : γ} (h : EvA K E ta Γ [.dat a, .dat b, .dat c]) : Ev K E (tTup ta) Γ (⟨a, b, c⟩ : T3 α β γ) := fun F H σ S Q q => by
  refine h F H σ S _ fun vs F1 H1 x r => ?_
  obtain ⟨v, v2, v3, rfl, r, r2, r3⟩ := reps3 r
  refine ⟨by show 3 ≤ sizeLine; decide, fun p hp => ?_⟩
  have y : Ext F1 H1 (upd F1 p (.tup [v, v2, v3])) (upd H1 p (.tup [v, v2, v3])) := Ext.new x.fh hp
  exact q _ _ _ _ rfl (x.trans y) ⟨p, v, v2, v3, rfl, .inl (.inl upd_same), Py.mono y.ff r, Py.mono y.ff r2, Py.mono y.ff r3⟩
theorem ev_tup5 {δ ε : Type} [Py δ] [Py ε] {ta : TA} {a : α} {b : β} {c : γ} {d : δ} {e : ε} (h : EvA K E ta Γ [.dat a, .dat b, .dat c, .dat d, .dat e]) : Ev K E (tTup ta) Γ (⟨a, b, c, d, e⟩ : T5 α β γ δ ε) := fun F H σ S Q q => by
  refine h F H σ S _ fun vs F1 H1 x r => ?_
  match vs, r with
  | [v, v2, v3, v4, v5], ⟨r, r2, r3, r4, r5, _⟩ =>
    refine ⟨by show 5 ≤ sizeLine; decide, fun p hp => ?_⟩
    have y : Ext F1 H1 (upd F1 p (.tup [v, v2, v3, v4, v5])) (upd H1 p (.tup [v, v2, v3, v4, v5])) := Ext.new x.fh hp
    exact q _ _ _ _ rfl (x.trans y) ⟨p, v, v2, v3, v4, v5, rfl, .inl (.inl upd_same), Py.mono y.ff r, Py.mono y.ff r2, Py.mono y.ff r3, Py.mono y.ff r4, Py.mono y.ff r5⟩
/-- [a, b, ..]: all of one kind -/
def RepsL (K : PySem.W.Frag) (F : Hp) (vs : List V) (xs : List α) : Prop := Reps K F vs xs
theorem reps_of_args {F : Hp} : ∀ {vs : List V} {xs : List α}, RepsS K F vs (xs.map fun x => .dat x) → Reps K F vs xs
  | [], [], _ => Reps.nil
  | v :: vs, x :: xs, h => by
    have ih := reps_of_args (vs := vs) (xs := xs) h.2
    refine ⟨by simp [ih.1], fun i w y a b => ?_⟩
    cases i with
    | zero =>
      simp at a b
      rw [← a, ← b]
      exact h.1
    | succ i => exact ih.2 i w y (by simpa using a) (by simpa using b)
  | [], _ :: _, h => h.elim
  | _ :: _, [], h => h.elim
theorem ev_lst {ta : TA} {xs : List α} (h : EvA K E ta Γ (xs.map fun x => .dat x)) (hz : xs.length ≤ 1000) : Ev K E (tLst ta) Γ xs := fun F H σ S Q q => by
  refine h F H σ S _ fun vs F1 H1 x r => ?_
  have r := reps_of_args r
  refine ⟨by rw [r.1]; exact Nat.le_of_lt (small1000 hz), fun p hp => ?_⟩
  have y : Ext F1 H1 (upd F1 p (.lst vs)) (upd H1 p (.lst vs)) := Ext.new x.fh hp
  exact q _ _ _ _ rfl (x.trans y) ⟨p, vs, rfl, .inl (.inl upd_same), r.mono y.ff⟩
/-! subscripts -/
theorem ev_ix {ta tb : TE} {xs : List α} {n : Nat} {x : α} (ha : Ev K E ta Γ xs) (hb : Ev K E tb Γ n) (e : xs[n]? = some x) : Ev K E (tOp (rIxL K) ta tb) Γ x := fun F H σ S Q q => by
  refine ha F H σ S _ fun d v F1 H1 e1 x1 r => ?_
  subst e1
  refine hb F1 H1 σ (S.mono x1) _ fun d2 v2 F2 H2 e2 x2 r2 => ?_
  subst e2
  obtain ⟨a, ys, rfl, h1, h2⟩ := r
  obtain ⟨w, e3, e4⟩ := h2.get e
  exact ⟨a, ys, d2, w, rfl, r2, (x1.trans x2).fh.seq (x2.ff.seq h1), atI_nat e3, q _ _ F2 H2 rfl (x1.trans x2) (Py.mono x2.ff e4)⟩
theorem ev_ixD {ta tb : TE} {xs : List α} {n : Nat} {x : α} (ha : Ev K E ta Γ xs) (hb : Ev K E tb Γ n) (e : n < xs.length) : Ev K E (tOp (rIxL K) ta tb) Γ (xs.getD n x) := ev_ix ha hb (by
  rw [List.getD_eq_getElem?_getD, List.getElem?_eq_getElem e]
  rfl)
/-- the 0th, the 1st of a pair, of a fraction -/
theorem ev_fst {ta : TE} {p : α × β} (ha : Ev K E ta Γ p) : Ev K E (tOp (rIxT K) ta (tC (.int 0))) Γ p.1 := fun F H σ S Q q => by
  refine ha F H σ S _ fun d v F1 H1 e1 x1 r => ?_
  subst e1
  obtain ⟨a, v1, v2, rfl, h1, h2, h3⟩ := r
  exact ⟨a, _, 0, v1, rfl, rfl, sameT x1.fh h1, atI_nat (j := 0) rfl, q _ _ F1 H1 rfl x1 h2⟩
theorem ev_snd {ta : TE} {p : α × β} (ha : Ev K E ta Γ p) : Ev K E (tOp (rIxT K) ta (tC (.int 1))) Γ p.2 := fun F H σ S Q q => by
  refine ha F H σ S _ fun d v F1 H1 e1 x1 r => ?_
  subst e1
  obtain ⟨a, v1, v2, rfl, h1, h2, h3⟩ := r
  exact ⟨a, _, 1, v2, rfl, rfl, sameT x1.fh h1, atI_nat (j := 1) rfl, q _ _ F1 H1 rfl x1 h3⟩
theorem ev_num {ta : TE} {z : Rat} (ha : Ev K E ta Γ z) : Ev K E (tOp (rIxT K) ta (tC (.int 0))) Γ z.num := fun F H σ S Q q => by
  refine ha F H σ S _ fun d v F1 H1 e1 x1 r => ?_
  subst e1
  obtain ⟨a, rfl, h1⟩ := r
  exact ⟨a, _, 0, _, rfl, rfl, sameT x1.fh h1, atI_nat (j := 0) rfl, q _ _ F1 H1 rfl x1 rfl⟩
theorem ev_den {ta : TE} {z : Rat} (ha : Ev K E ta Γ z) : Ev K E (tOp (rIxT K) ta (tC (.int 1))) Γ (z.den : Int) := fun F H σ S Q q => by
  refine ha F H σ S _ fun d v F1 H1 e1 x1 r => ?_
  subst e1
  obtain ⟨a, rfl, h1⟩ := r
  exact ⟨a, _, 1, _, rfl, rfl, sameT x1.fh h1, atI_nat (j := 1) rfl, q _ _ F1 H1 rfl x1 rfl⟩
theorem ev_t5_0 {δ ε : Type} [Py δ] [Py ε] {ta : TE} {p : T5 α β γ δ ε} (ha : Ev K E ta Γ p) : Ev K E (tOp (rIxT K) ta (tC (.int 0))) Γ p.x := fun F H σ S Q q => by
  refine ha F H σ S _ fun d v F1 H1 e1 x1 r => ?_
  subst e1
  obtain ⟨a, v1, v2, v3, v4, v5, rfl, h0, h1, h2, h3, h4, h5⟩ := r
  exact ⟨a, _, 0, _, rfl, rfl, sameT x1.fh h0, atI_nat (j := 0) rfl, q _ _ F1 H1 rfl x1 h1⟩
theorem ev_t5_1 {δ ε : Type} [Py δ] [Py ε] {ta : TE} {p : T5 α β γ δ ε} (ha : Ev K E ta Γ p) : Ev K E (tOp (rIxT K) ta (tC (.int 1))) Γ p.y := fun F H σ S Q q => by
  refine ha F H σ S _ fun d v F1 H1 e1 x1 r => ?_
  subst e1
  obtain ⟨a, v1, v2, v3, v4, v5, rfl, h0, h1, h2, h3, h4, h5⟩ := r
  exact ⟨a, _, 1, _, rfl, rfl, sameT x1.fh h0, atI_nat (j := 1) rfl, q _ _ F1 H1 rfl x1 h2⟩
theorem ev_t5_2 {δ ε : Type} [Py δ] [Py ε] {ta : TE} {p : T5 α β γ δ ε} (ha : Ev K E ta Γ p) : Ev K E (tOp (rIxT K) ta (tC (.int 2))) Γ p.z := fun F H σ S Q q => by
  refine ha F H σ S _ fun d v F1 H1 e1 x1 r => ?_
  subst e1
  obtain ⟨a, v1, v2, v3, v4, v5, rfl, h0, h1, h2, h3, h4, h5⟩ := r
  exact ⟨a, _, 2, _, rfl, rfl, sameT x1.fh h0, atI_nat (j := 2) rfl, q _ _ F1 H1 rfl x1 h3⟩
/-- z != w of fractions -/
theorem rat_dp {F : Hp} {v : V} {z : Rat} (r : Py.rep K F v z) : Dp K F v (.tuple [.int z.num, .int (z.den : Int)]) := by
  obtain ⟨a, rfl, h⟩ := r
  exact .tup h (.cons (.int _) (.cons (.int _) .nil))
theorem ev_neR {ta tb : TE} {z w : Rat} (ha : Ev K E ta Γ z) (hb : Ev K E tb Γ w) : Ev K E (tOp (rNeD K) ta tb) Γ (!decide (z = w)) := fun F H σ S Q q => by
  refine ha F H σ S _ fun d v F1 H1 e1 x1 r => ?_
  subst e1
  refine hb F1 H1 σ (S.mono x1) _ fun d2 v2 F2 H2 e2 x2 r2 => ?_
  subst e2
  have r' : Py.rep K H2 v d := Py.mono (x1.trans x2).fh (Py.mono x2.ff r)
  have r2' : Py.rep K H2 v2 d2 := Py.mono x2.fh r2
  refine ⟨_, _, rat_dp r', rat_dp r2', rfl, rfl, ?_⟩
  have e : PyData.eqv (.tuple [.int d.num, .int (d.den : Int)]) (.tuple [.int d2.num, .int (d2.den : Int)]) = decide (d = d2) := by
    by_cases h : d = d2
    · subst h
      rw [decide_eq_true rfl]
      exact SeqAt.eqv_refl _ rfl
    · rw [decide_eq_false h]
      by_cases n : d.num = d2.num
      · have m : ¬ (d.den : Int) = (d2.den : Int) := fun k => h (Rat.ext n (by omega))
        simp [PyData.eqv, PyData.eqvAll, n, m]
      · simp [PyData.eqv, PyData.eqvAll, n]
  rw [e]
  exact q _ _ F2 H2 rfl (x1.trans x2) rfl
end
end Tm

namespace Tm
open PySem L2
section
variable {K : PySem.W.Frag} {E : En} {F H F' H' : Hp} {σ : St} {Γ Γ' : List Slot} {α β γ : Type} [Py α] [Py β] [Py γ]
/-! ### lists: slices, +, reversed -/
theorem Reps.drop {vs : List V} {xs : List α} (n : Nat) (h : Reps K F vs xs) : Reps K F (vs.drop n) (xs.drop n) :=
  ⟨by simp [h.1], fun i v x a b => h.2 (n + i) v x (by simpa using a) (by simpa using b)⟩
theorem Reps.take {vs : List V} {xs : List α} (n : Nat) (h : Reps K F vs xs) : Reps K F (vs.take n) (xs.take n) := by
  refine ⟨by simp [h.1], fun i v x a b => ?_⟩
  rw [List.getElem?_take] at a b
  split at a
  · rename_i c
    rw [if_pos c] at b
    exact h.2 i v x a b
  · cases a
theorem Reps.append {vs ws : List V} {xs ys : List α} (h : Reps K F vs xs) (g : Reps K F ws ys) : Reps K F (vs ++ ws) (xs ++ ys) := by
  refine ⟨by simp [h.1, g.1], fun i v x a b => ?_⟩
  by_cases q : i < vs.length
  · rw [List.getElem?_append_left q] at a
    rw [List.getElem?_append_left (by rw [← h.1]; exact q)] at b
    exact h.2 i v x a b
  · rw [List.getElem?_append_right (by omega)] at a
    rw [List.getElem?_append_right (by rw [← h.1]; omega), ← h.1] at b
    exact g.2 _ v x a b
theorem Reps.reverse {vs : List V} {xs : List α} (h : Reps K F vs xs) : Reps K F vs.reverse xs.reverse := by
  refine ⟨by simp [h.1], fun i v x a b => ?_⟩
  have l : i < vs.length := by
    have := (List.getElem?_eq_some_iff.mp a).1
    simpa using this
  rw [List.getElem?_reverse l] at a
  rw [List.getElem?_reverse (by rw [← h.1]; exact l), ← h.1] at b
  exact h.2 _ v x a b
theorem cut_eq {δ : Type} (xs : List δ) (a b : Nat) : (xs.drop (min a xs.length)).take (min b xs.length - min a xs.length) = (xs.drop a).take (b - a) := by
  refine List.ext_getElem? fun i => ?_
  rw [List.getElem?_take, List.getElem?_take, List.getElem?_drop, List.getElem?_drop]
  by_cases g : a + i < xs.length
  · rw [Nat.min_eq_left (show a ≤ xs.length by omega)]
    by_cases c : i < b - a
    · rw [if_pos c, if_pos (by omega)]
    · rw [if_neg c, if_neg (by omega)]
  · have e1 : xs[a + i]? = none := List.getElem?_eq_none (by omega)
    have e2 : xs[min a xs.length + i]? = none := List.getElem?_eq_none (by omega)
    rw [e1, e2]
    simp
theorem ev_takeNL {te th : TE} {xs : List α} {n : Nat} (ha : Ev K E te Γ xs) (hb : Ev K E th Γ n) : Ev K E (tSl (rSlL K) te tNoPart (tPart th)) Γ (⟨xs.take n⟩ : NL E.H0 α) := fun F H σ S Q q => by
  refine ha F H σ S _ fun d v F1 H1 e x r => ?_
  subst e
  refine hb F1 H1 σ (S.mono x) _ fun d2 v2 F2 H2 e2 x2 r2 => ?_
  subst e2
  obtain ⟨a, vs, rfl, h1, h2⟩ := r
  refine ⟨_, r2, a, vs, rfl, x2.fh.seq (x2.ff.seq h1), fun p hp => ?_⟩
  have ec : cutV vs none (some ((d2 : Nat) : Int)) = vs.take d2 := by
    unfold cutV
    rw [HT.sIx_none, HT.sIx_nat]
    have := cut_eq vs 0 d2
    simpa using this
  rw [ec]
  have y : Ext F2 H2 (upd F2 p (.lst (vs.take d2))) (upd H2 p (.lst (vs.take d2))) := Ext.new x2.fh hp
  exact q _ _ _ _ rfl ((x.trans x2).trans y) ⟨p, _, rfl, upd_same, ((S.mono x).mono x2).ext.hh.free hp, ((h2.mono x2.ff).mono y.ff).take d2⟩
theorem ev_dropNL {te th : TE} {xs : List α} {n : Nat} (ha : Ev K E te Γ xs) (hb : Ev K E th Γ n) : Ev K E (tSl (rSlL K) te (tPart th) tNoPart) Γ (⟨xs.drop n⟩ : NL E.H0 α) := fun F H σ S Q q => by
  refine ha F H σ S _ fun d v F1 H1 e x r => ?_
  subst e
  refine hb F1 H1 σ (S.mono x) _ fun d2 v2 F2 H2 e2 x2 r2 => ?_
  subst e2
  obtain ⟨a, vs, rfl, h1, h2⟩ := r
  refine ⟨_, r2, a, vs, rfl, x2.fh.seq (x2.ff.seq h1), fun p hp => ?_⟩
  have ec : cutV vs (some ((d2 : Nat) : Int)) none = vs.drop d2 := by
    unfold cutV
    rw [HT.sIx_none, HT.sIx_nat]
    have := cut_eq vs d2 vs.length
    rw [Nat.min_self] at this
    rw [this]
    exact List.take_of_length_le (by simp)
  rw [ec]
  have y : Ext F2 H2 (upd F2 p (.lst (vs.drop d2))) (upd H2 p (.lst (vs.drop d2))) := Ext.new x2.fh hp
  exact q _ _ _ _ rfl ((x.trans x2).trans y) ⟨p, _, rfl, upd_same, ((S.mono x).mono x2).ext.hh.free hp, ((h2.mono x2.ff).mono y.ff).drop d2⟩
theorem ev_cutNL {te tl th : TE} {xs : List α} {m n : Nat} (ha : Ev K E te Γ xs) (hl : Ev K E tl Γ m) (hb : Ev K E th Γ n) : Ev K E (tSl (rSlL K) te (tPart tl) (tPart th)) Γ (⟨(xs.drop m).take (n - m)⟩ : NL E.H0 α) := fun F H σ S Q q => by
  refine ha F H σ S _ fun d v F1 H1 e x r => ?_
  subst e
  refine hl F1 H1 σ (S.mono x) _ fun d1 v1 F2 H2 e2 x2 r1 => ?_
  subst e2
  refine ⟨_, r1, ?_⟩
  refine hb F2 H2 σ ((S.mono x).mono x2) _ fun d2 v2 F3 H3 e3 x3 r2 => ?_
  subst e3
  obtain ⟨a, vs, rfl, h1, h2⟩ := r
  refine ⟨_, r2, a, vs, rfl, x3.fh.seq (x3.ff.seq (x2.ff.seq h1)), fun p hp => ?_⟩
  have ec : cutV vs (some ((d1 : Nat) : Int)) (some ((d2 : Nat) : Int)) = (vs.drop d1).take (d2 - d1) := by
    unfold cutV
    rw [HT.sIx_nat, HT.sIx_nat]
    exact cut_eq vs d1 d2
  rw [ec]
  have y : Ext F3 H3 (upd F3 p (.lst ((vs.drop d1).take (d2 - d1)))) (upd H3 p (.lst ((vs.drop d1).take (d2 - d1)))) := Ext.new x3.fh hp
  exact q _ _ _ _ rfl (((x.trans x2).trans x3).trans y) ⟨p, _, rfl, upd_same, (((S.mono x).mono x2).mono x3).ext.hh.free hp, ((((h2.mono x2.ff).mono x3.ff).mono y.ff).drop d1).take _⟩
theorem ev_rev {te : TE} {xs : List α} (ha : Ev K E te Γ xs) : Ev K E (tRevL K te) Γ xs.reverse := fun F H σ S Q q => by
  refine ha F H σ S _ fun d v F1 H1 e x r => ?_
  subst e
  obtain ⟨a, vs, rfl, h1, h2⟩ := r
  refine ⟨a, vs, rfl, x.fh.seq h1, fun p hp => ?_⟩
  have y : Ext F1 H1 (upd F1 p (.lst vs.reverse)) (upd H1 p (.lst vs.reverse)) := Ext.new x.fh hp
  exact q _ _ _ _ rfl (x.trans y) ⟨p, _, rfl, .inl (.inl upd_same), (h2.mono y.ff).reverse⟩
theorem ev_lstNL {ta : TA} {xs : List α} (h : EvA K E ta Γ (xs.map fun x => .dat x)) (hz : xs.length ≤ 1000) : Ev K E (tLst ta) Γ (⟨xs⟩ : NL E.H0 α) := fun F H σ S Q q => by
  refine h F H σ S _ fun vs F1 H1 x r => ?_
  have r := reps_of_args r
  refine ⟨by rw [r.1]; exact Nat.le_of_lt (small1000 hz), fun p hp => ?_⟩
  have y : Ext F1 H1 (upd F1 p (.lst vs)) (upd H1 p (.lst vs)) := Ext.new x.fh hp
  exact q _ _ _ _ rfl (x.trans y) ⟨p, vs, rfl, upd_same, (S.mono x).ext.hh.free hp, r.mono y.ff⟩
theorem ev_catNL {ta tb : TE} {Ha Hb : Hp} {xs ys : List α} (ha : Ev K E ta Γ (⟨xs⟩ : NL Ha α)) (hb : Ev K E tb Γ (⟨ys⟩ : NL Hb α)) (hz : xs.length + ys.length ≤ 1000) : Ev K E (tOp rCat ta tb) Γ (⟨xs ++ ys⟩ : NL E.H0 α) := fun F H σ S Q q => by
  refine ha F H σ S _ fun d v F1 H1 e x r => ?_
  subst e
  refine hb F1 H1 σ (S.mono x) _ fun d2 v2 F2 H2 e2 x2 r2 => ?_
  subst e2
  obtain ⟨a, vs, rfl, h1, _, h3⟩ := r
  obtain ⟨b, ws, rfl, g1, _, g3⟩ := r2
  refine ⟨a, b, vs, ws, rfl, rfl, x2.hh _ _ (x.fh _ _ h1), x2.fh _ _ g1, by rw [h3.1, g3.1]; exact Nat.le_of_lt (small1000 hz), fun p hp => ?_⟩
  have y : Ext F2 H2 (upd F2 p (.lst (vs ++ ws))) (upd H2 p (.lst (vs ++ ws))) := Ext.new x2.fh hp
  exact q _ _ _ _ rfl ((x.trans x2).trans y) ⟨p, _, rfl, upd_same, ((S.mono x).mono x2).ext.hh.free hp, ((h3.mono x2.ff).mono y.ff).append (g3.mono y.ff)⟩
/-! fields of a Game -/
theorem ev_fs {ta : TE} {g : Gm} (ha : Ev K E ta Γ g) : Ev K E (tFld K ta "states") Γ g.s := fun F H σ S Q q => by
  refine ha F H σ S _ fun d v F1 H1 e x r => ?_
  subst e
  obtain ⟨p, C, dx, fs, v1, v2, v3, v4, v5, rfl, h2, h3, ⟨a1, b1⟩, ⟨a2, b2⟩, ⟨a3, b3⟩, ⟨a4, b4⟩, a5, b5⟩ := r
  exact ⟨p, C, dx, fs, v1, rfl, x.fh _ _ h2, h3.cl, h3.nS, a1, q _ _ F1 H1 rfl x b1⟩
theorem ev_fk {ta : TE} {g : Gm} (ha : Ev K E ta Γ g) : Ev K E (tFld K ta "kinds") Γ g.ks := fun F H σ S Q q => by
  refine ha F H σ S _ fun d v F1 H1 e x r => ?_
  subst e
  obtain ⟨p, C, dx, fs, v1, v2, v3, v4, v5, rfl, h2, h3, ⟨a1, b1⟩, ⟨a2, b2⟩, ⟨a3, b3⟩, ⟨a4, b4⟩, a5, b5⟩ := r
  exact ⟨p, C, dx, fs, v2, rfl, x.fh _ _ h2, h3.cl, h3.nK, a2, q _ _ F1 H1 rfl x b2⟩
theorem ev_fa {ta : TE} {g : Gm} (ha : Ev K E ta Γ g) : Ev K E (tFld K ta "acts") Γ g.as := fun F H σ S Q q => by
  refine ha F H σ S _ fun d v F1 H1 e x r => ?_
  subst e
  obtain ⟨p, C, dx, fs, v1, v2, v3, v4, v5, rfl, h2, h3, ⟨a1, b1⟩, ⟨a2, b2⟩, ⟨a3, b3⟩, ⟨a4, b4⟩, a5, b5⟩ := r
  exact ⟨p, C, dx, fs, v3, rfl, x.fh _ _ h2, h3.cl, h3.nA, a3, q _ _ F1 H1 rfl x b3⟩
theorem ev_fw {ta : TE} {g : Gm} (ha : Ev K E ta Γ g) : Ev K E (tFld K ta "weights") Γ g.ws := fun F H σ S Q q => by
  refine ha F H σ S _ fun d v F1 H1 e x r => ?_
  subst e
  obtain ⟨p, C, dx, fs, v1, v2, v3, v4, v5, rfl, h2, h3, ⟨a1, b1⟩, ⟨a2, b2⟩, ⟨a3, b3⟩, ⟨a4, b4⟩, a5, b5⟩ := r
  exact ⟨p, C, dx, fs, v4, rfl, x.fh _ _ h2, h3.cl, h3.nW, a4, q _ _ F1 H1 rfl x b4⟩
theorem ev_fp {ta : TE} {g : Gm} (ha : Ev K E ta Γ g) : Ev K E (tFld K ta "pays") Γ g.ps := fun F H σ S Q q => by
  refine ha F H σ S _ fun d v F1 H1 e x r => ?_
  subst e
  obtain ⟨p, C, dx, fs, v1, v2, v3, v4, v5, rfl, h2, h3, ⟨a1, b1⟩, ⟨a2, b2⟩, ⟨a3, b3⟩, ⟨a4, b4⟩, a5, b5⟩ := r
  exact ⟨p, C, dx, fs, v5, rfl, x.fh _ _ h2, h3.cl, h3.nP, a5, q _ _ F1 H1 rfl x b5⟩
/-! ### what is walked -/
def IterOf (K : PySem.W.Frag) (J : It) (F1 : Hp) (ys : List β) : Prop := ∃ (G : Hp → Prop) (Y : Nat → Hp → V → Hp → Prop), Walk J ys.length G Y ∧ (∀ H, Same F1 H → G H) ∧
  ∀ (i : Nat) (H : Hp) (x : V) (H' : Hp), Same F1 H → i < ys.length → Y i H x H' → H' = H ∧ ∃ y, ys[i]? = some y ∧ Py.rep K F1 x y
def EvI (K : PySem.W.Frag) (E : En) (wi : TI) (Γ : List Slot) (ys : List β) : Prop :=
  ∀ (F H : Hp) (σ : St), Stt K E F H σ Γ → ∀ R : It → Hp → Prop, (∀ (J : It) (F1 H1 : Hp), Ext F H F1 H1 → IterOf K J F1 ys → R J H1) → wi σ H R
theorem evi_list {tl : TE} {ys : List β} (h : Ev K E tl Γ ys) : EvI K E (iList K tl) Γ ys := fun F H σ S R q => by
  refine h F H σ S _ fun d v F1 H1 e x r => ?_
  subst e
  obtain ⟨a, vs, rfl, h1, h2⟩ := r
  refine ⟨a, rfl, ⟨vs, x.fh.seq h1⟩, q _ F1 H1 x ⟨_, _, by rw [← h2.1]; exact walk_list, fun H s => s.seq h1, ?_⟩⟩
  rintro i H2 y H3 s l ⟨e1, e2⟩
  refine ⟨e1, d[i], List.getElem?_eq_getElem l, h2.2 i y _ e2 (List.getElem?_eq_getElem l)⟩
theorem evi_range {tn : TE} {n : Nat} (h : Ev K E tn Γ n) (b : n < 1000000) : EvI K E (iRng1 (tCons tn tNil)) Γ (List.range n) := fun F H σ S R q => by
  refine h F H σ S _ fun d v F1 H1 e x r => ?_
  subst e
  have r : v = .int (d : Int) := r
  subst r
  refine ⟨d, rfl, by omega, by omega, ?_⟩
  rw [Int.toNat_natCast]
  refine q _ F1 H1 x ⟨_, _, by rw [List.length_range]; exact walk_range, fun _ _ => trivial, ?_⟩
  rintro i H2 y H3 s l ⟨e1, e2⟩
  rw [List.length_range] at l
  exact ⟨e1, i, by rw [List.getElem?_range l], by rw [e2]; show V.int _ = V.int _; congr 1; omega⟩
theorem evi_range1 {tm tn : TE} {n : Nat} (hm : Ev K E tm Γ 1) (h : Ev K E tn Γ n) (b : n < 1000000) : EvI K E (iRng2 (tCons tm (tCons tn tNil))) Γ ((List.range (n - 1)).map (· + 1)) := fun F H σ S R q => by
  refine hm F H σ S _ fun d0 v0 F0 H0 e0 x0 r0 => ?_
  subst e0
  have r0 : v0 = .int ((1 : Nat) : Int) := r0
  subst r0
  refine h F0 H0 σ (S.mono x0) _ fun d v F1 H1 e x r => ?_
  subst e
  have r : v = .int (d : Int) := r
  subst r
  refine ⟨1, d, rfl, ⟨by omega, by omega, by omega, by omega⟩, ?_⟩
  rw [show ((d : Int) - 1).toNat = d - 1 by omega]
  refine q _ F1 H1 (x0.trans x) ⟨_, _, by rw [List.length_map, List.length_range]; exact walk_range, fun _ _ => trivial, ?_⟩
  rintro i H2 y H3 s l ⟨e1, e2⟩
  rw [List.length_map, List.length_range] at l
  exact ⟨e1, i + 1, by rw [List.getElem?_map, List.getElem?_range l]; rfl, by rw [e2]; show V.int _ = V.int _; congr 1; omega⟩
/-! ### comprehensions -/
theorem Stt.mutAt {D : Addr} {o : HO} (h : Stt K E F H σ Γ) (fD : F D = none) (h0 : E.H0 D = none)
    (nd : ∀ (j : Nat) (s : Slot) (a : Addr), Γ[j]? = some s → s.isOwn = true → σ[j]? = some (some (.ref a)) → a ≠ D) : Stt K E F (upd H D o) σ Γ := by
  refine ⟨h.s0, h.ext.mut fD h0, h.bs, h.len, fun i s k => ?_, h.sep⟩
  obtain ⟨o', a, b⟩ := h.ok i s k
  refine ⟨o', a, ?_⟩
  cases s with
  | any => exact trivial
  | dat d => exact b
  | own xs =>
    obtain ⟨c, vs, rfl, hc, r⟩ := b
    exact ⟨c, vs, rfl, by rw [upd_ne (nd i _ c k rfl a)]; exact hc, r⟩
theorem Stt.noOwn {D : Addr} (h : Stt K E F H σ Γ) (hD : H D = none) : ∀ (j : Nat) (s : Slot) (a : Addr), Γ[j]? = some s → s.isOwn = true → σ[j]? = some (some (.ref a)) → a ≠ D := by
  intro j s a k o e
  cases s with
  | any => exact nomatch o
  | dat d => exact nomatch o
  | own xs =>
    obtain ⟨o', e1, c, vs, rfl, hc, _⟩ := h.ok j _ k
    rw [e1] at e
    cases e
    exact ne_of_none hc hD
theorem ev_lc {wi : TI} {te : TE} {x : Nat} {ys : List β} {P : Nat → γ → Prop} (hi : EvI K E wi Γ ys) (hz : ys.length ≤ 1000)
    (he : ∀ (i : Nat) (y : β), ys[i]? = some y → EvP K E te (Γ.set x (.dat y)) (P i)) :
    EvP K E (tLc wi (gName x) tYes te [x]) Γ (fun zs : NL E.H0 γ => zs.l.length = ys.length ∧ ∀ (i : Nat) (z : γ), zs.l[i]? = some z → P i z) := fun F H σ S Q q => by
  refine hi F H σ S _ fun J F1 H1 x1 ⟨G, Y, w, hG, hY⟩ D hD => ?_
  have S1 := S.mono x1
  have f1D : F1 D = none := x1.fh.free hD
  have nd := S1.noOwn hD
  have D0 : E.H0 D = none := S1.ext.hh.free hD
  have HD : H D = none := x1.hh.free hD
  refine lc_it w (fun i H2 => ∃ (F2 : Hp) (vs : List V) (zs : List γ), Stt K E F2 H2 σ Γ ∧ Ext F H F2 H2 ∧ Same F1 F2 ∧ H2 D = some (.lst vs) ∧ F2 D = none ∧ zs.length = i ∧ i ≤ ys.length ∧ (∀ (j : Nat) (z : γ), zs[j]? = some z → P j z) ∧ Reps K F2 vs zs) ?_ ?_ ?_ ?_
  · exact ⟨F1, [], [], S1.mutAt f1D D0 nd, x1.mut f1D HD, Same.refl _, upd_same, f1D, rfl, Nat.zero_le _, fun j z e => by simp at e, Reps.nil⟩
  · rintro i H2 _ ⟨F2, vs, zs, S2, _, s12, _⟩
    exact hG H2 (s12.trans S2.fh)
  · rintro i v H2 H3 hlt ⟨F2, vs, zs, S2, x2, s12, hD2, fD2, hl, _, hP, hr⟩ y
    obtain ⟨e3, d, hd, rd⟩ := hY i H2 v H3 (s12.trans S2.fh) hlt y
    subst e3
    have ew : (wipe σ [x]).set x (some v) = σ.set x (some v) := by
      show (σ.set x none).set x (some v) = σ.set x (some v)
      rw [List.set_set]
    refine ⟨by show ((σ.set x none).set x (some v)).set x none = σ.set x none; rw [List.set_set, List.set_set], ?_⟩
    rw [ew]
    unfold tYes
    refine iteT ?_
    refine he i d hd F2 H3 _ (S2.setDat (i := x) (Py.mono s12 rd)) _ fun z u F4 H4 pz x4 rz => ?_
    have hD4 := x4.hh _ _ hD2
    have fD4 := x4.fr _ _ fD2 hD2
    refine ⟨vs, hD4, by rw [hr.1, hl]; exact small1000 (by omega), F4, vs ++ [u], zs ++ [z], (S2.mono x4).mutAt fD4 D0 nd, (x2.trans x4).mut fD4 HD, s12.trans x4.ff, upd_same, fD4, by simp [hl], hlt, ?_, (hr.mono x4.ff).snoc rz⟩
    intro j z' ej
    by_cases c : j < zs.length
    · rw [List.getElem?_append_left c] at ej
      exact hP j z' ej
    · have l := (List.getElem?_eq_some_iff.mp ej).1
      simp at l
      have : j = i := by omega
      subst this
      rw [List.getElem?_append_right (by omega)] at ej
      simp [hl] at ej
      rw [← ej]
      exact pz
  · rintro H2 ⟨F2, vs, zs, S2, x2, s12, hD2, fD2, hl, _, hP, hr⟩
    exact q ⟨zs⟩ _ _ _ ⟨hl, hP⟩ (x2.freeze S.fh hD2 fD2 HD) ⟨D, vs, rfl, upd_same, D0, hr.mono (same_new fD2)⟩
theorem ev_lcNL {wi : TI} {te : TE} {x : Nat} {ys : List β} {f : β → γ} (hi : EvI K E wi Γ ys) (hz : ys.length ≤ 1000)
    (he : ∀ (y : β), y ∈ ys → Ev K E te (Γ.set x (.dat y)) (f y)) : Ev K E (tLc wi (gName x) tYes te [x]) Γ (⟨ys.map f⟩ : NL E.H0 γ) := by
  refine (ev_lc (P := fun i z => ∃ y, ys[i]? = some y ∧ z = f y) hi hz fun i y e => (he y (List.mem_of_getElem? e)).imp fun d ed => ⟨y, e, ed⟩).imp fun d ⟨h1, h2⟩ => ?_
  obtain ⟨l⟩ := d
  show NL.mk l = NL.mk (ys.map f)
  congr 1
  refine List.ext_getElem? fun i => ?_
  rw [List.getElem?_map]
  cases k : l[i]? with
  | none =>
    have : ys.length ≤ i := by
      rw [← h1]
      exact List.getElem?_eq_none_iff.mp k
    rw [List.getElem?_eq_none this]
    rfl
  | some z =>
    obtain ⟨y, e1, e2⟩ := h2 i z k
    rw [e1, e2]
    rfl
theorem ev_lcD {wi : TI} {te : TE} {x : Nat} {ys : List β} {f : β → γ} (hi : EvI K E wi Γ ys) (hz : ys.length ≤ 1000)
    (he : ∀ (y : β), y ∈ ys → Ev K E te (Γ.set x (.dat y)) (f y)) : Ev K E (tLc wi (gName x) tYes te [x]) Γ (ys.map f) := Ev.list (ev_lcNL hi hz he)
/-- with an if -/
theorem ev_lcF {wi : TI} {te : TE} {tt : TT} {x : Nat} {ys : List β} {f : β → γ} {p : β → Bool} (hi : EvI K E wi Γ ys) (hz : ys.length ≤ 1000)
    (ht : ∀ (y : β), y ∈ ys → EvT K E tt (Γ.set x (.dat y)) (p y)) (he : ∀ (y : β), y ∈ ys → p y = true → Ev K E te (Γ.set x (.dat y)) (f y)) :
    Ev K E (tLc wi (gName x) tt te [x]) Γ ((ys.filter p).map f) := fun F H σ S Q q => by
  refine hi F H σ S _ fun J F1 H1 x1 ⟨G, Y, w, hG, hY⟩ D hD => ?_
  have S1 := S.mono x1
  have f1D : F1 D = none := x1.fh.free hD
  have nd := S1.noOwn hD
  have D0 : E.H0 D = none := S1.ext.hh.free hD
  have HD : H D = none := x1.hh.free hD
  refine lc_it w (fun i H2 => ∃ (F2 : Hp) (vs : List V), Stt K E F2 H2 σ Γ ∧ Ext F H F2 H2 ∧ Same F1 F2 ∧ H2 D = some (.lst vs) ∧ F2 D = none ∧ i ≤ ys.length ∧ Reps K F2 vs (((ys.take i).filter p).map f)) ?_ ?_ ?_ ?_
  · exact ⟨F1, [], S1.mutAt f1D D0 nd, x1.mut f1D HD, Same.refl _, upd_same, f1D, Nat.zero_le _, Reps.nil⟩
  · rintro i H2 _ ⟨F2, vs, S2, _, s12, _⟩
    exact hG H2 (s12.trans S2.fh)
  · rintro i v H2 H3 hlt ⟨F2, vs, S2, x2, s12, hD2, fD2, hl, hr⟩ y
    obtain ⟨e3, d, hd, rd⟩ := hY i H2 v H3 (s12.trans S2.fh) hlt y
    subst e3
    have ew : (wipe σ [x]).set x (some v) = σ.set x (some v) := by
      show (σ.set x none).set x (some v) = σ.set x (some v)
      rw [List.set_set]
    refine ⟨by show ((σ.set x none).set x (some v)).set x none = σ.set x none; rw [List.set_set, List.set_set], ?_⟩
    rw [ew]
    have md := List.mem_of_getElem? hd
    have S3 := S2.setDat (i := x) (Py.mono s12 rd)
    have tk : (ys.take (i + 1)) = ys.take i ++ [d] := by
      rw [List.take_add_one, hd]
      rfl
    refine ht d md F2 H3 _ S3 _ fun F3 H4 x3 => ?_
    have hD3 := x3.hh _ _ hD2
    have fD3 := x3.fr _ _ fD2 hD2
    refine ite2 (fun c => ?_) (fun c => ?_)
    · refine he d md c F3 H4 _ (S3.mono x3) _ fun z u F4 H5 pz x4 rz => ?_
      subst pz
      have hD4 := x4.hh _ _ hD3
      have fD4 := x4.fr _ _ fD3 hD3
      refine ⟨vs, hD4, ?_, F4, vs ++ [u], ((S2.mono x3).mono x4).mutAt fD4 D0 nd, ((x2.trans x3).trans x4).mut fD4 HD, (s12.trans x3.ff).trans x4.ff, upd_same, fD4, hlt, ?_⟩
      · rw [hr.1, List.length_map]
        refine small1000 (Nat.le_trans (List.length_filter_le _ _) ?_)
        rw [List.length_take]
        omega
      · rw [tk, List.filter_append, List.map_append]
        have : ([d].filter p).map f = [f d] := by simp [c]
        rw [this]
        exact ((hr.mono x3.ff).mono x4.ff).snoc rz
    · refine ⟨F3, vs, S2.mono x3, x2.trans x3, s12.trans x3.ff, hD3, fD3, hlt, ?_⟩
      rw [tk, List.filter_append, List.map_append]
      have : ([d].filter p).map f = [] := by simp [c]
      rw [this, List.append_nil]
      exact hr.mono x3.ff
  · rintro H2 ⟨F2, vs, S2, x2, s12, hD2, fD2, hl, hr⟩
    rw [List.take_of_length_le (Nat.le_refl _)] at hr
    exact q _ _ _ _ rfl (x2.freeze S.fh hD2 fD2 HD) ⟨D, vs, rfl, .inl (.inl upd_same), hr.mono (same_new fD2)⟩
/-! ### calls of defs -/
/-- the promise: from arguments args x (with pre x) a datum d with post x d -/
def Pr {ι β : Type} [Py β] (K : PySem.W.Frag) (args : ι → List Slot) (pre : ι → Prop) (post : ι → β → Prop) : Sp := fun vs H Q _ =>
  ∃ (F : Hp) (x : ι), Same F H ∧ RepsS K F vs (args x) ∧ pre x ∧ ∀ (d : β) (v : V) (F' H' : Hp), post x d → Ext F H F' H' → Py.rep K F' v d → Q v H'
theorem ev_call {ι : Type} {args : ι → List Slot} {pre : ι → Prop} {post : ι → β → Prop} {X : XK} {ta : TA} (x : ι) (h : EvA K E ta Γ (args x)) (p : pre x) : EvP K E (tCall (Pr K args pre post) [] X ta) Γ (post x) := fun F H σ S Q q => by
  refine h F H σ S _ fun vs F1 H1 x1 r => ?_
  rw [List.append_nil]
  exact ⟨F1, x, x1.fh, r, p, fun d v F' H' pd e rd => q d v F' H' pd (x1.trans e) rd⟩
/-! ### statements -/
abbrev As := St → Hp → Prop
def Sat (K : PySem.W.Frag) (E : En) (Γ : List Slot) : As := fun σ H => ∃ F, Stt K E F H σ Γ
def Ok (K : PySem.W.Frag) (E : En) (post : β → Prop) (t : TS) (I N : As) : Prop :=
  ∀ D : Ends, (∀ (d : β) (v : V) (F H : Hp), post d → Ext E.F0 E.H0 F H → Py.rep K F v d → D.rt v H) → (∀ σ H, N σ H → D.nx σ H) → ∀ σ H, I σ H → t D σ H
variable {post : β → Prop} {rest : TS} {I N M : As}
theorem Ok.pre {t : TS} {I' : As} (h : Ok K E post t I N) (i : ∀ σ H, I' σ H → I σ H) : Ok K E post t I' N := fun D hr hn σ H k => h D hr hn σ H (i σ H k)
theorem Ok.weak {t : TS} (w : Wk Γ Γ') (h : Ok K E post t (Sat K E Γ') N) : Ok K E post t (Sat K E Γ) N := h.pre fun σ H ⟨F, S⟩ => ⟨F, S.weak w⟩
theorem ok_next (h : ∀ σ H, I σ H → N σ H) : Ok K E post tNext I N := fun D _ hn σ H k => hn σ H (h σ H k)
theorem ok_asg {te : TE} {i : Nat} {P : α → Prop} (he : EvP K E te Γ P) (k : ∀ d, P d → Ok K E post rest (Sat K E (Γ.set i (.dat d))) N) : Ok K E post (tSeq (tAsg te (gName i)) rest) (Sat K E Γ) N := by
  rintro D hr hn σ H ⟨F, S⟩
  exact he F H σ S _ fun d v F1 H1 p x r => k d p D hr hn _ _ ⟨F1, (S.mono x).setDat r⟩
theorem ok_asgD {te : TE} {i : Nat} {d : α} (he : Ev K E te Γ d) (k : Ok K E post rest (Sat K E (Γ.set i (.dat d))) N) : Ok K E post (tSeq (tAsg te (gName i)) rest) (Sat K E Γ) N := ok_asg he fun d' e => e ▸ k
theorem ok_new (α : Type) [Py α] {i : Nat} (k : Ok K E post rest (Sat K E (Γ.set i (.own ([] : List α)))) N) : Ok K E post (tSeq (tAsg (tLst tNil) (gName i)) rest) (Sat K E Γ) N := by
  rintro D hr hn σ H ⟨F, S⟩
  exact ⟨Nat.zero_le _, fun p hp => k D hr hn _ _ ⟨F, S.setNew hp⟩⟩
theorem ok_newL {ta : TA} {i : Nat} {xs : List α} (hi : i < Γ.length) (h : EvA K E ta Γ (xs.map fun x => .dat x)) (hz : xs.length ≤ 1000) (k : Ok K E post rest (Sat K E (Γ.set i (.own xs))) N) : Ok K E post (tSeq (tAsg (tLst ta) (gName i)) rest) (Sat K E Γ) N := by
  rintro D hr hn σ H ⟨F, S⟩
  refine h F H σ S _ fun vs F1 H1 x r => ?_
  have r := reps_of_args r
  refine ⟨by rw [r.1]; exact Nat.le_of_lt (small1000 hz), fun p hp => ?_⟩
  have S1 := (S.mono x).setNew (α := α) (i := i) hp
  have l : i < σ.length := by
    rw [S.len]
    exact hi
  have S2 := S1.setList (i := i) (a := p) (xs := []) (ys := xs) (ws := vs) (List.getElem?_set_self hi) (List.getElem?_set_self l) r
  rw [upd_upd, List.set_set] at S2
  exact k D hr hn _ _ ⟨F1, S2⟩
theorem ok_append {te : TE} {i : Nat} {xs : List α} {P : α → Prop} (k : Γ[i]? = some (.own xs)) (hl : xs.length < 1000) (he : EvP K E te Γ P) (kk : ∀ d, P d → Ok K E post rest (Sat K E (Γ.set i (.own (xs ++ [d])))) N) :
    Ok K E post (tSeq (tDrop (tBM K "list" rAppend (tVar i) (tCons te tNil))) rest) (Sat K E Γ) N := by
  rintro D hr hn σ H ⟨F, S⟩
  obtain ⟨a, vs, ha, hH, fa, a0, r⟩ := S.atOwn k
  refine ⟨.ref a, ha, .inl ⟨rfl, vs, .inl (.inl hH)⟩, ?_⟩
  refine he F H σ S _ fun d v F1 H1 p x rd => ?_
  have S1 := S.mono x
  refine ⟨a, vs, v, rfl, rfl, x.hh _ _ hH, by rw [r.1]; exact small1000 (by omega), ?_⟩
  exact kk d p D hr hn _ _ ⟨F1, S1.setList k ha ((r.mono x.ff).snoc rd)⟩
theorem ok_appendD {te : TE} {i : Nat} {xs : List α} {d : α} (k : Γ[i]? = some (.own xs)) (hl : xs.length < 1000) (he : Ev K E te Γ d) (kk : Ok K E post rest (Sat K E (Γ.set i (.own (xs ++ [d])))) N) :
    Ok K E post (tSeq (tDrop (tBM K "list" rAppend (tVar i) (tCons te tNil))) rest) (Sat K E Γ) N := ok_append k hl he fun d' e => e ▸ kk
theorem ok_freeze {t : TS} (i : Nat) {xs : List α} (k : Γ[i]? = some (.own xs)) (h : Ok K E post t (Sat K E (Γ.set i (.dat xs))) N) : Ok K E post t (Sat K E Γ) N := h.pre fun σ H ⟨F, S⟩ => S.freeze k
theorem ok_setix {te ti : TE} {i n : Nat} {xs : List α} {P : α → Prop} (k : Γ[i]? = some (.own xs)) (hn' : n < xs.length) (he : EvP K E te Γ P) (hi : Ev K E ti Γ n) (kk : ∀ d, P d → Ok K E post rest (Sat K E (Γ.set i (.own (xs.set n d)))) N) :
    Ok K E post (tSeq (tAsg te (gSub (tVar i) ti rSetL)) rest) (Sat K E Γ) N := by
  rintro D hr hn σ H ⟨F, S⟩
  refine he F H σ S _ fun d v F1 H1 p x rd => ?_
  obtain ⟨a, vs, ha, hH, fa, a0, r⟩ := (S.mono x).atOwn k
  refine ⟨.ref a, ha, ?_⟩
  refine hi F1 H1 σ (S.mono x) _ fun d2 v2 F2 H2 e2 x2 r2 => ?_
  subst e2
  refine ⟨a, vs, d2, d2, rfl, r2, x2.hh _ _ hH, ?_, ?_⟩
  · unfold ixN
    rw [if_pos (by omega), if_pos (by rw [r.1]; omega)]
    rfl
  · exact kk d p D hr hn _ _ ⟨F2, ((S.mono x).mono x2).setList k ha ((r.mono x2.ff).set (Py.mono x2.ff rd))⟩
theorem ok_ret {te : TE} {P : β → Prop} (he : EvP K E te Γ P) (hp : ∀ d, P d → post d) : Ok K E post (tSeq (tRet te) rest) (Sat K E Γ) N := by
  rintro D hr hn σ H ⟨F, S⟩
  exact he F H σ S _ fun d v F1 H1 p x r => hr d v F1 H1 (hp d p) (S.ext.trans x) r
theorem ok_if {tc : TT} {t u : TS} {b : Bool} (hc : EvT K E tc Γ b) (M : As) (ht : b = true → Ok K E post t (Sat K E Γ) M) (hu : b = false → Ok K E post u (Sat K E Γ) M) (hk : Ok K E post rest M N) : Ok K E post (tSeq (tIfS tc t u) rest) (Sat K E Γ) N := by
  rintro D hr hn σ H ⟨F, S⟩
  refine hc F H σ S _ fun F1 H1 x => ?_
  have g : ∀ σ H, M σ H → rest D σ H := fun σ H m => hk D hr hn σ H m
  cases b with
  | true => exact iteT (ht rfl { D with nx := rest D } hr g σ H1 ⟨F1, S.mono x⟩)
  | false => exact iteF (hu rfl { D with nx := rest D } hr g σ H1 ⟨F1, S.mono x⟩)
/-- if ..: .. return -/
theorem ok_ifr {tc : TT} {t : TS} {b : Bool} (hc : EvT K E tc Γ b) (ht : b = true → Ok K E post t (Sat K E Γ) (fun _ _ => False)) (hk : b = false → Ok K E post rest (Sat K E Γ) N) : Ok K E post (tSeq (tIfS tc t tNext) rest) (Sat K E Γ) N := by
  rintro D hr hn σ H ⟨F, S⟩
  refine hc F H σ S _ fun F1 H1 x => ?_
  cases b with
  | true => exact iteT (ht rfl { D with nx := rest D } hr (fun _ _ h => h.elim) σ H1 ⟨F1, S.mono x⟩)
  | false => exact iteF (hk rfl D hr hn σ H1 ⟨F1, S.mono x⟩)
/-- a for: P what holds of the turn and z, G the store -/
theorem ok_for {wi : TI} {x : Nat} {tb : TS} {ys : List α} {ι : Type} (hi : EvI K E wi Γ ys) (P : Nat → ι → Prop) (G : Nat → ι → List Slot) (z0 : ι) (h0 : P 0 z0) (w0 : Wk Γ (G 0 z0))
    (hs : ∀ (Fb : Hp) (i : Nat) (y : α) (z : ι), ys[i]? = some y → P i z → Ok K { E with Fb := Fb } post tb (Sat K { E with Fb := Fb } ((G i z).set x (.dat y))) (fun σ H => ∃ z', P (i + 1) z' ∧ Sat K { E with Fb := Fb } (G (i + 1) z') σ H))
    (hk : ∀ z, P ys.length z → Ok K E post rest (Sat K E (G ys.length z)) N) : Ok K E post (tSeq (tFor wi (gName x) tb) rest) (Sat K E Γ) N := by
  rintro D hr hn σ H ⟨F, S⟩
  refine hi F H σ S _ fun J F1 H1 x1 ⟨GG, Y, w, hG, hY⟩ => ?_
  have S1 := S.mono x1
  have rb : ∀ {F H : Hp} {σ : St} {Γ : List Slot}, Stt K { E with Fb := F1 } F H σ Γ → Stt K E F H σ Γ := fun s => ⟨s.s0, s.ext, S1.bs.trans s.bs, s.len, s.ok, s.sep⟩
  refine for_it w (fun i σ H => ∃ z, P i z ∧ Sat K { E with Fb := F1 } (G i z) σ H) ?_ ?_ ?_ ?_
  · exact ⟨z0, h0, F1, (⟨S1.s0, S1.ext, Same.refl _, S1.len, S1.ok, S1.sep⟩ : Stt K { E with Fb := F1 } F1 H1 σ Γ).weak w0⟩
  · rintro i σ H _ ⟨z, _, F2, S2⟩
    exact hG H (S2.bs.trans S2.fh)
  · rintro i v σ2 H2 H3 hlt ⟨z, pz, F2, S2⟩ y
    obtain ⟨e3, d, hd, rd⟩ := hY i H2 v H3 (S2.bs.trans S2.fh) hlt y
    subst e3
    exact hs F1 i d z hd pz { D with nx := fun σ H => ∃ z, P (i + 1) z ∧ Sat K { E with Fb := F1 } (G (i + 1) z) σ H, ct := fun σ H => ∃ z, P (i + 1) z ∧ Sat K { E with Fb := F1 } (G (i + 1) z) σ H, bk := rest D } hr (fun _ _ h => h) _ _ ⟨F2, S2.setDat (Py.mono S2.bs rd)⟩
  · rintro σ2 H2 ⟨z, pz, F2, S2⟩
    exact hk z pz D hr hn σ2 H2 ⟨F2, rb S2⟩
theorem ok_wk (w : Wk Γ Γ') : Ok K E post tNext (Sat K E Γ) (Sat K E Γ') := ok_next fun σ H ⟨F, S⟩ => ⟨F, S.weak w⟩
/-- the store a function of the turn -/
theorem ok_forD {wi : TI} {x : Nat} {tb : TS} {ys : List α} (hi : EvI K E wi Γ ys) (G : Nat → List Slot) (w0 : Wk Γ (G 0))
    (hs : ∀ (Fb : Hp) (i : Nat) (y : α), ys[i]? = some y → Ok K { E with Fb := Fb } post tb (Sat K { E with Fb := Fb } ((G i).set x (.dat y))) (Sat K { E with Fb := Fb } (G (i + 1))))
    (hk : Ok K E post rest (Sat K E (G ys.length)) N) : Ok K E post (tSeq (tFor wi (gName x) tb) rest) (Sat K E Γ) N := by
  refine ok_for (ι := Unit) hi (fun _ _ => True) (fun i _ => G i) () trivial w0 (fun Fb i y z e _ => ?_) (fun _ _ => hk)
  intro D hr hn σ H h
  exact hs Fb i y e D hr (fun σ H h => hn σ H ⟨(), trivial, h⟩) σ H h
/-- over a range -/
theorem ok_forR {tn : TE} {n : Nat} {x : Nat} {tb : TS} (hn : Ev K E tn Γ n) (hb : n < 1000000) (G : Nat → List Slot) (w0 : Wk Γ (G 0))
    (hs : ∀ (Fb : Hp) (i : Nat), i < n → Ok K { E with Fb := Fb } post tb (Sat K { E with Fb := Fb } ((G i).set x (.dat i))) (Sat K { E with Fb := Fb } (G (i + 1))))
    (hk : Ok K E post rest (Sat K E (G n)) N) : Ok K E post (tSeq (tFor (iRng1 (tCons tn tNil)) (gName x) tb) rest) (Sat K E Γ) N := by
  refine ok_forD (evi_range hn hb) G w0 (fun Fb i y e => ?_) (by rw [List.length_range]; exact hk)
  have l : i < n := by
    have := (List.getElem?_eq_some_iff.mp e).1
    simpa using this
  rw [List.getElem?_range l] at e
  cases e
  exact hs Fb i l
/-- a, b = a pair -/
theorem ok_tup2 {te : TE} {i j : Nat} {P : α × γ → Prop} (he : EvP K E te Γ P) (k : ∀ d, P d → Ok K E post rest (Sat K E ((Γ.set i (.dat d.1)).set j (.dat d.2))) N) : Ok K E post (tSeq (tAsg te (gTup K 2 (gCons (gName i) (gCons (gName j) gNil)))) rest) (Sat K E Γ) N := by
  rintro D hr hn σ H ⟨F, S⟩
  refine he F H σ S _ fun d v F1 H1 p x r => ?_
  obtain ⟨a, u, w, rfl, h1, h2, h3⟩ := r
  exact ⟨a, [u, w], rfl, sameT x.fh h1, rfl, u, [w], rfl, w, [], rfl, rfl, k d p D hr hn _ _ ⟨F1, ((S.mono x).setDat h2).setDat h3⟩⟩
theorem ok_tup3 {δ : Type} [Py δ] {te : TE} {i j l : Nat} {P : T3 α γ δ → Prop} (he : EvP K E te Γ P) (k : ∀ d, P d → Ok K E post rest (Sat K E (((Γ.set i (.dat d.x)).set j (.dat d.y)).set l (.dat d.z))) N) : Ok K E post (tSeq (tAsg te (gTup K 3 (gCons (gName i) (gCons (gName j) (gCons (gName l) gNil))))) rest) (Sat K E Γ) N := by
  rintro D hr hn σ H ⟨F, S⟩
  refine he F H σ S _ fun d v F1 H1 p x r => ?_
  obtain ⟨a, u, w, y, rfl, h1, h2, h3, h4⟩ := r
  exact ⟨a, [u, w, y], rfl, sameT x.fh h1, rfl, u, [w, y], rfl, w, [y], rfl, y, [], rfl, rfl, k d p D hr hn _ _ ⟨F1, (((S.mono x).setDat h2).setDat h3).setDat h4⟩⟩
theorem ok_tup5 {δ ε ζ : Type} [Py δ] [Py ε] [Py ζ] {te : TE} {i j l m n : Nat} {P : T5 α γ δ ε ζ → Prop} (he : EvP K E te Γ P) (k : ∀ d, P d → Ok K E post rest (Sat K E (((((Γ.set i (.dat d.x)).set j (.dat d.y)).set l (.dat d.z)).set m (.dat d.u)).set n (.dat d.w))) N) :
    Ok K E post (tSeq (tAsg te (gTup K 5 (gCons (gName i) (gCons (gName j) (gCons (gName l) (gCons (gName m) (gCons (gName n) gNil))))))) rest) (Sat K E Γ) N := by
  rintro D hr hn σ H ⟨F, S⟩
  refine he F H σ S _ fun d v F1 H1 p x r => ?_
  obtain ⟨a, v1, v2, v3, v4, v5, rfl, h0, h1, h2, h3, h4, h5⟩ := r
  exact ⟨a, _, rfl, sameT x.fh h0, rfl, v1, _, rfl, v2, _, rfl, v3, _, rfl, v4, _, rfl, v5, _, rfl, rfl, k d p D hr hn _ _ ⟨F1, (((((S.mono x).setDat h1).setDat h2).setDat h3).setDat h4).setDat h5⟩⟩
theorem ok_par {ta : TA} {i j : Nat} {a : α} {b : γ} (h : EvA K E ta Γ [.dat a, .dat b]) (k : Ok K E post rest (Sat K E ((Γ.set i (.dat a)).set j (.dat b))) N) : Ok K E post (tSeq (tPar i j ta) rest) (Sat K E Γ) N := by
  rintro D hr hn σ H ⟨F, S⟩
  refine h F H σ S _ fun vs F1 H1 x r => ?_
  obtain ⟨v, v2, rfl, r1, r2⟩ := reps2 r
  exact ⟨v, v2, rfl, k D hr hn _ _ ⟨F1, ((S.mono x).setDat r1).setDat r2⟩⟩
/-- a list under construction is looked at -/
theorem ev_view {δ : Type} [Py δ] {te : TE} {i : Nat} {xs : List α} {P : δ → Prop} (hd : ∀ (F F' : Hp) (v : V) (d : δ), Py.rep K F v d → Py.rep K F' v d) (k : Γ[i]? = some (.own xs)) (h : EvP K E te (Γ.set i (.dat xs)) P) : EvP K E te Γ P := fun F H σ S Q q => by
  obtain ⟨F', S'⟩ := S.freeze k
  refine h F' H σ S' Q fun d v F2 H2 p x r => q d v F H2 p ⟨Same.refl _, S.fh.trans x.hh, x.hh, fun b o h _ => h⟩ (hd _ _ _ _ r)
theorem evt_view {tt : TT} {i : Nat} {xs : List α} {b : Bool} (k : Γ[i]? = some (.own xs)) (h : EvT K E tt (Γ.set i (.dat xs)) b) : EvT K E tt Γ b := fun F H σ S Q q => by
  obtain ⟨F', S'⟩ := S.freeze k
  exact h F' H σ S' Q fun F2 H2 x => q F H2 ⟨Same.refl _, S.fh.trans x.hh, x.hh, fun b o h _ => h⟩
/-! ### a def -/
theorem stt_start {N : List Str} {vs : List V} {ss : List Slot} (s : Same F H) (r : RepsS K F vs ss) : Stt K ⟨F, H, F⟩ F H (L2.start N vs) (ss ++ List.replicate (N.length - ss.length) .any) := by
  have e := r.len
  refine ⟨s, Ext.refl s, Same.refl _, ?_, fun i t k => ?_, fun i j t u a n k1 k2 o1 o2 => ?_⟩
  · unfold L2.start
    simp [e]
  · unfold L2.start
    by_cases c : i < ss.length
    · rw [List.getElem?_append_left c] at k
      obtain ⟨v, α', inst, d, rfl, h1, h2⟩ := r.get k
      refine ⟨some v, ?_, v, rfl, h2⟩
      rw [List.getElem?_append_left (by simp; omega), List.getElem?_map, h1]
      rfl
    · rw [List.getElem?_append_right (by omega), List.getElem?_replicate] at k
      split at k
      · rename_i l
        cases k
        refine ⟨none, ?_, trivial⟩
        rw [List.getElem?_append_right (by simp; omega), List.getElem?_replicate, if_pos (by simp; omega)]
      · cases k
  · by_cases c : i < ss.length
    · rw [List.getElem?_append_left c] at k1
      obtain ⟨v, α', inst, d, rfl, h1, h2⟩ := r.get k1
      exact nomatch o1
    · rw [List.getElem?_append_right (by omega), List.getElem?_replicate] at k1
      split at k1
      · cases k1
        exact nomatch o1
      · cases k1
theorem fun_pr {P : Program} {w : World} {mg : Str → Option Value} {base : Heap} {x qual : Str} {st : Stmt} {f : Addr} {fd : FuncData} {N ps : List Str} {k : Nat} {ι : Type} {args : ι → List Slot} {pre : ι → Prop} {post : ι → β → Prop}
    (F : Fun K x qual st f fd) (S : FnScope N ps (defScope st)) (hl : ∀ i, (args i).length = ps.length)
    (hb : ∀ (cdv : Value) (A : Around) (outer : List Env) (s : Shared) (H : Hp) (X : XK), Room k (A.deeper (PyProof.Rows.envOfC qual (defScope st) s.heap.objs.size f cdv)) → ∀ i, pre i →
      ∃ t, PSs (cxOf CX0 P w K mg base N qual (defScope st) f cdv A outer s H X).nox (defBody st) t ∧ ∀ E : En, Ok K E (post i) t (Sat K E (args i ++ List.replicate (N.length - ps.length) .any)) (fun _ _ => False)) :
    FnOk P w K mg base CX0 (k + 1) f fd ps (Pr K args pre post) := by
  refine F.ok S (fun vs H Q E h => ?_) (fun cdv A outer s H vs Q E hr h => ?_)
  · obtain ⟨F, i, _, r, _⟩ := h
    rw [r.len, hl]
  · obtain ⟨F, i, sm, r, p, q⟩ := h
    obtain ⟨t, h1, h2⟩ := hb cdv A outer s H E hr i p
    refine ⟨t, h1, h2 ⟨F, H, F⟩ _ (fun d v F' H' pd x rd => q d v F' H' pd x rd) (fun _ _ z => z.elim) _ _ ⟨F, ?_⟩⟩
    rw [← hl i]
    exact stt_start sm r
end
end Tm

namespace Tm
open PySem L2
/-! ### the text -/
def topS (i : Nat) : Stmt := PySem.Challenge.pw_talkmost_k38_whole_lie_papers_bound_lies.main.body.getD i (.Pass ⟨0, 0, 0, 0⟩)
/-- the module's names that are no defs -/
structure Txt (K : PySem.W.Frag) (mg : Str → Option Value) (a : Addr) : Prop where
  len : mg "len" = none
  range : mg "range" = none
  int : mg "int" = none
  list : mg "list" = none
  abs : mg "abs" = none
  sum : mg "sum" = none
  gcd : mg "gcd" = some (.builtin "math.gcd")
  z : mg "ZERO" = some (.ref a)
  zt : ∀ F : Hp, SqT K F a [.int 0, .int 1]
/-- a def of the text -/
structure Dn (K : PySem.W.Frag) (mg : Str → Option Value) (x qual : Str) (st : Stmt) (ps : List Str) : Prop where
  ex : ∃ (f : Addr) (fd : FuncData), Fun K x qual st f fd ∧ mg x = some (.ref f) ∧ Binds K fd ps []
/-- a def that keeps its promise -/
structure Df (P : Program) (w : World) (K : PySem.W.Frag) (mg : Str → Option Value) (base : Heap) (x : Str) (k : Nat) (ps : List Str) (sp : Sp) : Prop where
  ex : ∃ (f : Addr) (fd : FuncData), FnOk P w K mg base CX0 k f fd ps sp ∧ mg x = some (.ref f) ∧ PySem.W.keepIn K (.ref f) = true ∧ Binds K fd ps []
theorem Dn.df {P : Program} {w : World} {K : PySem.W.Frag} {mg : Str → Option Value} {base : Heap} {x qual : Str} {st : Stmt} {ps : List Str} {k : Nat} {sp : Sp} (D : Dn K mg x qual st ps)
    (h : ∀ (f : Addr) (fd : FuncData), Fun K x qual st f fd → FnOk P w K mg base CX0 k f fd ps sp) : Df P w K mg base x k ps sp := by
  obtain ⟨f, fd, F, m, b⟩ := D.ex
  exact ⟨f, fd, h f fd F, m, F.kp, b⟩
theorem Df.call {X : Cx} {x : Str} {k n : Nat} {ps : List Str} {sp : Sp} {p pos : Pos} {e : Expr} {es : List Expr} {t : TA} (D : Df X.prog X.w X.K X.mg X.base x k ps sp) (hr : Room n X.A) (hg : Gl X x) (l : k ≤ n) (ha : PA X (e :: es) t)
    (hdb : (x == ("__debug__" : Str)) = false := by decide) (he : starEach (e :: es) X.env = (false, eval e X.env) :: starEach es X.env := by rfl)
    (hpl : (backTo pos (starEach es X.env)).any (·.1) = false := by rfl) : PE X (.Call (.Name x p) (e :: es) [] pos) (tCall sp [] E0 t) := by
  obtain ⟨f, fd, F, m, kp, b⟩ := D.ex
  exact pe_call F (hr.mono l) hg m kp b .nil pass0 ha (hdb := hdb) (he := he) (hpl := hpl)
theorem blkD1 {X : Cx} {N : List Str} {sc s1 s2 : Scope} {own : List (Str × Nat)} (hN : X.N = N) (hs : X.env.scope = relS s1 sc) (h : blkC N (relS s1 sc) s2 own = true) : BlkOk X.N X.env.scope s2 own := by
  rw [hN, hs]
  exact blkOk_by h
theorem blkD2 {X : Cx} {N : List Str} {sc s0 s1 s2 : Scope} {own : List (Str × Nat)} (hN : X.N = N) (hs : X.env.scope = relS s1 (relS s0 sc)) (h : blkC N (relS s1 (relS s0 sc)) s2 own = true) : BlkOk X.N X.env.scope s2 own := by
  rw [hN, hs]
  exact blkOk_by h
/-! the rules whose reading names the written part, with its own letter (within a comprehension's block) -/
section
variable {X : Cx} {a b e : Expr} {es : List Expr} {ta tb : TE} {t : TA} {pos p : Pos}
theorem ixl (K : PySem.W.Frag) (ha : PE X a ta) (hb : PE X b tb) (hs : PlainIx b) (hK : X.K = K := by rfl) : PE X (.Subscript a b pos) (tOp (rIxL K) ta tb) := hK ▸ pe_ix ix_list ha hb hs
theorem ixt (K : PySem.W.Frag) (ha : PE X a ta) (hb : PE X b tb) (hs : PlainIx b) (hK : X.K = K := by rfl) : PE X (.Subscript a b pos) (tOp (rIxT K) ta tb) := hK ▸ pe_ix ix_tup ha hb hs
theorem fldK (K : PySem.W.Frag) {f : Str} (he : PE X e ta) (hb : attributeBase e f X.env (eval e X.env) = eval e X.env) (hK : X.K = K := by rfl) : PE X (.Attribute e f pos) (tFld K ta f) := hK ▸ pe_fld he hb
theorem listK (K : PySem.W.Frag) {tg : Expr} (he : PE X e ta) (hK : X.K = K := by rfl) : PI X tg e (iList K ta) := hK ▸ pi_list he
theorem lenK (K : PySem.W.Frag) (hK : X.K = K := by rfl) : CallR X (.builtin "len") (fun xs H Q => ∃ p ys, xs = [.ref p] ∧ (SqL K H p ys ∨ SqT K H p ys) ∧ Q (.int ys.length) H) := hK ▸ call_len_seq
theorem mkListK (K : PySem.W.Frag) (hK : X.K = K := by rfl) : CallR X (.type "list") (fun xs H Q => ∃ p ys, xs = [.ref p] ∧ (SqL K H p ys ∨ SqT K H p ys) ∧ ∀ l, H l = none → Q (.ref l) (upd H l (.lst ys))) := hK ▸ call_list_of
theorem slK (K : PySem.W.Frag) (hK : X.K = K := by rfl) : SlR X (rSlL K) := hK ▸ sl_list
end
abbrev s_ratio : Stmt := topS 3
abbrev n_ratio : List Str := ["p", "q", "common"]
abbrev p_ratio : List Str := ["p", "q"]
theorem sc_ratio : FnScope n_ratio p_ratio (defScope s_ratio) := ⟨rfl, rfl, rfl, by decide +kernel, rfl, by decide +kernel, by decide +kernel⟩
abbrev s_add : Stmt := topS 4
abbrev n_add : List Str := ["a", "b"]
abbrev p_add : List Str := ["a", "b"]
theorem sc_add : FnScope n_add p_add (defScope s_add) := ⟨rfl, rfl, rfl, by decide +kernel, rfl, by decide +kernel, by decide +kernel⟩
abbrev s_sub : Stmt := topS 5
abbrev n_sub : List Str := ["a", "b"]
abbrev p_sub : List Str := ["a", "b"]
theorem sc_sub : FnScope n_sub p_sub (defScope s_sub) := ⟨rfl, rfl, rfl, by decide +kernel, rfl, by decide +kernel, by decide +kernel⟩
abbrev s_mul : Stmt := topS 6
abbrev n_mul : List Str := ["a", "b"]
abbrev p_mul : List Str := ["a", "b"]
theorem sc_mul : FnScope n_mul p_mul (defScope s_mul) := ⟨rfl, rfl, rfl, by decide +kernel, rfl, by decide +kernel, by decide +kernel⟩
abbrev s_less : Stmt := topS 7
abbrev n_less : List Str := ["a", "b"]
abbrev p_less : List Str := ["a", "b"]
theorem sc_less : FnScope n_less p_less (defScope s_less) := ⟨rfl, rfl, rfl, by decide +kernel, rfl, by decide +kernel, by decide +kernel⟩
abbrev s_added : Stmt := topS 8
abbrev n_added : List Str := ["numbers", "total", "x"]
abbrev p_added : List Str := ["numbers"]
theorem sc_added : FnScope n_added p_added (defScope s_added) := ⟨rfl, rfl, rfl, by decide +kernel, rfl, by decide +kernel, by decide +kernel⟩
abbrev s_dot : Stmt := topS 9
abbrev n_dot : List Str := ["a", "b", "total", "k"]
abbrev p_dot : List Str := ["a", "b"]
theorem sc_dot : FnScope n_dot p_dot (defScope s_dot) := ⟨rfl, rfl, rfl, by decide +kernel, rfl, by decide +kernel, by decide +kernel⟩
/-! ### sizes of fractions -/
def Sz (n : Nat) (q : Rat) : Prop := q.num.natAbs < 2 ^ n ∧ q.den < 2 ^ n
theorem Sz.mono {m n : Nat} {q : Rat} (h : Sz m q) (l : m ≤ n) : Sz n q :=
  ⟨Nat.lt_of_lt_of_le h.1 (Nat.pow_le_pow_right (by decide) l), Nat.lt_of_lt_of_le h.2 (Nat.pow_le_pow_right (by decide) l)⟩
theorem mk_num (p : Int) (q : Nat) (h : q ≠ 0) : (mkRat p q).num = p / (Nat.gcd p.natAbs q : Nat) := by
  rw [Rat.num_mkRat, if_neg h, Nat.gcd_comm]
theorem mk_den (p : Int) (q : Nat) (h : q ≠ 0) : (mkRat p q).den = q / Nat.gcd p.natAbs q := by
  rw [Rat.den_mkRat, if_neg h, Nat.gcd_comm]
theorem natAbs_div_le (p : Int) (g : Nat) (d : (g : Int) ∣ p) : (p / (g : Int)).natAbs ≤ p.natAbs := by
  rw [Int.natAbs_ediv_of_dvd d, Int.natAbs_natCast]
  exact Nat.div_le_self _ _
theorem Sz.mk {n : Nat} {p : Int} {q : Nat} (h : q ≠ 0) (h1 : p.natAbs < 2 ^ n) (h2 : q < 2 ^ n) : Sz n (mkRat p q) := by
  refine ⟨?_, ?_⟩
  · rw [mk_num p q h]
    exact Nat.lt_of_le_of_lt (natAbs_div_le p _ ((Int.ofNat_dvd_left).mpr (Nat.gcd_dvd_left _ _))) h1
  · rw [mk_den p q h]
    exact Nat.lt_of_le_of_lt (Nat.div_le_self _ _) h2
theorem mul_lt_pow {a b m n : Nat} (h1 : a < 2 ^ m) (h2 : b < 2 ^ n) : a * b < 2 ^ (m + n) := by
  rw [Nat.pow_add]
  exact Nat.mul_lt_mul'' h1 h2
theorem Sz.mul {m n : Nat} {a b : Rat} (h : Sz m a) (g : Sz n b) : Sz (m + n) (a * b) := by
  rw [Rat.mul_def']
  refine Sz.mk (Nat.mul_ne_zero a.den_nz b.den_nz) ?_ (mul_lt_pow h.2 g.2)
  rw [Int.natAbs_mul]
  exact mul_lt_pow h.1 g.1
theorem Sz.add {m n : Nat} {a b : Rat} (h : Sz m a) (g : Sz n b) : Sz (m + n + 1) (a + b) := by
  rw [Rat.add_def']
  refine Sz.mk (Nat.mul_ne_zero a.den_nz b.den_nz) ?_ (Nat.lt_of_lt_of_le (mul_lt_pow h.2 g.2) (Nat.pow_le_pow_right (by decide) (by omega)))
  have h1 : (a.num * (b.den : Int)).natAbs < 2 ^ (m + n) := by
    rw [Int.natAbs_mul, Int.natAbs_natCast]
    exact mul_lt_pow h.1 g.2
  have h2 : (b.num * (a.den : Int)).natAbs < 2 ^ (m + n) := by
    rw [Int.natAbs_mul, Int.natAbs_natCast, Nat.add_comm]
    exact mul_lt_pow g.1 h.2
  have h3 := Int.natAbs_add_le (a.num * (b.den : Int)) (b.num * (a.den : Int))
  rw [Nat.pow_succ]
  omega
theorem Sz.sub {m n : Nat} {a b : Rat} (h : Sz m a) (g : Sz n b) : Sz (m + n + 1) (a - b) := by
  rw [Rat.sub_eq_add_neg]
  exact h.add ⟨by rw [Rat.neg_num, Int.natAbs_neg]; exact g.1, g.2⟩
theorem Sz.zero : Sz 1 0 := ⟨by decide, by decide⟩
/-! ### fractions of the program -/
section
variable {P : Program} {w : World} {K : PySem.W.Frag} {mg : Str → Option Value} {base : Heap} {z : Addr}
theorem rep_zero (T : Txt K mg z) (F : Hp) : Py.rep K F (.ref z) (0 : Rat) := ⟨z, rfl, T.zt F⟩
/-- p by q, q of at most 8990 bits, p of at most 40000 -/
abbrev prRatio (K : PySem.W.Frag) : Sp := Pr K (fun x : Int × Nat => [.dat x.1, .dat x.2]) (fun x => x.2 ≠ 0 ∧ x.1.natAbs < 2 ^ 90000 ∧ x.2 < 2 ^ 8990) (fun x (r : Rat) => r = mkRat x.1 x.2)
theorem ok_ratio (T : Txt K mg z) (D : Dn K mg "ratio" "ratio" s_ratio p_ratio) : Df P w K mg base "ratio" 1 p_ratio (prRatio K) := D.df fun f fd F => by
  refine fun_pr F sc_ratio (fun _ => rfl) fun cdv A outer s H X hr ⟨p, q⟩ ⟨h0, h1, h2⟩ => ?_
  refine ⟨_, (pss_cons (ps_set (i := 2) sc_ratio.nd rfl (Or.inl rfl) (pe_callBfun cr_gcd (by rfl) T.gcd (pa_cons (pv 0) (pa_cons (pv 1) pa_nil))))
    (pss_cons (ps_if (pt_cmpR op_lt (pv 1) pe_int (nomark _))
      (pss_cons (ps_set (i := 2) sc_ratio.nd rfl (Or.inl rfl) (pe_un un_neg (pv 2)))
        pss_nil)
      pss_nil)
    (pss_cons (ps_ret (pe_tup (pa_cons (pe_op op_fdivW (pv 0) (pv 2)) (pa_cons (pe_op op_fdivW (pv 1) (pv 2)) pa_nil))))
    pss_nil))), fun E => ?_⟩
  have h0 : q ≠ 0 := h0
  have h2 : q < 2 ^ 8990 := h2
  refine ok_asgD (d := Nat.gcd p.natAbs q) ((ev_gcd (eva_cons (ev_var rfl) (eva_cons (Ev.int (ev_var rfl)) eva_nil)))) ?_
  have hg : 0 < Nat.gcd p.natAbs q := Nat.pos_of_ne_zero fun e => h0 (Nat.eq_zero_of_gcd_eq_zero_right e)
  have hgl : Nat.gcd p.natAbs q ≤ q := Nat.le_of_dvd (Nat.pos_of_ne_zero h0) (Nat.gcd_dvd_right _ _)
  have hd : CDivW 0 ((Nat.gcd p.natAbs q : Nat) : Int) := wide_div (b := 8990) (by omega) (by rw [Int.natAbs_natCast]; exact Nat.lt_of_le_of_lt hgl h2) (by decide) (by decide)
  refine ok_if (b := false) (EvT.to (evt_test (ev_ltI (Ev.int (ev_var rfl)) ev_int)) (decide_eq_false (by omega))) (Sat K E _) (fun h => nomatch h) (fun _ => ok_next fun _ _ h => h) ?_
  refine ok_ret (Ev.to (ev_rat (eva_cons (ev_divW (ev_var rfl) (Ev.int (ev_var rfl)) hd) (eva_cons (ev_divW (Ev.int (ev_var rfl)) (Ev.int (ev_var rfl)) hd) eva_nil)) ?_ ?_) rfl) (fun d e => e)
  · rw [mk_num p q h0]
  · rw [mk_den p q h0]
    exact (Int.natCast_ediv _ _).symm
end
end Tm

namespace Tm
open PySem L2
section
variable {P : Program} {w : World} {K : PySem.W.Frag} {mg : Str → Option Value} {base : Heap} {z : Addr}
/-! ### fractions of the program, their sums and products -/
abbrev a2 (x : Rat × Rat) : List Slot := [.dat x.1, .dat x.2]
def Few (x : Rat × Rat) : Prop := ∃ m n, Sz m x.1 ∧ Sz n x.2 ∧ m + n ≤ 8980
theorem Few.mk {m n : Nat} {a b : Rat} (h : Sz m a) (g : Sz n b) (l : m + n ≤ 8980) : Few (a, b) := ⟨m, n, h, g, l⟩
abbrev prAdd (K : PySem.W.Frag) : Sp := Pr K a2 Few (fun x (r : Rat) => r = x.1 + x.2)
abbrev prSub (K : PySem.W.Frag) : Sp := Pr K a2 Few (fun x (r : Rat) => r = x.1 - x.2)
abbrev prMul (K : PySem.W.Frag) : Sp := Pr K a2 Few (fun x (r : Rat) => r = x.1 * x.2)
abbrev prLess (K : PySem.W.Frag) : Sp := Pr K a2 Few (fun x (r : Bool) => r = decide (x.1 < x.2))
theorem cx1 {m n : Nat} {a b : Rat} (h : Sz m a) (g : Sz n b) (l : m + n ≤ 8980) : CMulX a.num (b.den : Int) := mulx_ok h.1 (by rw [Int.natAbs_natCast]; exact g.2) (by omega)
theorem cx2 {m n : Nat} {a b : Rat} (h : Sz m a) (g : Sz n b) (l : m + n ≤ 8980) : CMulX (a.den : Int) (b.den : Int) := mulx_ok (by rw [Int.natAbs_natCast]; exact h.2) (by rw [Int.natAbs_natCast]; exact g.2) (by omega)
theorem cx3 {m n : Nat} {a b : Rat} (h : Sz m a) (g : Sz n b) (l : m + n ≤ 8980) : CMulX a.num b.num := mulx_ok h.1 g.1 (by omega)
theorem den_lt {m n : Nat} {a b : Rat} (h : Sz m a) (g : Sz n b) (l : m + n ≤ 8980) : a.den * b.den < 2 ^ 8990 := Nat.lt_of_lt_of_le (mul_lt_pow h.2 g.2) (Nat.pow_le_pow_right (by decide) (by omega))
theorem nd_lt {m n : Nat} {a b : Rat} (h : Sz m a) (g : Sz n b) (l : m + n ≤ 8980) : (a.num * (b.den : Int)).natAbs < 2 ^ 8980 := by
  rw [Int.natAbs_mul, Int.natAbs_natCast]
  exact Nat.lt_of_lt_of_le (mul_lt_pow h.1 g.2) (Nat.pow_le_pow_right (by decide) l)
theorem sum_lt {x y : Int} (h : x.natAbs < 2 ^ 8980) (g : y.natAbs < 2 ^ 8980) : (x + y).natAbs < 2 ^ 90000 := by
  have h3 := Int.natAbs_add_le x y
  have h4 : 2 ^ 8980 + 2 ^ 8980 ≤ 2 ^ 90000 := by
    rw [← Nat.two_mul, ← Nat.pow_succ']
    exact Nat.pow_le_pow_right (by decide) (by decide)
  omega
theorem dif_lt {x y : Int} (h : x.natAbs < 2 ^ 8980) (g : y.natAbs < 2 ^ 8980) : (x - y).natAbs < 2 ^ 90000 := by
  rw [Int.sub_eq_add_neg]
  exact sum_lt h (by rw [Int.natAbs_neg]; exact g)
theorem ok_add (T : Txt K mg z) (d_ratio : Df P w K mg base "ratio" 1 p_ratio (prRatio K)) (D : Dn K mg "add" "add" s_add p_add) : Df P w K mg base "add" 2 p_add (prAdd K) := D.df fun f fd F => by
  refine fun_pr F sc_add (fun _ => rfl) fun cdv A outer s H X hr ⟨a, b⟩ ⟨m, n, h1, h2, h3⟩ => ?_
  refine ⟨_, (pss_cons (ps_ret (d_ratio.call hr (by rfl) (by decide) (pa_cons (pe_op op_add (pe_op op_mulX (ixt K (pv 0) pe_int (fun _ _ => rfl)) (ixt K (pv 1) pe_int (fun _ _ => rfl))) (pe_op op_mulX (ixt K (pv 1) pe_int (fun _ _ => rfl)) (ixt K (pv 0) pe_int (fun _ _ => rfl)))) (pa_cons (pe_op op_mulX (ixt K (pv 0) pe_int (fun _ _ => rfl)) (ixt K (pv 1) pe_int (fun _ _ => rfl))) pa_nil))))
    pss_nil), fun E => ?_⟩
  refine ok_ret (ev_call (a.num * (b.den : Int) + b.num * (a.den : Int), a.den * b.den)
    (eva_cons (ev_addI (ev_mulX (ev_num (ev_var rfl)) (ev_den (ev_var rfl)) (cx1 h1 h2 h3)) (ev_mulX (ev_num (ev_var rfl)) (ev_den (ev_var rfl)) (cx1 h2 h1 (by omega))))
      (eva_cons (Ev.nat (ev_mulX (ev_den (ev_var rfl)) (ev_den (ev_var rfl)) (cx2 h1 h2 h3)) (Int.natCast_mul _ _).symm) eva_nil))
    ⟨Nat.mul_ne_zero a.den_nz b.den_nz, sum_lt (nd_lt h1 h2 h3) (nd_lt h2 h1 (by omega)), den_lt h1 h2 h3⟩) fun d e => ?_
  rw [e]
  exact (Rat.add_def' a b).symm
theorem ok_sub (T : Txt K mg z) (d_ratio : Df P w K mg base "ratio" 1 p_ratio (prRatio K)) (D : Dn K mg "sub" "sub" s_sub p_sub) : Df P w K mg base "sub" 2 p_sub (prSub K) := D.df fun f fd F => by
  refine fun_pr F sc_sub (fun _ => rfl) fun cdv A outer s H X hr ⟨a, b⟩ ⟨m, n, h1, h2, h3⟩ => ?_
  refine ⟨_, (pss_cons (ps_ret (d_ratio.call hr (by rfl) (by decide) (pa_cons (pe_op op_sub (pe_op op_mulX (ixt K (pv 0) pe_int (fun _ _ => rfl)) (ixt K (pv 1) pe_int (fun _ _ => rfl))) (pe_op op_mulX (ixt K (pv 1) pe_int (fun _ _ => rfl)) (ixt K (pv 0) pe_int (fun _ _ => rfl)))) (pa_cons (pe_op op_mulX (ixt K (pv 0) pe_int (fun _ _ => rfl)) (ixt K (pv 1) pe_int (fun _ _ => rfl))) pa_nil))))
    pss_nil), fun E => ?_⟩
  refine ok_ret (ev_call (a.num * (b.den : Int) - b.num * (a.den : Int), a.den * b.den)
    (eva_cons (ev_subI (ev_mulX (ev_num (ev_var rfl)) (ev_den (ev_var rfl)) (cx1 h1 h2 h3)) (ev_mulX (ev_num (ev_var rfl)) (ev_den (ev_var rfl)) (cx1 h2 h1 (by omega))))
      (eva_cons (Ev.nat (ev_mulX (ev_den (ev_var rfl)) (ev_den (ev_var rfl)) (cx2 h1 h2 h3)) (Int.natCast_mul _ _).symm) eva_nil))
    ⟨Nat.mul_ne_zero a.den_nz b.den_nz, dif_lt (nd_lt h1 h2 h3) (nd_lt h2 h1 (by omega)), den_lt h1 h2 h3⟩) fun d e => ?_
  rw [e]
  exact (Rat.sub_def' a b).symm
theorem ok_mul (T : Txt K mg z) (d_ratio : Df P w K mg base "ratio" 1 p_ratio (prRatio K)) (D : Dn K mg "mul" "mul" s_mul p_mul) : Df P w K mg base "mul" 2 p_mul (prMul K) := D.df fun f fd F => by
  refine fun_pr F sc_mul (fun _ => rfl) fun cdv A outer s H X hr ⟨a, b⟩ ⟨m, n, h1, h2, h3⟩ => ?_
  refine ⟨_, (pss_cons (ps_ret (d_ratio.call hr (by rfl) (by decide) (pa_cons (pe_op op_mulX (ixt K (pv 0) pe_int (fun _ _ => rfl)) (ixt K (pv 1) pe_int (fun _ _ => rfl))) (pa_cons (pe_op op_mulX (ixt K (pv 0) pe_int (fun _ _ => rfl)) (ixt K (pv 1) pe_int (fun _ _ => rfl))) pa_nil))))
    pss_nil), fun E => ?_⟩
  refine ok_ret (ev_call (a.num * b.num, a.den * b.den)
    (eva_cons (ev_mulX (ev_num (ev_var rfl)) (ev_num (ev_var rfl)) (cx3 h1 h2 h3))
      (eva_cons (Ev.nat (ev_mulX (ev_den (ev_var rfl)) (ev_den (ev_var rfl)) (cx2 h1 h2 h3)) (Int.natCast_mul _ _).symm) eva_nil))
    ⟨Nat.mul_ne_zero a.den_nz b.den_nz, ?_, den_lt h1 h2 h3⟩) fun d e => ?_
  · show (a.num * b.num).natAbs < 2 ^ 90000
    rw [Int.natAbs_mul]
    exact Nat.lt_of_lt_of_le (mul_lt_pow h1.1 h2.1) (Nat.pow_le_pow_right (by decide) (by omega))
  · rw [e]
    exact (Rat.mul_def' a b).symm
theorem ok_less (T : Txt K mg z) (D : Dn K mg "less" "less" s_less p_less) : Df P w K mg base "less" 1 p_less (prLess K) := D.df fun f fd F => by
  refine fun_pr F sc_less (fun _ => rfl) fun cdv A outer s H X hr ⟨a, b⟩ ⟨m, n, h1, h2, h3⟩ => ?_
  refine ⟨_, (pss_cons (ps_ret (pe_cmpR op_lt (pe_op op_mulX (ixt K (pv 0) pe_int (fun _ _ => rfl)) (ixt K (pv 1) pe_int (fun _ _ => rfl))) (pe_op op_mulX (ixt K (pv 1) pe_int (fun _ _ => rfl)) (ixt K (pv 0) pe_int (fun _ _ => rfl))) (nomark _)))
    pss_nil), fun E => ?_⟩
  refine ok_ret (ev_ltI (ev_mulX (ev_num (ev_var rfl)) (ev_den (ev_var rfl)) (cx1 h1 h2 h3)) (ev_mulX (ev_num (ev_var rfl)) (ev_den (ev_var rfl)) (cx1 h2 h1 (by omega)))) fun d e => ?_
  rw [e]
  exact decide_eq_decide.mpr (Rat.lt_iff a b).symm
/-! sums -/
def sumR (xs : List Rat) : Rat := xs.foldl (· + ·) 0
theorem sumR_snoc (xs : List Rat) (x : Rat) : sumR (xs ++ [x]) = sumR xs + x := by simp [sumR]
theorem take_snoc {α : Type} {xs : List α} {i : Nat} {x : α} (e : xs[i]? = some x) : xs.take (i + 1) = xs.take i ++ [x] := by
  rw [List.take_add_one, e]
  rfl
theorem sumR_sz {m : Nat} : ∀ (i : Nat) (xs : List Rat), (∀ x ∈ xs, Sz m x) → Sz ((m + 1) * i + 1) (sumR (xs.take i))
  | 0, xs, h => by
    rw [List.take_zero]
    exact Sz.zero.mono (by omega)
  | i + 1, xs, h => by
    have ih := sumR_sz i xs h
    cases e : xs[i]? with
    | none =>
      have l : xs.length ≤ i := List.getElem?_eq_none_iff.mp e
      rw [List.take_of_length_le l] at ih
      rw [List.take_of_length_le (by omega)]
      exact ih.mono (by rw [Nat.mul_succ]; omega)
    | some x =>
      rw [take_snoc e, sumR_snoc]
      exact (ih.add (h x (List.mem_of_getElem? e))).mono (by rw [Nat.mul_succ]; omega)
theorem sumR_sz' {m : Nat} {xs : List Rat} (h : ∀ x ∈ xs, Sz m x) : Sz ((m + 1) * xs.length + 1) (sumR xs) := by
  have := sumR_sz (m := m) xs.length xs h
  rwa [List.take_length] at this
def Few1 (xs : List Rat) : Prop := ∃ m, (∀ x ∈ xs, Sz m x) ∧ (m + 1) * (xs.length + 1) ≤ 8970
abbrev prAdded (K : PySem.W.Frag) : Sp := Pr K (fun x : List Rat => [.dat x]) Few1 (fun x (r : Rat) => r = sumR x)
theorem ok_added (T : Txt K mg z) (d_add : Df P w K mg base "add" 2 p_add (prAdd K)) (D : Dn K mg "added" "added" s_added p_added) : Df P w K mg base "added" 3 p_added (prAdded K) := D.df fun f fd F => by
  refine fun_pr F sc_added (fun _ => rfl) fun cdv A outer s H X hr xs ⟨m, h1, h2⟩ => ?_
  refine ⟨_, (pss_cons (ps_set (i := 1) sc_added.nd rfl (Or.inl rfl) (pe_glob (v := .ref z) rfl T.z rfl))
    (pss_cons (ps_for PassesOwn.never rfl (listK K (pv 0)) (pg_name (i := 2) sc_added.nd rfl (Or.inl rfl))
      (pss_cons (ps_set (i := 1) sc_added.nd rfl (Or.inl rfl) (d_add.call hr (by rfl) (by decide) (pa_cons (pv 1) (pa_cons (pv 2) pa_nil))))
        pss_nil))
    (pss_cons (ps_ret (pv 1))
    pss_nil))), fun E => ?_⟩
  refine ok_asgD (ev_glob (rep_zero T)) ?_
  refine ok_forD (evi_list (ev_var (d := xs) rfl)) (fun i => [.dat xs, .dat (sumR (xs.take i)), .any]) (.keep rfl (.keep rfl (.drop .nil))) (fun Fb i x e => ?_) ?_
  · have li : i < xs.length := (List.getElem?_eq_some_iff.mp e).1
    have hm : (m + 1) * i ≤ (m + 1) * xs.length := Nat.mul_le_mul_left _ (Nat.le_of_lt li)
    rw [Nat.mul_succ] at h2
    refine ok_asgD (ev_call (sumR (xs.take i), x) (eva_cons (ev_var rfl) (eva_cons (ev_var rfl) eva_nil)) (Few.mk (sumR_sz i xs h1) (h1 x (List.mem_of_getElem? e)) (by omega))) ?_
    exact ok_wk (.keep rfl (.keep (by rw [take_snoc e, sumR_snoc]) (.drop .nil)))
  · refine ok_ret (ev_var rfl) fun d e => ?_
    rw [e, List.take_length]
def dotT (a b : List Rat) (i : Nat) : Rat := a.getD i 0 * b.getD i 0
def dotR (a b : List Rat) : Rat := sumR ((List.range a.length).map (dotT a b))
/-- at most 9 bits a product, at most 48 of them -/
def Few2 (x : List Rat × List Rat) : Prop := x.1.length ≤ x.2.length ∧ x.1.length ≤ 48 ∧ (∀ q ∈ x.1, Sz 6 q) ∧ (∀ q ∈ x.2, Sz 3 q)
abbrev prDot (K : PySem.W.Frag) : Sp := Pr K (fun x : List Rat × List Rat => [.dat x.1, .dat x.2]) Few2 (fun x (r : Rat) => r = dotR x.1 x.2)
theorem getD_mem {xs : List Rat} {i : Nat} (l : i < xs.length) : xs.getD i 0 ∈ xs := by
  rw [List.getD_eq_getElem?_getD, List.getElem?_eq_getElem l]
  exact List.getElem_mem l
theorem dotR_sz {a b : List Rat} (h : Few2 (a, b)) (i : Nat) : Sz (10 * i + 1) (sumR (((List.range a.length).map (dotT a b)).take i)) := by
  refine sumR_sz (m := 9) i _ fun x hx => ?_
  obtain ⟨k, hk, rfl⟩ := List.mem_map.mp hx
  have l : k < a.length := List.mem_range.mp hk
  exact (h.2.2.1 _ (getD_mem l)).mul (h.2.2.2 _ (getD_mem (Nat.lt_of_lt_of_le l h.1)))
theorem ok_dot (T : Txt K mg z) (d_add : Df P w K mg base "add" 2 p_add (prAdd K)) (d_mul : Df P w K mg base "mul" 2 p_mul (prMul K)) (D : Dn K mg "dot" "dot" s_dot p_dot) : Df P w K mg base "dot" 3 p_dot (prDot K) := D.df fun f fd F => by
  refine fun_pr F sc_dot (fun _ => rfl) fun cdv A outer s H X hr ⟨a, b⟩ h => ?_
  obtain ⟨h1, h2, h3, h4⟩ := id h
  refine ⟨_, (pss_cons (ps_set (i := 2) sc_dot.nd rfl (Or.inl rfl) (pe_glob (v := .ref z) rfl T.z rfl))
    (pss_cons (ps_for PassesOwn.never rfl (pi_range1 rfl T.range (pa_cons (pe_callB (lenK K) (by rfl) T.len PySem.boot_len (pa_cons (pv 0) pa_nil)) pa_nil)) (pg_name (i := 3) sc_dot.nd rfl (Or.inl rfl))
      (pss_cons (ps_if (PW.pt (pw_and (pt_cmpR (op_neD hr.units) (ixl K (pv 0) (pv 3) (fun _ _ => rfl)) (pe_glob (v := .ref z) rfl T.z rfl) (nomark _)) (pw_and1 (pt_cmpR (op_neD hr.units) (ixl K (pv 1) (pv 3) (fun _ _ => rfl)) (pe_glob (v := .ref z) rfl T.z rfl) (nomark _)))))
          (pss_cons (ps_set (i := 2) sc_dot.nd rfl (Or.inl rfl) (d_add.call hr (by rfl) (by decide) (pa_cons (pv 2) (pa_cons (d_mul.call hr (by rfl) (by decide) (pa_cons (ixl K (pv 0) (pv 3) (fun _ _ => rfl)) (pa_cons (ixl K (pv 1) (pv 3) (fun _ _ => rfl)) pa_nil))) pa_nil))))
            pss_nil)
          pss_nil)
        pss_nil))
    (pss_cons (ps_ret (pv 2))
    pss_nil))), fun E => ?_⟩
  refine ok_asgD (ev_glob (rep_zero T)) ?_
  refine ok_forR (ev_len (eva_cons (ev_var (d := a) rfl) eva_nil)) (Nat.lt_of_le_of_lt h2 (by decide)) (fun i => [.dat a, .dat b, .dat (sumR (((List.range a.length).map (dotT a b)).take i)), .any]) (.keep rfl (.keep rfl (.keep rfl (.drop .nil)))) (fun Fb i li => ?_) ?_
  · have e : ((List.range a.length).map (dotT a b))[i]? = some (dotT a b i) := by
      rw [List.getElem?_map, List.getElem?_range li]
      rfl
    have lb : i < b.length := Nat.lt_of_lt_of_le li h1
    refine ok_if (evt_and (evt_test (ev_neR (ev_ixD (x := 0) (ev_var (d := a) rfl) (ev_var rfl) li) (ev_glob (rep_zero T)))) fun _ => evt_test (ev_neR (ev_ixD (x := 0) (ev_var (d := b) rfl) (ev_var rfl) lb) (ev_glob (rep_zero T)))) (Sat K _ [.dat a, .dat b, .dat (sumR (((List.range a.length).map (dotT a b)).take (i + 1))), .any]) (fun c => ?_) (fun c => ?_) (ok_wk (Wk.refl _))
    · refine ok_asgD (ev_call _ (eva_cons (ev_var rfl) (eva_cons (ev_call (a.getD i 0, b.getD i 0) (eva_cons (ev_ixD (ev_var rfl) (ev_var rfl) li) (eva_cons (ev_ixD (ev_var rfl) (ev_var rfl) lb) eva_nil)) (Few.mk (h3 _ (getD_mem li)) (h4 _ (getD_mem lb)) (by decide))) eva_nil)) (Few.mk (dotR_sz h i) ((h3 _ (getD_mem li)).mul (h4 _ (getD_mem lb))) (by have : a.length ≤ 48 := h2; omega))) ?_
      exact ok_wk (.keep rfl (.keep rfl (.keep (by rw [take_snoc e, sumR_snoc]; rfl) (.drop .nil))))
    · refine ok_wk (.keep rfl (.keep rfl (.keep ?_ (.drop .nil))))
      rw [take_snoc e, sumR_snoc]
      have : dotT a b i = 0 := by
        unfold dotT
        by_cases c1 : a.getD i 0 = 0
        · rw [c1, Rat.zero_mul]
        · by_cases c2 : b.getD i 0 = 0
          · rw [c2, Rat.mul_zero]
          · rw [decide_eq_false c1, decide_eq_false c2] at c
            cases c
      rw [this, Rat.add_zero]
  · refine ok_ret (ev_var rfl) fun d e => ?_
    rw [e]
    show sumR (List.take a.length _) = dotR a b
    rw [List.take_of_length_le (by simp)]
    rfl
end
end Tm

namespace Tm
open PySem L2
abbrev s_size : Stmt := topS 11
abbrev n_size : List Str := ["bounds", "many", "bound"]
abbrev p_size : List Str := ["bounds"]
theorem sc_size : FnScope n_size p_size (defScope s_size) := ⟨rfl, rfl, rfl, by decide +kernel, rfl, by decide +kernel, by decide +kernel⟩
abbrev s_place : Stmt := topS 12
abbrev n_place : List Str := ["bounds", "row", "at", "k"]
abbrev p_place : List Str := ["bounds", "row"]
theorem sc_place : FnScope n_place p_place (defScope s_place) := ⟨rfl, rfl, rfl, by decide +kernel, rfl, by decide +kernel, by decide +kernel⟩
abbrev s_row_at : Stmt := topS 13
abbrev n_row_at : List Str := ["bounds", "at", "row", "k", "bound"]
abbrev p_row_at : List Str := ["bounds", "at"]
theorem sc_row_at : FnScope n_row_at p_row_at (defScope s_row_at) := ⟨rfl, rfl, rfl, by decide +kernel, rfl, by decide +kernel, by decide +kernel⟩
abbrev s_rows : Stmt := topS 14
abbrev n_rows : List Str := ["bounds", "at"]
abbrev p_rows : List Str := ["bounds"]
theorem sc_rows : FnScope n_rows p_rows (defScope s_rows) := ⟨rfl, rfl, rfl, by decide +kernel, rfl, by decide +kernel, by decide +kernel⟩
abbrev s_replaced : Stmt := topS 17
abbrev n_replaced : List Str := ["row", "at", "value"]
abbrev p_replaced : List Str := ["row", "at", "value"]
theorem sc_replaced : FnScope n_replaced p_replaced (defScope s_replaced) := ⟨rfl, rfl, rfl, by decide +kernel, rfl, by decide +kernel, by decide +kernel⟩
/-! ### rows -/
def sizeN (bs : List Nat) : Nat := bs.foldl (· * ·) 1
theorem sizeN_snoc (bs : List Nat) (b : Nat) : sizeN (bs ++ [b]) = sizeN bs * b := by simp [sizeN]
def placeN (bs row : List Nat) : Nat := (List.range bs.length).foldl (fun t k => t * bs.getD k 0 + row.getD k 0) 0
def digs : List Nat → Nat → List Nat
  | [], _ => []
  | b :: r, x => x % b :: digs r (x / b)
def rest : List Nat → Nat → Nat
  | [], x => x
  | b :: r, x => rest r (x / b)
theorem digs_snoc (b : Nat) : ∀ (bs : List Nat) (x : Nat), digs (bs ++ [b]) x = digs bs x ++ [rest bs x % b]
  | [], _ => rfl
  | c :: r, x => by
    show x % c :: digs (r ++ [b]) (x / c) = _
    rw [digs_snoc b r]
    rfl
theorem rest_snoc (b : Nat) : ∀ (bs : List Nat) (x : Nat), rest (bs ++ [b]) x = rest bs x / b
  | [], _ => rfl
  | c :: r, x => rest_snoc b r (x / c)
theorem digs_len : ∀ (bs : List Nat) (x : Nat), (digs bs x).length = bs.length
  | [], _ => rfl
  | c :: r, x => by
    show (digs r (x / c)).length + 1 = r.length + 1
    rw [digs_len r]
theorem digs_lt : ∀ (bs : List Nat) (x : Nat), (∀ b ∈ bs, 0 < b) → ∀ (j : Nat) (b d : Nat), bs[j]? = some b → (digs bs x)[j]? = some d → d < b
  | [], _, _, j, b, d, h, _ => by simp at h
  | c :: r, x, hp, 0, b, d, h, k => by
    have e1 : c = b := by simpa using h
    have e2 : x % c = d := by simpa [digs] using k
    rw [← e1, ← e2]
    exact Nat.mod_lt _ (hp c (List.mem_cons_self ..))
  | c :: r, x, hp, j + 1, b, d, h, k => digs_lt r (x / c) (fun b hb => hp b (List.mem_cons_of_mem _ hb)) j b d (by simpa using h) (by simpa [digs] using k)
def rowAt (bs : List Nat) (x : Nat) : List Nat := (digs bs.reverse x).reverse
theorem rowAt_len (bs : List Nat) (x : Nat) : (rowAt bs x).length = bs.length := by simp [rowAt, digs_len]
def rowsN (bs : List Nat) : List (List Nat) := (List.range (sizeN bs)).map (rowAt bs)
theorem rowsN_len (bs : List Nat) : (rowsN bs).length = sizeN bs := by simp [rowsN]
/-- bounds: one to three numbers from 1 to 3 -/
def Bd (bs : List Nat) : Prop := bs.length ≤ 3 ∧ ∀ b ∈ bs, 1 ≤ b ∧ b ≤ 3
theorem getD_memN {xs : List Nat} {i : Nat} (l : i < xs.length) : xs.getD i 0 ∈ xs := by
  rw [List.getD_eq_getElem?_getD, List.getElem?_eq_getElem l]
  exact List.getElem_mem l
theorem getD_some {α : Type} {xs : List α} {i : Nat} {d : α} (l : i < xs.length) : xs[i]? = some (xs.getD i d) := by
  rw [List.getD_eq_getElem?_getD, List.getElem?_eq_getElem l]
  rfl
theorem rowAt_lt {bs : List Nat} {x j : Nat} (h : ∀ b ∈ bs, 0 < b) (l : j < bs.length) : (rowAt bs x).getD j 0 < bs.getD j 0 := by
  have l1 : j < (digs bs.reverse x).length := by
    rw [digs_len, List.length_reverse]
    exact l
  have e1 : (digs bs.reverse x)[(digs bs.reverse x).length - 1 - j]? = some ((rowAt bs x).getD j 0) := by
    have := getD_some (xs := rowAt bs x) (i := j) (d := 0) (by rw [rowAt_len]; exact l)
    unfold rowAt at this
    rw [List.getElem?_reverse l1] at this
    exact this
  have e2 : bs.reverse[(digs bs.reverse x).length - 1 - j]? = some (bs.getD j 0) := by
    rw [digs_len, List.length_reverse, List.getElem?_reverse (by omega), show bs.length - 1 - (bs.length - 1 - j) = j by omega]
    exact getD_some l
  exact digs_lt bs.reverse x (fun b hb => h b (List.mem_reverse.mp hb)) _ _ _ e2 e1
/-- the place of a row is below the size -/
theorem place_lt_aux (bs row : List Nat) (h : ∀ j, j < bs.length → row.getD j 0 < bs.getD j 0) : ∀ n, n ≤ bs.length → (List.range n).foldl (fun t k => t * bs.getD k 0 + row.getD k 0) 0 < sizeN (bs.take n)
  | 0, _ => by simp [sizeN]
  | n + 1, l => by
    have ih := place_lt_aux bs row h n (by omega)
    have e : bs[n]? = some (bs.getD n 0) := getD_some (by omega)
    rw [List.range_succ, List.foldl_append, take_snoc e, sizeN_snoc]
    show _ * bs.getD n 0 + row.getD n 0 < _
    have hn := h n (by omega)
    generalize (List.range n).foldl (fun t k => t * bs.getD k 0 + row.getD k 0) 0 = t at ih ⊢
    have : (t + 1) * bs.getD n 0 ≤ sizeN (bs.take n) * bs.getD n 0 := Nat.mul_le_mul_right _ ih
    rw [Nat.succ_mul] at this
    omega
theorem place_lt {bs row : List Nat} (h : ∀ j, j < bs.length → row.getD j 0 < bs.getD j 0) : placeN bs row < sizeN bs := by
  have := place_lt_aux bs row h bs.length (Nat.le_refl _)
  rwa [List.take_length] at this
theorem sizeN_le {bs : List Nat} (h : Bd bs) : sizeN bs ≤ 27 := by
  match bs, h with
  | [], _ => decide
  | [a], ⟨_, h⟩ =>
    have := h a (by simp)
    simp [sizeN]
    omega
  | [a, b], ⟨_, h⟩ =>
    have h1 := h a (by simp)
    have h2 := h b (by simp)
    simp [sizeN]
    have : a * b ≤ 3 * 3 := Nat.mul_le_mul h1.2 h2.2
    omega
  | [a, b, c], ⟨_, h⟩ =>
    have h1 := h a (by simp)
    have h2 := h b (by simp)
    have h3 := h c (by simp)
    simp [sizeN]
    have : a * b * c ≤ 3 * 3 * 3 := Nat.mul_le_mul (Nat.mul_le_mul h1.2 h2.2) h3.2
    omega
  | _ :: _ :: _ :: _ :: _, ⟨l, _⟩ => simp at l
section
variable {P : Program} {w : World} {K : PySem.W.Frag} {mg : Str → Option Value} {base : Heap} {z : Addr}
abbrev prSize (K : PySem.W.Frag) : Sp := Pr K (fun x : List Nat => [.dat x]) Bd (fun x (r : Nat) => r = sizeN x)
theorem ok_size (T : Txt K mg z) (D : Dn K mg "size" "size" s_size p_size) : Df P w K mg base "size" 1 p_size (prSize K) := D.df fun f fd F => by
  refine fun_pr F sc_size (fun _ => rfl) fun cdv A outer s H X hr bs ⟨h1, h2⟩ => ?_
  refine ⟨_, (pss_cons (ps_set (i := 1) sc_size.nd rfl (Or.inl rfl) pe_int)
    (pss_cons (ps_for PassesOwn.never rfl (listK K (pv 0)) (pg_name (i := 2) sc_size.nd rfl (Or.inl rfl))
      (pss_cons (ps_set (i := 1) sc_size.nd rfl (Or.inl rfl) (pe_op op_mul (pv 1) (pv 2)))
        pss_nil))
    (pss_cons (ps_ret (pv 1))
    pss_nil))), fun E => ?_⟩
  refine ok_asgD (ev_nat 1) ?_
  refine ok_forD (evi_list (ev_var (d := bs) rfl)) (fun i => [.dat bs, .dat (sizeN (bs.take i)), .any]) (.keep rfl (.keep rfl (.drop .nil))) (fun Fb i x e => ?_) ?_
  · have := h2 x (List.mem_of_getElem? e)
    refine ok_asgD (ev_mulN (ev_var rfl) (ev_var rfl) (.inr (by omega))) ?_
    exact ok_wk (.keep rfl (.keep (by rw [take_snoc e, sizeN_snoc]) (.drop .nil)))
  · refine ok_ret (ev_var rfl) fun d e => ?_
    rw [e, List.take_length]
/-- rows of the same length, below the bounds or not -/
abbrev prPlace (K : PySem.W.Frag) : Sp := Pr K (fun x : List Nat × List Nat => [.dat x.1, .dat x.2]) (fun x => Bd x.1 ∧ x.2.length = x.1.length) (fun x (r : Nat) => r = placeN x.1 x.2)
theorem ok_place (T : Txt K mg z) (D : Dn K mg "place" "place" s_place p_place) : Df P w K mg base "place" 1 p_place (prPlace K) := D.df fun f fd F => by
  refine fun_pr F sc_place (fun _ => rfl) fun cdv A outer s H X hr ⟨bs, row⟩ ⟨⟨h1, h2⟩, h3⟩ => ?_
  refine ⟨_, (pss_cons (ps_set (i := 2) sc_place.nd rfl (Or.inl rfl) pe_int)
    (pss_cons (ps_for PassesOwn.never rfl (pi_range1 rfl T.range (pa_cons (pe_callB (lenK K) (by rfl) T.len PySem.boot_len (pa_cons (pv 0) pa_nil)) pa_nil)) (pg_name (i := 3) sc_place.nd rfl (Or.inl rfl))
      (pss_cons (ps_set (i := 2) sc_place.nd rfl (Or.inl rfl) (pe_op op_add (pe_op op_mul (pv 2) (ixl K (pv 0) (pv 3) (fun _ _ => rfl))) (ixl K (pv 1) (pv 3) (fun _ _ => rfl))))
        pss_nil))
    (pss_cons (ps_ret (pv 2))
    pss_nil))), fun E => ?_⟩
  have h1 : bs.length ≤ 3 := h1
  have h3 : row.length = bs.length := h3
  refine ok_asgD (ev_nat 0) ?_
  refine ok_forR (ev_len (eva_cons (ev_var (d := bs) rfl) eva_nil)) (by omega) (fun i => [.dat bs, .dat row, .dat ((List.range i).foldl (fun t k => t * bs.getD k 0 + row.getD k 0) 0), .any]) (.keep rfl (.keep rfl (.keep rfl (.drop .nil)))) (fun Fb i li => ?_) ?_
  · have hb := h2 _ (getD_memN (i := i) (xs := bs) li)
    refine ok_asgD (ev_addN (ev_mulN (ev_var rfl) (ev_ixD (x := 0) (ev_var (d := bs) rfl) (ev_var rfl) li) (.inr (by omega))) (ev_ixD (x := 0) (ev_var (d := row) rfl) (ev_var rfl) (by omega))) ?_
    exact ok_wk (.keep rfl (.keep rfl (.keep (by rw [List.range_succ, List.foldl_append]; rfl) (.drop .nil))))
  · exact ok_ret (ev_var rfl) fun d e => e
abbrev prRowAt (K : PySem.W.Frag) : Sp := Pr K (fun x : List Nat × Nat => [.dat x.1, .dat x.2]) (fun x => Bd x.1) (fun x (r : List Nat) => r = rowAt x.1 x.2)
theorem ok_row_at (T : Txt K mg z) (D : Dn K mg "row_at" "row_at" s_row_at p_row_at) : Df P w K mg base "row_at" 1 p_row_at (prRowAt K) := D.df fun f fd F => by
  refine fun_pr F sc_row_at (fun _ => rfl) fun cdv A outer s H X hr ⟨bs, x⟩ ⟨h1, h2⟩ => ?_
  refine ⟨_, (pss_cons (ps_set (i := 2) sc_row_at.nd rfl (Or.inl rfl) (pe_lst pa_nil))
    (pss_cons (ps_for PassesOwn.never rfl (pi_range1 rfl T.range (pa_cons (pe_callB (lenK K) (by rfl) T.len PySem.boot_len (pa_cons (pv 0) pa_nil)) pa_nil)) (pg_name (i := 3) sc_row_at.nd rfl (Or.inl rfl))
      (pss_cons (ps_set (i := 4) sc_row_at.nd rfl (Or.inl rfl) (ixl K (pv 0) (pe_op op_sub (pe_op op_sub (pe_callB (lenK K) (by rfl) T.len PySem.boot_len (pa_cons (pv 0) pa_nil)) pe_int) (pv 3)) (fun _ _ => rfl)))
        (pss_cons (ps_expr (pe_bm PySem.F.plainAttrs_list PySem.F.slot_list_append PySem.F.type_list_append mt_append (pv 2) (pa_cons (pe_op op_mod (pv 1) (pv 4)) pa_nil)))
        (pss_cons (ps_set (i := 1) sc_row_at.nd rfl (Or.inl rfl) (pe_op op_fdiv (pv 1) (pv 4)))
        pss_nil))))
    (pss_cons (ps_ret (pe_revL (pv 2)))
    pss_nil))), fun E => ?_⟩
  have h1 : bs.length ≤ 3 := h1
  refine ok_new Nat ?_
  refine ok_forR (ev_len (eva_cons (ev_var (d := bs) rfl) eva_nil)) (by omega) (fun i => [.dat bs, .dat (rest (bs.reverse.take i) x), .own (digs (bs.reverse.take i) x), .any, .any]) (.keep rfl (.keep rfl (.keep rfl (.drop (.drop .nil))))) (fun Fb i li => ?_) ?_
  · have lr : bs.length - 1 - i < bs.length := by omega
    have hb := h2 _ (getD_memN (xs := bs) lr)
    have e : bs.reverse[i]? = some (bs.getD (bs.length - 1 - i) 0) := by
      rw [List.getElem?_reverse li]
      exact getD_some lr
    refine ok_asgD (ev_ixD (x := 0) (ev_var (d := bs) rfl) (ev_subN (ev_subN (ev_len (eva_cons (ev_var (d := bs) rfl) eva_nil)) (ev_nat 1) (by omega)) (ev_var rfl) (by omega)) lr) ?_
    refine ok_appendD (xs := digs (bs.reverse.take i) x) rfl (by rw [digs_len, List.length_take]; omega) (ev_modN (ev_var rfl) (ev_var rfl) (by omega)) ?_
    refine ok_asgD (ev_divN (ev_var rfl) (ev_var rfl) (by omega) (by omega)) ?_
    exact ok_wk (.keep rfl (.keep (by rw [take_snoc e, rest_snoc]) (.keep (by rw [take_snoc e, digs_snoc]) (.drop (.drop .nil)))))
  · refine ok_freeze 2 rfl ?_
    refine ok_ret (ev_rev (ev_var rfl)) fun d e => ?_
    rw [e, List.take_of_length_le (by simp)]
    rfl
abbrev prRows (K : PySem.W.Frag) : Sp := Pr K (fun x : List Nat => [.dat x]) Bd (fun x (r : List (List Nat)) => r = rowsN x)
theorem ok_rows (T : Txt K mg z) (d_size : Df P w K mg base "size" 1 p_size (prSize K)) (d_row_at : Df P w K mg base "row_at" 1 p_row_at (prRowAt K)) (D : Dn K mg "rows" "rows" s_rows p_rows) : Df P w K mg base "rows" 2 p_rows (prRows K) := D.df fun f fd F => by
  refine fun_pr F sc_rows (fun _ => rfl) fun cdv A outer s H X hr bs h => ?_
  refine ⟨_, (pss_cons (ps_ret (pe_lc (own := [("at", 1)]) (g := gName 1) (tt := tYes)  rfl sc_rows.nd (pi_range1 rfl T.range (pa_cons (d_size.call hr (by rfl) (by decide) (pa_cons (pv 0) pa_nil)) pa_nil)) (blkOk_by (N := n_rows) (sc := defScope s_rows) (by decide +kernel)) (fun _ _ _ _ _ => pg_name (i := 1) sc_rows.nd rfl (Or.inl rfl)) (fun _ _ _ _ _ => pts_nil) (fun _ _ _ _ _ => (d_row_at.call hr (by rfl) (by decide) (pa_cons (pv 0) (pa_cons (pv 1) pa_nil))))))
    pss_nil), fun E => ?_⟩
  have hs := sizeN_le h
  refine ok_ret (ev_lcD (f := rowAt bs) (evi_range (ev_call bs (eva_cons (ev_var rfl) eva_nil) h) (by omega)) (by rw [List.length_range]; omega) fun y hy => ?_) fun d e => e
  exact ev_call (bs, y) (eva_cons (ev_var rfl) (eva_cons (ev_var rfl) eva_nil)) h
abbrev prRep (K : PySem.W.Frag) : Sp := Pr K (fun x : List Nat × Nat × Nat => [.dat x.1, .dat x.2.1, .dat x.2.2]) (fun x => x.2.1 < x.1.length ∧ x.1.length ≤ 10) (fun x (r : List Nat) => r = x.1.set x.2.1 x.2.2)
theorem set_cut (xs : List Nat) (i v : Nat) (l : i < xs.length) : xs.take i ++ [v] ++ xs.drop (i + 1) = xs.set i v := by
  rw [List.set_eq_take_append_cons_drop, if_pos l, List.append_assoc]
  rfl
theorem ok_replaced (T : Txt K mg z) (D : Dn K mg "replaced" "replaced" s_replaced p_replaced) : Df P w K mg base "replaced" 1 p_replaced (prRep K) := D.df fun f fd F => by
  refine fun_pr F sc_replaced (fun _ => rfl) fun cdv A outer s H X hr ⟨row, i, v⟩ ⟨h1, h2⟩ => ?_
  refine ⟨_, (pss_cons (ps_ret (pe_op op_cat (pe_op op_cat (pe_slice (slK K) (pv 0) po_none (po_some (pv 1))) (pe_lst (pa_cons (pv 2) pa_nil))) (pe_slice (slK K) (pv 0) (po_some (pe_op op_add (pv 1) pe_int)) po_none)))
    pss_nil), fun E => ?_⟩
  have h1 : i < row.length := h1
  have h2 : row.length ≤ 10 := h2
  refine ok_ret (Ev.list (ev_catNL (ev_catNL (ev_takeNL (ev_var (d := row) rfl) (ev_var (d := i) rfl)) (ev_lstNL (xs := [v]) (eva_cons (ev_var rfl) eva_nil) (by simp)) (by simp; omega)) (ev_dropNL (ev_var (d := row) rfl) (ev_addN (ev_var (d := i) rfl) (ev_nat 1))) (by simp; omega))) fun d e => ?_
  rw [e]
  exact set_cut row i v h1
end
end Tm

namespace Tm
open PySem L2
abbrev s_kind_rows : Stmt := topS 19
abbrev n_kind_rows : List Str := ["game", "h", "i", "kinds", "k"]
abbrev p_kind_rows : List Str := ["game", "h", "i"]
theorem sc_kind_rows : FnScope n_kind_rows p_kind_rows (defScope s_kind_rows) := ⟨rfl, rfl, rfl, by decide +kernel, rfl, by decide +kernel, by decide +kernel⟩
abbrev s_kind_total : Stmt := topS 20
abbrev n_kind_total : List Str := ["game", "rule", "h", "i", "result", "s", "k"]
abbrev p_kind_total : List Str := ["game", "rule", "h", "i"]
theorem sc_kind_total : FnScope n_kind_total p_kind_total (defScope s_kind_total) := ⟨rfl, rfl, rfl, by decide +kernel, rfl, by decide +kernel, by decide +kernel⟩
abbrev s_told_total : Stmt := topS 22
abbrev n_told_total : List Str := ["game", "rule", "h", "i", "said", "told", "act", "kinds", "acts", "result", "s", "k", "chances", "pays", "a", "pay"]
abbrev p_told_total : List Str := ["game", "rule", "h", "i", "said", "told", "act"]
theorem sc_told_total : FnScope n_told_total p_told_total (defScope s_told_total) := ⟨rfl, rfl, rfl, by decide +kernel, rfl, by decide +kernel, by decide +kernel⟩
abbrev s_lie_total : Stmt := topS 23
abbrev n_lie_total : List Str := ["game", "rule", "h", "i", "said", "done", "told"]
abbrev p_lie_total : List Str := ["game", "rule", "h", "i", "said", "done"]
theorem sc_lie_total : FnScope n_lie_total p_lie_total (defScope s_lie_total) := ⟨rfl, rfl, rfl, by decide +kernel, rfl, by decide +kernel, by decide +kernel⟩
abbrev s_best_act : Stmt := topS 24
abbrev n_best_act : List Str := ["game", "rule", "h", "i", "said", "told", "best", "value", "act", "other"]
abbrev p_best_act : List Str := ["game", "rule", "h", "i", "said", "told"]
theorem sc_best_act : FnScope n_best_act p_best_act (defScope s_best_act) := ⟨rfl, rfl, rfl, by decide +kernel, rfl, by decide +kernel, by decide +kernel⟩
abbrev s_best_lie : Stmt := topS 25
abbrev n_best_lie : List Str := ["game", "rule", "h", "i", "said", "found", "told", "one"]
abbrev p_best_lie : List Str := ["game", "rule", "h", "i", "said"]
theorem sc_best_lie : FnScope n_best_lie p_best_lie (defScope s_best_lie) := ⟨rfl, rfl, rfl, by decide +kernel, rfl, by decide +kernel, by decide +kernel⟩
/-! ### games and rules in form -/
structure WfG (g : Gm) : Prop where
  s1 : 1 ≤ g.s
  s4 : g.s ≤ 4
  bk : Bd g.ks
  ba : Bd g.as
  k1 : 1 ≤ g.ks.length
  ka : g.as.length = g.ks.length
  cap : g.s * sizeN g.ks * sizeN g.as ≤ 16
  wl : g.ws.length = g.s
  wk : ∀ x ∈ g.ws, x.length = sizeN g.ks ∧ ∀ q ∈ x, Sz 2 q
  pl : g.ps.length = g.ks.length + 1
  pk : ∀ p ∈ g.ps, p.length = g.s ∧ ∀ x ∈ p, x.length = sizeN g.ks ∧ ∀ y ∈ x, y.length = sizeN g.as ∧ ∀ q ∈ y, Sz 3 q
structure WfR (g : Gm) (rule : List (List (List Rat))) : Prop where
  l : rule.length = g.s
  k : ∀ x ∈ rule, x.length = sizeN g.ks ∧ ∀ y ∈ x, y.length = sizeN g.as ∧ ∀ q ∈ y, Sz 6 q
theorem getD_memD {α : Type} {xs : List α} {i : Nat} {d : α} (l : i < xs.length) : xs.getD i d ∈ xs := by
  rw [List.getD_eq_getElem?_getD, List.getElem?_eq_getElem l]
  exact List.getElem_mem l
def krN (ks : List Nat) (h i : Nat) : List Nat := (List.range (rowsN ks).length).filter fun k => decide (((rowsN ks).getD k []).getD h 0 = i)
theorem rowsN_getD {bs : List Nat} {k : Nat} (l : k < sizeN bs) : (rowsN bs).getD k [] = rowAt bs k := by
  have := getD_some (xs := rowsN bs) (i := k) (d := []) (by rw [rowsN_len]; exact l)
  unfold rowsN at this ⊢
  rw [List.getElem?_map, List.getElem?_range l] at this
  exact (Option.some.inj this).symm
theorem krN_lt {ks : List Nat} {h i k : Nat} (m : k ∈ krN ks h i) : k < sizeN ks := by
  have := (List.mem_filter.mp m).1
  rw [List.mem_range, rowsN_len] at this
  exact this
theorem krN_len (ks : List Nat) (h i : Nat) : (krN ks h i).length ≤ sizeN ks := by
  unfold krN
  refine Nat.le_trans (List.length_filter_le _ _) ?_
  rw [List.length_range, rowsN_len]
  exact Nat.le_refl _
/-- a sum of at most N terms of m bits -/
theorem sumR_szN {m N : Nat} {xs : List Rat} (h : ∀ x ∈ xs, Sz m x) (l : xs.length ≤ N) : Sz ((m + 1) * N + 1) (sumR xs) :=
  (sumR_sz' h).mono (Nat.succ_le_succ (Nat.mul_le_mul_left _ l))
theorem flat_snoc {α : Type} (f : Nat → List α) (s : Nat) : (List.range (s + 1)).flatMap f = (List.range s).flatMap f ++ f s := by
  rw [List.range_succ, List.flatMap_append]
  simp
theorem flat_len {α β : Type} {f : α → List β} {n : Nat} : ∀ (l : List α), (∀ x ∈ l, (f x).length ≤ n) → (l.flatMap f).length ≤ l.length * n
  | [], _ => by simp
  | x :: r, h => by
    have := flat_len r fun y hy => h y (List.mem_cons_of_mem _ hy)
    have h2 := h x (List.mem_cons_self ..)
    rw [List.flatMap_cons, List.length_append, List.length_cons, Nat.succ_mul]
    omega
/-- what a kind gets: the terms -/
def ktT (g : Gm) (rule : List (List (List Rat))) (h s k : Nat) : Rat := (g.ws.getD s []).getD k 0 * dotR ((rule.getD s []).getD k []) (((g.ps.getD (h + 1) []).getD s []).getD k [])
def ktL (g : Gm) (rule : List (List (List Rat))) (h i s : Nat) : List Rat := (krN g.ks h i).map (ktT g rule h s)
def KT (g : Gm) (rule : List (List (List Rat))) (h i : Nat) : Rat := sumR ((List.range g.s).flatMap (ktL g rule h i))
variable {g : Gm} {rule : List (List (List Rat))}
structure At (g : Gm) (rule : List (List (List Rat))) (h s k : Nat) : Prop where
  h : h < g.ks.length
  s : s < g.s
  k : k < sizeN g.ks
theorem At.w {h s k : Nat} (G : WfG g) (a : At g rule h s k) : s < g.ws.length ∧ k < (g.ws.getD s []).length ∧ Sz 2 ((g.ws.getD s []).getD k 0) := by
  have l1 : s < g.ws.length := by rw [G.wl]; exact a.s
  have m := G.wk _ (getD_memD (d := []) l1)
  have l2 : k < (g.ws.getD s []).length := by rw [m.1]; exact a.k
  exact ⟨l1, l2, m.2 _ (getD_memD l2)⟩
theorem At.r {h s k : Nat} (R : WfR g rule) (a : At g rule h s k) : s < rule.length ∧ k < (rule.getD s []).length ∧ ((rule.getD s []).getD k []).length = sizeN g.as ∧ ∀ q ∈ (rule.getD s []).getD k [], Sz 6 q := by
  have l1 : s < rule.length := by rw [R.l]; exact a.s
  have m := R.k _ (getD_memD (d := []) l1)
  have l2 : k < (rule.getD s []).length := by rw [m.1]; exact a.k
  exact ⟨l1, l2, m.2 _ (getD_memD l2)⟩
theorem At.p {h s k : Nat} (G : WfG g) (a : At g rule h s k) : h + 1 < g.ps.length ∧ s < (g.ps.getD (h + 1) []).length ∧ k < ((g.ps.getD (h + 1) []).getD s []).length ∧ (((g.ps.getD (h + 1) []).getD s []).getD k []).length = sizeN g.as ∧ ∀ q ∈ ((g.ps.getD (h + 1) []).getD s []).getD k [], Sz 3 q := by
  have l0 : h + 1 < g.ps.length := by
    rw [G.pl]
    have := a.h
    omega
  have m0 := G.pk _ (getD_memD (d := []) l0)
  have l1 : s < (g.ps.getD (h + 1) []).length := by rw [m0.1]; exact a.s
  have m := m0.2 _ (getD_memD (d := []) l1)
  have l2 : k < ((g.ps.getD (h + 1) []).getD s []).length := by rw [m.1]; exact a.k
  exact ⟨l0, l1, l2, m.2 _ (getD_memD l2)⟩
theorem sizeA_pos (G : WfG g) : sizeN g.ks ≤ 16 ∧ sizeN g.as ≤ 16 ∧ g.s * sizeN g.ks ≤ 16 := by
  have h := G.cap
  have pos : ∀ bs : List Nat, (∀ b ∈ bs, 1 ≤ b ∧ b ≤ 3) → 1 ≤ sizeN bs := by
    have aux : ∀ (bs : List Nat) (t : Nat), 1 ≤ t → (∀ b ∈ bs, 1 ≤ b ∧ b ≤ 3) → 1 ≤ bs.foldl (· * ·) t := by
      intro bs
      induction bs with
      | nil => intro t ht _; exact ht
      | cons b r ih => exact fun t ht hb => ih (t * b) (Nat.mul_pos ht (hb b (List.mem_cons_self ..)).1) fun c hc => hb c (List.mem_cons_of_mem _ hc)
    exact fun bs hb => aux bs 1 (Nat.le_refl _) hb
  have p1 := pos g.ks G.bk.2
  have p2 := pos g.as G.ba.2
  have s1 := G.s1
  have e1 : g.s * sizeN g.ks ≤ g.s * sizeN g.ks * sizeN g.as := Nat.le_mul_of_pos_right _ p2
  have e2 : sizeN g.ks ≤ g.s * sizeN g.ks := Nat.le_mul_of_pos_left _ s1
  have e3 : sizeN g.as ≤ g.s * sizeN g.ks * sizeN g.as := Nat.le_mul_of_pos_left _ (Nat.mul_pos s1 p1)
  exact ⟨by omega, by omega, by omega⟩
theorem ktT_sz (G : WfG g) (R : WfR g rule) {h s k : Nat} (a : At g rule h s k) : Few2 ((rule.getD s []).getD k [], ((g.ps.getD (h + 1) []).getD s []).getD k []) ∧ Sz 161 (dotR ((rule.getD s []).getD k []) (((g.ps.getD (h + 1) []).getD s []).getD k [])) ∧ Sz 163 (ktT g rule h s k) := by
  obtain ⟨_, _, w3⟩ := a.w G
  obtain ⟨_, _, r3, r4⟩ := a.r R
  obtain ⟨_, _, _, p3, p4⟩ := a.p G
  have f : Few2 ((rule.getD s []).getD k [], ((g.ps.getD (h + 1) []).getD s []).getD k []) := ⟨by rw [r3, p3]; exact Nat.le_refl _, by show ((rule.getD s []).getD k []).length ≤ 48; rw [r3]; have := (sizeA_pos G).2.1; omega, r4, p4⟩
  have d := dotR_sz f ((rule.getD s []).getD k []).length
  rw [List.take_of_length_le (by simp)] at d
  have d' : Sz 161 (dotR ((rule.getD s []).getD k []) (((g.ps.getD (h + 1) []).getD s []).getD k [])) := Sz.mono d (by rw [r3]; have := (sizeA_pos G).2.1; omega)
  exact ⟨f, d', w3.mul d'⟩
theorem ktL_all (G : WfG g) (R : WfR g rule) {h i : Nat} (hh : h < g.ks.length) {s : Nat} (hs : s < g.s) : ∀ q ∈ ktL g rule h i s, Sz 163 q := fun q hq => by
  obtain ⟨k, hk, rfl⟩ := List.mem_map.mp hq
  exact (ktT_sz G R ⟨hh, hs, krN_lt hk⟩).2.2
theorem ktL_len {h i s : Nat} : (ktL g rule h i s).length ≤ sizeN g.ks := by
  unfold ktL
  rw [List.length_map]
  exact krN_len ..
/-- all partial sums -/
theorem kt_part (G : WfG g) (R : WfR g rule) {h i : Nat} (hh : h < g.ks.length) {s : Nat} (hs : s < g.s) (j : Nat) : Sz 2625 (sumR ((List.range s).flatMap (ktL g rule h i) ++ (ktL g rule h i s).take j)) := by
  refine sumR_szN (m := 163) (N := 16) (fun q hq => ?_) ?_
  · rcases List.mem_append.mp hq with h1 | h1
    · obtain ⟨s', hs', h2⟩ := List.mem_flatMap.mp h1
      exact ktL_all G R hh (Nat.lt_trans (List.mem_range.mp hs') hs) q h2
    · exact ktL_all G R hh hs q (List.mem_of_mem_take h1)
  · have h1 := flat_len (f := ktL g rule h i) (n := sizeN g.ks) (List.range s) fun _ _ => ktL_len
    have h2 : ((ktL g rule h i s).take j).length ≤ sizeN g.ks := Nat.le_trans (List.length_take_le' _ _) ktL_len
    have h3 := (sizeA_pos G).2.2
    have h4 : (s + 1) * sizeN g.ks ≤ g.s * sizeN g.ks := Nat.mul_le_mul_right _ hs
    rw [List.length_range] at h1
    rw [List.length_append]
    rw [Nat.succ_mul] at h4
    omega
theorem KT_sz (G : WfG g) (R : WfR g rule) {h i : Nat} (hh : h < g.ks.length) : Sz 2625 (KT g rule h i) := by
  refine sumR_szN (m := 163) (N := 16) (fun q hq => ?_) ?_
  · obtain ⟨s', hs', h2⟩ := List.mem_flatMap.mp hq
    exact ktL_all G R hh (List.mem_range.mp hs') q h2
  · have h1 := flat_len (f := ktL g rule h i) (n := sizeN g.ks) (List.range g.s) fun _ _ => ktL_len
    have h3 := (sizeA_pos G).2.2
    rw [List.length_range] at h1
    omega
section
variable {P : Program} {w : World} {K : PySem.W.Frag} {mg : Str → Option Value} {base : Heap} {z : Addr}
abbrev prKr (K : PySem.W.Frag) : Sp := Pr K (fun x : Gm × Nat × Nat => [.dat x.1, .dat x.2.1, .dat x.2.2]) (fun x => WfG x.1 ∧ x.2.1 < x.1.ks.length) (fun x (r : List Nat) => r = krN x.1.ks x.2.1 x.2.2)
theorem ok_kind_rows (T : Txt K mg z) (d_rows : Df P w K mg base "rows" 2 p_rows (prRows K)) (D : Dn K mg "kind_rows" "kind_rows" s_kind_rows p_kind_rows) : Df P w K mg base "kind_rows" 3 p_kind_rows (prKr K) := D.df fun f fd F => by
  refine fun_pr F sc_kind_rows (fun _ => rfl) fun cdv A outer s H X hr ⟨g, h, i⟩ ⟨G, hh⟩ => ?_
  refine ⟨_, (pss_cons (ps_set (i := 3) sc_kind_rows.nd rfl (Or.inr rfl) (d_rows.call hr (by rfl) (by decide) (pa_cons (fldK K (pv 0) rfl) pa_nil)))
    (pss_cons (ps_ret (pe_lc (own := [("k", 4)]) (g := gName 4)  rfl sc_kind_rows.nd (pi_range1 rfl T.range (pa_cons (pe_callB (lenK K) (by rfl) T.len PySem.boot_len (pa_cons (pv 3) pa_nil)) pa_nil)) (blkOk_by (N := n_kind_rows) (sc := defScope s_kind_rows) (by decide +kernel)) (fun _ _ _ _ _ => pg_name (i := 4) sc_kind_rows.nd rfl (Or.inl rfl)) (fun _ _ _ _ _ => pts_one (pt_cmpR op_eq (ixl K (ixl K (pv 3) (pv 4) (fun _ _ => rfl)) (pv 1) (fun _ _ => rfl)) (pv 2) (nomark _))) (fun _ _ _ _ _ => (pv 4))))
    pss_nil)), fun E => ?_⟩
  have hh : h < g.ks.length := hh
  have G : WfG g := G
  have hsz := sizeN_le G.bk
  refine ok_asgD (ev_call g.ks (eva_cons (ev_fk (ev_var rfl)) eva_nil) G.bk) ?_
  refine ok_ret (ev_lcF (f := fun k => k) (p := fun k => decide (((rowsN g.ks).getD k []).getD h 0 = i)) (evi_range (ev_len (eva_cons (ev_var (d := rowsN g.ks) rfl) eva_nil)) (by rw [rowsN_len]; omega)) (by rw [List.length_range, rowsN_len]; omega) (fun k hk => ?_) (fun k hk _ => ev_var rfl)) fun d e => ?_
  · have l : k < (rowsN g.ks).length := List.mem_range.mp hk
    have l2 : h < ((rowsN g.ks).getD k []).length := by
      rw [rowsN_getD (by rwa [rowsN_len] at l), rowAt_len]
      exact hh
    exact evt_test (ev_eqN (ev_ixD (x := 0) (ev_ixD (x := []) (ev_var (d := rowsN g.ks) rfl) (ev_var rfl) l) (ev_var (d := h) rfl) l2) (ev_var rfl))
  · rw [e, List.map_id']
    rfl
abbrev prKt (K : PySem.W.Frag) : Sp := Pr K (fun x : Gm × List (List (List Rat)) × Nat × Nat => [.dat x.1, .dat x.2.1, .dat x.2.2.1, .dat x.2.2.2]) (fun x => WfG x.1 ∧ WfR x.1 x.2.1 ∧ x.2.2.1 < x.1.ks.length) (fun x (r : Rat) => r = KT x.1 x.2.1 x.2.2.1 x.2.2.2)
theorem ok_kind_total (T : Txt K mg z) (d_kind_rows : Df P w K mg base "kind_rows" 3 p_kind_rows (prKr K)) (d_add : Df P w K mg base "add" 2 p_add (prAdd K)) (d_mul : Df P w K mg base "mul" 2 p_mul (prMul K)) (d_dot : Df P w K mg base "dot" 3 p_dot (prDot K))
    (D : Dn K mg "kind_total" "kind_total" s_kind_total p_kind_total) : Df P w K mg base "kind_total" 4 p_kind_total (prKt K) := D.df fun f fd F => by
  refine fun_pr F sc_kind_total (fun _ => rfl) fun cdv A outer s H X hr ⟨g, rule, h, i⟩ ⟨G, R, hh⟩ => ?_
  refine ⟨_, (pss_cons (ps_set (i := 4) sc_kind_total.nd rfl (Or.inl rfl) (pe_glob (v := .ref z) rfl T.z rfl))
    (pss_cons (ps_for PassesOwn.never rfl (pi_range1 rfl T.range (pa_cons (fldK K (pv 0) rfl) pa_nil)) (pg_name (i := 5) sc_kind_total.nd rfl (Or.inl rfl))
      (pss_cons (ps_for PassesOwn.never rfl (listK K (d_kind_rows.call hr (by rfl) (by decide) (pa_cons (pv 0) (pa_cons (pv 2) (pa_cons (pv 3) pa_nil))))) (pg_name (i := 6) sc_kind_total.nd rfl (Or.inl rfl))
          (pss_cons (ps_set (i := 4) sc_kind_total.nd rfl (Or.inl rfl) (d_add.call hr (by rfl) (by decide) (pa_cons (pv 4) (pa_cons (d_mul.call hr (by rfl) (by decide) (pa_cons (ixl K (ixl K (fldK K (pv 0) rfl) (pv 5) (fun _ _ => rfl)) (pv 6) (fun _ _ => rfl)) (pa_cons (d_dot.call hr (by rfl) (by decide) (pa_cons (ixl K (ixl K (pv 1) (pv 5) (fun _ _ => rfl)) (pv 6) (fun _ _ => rfl)) (pa_cons (ixl K (ixl K (ixl K (fldK K (pv 0) rfl) (pe_op op_add (pv 2) pe_int) (fun _ _ => rfl)) (pv 5) (fun _ _ => rfl)) (pv 6) (fun _ _ => rfl)) pa_nil))) pa_nil))) pa_nil))))
            pss_nil))
        pss_nil))
    (pss_cons (ps_ret (pv 4))
    pss_nil))), fun E => ?_⟩
  have hh : h < g.ks.length := hh
  have G : WfG g := G
  have R : WfR g rule := R
  refine ok_asgD (ev_glob (rep_zero T)) ?_
  refine ok_forR (ev_fs (ev_var (d := g) rfl)) (by have := G.s4; omega) (fun s => [.dat g, .dat rule, .dat h, .dat i, .dat (sumR ((List.range s).flatMap (ktL g rule h i))), .any, .any]) (.keep rfl (.keep rfl (.keep rfl (.keep rfl (.keep rfl (.drop (.drop .nil))))))) (fun Fb s ls => ?_) ?_
  · have lk : (krN g.ks h i).length = (ktL g rule h i s).length := by simp [ktL]
    refine ok_forD (evi_list (ev_call (g, h, i) (eva_cons (ev_var rfl) (eva_cons (ev_var rfl) (eva_cons (ev_var rfl) eva_nil))) ⟨G, hh⟩)) (fun j => [.dat g, .dat rule, .dat h, .dat i, .dat (sumR ((List.range s).flatMap (ktL g rule h i) ++ (ktL g rule h i s).take j)), .dat s, .any]) (.keep rfl (.keep rfl (.keep rfl (.keep rfl (.keep (by simp) (.keep rfl (.drop .nil))))))) (fun Fb2 j k ek => ?_) ?_
    · have a : At g rule h s k := ⟨hh, ls, krN_lt (List.mem_of_getElem? ek)⟩
      obtain ⟨w1, w2, w3⟩ := a.w G
      obtain ⟨r1, r2, r3, r4⟩ := a.r R
      obtain ⟨p0, p1, p2, p3, p4⟩ := a.p G
      obtain ⟨f2, s1, s2⟩ := ktT_sz G R a
      have ej : (ktL g rule h i s)[j]? = some (ktT g rule h s k) := by
        unfold ktL
        rw [List.getElem?_map, ek]
        rfl
      refine ok_asgD (ev_call _ (eva_cons (ev_var rfl) (eva_cons (ev_call ((g.ws.getD s []).getD k 0, dotR ((rule.getD s []).getD k []) (((g.ps.getD (h + 1) []).getD s []).getD k [])) (eva_cons (ev_ixD (ev_ixD (ev_fw (ev_var (d := g) rfl)) (ev_var (d := s) rfl) w1) (ev_var (d := k) rfl) w2) (eva_cons (ev_call ((rule.getD s []).getD k [], ((g.ps.getD (h + 1) []).getD s []).getD k []) (eva_cons (ev_ixD (ev_ixD (ev_var (d := rule) rfl) (ev_var (d := s) rfl) r1) (ev_var (d := k) rfl) r2) (eva_cons (ev_ixD (ev_ixD (ev_ixD (ev_fp (ev_var (d := g) rfl)) (ev_addN (ev_var (d := h) rfl) (ev_nat 1)) p0) (ev_var (d := s) rfl) p1) (ev_var (d := k) rfl) p2) eva_nil)) f2) eva_nil)) (Few.mk w3 s1 (by decide))) eva_nil)) (Few.mk (kt_part G R hh ls j) s2 (by decide))) ?_
      exact ok_wk (.keep rfl (.keep rfl (.keep rfl (.keep rfl (.keep (by rw [take_snoc ej, ← List.append_assoc, sumR_snoc]) (.keep rfl (.drop .nil)))))))
    · refine ok_wk (.keep rfl (.keep rfl (.keep rfl (.keep rfl (.keep ?_ (.drop (.drop .nil)))))))
      rw [lk, List.take_length, flat_snoc]
  · exact ok_ret (ev_var rfl) fun d e => e
end
end Tm

namespace Tm
open PySem L2
/-! ### what a kind gets that says a kind and, told one act, does another -/
def chR (g : Gm) (rule : List (List (List Rat))) (h said s k : Nat) : List Rat := (rule.getD s []).getD (placeN g.ks (((rowsN g.ks).getD k []).set h said)) []
def paR (g : Gm) (h s k : Nat) : List Rat := ((g.ps.getD (h + 1) []).getD s []).getD k []
def ttT (g : Gm) (rule : List (List (List Rat))) (h said told act s k a : Nat) : Rat :=
  if ((rowsN g.as).getD a []).getD h 0 = told then (g.ws.getD s []).getD k 0 * ((chR g rule h said s k).getD a 0 * (paR g h s k).getD (placeN g.as (((rowsN g.as).getD a []).set h act)) 0) else 0
def ttA (g : Gm) (rule : List (List (List Rat))) (h said told act s k : Nat) : List Rat := (List.range (rowsN g.as).length).map (ttT g rule h said told act s k)
def ttK (g : Gm) (rule : List (List (List Rat))) (h i said told act s : Nat) : List Rat := (krN g.ks h i).flatMap (ttA g rule h said told act s)
def TT (g : Gm) (rule : List (List (List Rat))) (h i said told act : Nat) : Rat := sumR ((List.range g.s).flatMap (ttK g rule h i said told act))
variable {g : Gm} {rule : List (List (List Rat))}
theorem set_lt {bs : List Nat} (B : Bd bs) {x h v : Nat} (hv : v < bs.getD h 0) : placeN bs ((rowAt bs x).set h v) < sizeN bs := by
  refine place_lt fun j hj => ?_
  rw [List.getD_eq_getElem?_getD, List.getElem?_set]
  by_cases c : h = j
  · subst c
    rw [if_pos rfl, if_pos (by rw [rowAt_len]; exact hj)]
    exact hv
  · rw [if_neg c, ← List.getD_eq_getElem?_getD]
    exact rowAt_lt (fun b hb => (B.2 b hb).1) hj
structure Tin (g : Gm) (rule : List (List (List Rat))) (h said act : Nat) : Prop where
  G : WfG g
  R : WfR g rule
  hh : h < g.ks.length
  said : said < g.ks.getD h 0
  act : act < g.as.getD h 0
theorem Tin.ch {h said act s k : Nat} (I : Tin g rule h said act) (hs : s < g.s) (hk : k < sizeN g.ks) : s < rule.length ∧ placeN g.ks (((rowsN g.ks).getD k []).set h said) < (rule.getD s []).length ∧ (chR g rule h said s k).length = sizeN g.as ∧ ∀ q ∈ chR g rule h said s k, Sz 6 q := by
  have l1 : s < rule.length := by rw [I.R.l]; exact hs
  have m := I.R.k _ (getD_memD (d := []) l1)
  have l2 : placeN g.ks (((rowsN g.ks).getD k []).set h said) < (rule.getD s []).length := by
    rw [m.1, rowsN_getD hk]
    exact set_lt I.G.bk I.said
  exact ⟨l1, l2, m.2 _ (getD_memD l2)⟩
theorem Tin.pa {h said act s k a : Nat} (I : Tin g rule h said act) (hs : s < g.s) (hk : k < sizeN g.ks) (ha : a < sizeN g.as) : (paR g h s k).length = sizeN g.as ∧ placeN g.as (((rowsN g.as).getD a []).set h act) < (paR g h s k).length ∧ (∀ q ∈ paR g h s k, Sz 3 q) := by
  obtain ⟨_, _, _, p3, p4⟩ := At.p (rule := rule) I.G ⟨I.hh, hs, hk⟩
  refine ⟨p3, ?_, p4⟩
  show _ < (((g.ps.getD (h + 1) []).getD s []).getD k []).length
  rw [p3, rowsN_getD ha]
  exact set_lt I.G.ba I.act
theorem Tin.sz {h said act s k a : Nat} (I : Tin g rule h said act) (told : Nat) (hs : s < g.s) (hk : k < sizeN g.ks) (ha : a < sizeN g.as) : Sz 11 (ttT g rule h said told act s k a) := by
  unfold ttT
  split
  · obtain ⟨_, _, w3⟩ := At.w (rule := rule) (h := h) I.G ⟨I.hh, hs, hk⟩
    obtain ⟨_, _, c3, c4⟩ := I.ch hs hk
    obtain ⟨p1, p2, p3⟩ := I.pa hs hk ha
    exact w3.mul ((c4 _ (getD_mem (by rw [c3]; exact ha))).mul (p3 _ (getD_mem p2)))
  · exact Sz.zero.mono (by decide)
theorem ttA_all {h said act s k told : Nat} (I : Tin g rule h said act) (hs : s < g.s) (hk : k < sizeN g.ks) : ∀ q ∈ ttA g rule h said told act s k, Sz 11 q := fun q hq => by
  obtain ⟨a, ha, rfl⟩ := List.mem_map.mp hq
  have l := List.mem_range.mp ha
  rw [rowsN_len] at l
  exact I.sz told hs hk l
theorem ttA_len {h said act s k told : Nat} : (ttA g rule h said told act s k).length = sizeN g.as := by simp [ttA, rowsN_len]
theorem ttK_all {h i said act s told : Nat} (I : Tin g rule h said act) (hs : s < g.s) : ∀ q ∈ ttK g rule h i said told act s, Sz 11 q := fun q hq => by
  obtain ⟨k, hk, h2⟩ := List.mem_flatMap.mp hq
  exact ttA_all I hs (krN_lt hk) q h2
theorem ttK_len {h i said act s told : Nat} : (ttK g rule h i said told act s).length ≤ (krN g.ks h i).length * sizeN g.as := flat_len _ fun _ _ => Nat.le_of_eq ttA_len
theorem tt_cnt (G : WfG g) (h i : Nat) : g.s * ((krN g.ks h i).length * sizeN g.as) ≤ 16 := by
  have h1 := Nat.mul_le_mul_right (sizeN g.as) (krN_len g.ks h i)
  have h2 := Nat.mul_le_mul_left g.s h1
  rw [← Nat.mul_assoc g.s (sizeN g.ks)] at h2
  exact Nat.le_trans h2 G.cap
theorem tt_part {h i said act told s j k : Nat} (I : Tin g rule h said act) (hs : s < g.s) (hj : j < (krN g.ks h i).length) (hk : k < sizeN g.ks) (a : Nat) :
    Sz 193 (sumR ((List.range s).flatMap (ttK g rule h i said told act) ++ ((krN g.ks h i).take j).flatMap (ttA g rule h said told act s) ++ (ttA g rule h said told act s k).take a)) := by
  refine sumR_szN (m := 11) (N := 16) (fun q hq => ?_) ?_
  · rcases List.mem_append.mp hq with h0 | h1
    · rcases List.mem_append.mp h0 with h1 | h1
      · obtain ⟨s', hs', h2⟩ := List.mem_flatMap.mp h1
        exact ttK_all I (Nat.lt_trans (List.mem_range.mp hs') hs) q h2
      · obtain ⟨k', hk', h2⟩ := List.mem_flatMap.mp h1
        exact ttA_all I hs (krN_lt (List.mem_of_mem_take hk')) q h2
    · exact ttA_all I hs hk q (List.mem_of_mem_take h1)
  · have h1 := flat_len (f := ttK g rule h i said told act) (List.range s) fun _ _ => ttK_len
    have h2 := flat_len (f := ttA g rule h said told act s) (n := sizeN g.as) ((krN g.ks h i).take j) fun _ _ => Nat.le_of_eq ttA_len
    have h3 : ((ttA g rule h said told act s k).take a).length ≤ sizeN g.as := by
      refine Nat.le_trans (List.length_take_le' _ _) ?_
      rw [ttA_len]
      exact Nat.le_refl _
    have h4 := tt_cnt I.G h i
    rw [List.length_range] at h1
    rw [List.length_take, Nat.min_eq_left (Nat.le_of_lt hj)] at h2
    rw [List.length_append, List.length_append]
    have h5 : (j + 1) * sizeN g.as ≤ (krN g.ks h i).length * sizeN g.as := Nat.mul_le_mul_right _ hj
    have h6 : (s + 1) * ((krN g.ks h i).length * sizeN g.as) ≤ g.s * ((krN g.ks h i).length * sizeN g.as) := Nat.mul_le_mul_right _ hs
    rw [Nat.succ_mul] at h5 h6
    omega
theorem TT_sz {h i said act told : Nat} (I : Tin g rule h said act) : Sz 193 (TT g rule h i said told act) := by
  refine sumR_szN (m := 11) (N := 16) (fun q hq => ?_) ?_
  · obtain ⟨s', hs', h2⟩ := List.mem_flatMap.mp hq
    exact ttK_all I (List.mem_range.mp hs') q h2
  · have h1 := flat_len (f := ttK g rule h i said told act) (List.range g.s) fun _ _ => ttK_len
    have h4 := tt_cnt I.G h i
    rw [List.length_range] at h1
    omega
/-! the best of f 0, .., f (n - 1) -/
def stepB (f : Nat → Rat) (p : Nat × Rat) (a : Nat) : Nat × Rat := if p.2 < f a then (a, f a) else p
def baL (f : Nat → Rat) (l : List Nat) : Nat × Rat := l.foldl (stepB f) (0, f 0)
def baF (f : Nat → Rat) (n : Nat) : Nat × Rat := baL f ((List.range (n - 1)).map (· + 1))
theorem baL_snoc (f : Nat → Rat) (l : List Nat) (a : Nat) : baL f (l ++ [a]) = stepB f (baL f l) a := by simp [baL]
theorem baL_inv (f : Nat → Rat) (n : Nat) (l : List Nat) (h0 : 0 < n) (hl : ∀ a ∈ l, a < n) : (baL f l).2 = f (baL f l).1 ∧ (baL f l).1 < n ∧ f 0 ≤ (baL f l).2 ∧ ∀ a ∈ l, f a ≤ (baL f l).2 := by
  suffices H : ∀ (l : List Nat) (p : Nat × Rat), p.2 = f p.1 → p.1 < n → (∀ a ∈ l, a < n) → (l.foldl (stepB f) p).2 = f (l.foldl (stepB f) p).1 ∧ (l.foldl (stepB f) p).1 < n ∧ p.2 ≤ (l.foldl (stepB f) p).2 ∧ ∀ a ∈ l, f a ≤ (l.foldl (stepB f) p).2 from H l (0, f 0) rfl h0 hl
  intro l
  induction l with
  | nil => exact fun p e hp _ => ⟨e, hp, Rat.le_refl, fun a h => by simp at h⟩
  | cons b r ih =>
    intro p e hp hl
    have hb := hl b (List.mem_cons_self ..)
    have hr : ∀ a ∈ r, a < n := fun a ha => hl a (List.mem_cons_of_mem _ ha)
    have key : (stepB f p b).2 = f (stepB f p b).1 ∧ (stepB f p b).1 < n ∧ p.2 ≤ (stepB f p b).2 ∧ f b ≤ (stepB f p b).2 := by
      unfold stepB
      by_cases c : p.2 < f b
      · rw [if_pos c]
        exact ⟨rfl, hb, Rat.le_of_lt c, Rat.le_refl⟩
      · rw [if_neg c]
        exact ⟨e, hp, Rat.le_refl, Rat.not_lt.mp c⟩
    obtain ⟨k1, k2, k3, k4⟩ := key
    obtain ⟨i1, i2, i3, i4⟩ := ih (stepB f p b) k1 k2 hr
    refine ⟨i1, i2, Rat.le_trans k3 i3, fun a ha => ?_⟩
    rcases List.mem_cons.mp ha with rfl | h
    · exact Rat.le_trans k4 i3
    · exact i4 a h
theorem baF_ok (f : Nat → Rat) {n : Nat} (h0 : 0 < n) : (baF f n).2 = f (baF f n).1 ∧ (baF f n).1 < n ∧ ∀ a, a < n → f a ≤ (baF f n).2 := by
  have h := baL_inv f n ((List.range (n - 1)).map (· + 1)) h0 fun a ha => by
    obtain ⟨b, hb, rfl⟩ := List.mem_map.mp ha
    have := List.mem_range.mp hb
    omega
  refine ⟨h.1, h.2.1, fun a ha => ?_⟩
  cases a with
  | zero => exact h.2.2.1
  | succ b => exact h.2.2.2 (b + 1) (List.mem_map.mpr ⟨b, List.mem_range.mpr (by omega), rfl⟩)
def BA (g : Gm) (rule : List (List (List Rat))) (h i said told : Nat) : Nat × Rat := baF (TT g rule h i said told) (g.as.getD h 0)
def BL (g : Gm) (rule : List (List (List Rat))) (h i said : Nat) : List (Nat × Rat) := (List.range (g.as.getD h 0)).map (BA g rule h i said)
def BV (g : Gm) (rule : List (List (List Rat))) (h i said : Nat) : Rat := sumR ((BL g rule h i said).map fun p => p.2)
/-- in form, hearer and kind that is said -/
structure Sin (g : Gm) (rule : List (List (List Rat))) (h said : Nat) : Prop where
  G : WfG g
  R : WfR g rule
  hh : h < g.ks.length
  said : said < g.ks.getD h 0
theorem Sin.a {h said : Nat} (I : Sin g rule h said) : 1 ≤ g.as.getD h 0 ∧ g.as.getD h 0 ≤ 3 := I.G.ba.2 _ (getD_memN (by rw [I.G.ka]; exact I.hh))
theorem WfG.kb (G : WfG g) {h : Nat} (hh : h < g.ks.length) : 1 ≤ g.ks.getD h 0 ∧ g.ks.getD h 0 ≤ 3 := G.bk.2 _ (getD_memN hh)
theorem WfG.ab (G : WfG g) {h : Nat} (hh : h < g.ks.length) : 1 ≤ g.as.getD h 0 ∧ g.as.getD h 0 ≤ 3 := G.ba.2 _ (getD_memN (by rw [G.ka]; exact hh))
theorem Sin.t {h said act : Nat} (I : Sin g rule h said) (ha : act < g.as.getD h 0) : Tin g rule h said act := ⟨I.G, I.R, I.hh, I.said, ha⟩
theorem BA_ok {h i said told : Nat} (I : Sin g rule h said) : (BA g rule h i said told).2 = TT g rule h i said told (BA g rule h i said told).1 ∧ (BA g rule h i said told).1 < g.as.getD h 0 ∧ ∀ a, a < g.as.getD h 0 → TT g rule h i said told a ≤ (BA g rule h i said told).2 := baF_ok _ I.a.1
theorem BA_sz {h i said told : Nat} (I : Sin g rule h said) : Sz 193 (BA g rule h i said told).2 := by
  have h1 := BA_ok (i := i) (told := told) I
  rw [h1.1]
  exact TT_sz (I.t h1.2.1)
theorem few1_acts {xs : List Rat} (h : ∀ x ∈ xs, Sz 193 x) (l : xs.length ≤ 3) : Few1 xs := ⟨193, h, by
  have := Nat.mul_le_mul_left 194 (Nat.succ_le_succ l)
  omega⟩
theorem BV_sz {h i said : Nat} (I : Sin g rule h said) : Sz 583 (BV g rule h i said) := by
  refine sumR_szN (m := 193) (N := 3) (fun q hq => ?_) ?_
  · obtain ⟨p, hp, rfl⟩ := List.mem_map.mp hq
    obtain ⟨t, _, rfl⟩ := List.mem_map.mp hp
    exact BA_sz I
  · simp [BL]
    exact I.a.2
section
variable {P : Program} {w : World} {K : PySem.W.Frag} {mg : Str → Option Value} {base : Heap} {z : Addr}
abbrev RuleT := List (List (List Rat))
abbrev prTt (K : PySem.W.Frag) : Sp := Pr K (fun x : Gm × RuleT × Nat × Nat × Nat × Nat × Nat => [.dat x.1, .dat x.2.1, .dat x.2.2.1, .dat x.2.2.2.1, .dat x.2.2.2.2.1, .dat x.2.2.2.2.2.1, .dat x.2.2.2.2.2.2])
  (fun x => Tin x.1 x.2.1 x.2.2.1 x.2.2.2.2.1 x.2.2.2.2.2.2) (fun x (r : Rat) => r = TT x.1 x.2.1 x.2.2.1 x.2.2.2.1 x.2.2.2.2.1 x.2.2.2.2.2.1 x.2.2.2.2.2.2)
theorem ok_told_total (T : Txt K mg z) (d_rows : Df P w K mg base "rows" 2 p_rows (prRows K)) (d_place : Df P w K mg base "place" 1 p_place (prPlace K)) (d_replaced : Df P w K mg base "replaced" 1 p_replaced (prRep K)) (d_kind_rows : Df P w K mg base "kind_rows" 3 p_kind_rows (prKr K))
    (d_add : Df P w K mg base "add" 2 p_add (prAdd K)) (d_mul : Df P w K mg base "mul" 2 p_mul (prMul K)) (D : Dn K mg "told_total" "told_total" s_told_total p_told_total) : Df P w K mg base "told_total" 4 p_told_total (prTt K) := D.df fun f fd F => by
  refine fun_pr F sc_told_total (fun _ => rfl) fun cdv A outer s H X hr ⟨g, rule, h, i, said, told, act⟩ I => ?_
  refine ⟨_, (pss_cons (ps_set (i := 7) sc_told_total.nd rfl (Or.inl rfl) (d_rows.call hr (by rfl) (by decide) (pa_cons (fldK K (pv 0) rfl) pa_nil)))
    (pss_cons (ps_set (i := 8) sc_told_total.nd rfl (Or.inl rfl) (d_rows.call hr (by rfl) (by decide) (pa_cons (fldK K (pv 0) rfl) pa_nil)))
    (pss_cons (ps_set (i := 9) sc_told_total.nd rfl (Or.inl rfl) (pe_glob (v := .ref z) rfl T.z rfl))
    (pss_cons (ps_for PassesOwn.never rfl (pi_range1 rfl T.range (pa_cons (fldK K (pv 0) rfl) pa_nil)) (pg_name (i := 10) sc_told_total.nd rfl (Or.inl rfl))
      (pss_cons (ps_for PassesOwn.never rfl (listK K (d_kind_rows.call hr (by rfl) (by decide) (pa_cons (pv 0) (pa_cons (pv 2) (pa_cons (pv 3) pa_nil))))) (pg_name (i := 11) sc_told_total.nd rfl (Or.inl rfl))
          (pss_cons (ps_set (i := 12) sc_told_total.nd rfl (Or.inl rfl) (ixl K (ixl K (pv 1) (pv 10) (fun _ _ => rfl)) (d_place.call hr (by rfl) (by decide) (pa_cons (fldK K (pv 0) rfl) (pa_cons (d_replaced.call hr (by rfl) (by decide) (pa_cons (ixl K (pv 7) (pv 11) (fun _ _ => rfl)) (pa_cons (pv 2) (pa_cons (pv 4) pa_nil)))) pa_nil))) (fun _ _ => rfl)))
            (pss_cons (ps_set (i := 13) sc_told_total.nd rfl (Or.inl rfl) (ixl K (ixl K (ixl K (fldK K (pv 0) rfl) (pe_op op_add (pv 2) pe_int) (fun _ _ => rfl)) (pv 10) (fun _ _ => rfl)) (pv 11) (fun _ _ => rfl)))
            (pss_cons (ps_for PassesOwn.never rfl (pi_range1 rfl T.range (pa_cons (pe_callB (lenK K) (by rfl) T.len PySem.boot_len (pa_cons (pv 8) pa_nil)) pa_nil)) (pg_name (i := 14) sc_told_total.nd rfl (Or.inl rfl))
              (pss_cons (ps_if (PW.pt (pw_and (pt_cmpR op_eq (ixl K (ixl K (pv 8) (pv 14) (fun _ _ => rfl)) (pv 2) (fun _ _ => rfl)) (pv 5) (nomark _)) (pw_and1 (pt_cmpR (op_neD hr.units) (ixl K (pv 12) (pv 14) (fun _ _ => rfl)) (pe_glob (v := .ref z) rfl T.z rfl) (nomark _)))))
                  (pss_cons (ps_set (i := 15) sc_told_total.nd rfl (Or.inl rfl) (ixl K (pv 13) (d_place.call hr (by rfl) (by decide) (pa_cons (fldK K (pv 0) rfl) (pa_cons (d_replaced.call hr (by rfl) (by decide) (pa_cons (ixl K (pv 8) (pv 14) (fun _ _ => rfl)) (pa_cons (pv 2) (pa_cons (pv 6) pa_nil)))) pa_nil))) (fun _ _ => rfl)))
                    (pss_cons (ps_set (i := 9) sc_told_total.nd rfl (Or.inl rfl) (d_add.call hr (by rfl) (by decide) (pa_cons (pv 9) (pa_cons (d_mul.call hr (by rfl) (by decide) (pa_cons (ixl K (ixl K (fldK K (pv 0) rfl) (pv 10) (fun _ _ => rfl)) (pv 11) (fun _ _ => rfl)) (pa_cons (d_mul.call hr (by rfl) (by decide) (pa_cons (ixl K (pv 12) (pv 14) (fun _ _ => rfl)) (pa_cons (pv 15) pa_nil))) pa_nil))) pa_nil))))
                    pss_nil))
                  pss_nil)
                pss_nil))
            pss_nil))))
        pss_nil))
    (pss_cons (ps_ret (pv 9))
    pss_nil))))), fun E => ?_⟩
  have I : Tin g rule h said act := I
  have G := I.G
  have hh := I.hh
  have hk3 := G.bk.1
  have ha3 := G.ba.1
  have hka := G.ka
  have hsz := sizeN_le G.ba
  refine ok_asgD (ev_call g.ks (eva_cons (ev_fk (ev_var rfl)) eva_nil) G.bk) ?_
  refine ok_asgD (ev_call g.as (eva_cons (ev_fa (ev_var rfl)) eva_nil) G.ba) ?_
  refine ok_asgD (ev_glob (rep_zero T)) ?_
  let G0 (r : Rat) (s k c p : Slot) : List Slot := [.dat g, .dat rule, .dat h, .dat i, .dat said, .dat told, .dat act, .dat (rowsN g.ks), .dat (rowsN g.as), .dat r, s, k, c, p, .any, .any]
  refine ok_forR (ev_fs (ev_var (d := g) rfl)) (by have := G.s4; omega) (fun s => G0 (sumR ((List.range s).flatMap (ttK g rule h i said told act))) .any .any .any .any)
    (.keep rfl (.keep rfl (.keep rfl (.keep rfl (.keep rfl (.keep rfl (.keep rfl (.keep rfl (.keep rfl (.keep rfl (.drop (.drop (.drop (.drop (.drop (.drop .nil)))))))))))))))) (fun Fb s ls => ?_) ?_
  · refine ok_forD (evi_list (ev_call (g, h, i) (eva_cons (ev_var rfl) (eva_cons (ev_var rfl) (eva_cons (ev_var rfl) eva_nil))) ⟨G, hh⟩))
      (fun j => G0 (sumR ((List.range s).flatMap (ttK g rule h i said told act) ++ ((krN g.ks h i).take j).flatMap (ttA g rule h said told act s))) (.dat s) .any .any .any)
      (.keep rfl (.keep rfl (.keep rfl (.keep rfl (.keep rfl (.keep rfl (.keep rfl (.keep rfl (.keep rfl (.keep (by simp) (.keep rfl (.drop (.drop (.drop (.drop (.drop .nil)))))))))))))))) (fun Fb2 j k ek => ?_) ?_
    · have lk := krN_lt (List.mem_of_getElem? ek)
      have lj : j < (krN g.ks h i).length := (List.getElem?_eq_some_iff.mp ek).1
      have a : At g rule h s k := ⟨hh, ls, lk⟩
      obtain ⟨w1, w2, w3⟩ := a.w G
      obtain ⟨p0, p1, p2, _, _⟩ := a.p G
      obtain ⟨c1, c2, c3, c4⟩ := I.ch ls lk
      have lkr : k < (rowsN g.ks).length := by rw [rowsN_len]; exact lk
      have rl : ((rowsN g.ks).getD k []).length = g.ks.length := by rw [rowsN_getD lk, rowAt_len]
      refine ok_asgD (ev_ixD (x := []) (ev_ixD (x := []) (ev_var (d := rule) rfl) (ev_var (d := s) rfl) c1)
        (ev_call (g.ks, ((rowsN g.ks).getD k []).set h said) (eva_cons (ev_fk (ev_var (d := g) rfl)) (eva_cons (ev_call ((rowsN g.ks).getD k [], h, said) (eva_cons (ev_ixD (ev_var (d := rowsN g.ks) rfl) (ev_var (d := k) rfl) lkr) (eva_cons (ev_var rfl) (eva_cons (ev_var rfl) eva_nil)))
          ⟨by show h < ((rowsN g.ks).getD k []).length; rw [rl]; exact hh, by show ((rowsN g.ks).getD k []).length ≤ 10; rw [rl]; omega⟩) eva_nil)) ⟨G.bk, by show (((rowsN g.ks).getD k []).set h said).length = g.ks.length; rw [List.length_set, rl]⟩) c2) ?_
      refine ok_asgD (ev_ixD (x := []) (ev_ixD (x := []) (ev_ixD (x := []) (ev_fp (ev_var (d := g) rfl)) (ev_addN (ev_var (d := h) rfl) (ev_nat 1)) p0) (ev_var (d := s) rfl) p1) (ev_var (d := k) rfl) p2) ?_
      refine ok_forR (ev_len (eva_cons (ev_var (d := rowsN g.as) rfl) eva_nil)) (by rw [rowsN_len]; omega)
        (fun a => G0 (sumR ((List.range s).flatMap (ttK g rule h i said told act) ++ ((krN g.ks h i).take j).flatMap (ttA g rule h said told act s) ++ (ttA g rule h said told act s k).take a)) (.dat s) (.dat k) (.dat (chR g rule h said s k)) (.dat (paR g h s k)))
        (.keep rfl (.keep rfl (.keep rfl (.keep rfl (.keep rfl (.keep rfl (.keep rfl (.keep rfl (.keep rfl (.keep (by simp) (.keep rfl (.keep rfl (.keep rfl (.keep rfl (.drop (.drop .nil)))))))))))))))) (fun Fb3 a la => ?_) ?_
      · have la' : a < sizeN g.as := by rwa [rowsN_len] at la
        have ea : (ttA g rule h said told act s k)[a]? = some (ttT g rule h said told act s k a) := by
          unfold ttA
          rw [List.getElem?_map, List.getElem?_range la]
          rfl
        have al : ((rowsN g.as).getD a []).length = g.as.length := by rw [rowsN_getD la', rowAt_len]
        have lh : h < ((rowsN g.as).getD a []).length := by rw [al, hka]; exact hh
        have lc : a < (chR g rule h said s k).length := by rw [c3]; exact la'
        obtain ⟨q1, q2, q3⟩ := I.pa ls lk la'
        refine ok_if (evt_and (evt_test (ev_eqN (ev_ixD (x := 0) (ev_ixD (x := []) (ev_var (d := rowsN g.as) rfl) (ev_var (d := a) rfl) la) (ev_var (d := h) rfl) lh) (ev_var (d := told) rfl))) fun _ => evt_test (ev_neR (ev_ixD (x := 0) (ev_var (d := chR g rule h said s k) rfl) (ev_var (d := a) rfl) lc) (ev_glob (rep_zero T))))
          (Sat K _ (G0 (sumR ((List.range s).flatMap (ttK g rule h i said told act) ++ ((krN g.ks h i).take j).flatMap (ttA g rule h said told act s) ++ (ttA g rule h said told act s k).take (a + 1))) (.dat s) (.dat k) (.dat (chR g rule h said s k)) (.dat (paR g h s k)))) (fun c => ?_) (fun c => ?_) (ok_wk (Wk.refl _))
        · rw [Bool.and_eq_true] at c
          have ct : ttT g rule h said told act s k a = (g.ws.getD s []).getD k 0 * ((chR g rule h said s k).getD a 0 * (paR g h s k).getD (placeN g.as (((rowsN g.as).getD a []).set h act)) 0) := by
            unfold ttT
            rw [if_pos (of_decide_eq_true c.1)]
          refine ok_asgD (ev_ixD (x := 0) (ev_var (d := paR g h s k) rfl) (ev_call (g.as, ((rowsN g.as).getD a []).set h act) (eva_cons (ev_fa (ev_var (d := g) rfl)) (eva_cons (ev_call ((rowsN g.as).getD a [], h, act) (eva_cons (ev_ixD (ev_var (d := rowsN g.as) rfl) (ev_var (d := a) rfl) la) (eva_cons (ev_var rfl) (eva_cons (ev_var rfl) eva_nil)))
            ⟨lh, by show ((rowsN g.as).getD a []).length ≤ 10; rw [al]; omega⟩) eva_nil)) ⟨G.ba, by show (((rowsN g.as).getD a []).set h act).length = g.as.length; rw [List.length_set, al]⟩) q2) ?_
          have m1 := Few.mk (c4 _ (getD_mem lc)) (q3 _ (getD_mem q2)) (by decide)
          have m2 := Few.mk w3 ((c4 _ (getD_mem lc)).mul (q3 _ (getD_mem q2))) (by decide)
          refine ok_asgD (ev_call _ (eva_cons (ev_var rfl) (eva_cons (ev_call ((g.ws.getD s []).getD k 0, (chR g rule h said s k).getD a 0 * (paR g h s k).getD (placeN g.as (((rowsN g.as).getD a []).set h act)) 0)
            (eva_cons (ev_ixD (ev_ixD (ev_fw (ev_var (d := g) rfl)) (ev_var (d := s) rfl) w1) (ev_var (d := k) rfl) w2) (eva_cons (ev_call ((chR g rule h said s k).getD a 0, (paR g h s k).getD (placeN g.as (((rowsN g.as).getD a []).set h act)) 0)
              (eva_cons (ev_ixD (ev_var (d := chR g rule h said s k) rfl) (ev_var (d := a) rfl) lc) (eva_cons (ev_var rfl) eva_nil)) m1) eva_nil)) m2) eva_nil)) (Few.mk (tt_part I ls lj lk a) (w3.mul ((c4 _ (getD_mem lc)).mul (q3 _ (getD_mem q2)))) (by decide))) ?_
          exact ok_wk (.keep rfl (.keep rfl (.keep rfl (.keep rfl (.keep rfl (.keep rfl (.keep rfl (.keep rfl (.keep rfl (.keep (by rw [take_snoc ea, ← List.append_assoc, sumR_snoc, ct]) (.keep rfl (.keep rfl (.keep rfl (.keep rfl (.drop (.drop .nil))))))))))))))))
        · refine ok_wk (.keep rfl (.keep rfl (.keep rfl (.keep rfl (.keep rfl (.keep rfl (.keep rfl (.keep rfl (.keep rfl (.keep ?_ (.keep rfl (.keep rfl (.keep rfl (.keep rfl (.drop (.drop .nil))))))))))))))))
          have z0 : ttT g rule h said told act s k a = 0 := by
            unfold ttT
            by_cases c1 : ((rowsN g.as).getD a []).getD h 0 = told
            · rw [if_pos c1]
              by_cases c2 : (chR g rule h said s k).getD a 0 = 0
              · rw [c2, Rat.zero_mul, Rat.mul_zero]
              · rw [decide_eq_true c1, decide_eq_false c2] at c
                cases c
            · rw [if_neg c1]
          rw [take_snoc ea, ← List.append_assoc, sumR_snoc, z0, Rat.add_zero]
      · refine ok_wk (.keep rfl (.keep rfl (.keep rfl (.keep rfl (.keep rfl (.keep rfl (.keep rfl (.keep rfl (.keep rfl (.keep ?_ (.keep rfl (.drop (.drop (.drop (.drop (.drop .nil))))))))))))))))
        have e1 : (ttA g rule h said told act s k).take (rowsN g.as).length = ttA g rule h said told act s k := List.take_of_length_le (by simp [ttA])
        rw [e1, take_snoc ek, List.flatMap_append, ← List.append_assoc]
        simp
    · refine ok_wk (.keep rfl (.keep rfl (.keep rfl (.keep rfl (.keep rfl (.keep rfl (.keep rfl (.keep rfl (.keep rfl (.keep ?_ (.drop (.drop (.drop (.drop (.drop (.drop .nil))))))))))))))))
      rw [List.take_length, flat_snoc]
      rfl
  · exact ok_ret (ev_var rfl) fun d e => e
end
end Tm

namespace Tm
open PySem L2
abbrev s_gaining_lie : Stmt := topS 26
abbrev n_gaining_lie : List Str := ["game", "rule", "h", "i", "truth", "said", "done", "value"]
abbrev p_gaining_lie : List Str := ["game", "rule"]
theorem sc_gaining_lie : FnScope n_gaining_lie p_gaining_lie (defScope s_gaining_lie) := ⟨rfl, rfl, rfl, by decide +kernel, rfl, by decide +kernel, by decide +kernel⟩
abbrev s_honest : Stmt := topS 27
abbrev n_honest : List Str := ["game", "rule"]
abbrev p_honest : List Str := ["game", "rule"]
theorem sc_honest : FnScope n_honest p_honest (defScope s_honest) := ⟨rfl, rfl, rfl, by decide +kernel, rfl, by decide +kernel, by decide +kernel⟩
abbrev s_mixed_lie_total : Stmt := topS 28
abbrev n_mixed_lie_total : List Str := ["game", "rule", "h", "i", "says", "does", "result", "said", "told", "act", "chance"]
abbrev p_mixed_lie_total : List Str := ["game", "rule", "h", "i", "says", "does"]
theorem sc_mixed_lie_total : FnScope n_mixed_lie_total p_mixed_lie_total (defScope s_mixed_lie_total) := ⟨rfl, rfl, rfl, by decide +kernel, rfl, by decide +kernel, by decide +kernel⟩
variable {g : Gm} {rule : List (List (List Rat))}
def LT (g : Gm) (rule : RuleT) (h i said : Nat) (done : List Nat) : Rat := sumR ((List.range (g.as.getD h 0)).map fun told => TT g rule h i said told (done.getD told 0))
theorem LT_few {h i said : Nat} {done : List Nat} (I : Sin g rule h said) (hd : ∀ t, t < g.as.getD h 0 → done.getD t 0 < g.as.getD h 0) : Few1 ((List.range (g.as.getD h 0)).map fun told => TT g rule h i said told (done.getD told 0)) := by
  refine few1_acts (fun x hx => ?_) (by rw [List.length_map, List.length_range]; exact I.a.2)
  obtain ⟨t, ht, rfl⟩ := List.mem_map.mp hx
  exact TT_sz (I.t (hd t (List.mem_range.mp ht)))
theorem LT_sz {h i said : Nat} {done : List Nat} (I : Sin g rule h said) (hd : ∀ t, t < g.as.getD h 0 → done.getD t 0 < g.as.getD h 0) : Sz 583 (LT g rule h i said done) := by
  refine sumR_szN (m := 193) (N := 3) (fun x hx => ?_) (by rw [List.length_map, List.length_range]; exact I.a.2)
  obtain ⟨t, ht, rfl⟩ := List.mem_map.mp hx
  exact TT_sz (I.t (hd t (List.mem_range.mp ht)))
/-- no lie gains -/
def Hon (g : Gm) (rule : RuleT) : Prop := ∀ h, h < g.ks.length → ∀ i, i < g.ks.getD h 0 → ∀ said, said < g.ks.getD h 0 → ¬ KT g rule h i < BV g rule h i said
/-- a lie by chances: the terms -/
def mxT (g : Gm) (rule : RuleT) (h i : Nat) (says : List Rat) (does : List (List (List Rat))) (said told act : Nat) : Rat := says.getD said 0 * ((does.getD said []).getD told []).getD act 0 * TT g rule h i said told act
def mxA (g : Gm) (rule : RuleT) (h i : Nat) (says : List Rat) (does : List (List (List Rat))) (said told : Nat) : List Rat := (List.range (g.as.getD h 0)).map (mxT g rule h i says does said told)
def mxS (g : Gm) (rule : RuleT) (h i : Nat) (says : List Rat) (does : List (List (List Rat))) (said : Nat) : List Rat := (List.range (g.as.getD h 0)).flatMap (mxA g rule h i says does said)
def MX (g : Gm) (rule : RuleT) (h i : Nat) (says : List Rat) (does : List (List (List Rat))) : Rat := sumR ((List.range (g.ks.getD h 0)).flatMap (mxS g rule h i says does))
structure Mxi (g : Gm) (rule : RuleT) (h : Nat) (says : List Rat) (does : List (List (List Rat))) : Prop where
  G : WfG g
  R : WfR g rule
  hh : h < g.ks.length
  sl : says.length = g.ks.getD h 0
  ss : ∀ q ∈ says, Sz 4 q
  dl : does.length = g.ks.getD h 0
  dd : ∀ x ∈ does, x.length = g.as.getD h 0 ∧ ∀ y ∈ x, y.length = g.as.getD h 0 ∧ ∀ q ∈ y, Sz 4 q
variable {says : List Rat} {does : List (List (List Rat))}
theorem Mxi.s {h said : Nat} (I : Mxi g rule h says does) (l : said < g.ks.getD h 0) : Sin g rule h said := ⟨I.G, I.R, I.hh, l⟩
theorem Mxi.at {h said told act : Nat} (I : Mxi g rule h says does) (l1 : said < g.ks.getD h 0) (l2 : told < g.as.getD h 0) (l3 : act < g.as.getD h 0) :
    said < says.length ∧ said < does.length ∧ told < (does.getD said []).length ∧ act < ((does.getD said []).getD told []).length ∧ Sz 4 (says.getD said 0) ∧ Sz 4 (((does.getD said []).getD told []).getD act 0) := by
  have a1 : said < says.length := by rw [I.sl]; exact l1
  have a2 : said < does.length := by rw [I.dl]; exact l1
  have m := I.dd _ (getD_memD (d := []) a2)
  have a3 : told < (does.getD said []).length := by rw [m.1]; exact l2
  have n := m.2 _ (getD_memD (d := []) a3)
  have a4 : act < ((does.getD said []).getD told []).length := by rw [n.1]; exact l3
  exact ⟨a1, a2, a3, a4, I.ss _ (getD_mem a1), n.2 _ (getD_mem a4)⟩
theorem mxT_sz {h i said told act : Nat} (I : Mxi g rule h says does) (l1 : said < g.ks.getD h 0) (l2 : told < g.as.getD h 0) (l3 : act < g.as.getD h 0) : Sz 201 (mxT g rule h i says does said told act) := by
  obtain ⟨_, _, _, _, s1, s2⟩ := I.at l1 l2 l3
  exact (s1.mul s2).mul (TT_sz ((I.s l1).t l3))
theorem mxA_len {h i said told : Nat} : (mxA g rule h i says does said told).length = g.as.getD h 0 := by simp [mxA]
theorem mxA_all {h i said told : Nat} (I : Mxi g rule h says does) (l1 : said < g.ks.getD h 0) (l2 : told < g.as.getD h 0) : ∀ q ∈ mxA g rule h i says does said told, Sz 201 q := fun q hq => by
  obtain ⟨a, ha, rfl⟩ := List.mem_map.mp hq
  exact mxT_sz I l1 l2 (List.mem_range.mp ha)
theorem mxS_len {h i said : Nat} : (mxS g rule h i says does said).length ≤ g.as.getD h 0 * g.as.getD h 0 := by
  have := flat_len (f := mxA g rule h i says does said) (n := g.as.getD h 0) (List.range (g.as.getD h 0)) fun _ _ => Nat.le_of_eq mxA_len
  rwa [List.length_range] at this
theorem mxS_all {h i said : Nat} (I : Mxi g rule h says does) (l1 : said < g.ks.getD h 0) : ∀ q ∈ mxS g rule h i says does said, Sz 201 q := fun q hq => by
  obtain ⟨t, ht, h2⟩ := List.mem_flatMap.mp hq
  exact mxA_all I l1 (List.mem_range.mp ht) q h2
theorem mx_part {h i said told : Nat} (I : Mxi g rule h says does) (l1 : said < g.ks.getD h 0) (l2 : told < g.as.getD h 0) (a : Nat) :
    Sz 5455 (sumR ((List.range said).flatMap (mxS g rule h i says does) ++ (List.range told).flatMap (mxA g rule h i says does said) ++ (mxA g rule h i says does said told).take a)) := by
  refine sumR_szN (m := 201) (N := 27) (fun q hq => ?_) ?_
  · rcases List.mem_append.mp hq with h0 | h1
    · rcases List.mem_append.mp h0 with h1 | h1
      · obtain ⟨s', hs', h2⟩ := List.mem_flatMap.mp h1
        exact mxS_all I (Nat.lt_trans (List.mem_range.mp hs') l1) q h2
      · obtain ⟨t', ht', h2⟩ := List.mem_flatMap.mp h1
        exact mxA_all I l1 (Nat.lt_trans (List.mem_range.mp ht') l2) q h2
    · exact mxA_all I l1 l2 q (List.mem_of_mem_take h1)
  · have hA := (I.s l1).a.2
    have hK := (I.G.kb I.hh).2
    have h1 := flat_len (f := mxS g rule h i says does) (List.range said) fun _ _ => mxS_len
    have h2 := flat_len (f := mxA g rule h i says does said) (n := g.as.getD h 0) (List.range told) fun _ _ => Nat.le_of_eq mxA_len
    have h3 : ((mxA g rule h i says does said told).take a).length ≤ g.as.getD h 0 := by
      refine Nat.le_trans (List.length_take_le' _ _) ?_
      rw [mxA_len]
      exact Nat.le_refl _
    rw [List.length_range] at h1 h2
    rw [List.length_append, List.length_append]
    have h4 : g.as.getD h 0 * g.as.getD h 0 ≤ 9 := Nat.mul_le_mul hA hA
    have h5 : said * (g.as.getD h 0 * g.as.getD h 0) ≤ 2 * 9 := Nat.mul_le_mul (by omega) h4
    have h6 : told * g.as.getD h 0 ≤ 2 * 3 := Nat.mul_le_mul (by omega) hA
    omega
theorem MX_sz {h i : Nat} (I : Mxi g rule h says does) : Sz 5455 (MX g rule h i says does) := by
  refine sumR_szN (m := 201) (N := 27) (fun q hq => ?_) ?_
  · obtain ⟨s', hs', h2⟩ := List.mem_flatMap.mp hq
    exact mxS_all I (List.mem_range.mp hs') q h2
  · have hK := I.G.kb I.hh
    have hA := (I.G.ab I.hh).2
    have h1 := flat_len (f := mxS g rule h i says does) (List.range (g.ks.getD h 0)) fun _ _ => mxS_len
    rw [List.length_range] at h1
    have h4 : g.as.getD h 0 * g.as.getD h 0 ≤ 9 := Nat.mul_le_mul hA hA
    have h5 : g.ks.getD h 0 * (g.as.getD h 0 * g.as.getD h 0) ≤ 3 * 9 := Nat.mul_le_mul hK.2 h4
    omega
theorem Sin.hk {h said : Nat} (I : Sin g rule h said) : h < g.as.length := by rw [I.G.ka]; exact I.hh
section
variable {P : Program} {w : World} {K : PySem.W.Frag} {mg : Str → Option Value} {base : Heap} {z : Addr}
abbrev prLt (K : PySem.W.Frag) : Sp := Pr K (fun x : Gm × RuleT × Nat × Nat × Nat × List Nat => [.dat x.1, .dat x.2.1, .dat x.2.2.1, .dat x.2.2.2.1, .dat x.2.2.2.2.1, .dat x.2.2.2.2.2])
  (fun x => Sin x.1 x.2.1 x.2.2.1 x.2.2.2.2.1 ∧ x.2.2.2.2.2.length = x.1.as.getD x.2.2.1 0 ∧ ∀ t, t < x.1.as.getD x.2.2.1 0 → x.2.2.2.2.2.getD t 0 < x.1.as.getD x.2.2.1 0) (fun x (r : Rat) => r = LT x.1 x.2.1 x.2.2.1 x.2.2.2.1 x.2.2.2.2.1 x.2.2.2.2.2)
theorem ok_lie_total (T : Txt K mg z) (d_added : Df P w K mg base "added" 3 p_added (prAdded K)) (d_told_total : Df P w K mg base "told_total" 4 p_told_total (prTt K)) (D : Dn K mg "lie_total" "lie_total" s_lie_total p_lie_total) : Df P w K mg base "lie_total" 5 p_lie_total (prLt K) := D.df fun f fd F => by
  refine fun_pr F sc_lie_total (fun _ => rfl) fun cdv A outer s H X hr ⟨g, rule, h, i, said, done⟩ ⟨I, hl, hd⟩ => ?_
  refine ⟨_, (pss_cons (ps_ret (d_added.call hr (by rfl) (by decide) (pa_cons (pe_lc (own := [("told", 6)]) (g := gName 6) (tt := tYes)  rfl sc_lie_total.nd (pi_range1 rfl T.range (pa_cons (ixl K (fldK K (pv 0) rfl) (pv 2) (fun _ _ => rfl)) pa_nil)) (blkOk_by (N := n_lie_total) (sc := defScope s_lie_total) (by decide +kernel)) (fun _ _ _ _ _ => pg_name (i := 6) sc_lie_total.nd rfl (Or.inl rfl)) (fun _ _ _ _ _ => pts_nil) (fun _ _ _ _ _ => (d_told_total.call hr (by rfl) (by decide) (pa_cons (pv 0) (pa_cons (pv 1) (pa_cons (pv 2) (pa_cons (pv 3) (pa_cons (pv 4) (pa_cons (pv 6) (pa_cons (ixl K (pv 5) (pv 6) (fun _ _ => rfl)) pa_nil)))))))))) pa_nil)))
    pss_nil), fun E => ?_⟩
  have I : Sin g rule h said := I
  have hl : done.length = g.as.getD h 0 := hl
  have hA := I.a
  refine ok_ret (ev_call ((List.range (g.as.getD h 0)).map fun told => TT g rule h i said told (done.getD told 0)) (eva_cons (ev_lcD (f := fun told => TT g rule h i said told (done.getD told 0)) (evi_range (ev_ixD (x := 0) (ev_fa (ev_var (d := g) rfl)) (ev_var (d := h) rfl) I.hk) (by omega)) (by rw [List.length_range]; omega) fun t ht => ?_) eva_nil) (LT_few I hd)) fun d e => e
  have lt := List.mem_range.mp ht
  exact ev_call (g, rule, h, i, said, t, done.getD t 0) (eva_cons (ev_var rfl) (eva_cons (ev_var rfl) (eva_cons (ev_var rfl) (eva_cons (ev_var rfl) (eva_cons (ev_var rfl) (eva_cons (ev_var rfl) (eva_cons (ev_ixD (ev_var (d := done) rfl) (ev_var (d := t) rfl) (by rw [hl]; exact lt)) eva_nil))))))) (I.t (hd t lt))
abbrev prBa (K : PySem.W.Frag) : Sp := Pr K (fun x : Gm × RuleT × Nat × Nat × Nat × Nat => [.dat x.1, .dat x.2.1, .dat x.2.2.1, .dat x.2.2.2.1, .dat x.2.2.2.2.1, .dat x.2.2.2.2.2]) (fun x => Sin x.1 x.2.1 x.2.2.1 x.2.2.2.2.1) (fun x (r : Nat × Rat) => r = BA x.1 x.2.1 x.2.2.1 x.2.2.2.1 x.2.2.2.2.1 x.2.2.2.2.2)
theorem ok_best_act (T : Txt K mg z) (d_told_total : Df P w K mg base "told_total" 4 p_told_total (prTt K)) (d_less : Df P w K mg base "less" 1 p_less (prLess K)) (D : Dn K mg "best_act" "best_act" s_best_act p_best_act) : Df P w K mg base "best_act" 5 p_best_act (prBa K) := D.df fun f fd F => by
  refine fun_pr F sc_best_act (fun _ => rfl) fun cdv A outer s H X hr ⟨g, rule, h, i, said, told⟩ I => ?_
  refine ⟨_, (pss_cons (ps_set (i := 6) sc_best_act.nd rfl (Or.inl rfl) pe_int)
    (pss_cons (ps_set (i := 7) sc_best_act.nd rfl (Or.inl rfl) (d_told_total.call hr (by rfl) (by decide) (pa_cons (pv 0) (pa_cons (pv 1) (pa_cons (pv 2) (pa_cons (pv 3) (pa_cons (pv 4) (pa_cons (pv 5) (pa_cons pe_int pa_nil)))))))))
    (pss_cons (ps_for PassesOwn.never rfl (pi_range2 (by rfl) T.range (pa_cons pe_int (pa_cons (ixl K (fldK K (pv 0) rfl) (pv 2) (fun _ _ => rfl)) pa_nil))) (pg_name (i := 8) sc_best_act.nd rfl (Or.inl rfl))
      (pss_cons (ps_set (i := 9) sc_best_act.nd rfl (Or.inl rfl) (d_told_total.call hr (by rfl) (by decide) (pa_cons (pv 0) (pa_cons (pv 1) (pa_cons (pv 2) (pa_cons (pv 3) (pa_cons (pv 4) (pa_cons (pv 5) (pa_cons (pv 8) pa_nil)))))))))
        (pss_cons (ps_if (pt_val (d_less.call hr (by rfl) (by decide) (pa_cons (pv 7) (pa_cons (pv 9) pa_nil))))
          (pss_cons (ps_set (i := 6) sc_best_act.nd rfl (Or.inl rfl) (pv 8))
            (pss_cons (ps_set (i := 7) sc_best_act.nd rfl (Or.inl rfl) (pv 9))
            pss_nil))
          pss_nil)
        pss_nil)))
    (pss_cons (ps_ret (pe_tup (pa_cons (pv 6) (pa_cons (pv 7) pa_nil))))
    pss_nil)))), fun E => ?_⟩
  have I : Sin g rule h said := I
  have hA := I.a
  refine ok_asgD (ev_nat 0) ?_
  refine ok_asgD (ev_call (g, rule, h, i, said, told, 0) (eva_cons (ev_var rfl) (eva_cons (ev_var rfl) (eva_cons (ev_var rfl) (eva_cons (ev_var rfl) (eva_cons (ev_var rfl) (eva_cons (ev_var rfl) (eva_cons (ev_nat 0) eva_nil))))))) (I.t hA.1)) ?_
  let L := (List.range (g.as.getD h 0 - 1)).map (· + 1)
  have hL : ∀ a ∈ L, a < g.as.getD h 0 := fun a ha => by
    obtain ⟨b, hb, rfl⟩ := List.mem_map.mp ha
    have := List.mem_range.mp hb
    omega
  let fT := TT g rule h i said told
  refine ok_forD (evi_range1 (ev_nat 1) (ev_ixD (x := 0) (ev_fa (ev_var (d := g) rfl)) (ev_var (d := h) rfl) I.hk) (by omega)) (fun j => [.dat g, .dat rule, .dat h, .dat i, .dat said, .dat told, .dat (baL fT (L.take j)).1, .dat (baL fT (L.take j)).2, .any, .any])
    (.keep rfl (.keep rfl (.keep rfl (.keep rfl (.keep rfl (.keep rfl (.keep rfl (.keep rfl (.drop (.drop .nil)))))))))) (fun Fb j a ea => ?_) ?_
  · have ha : a < g.as.getD h 0 := hL a (List.mem_of_getElem? ea)
    have iv := baL_inv fT _ (L.take j) hA.1 fun b hb => hL b (List.mem_of_mem_take hb)
    have sv : Sz 193 (baL fT (L.take j)).2 := by
      rw [iv.1]
      exact TT_sz (I.t iv.2.1)
    refine ok_asgD (ev_call (g, rule, h, i, said, told, a) (eva_cons (ev_var rfl) (eva_cons (ev_var rfl) (eva_cons (ev_var rfl) (eva_cons (ev_var rfl) (eva_cons (ev_var rfl) (eva_cons (ev_var rfl) (eva_cons (ev_var rfl) eva_nil))))))) (I.t ha)) ?_
    refine ok_if (evt_b (ev_call ((baL fT (L.take j)).2, fT a) (eva_cons (ev_var rfl) (eva_cons (ev_var rfl) eva_nil)) (Few.mk sv (TT_sz (I.t ha)) (by decide)))) (Sat K _ [.dat g, .dat rule, .dat h, .dat i, .dat said, .dat told, .dat (baL fT (L.take (j + 1))).1, .dat (baL fT (L.take (j + 1))).2, .any, .any]) (fun c => ?_) (fun c => ?_) (ok_wk (Wk.refl _))
    · have c' : (baL fT (L.take j)).2 < fT a := of_decide_eq_true c
      have e1 : baL fT (L.take (j + 1)) = (a, fT a) := by
        rw [take_snoc ea, baL_snoc, stepB, if_pos c']
      refine ok_asgD (ev_var (d := a) rfl) (ok_asgD (ev_var (d := fT a) rfl) ?_)
      exact ok_wk (.keep rfl (.keep rfl (.keep rfl (.keep rfl (.keep rfl (.keep rfl (.keep (by rw [e1]) (.keep (by rw [e1]) (.drop (.drop .nil))))))))))
    · have c' : ¬ (baL fT (L.take j)).2 < fT a := of_decide_eq_false c
      have e1 : baL fT (L.take (j + 1)) = baL fT (L.take j) := by
        rw [take_snoc ea, baL_snoc, stepB, if_neg c']
      exact ok_wk (.keep rfl (.keep rfl (.keep rfl (.keep rfl (.keep rfl (.keep rfl (.keep (by rw [e1]) (.keep (by rw [e1]) (.drop (.drop .nil))))))))))
  · refine ok_ret (ev_tup2 (eva_cons (ev_var rfl) (eva_cons (ev_var rfl) eva_nil))) fun d e => ?_
    rw [e, List.take_length]
    rfl
abbrev prBl (K : PySem.W.Frag) : Sp := Pr K (fun x : Gm × RuleT × Nat × Nat × Nat => [.dat x.1, .dat x.2.1, .dat x.2.2.1, .dat x.2.2.2.1, .dat x.2.2.2.2]) (fun x => Sin x.1 x.2.1 x.2.2.1 x.2.2.2.2) (fun x (r : List Nat × Rat) => r = ((BL x.1 x.2.1 x.2.2.1 x.2.2.2.1 x.2.2.2.2).map (·.1), BV x.1 x.2.1 x.2.2.1 x.2.2.2.1 x.2.2.2.2))
theorem ok_best_lie (T : Txt K mg z) (d_best_act : Df P w K mg base "best_act" 5 p_best_act (prBa K)) (d_added : Df P w K mg base "added" 3 p_added (prAdded K)) (D : Dn K mg "best_lie" "best_lie" s_best_lie p_best_lie) : Df P w K mg base "best_lie" 6 p_best_lie (prBl K) := D.df fun f fd F => by
  refine fun_pr F sc_best_lie (fun _ => rfl) fun cdv A outer s H X hr ⟨g, rule, h, i, said⟩ I => ?_
  refine ⟨_, (pss_cons (ps_setLc (i := 5) (own := [("told", 6)]) (g := gName 6) (tt := tYes)  rfl sc_best_lie.nd rfl rfl (sw_true rfl rfl rfl (by decide +kernel)) (pi_range1 rfl T.range (pa_cons (ixl K (fldK K (pv 0) rfl) (pv 2) (fun _ _ => rfl)) pa_nil)) (blkOk_by (N := n_best_lie) (sc := defScope s_best_lie) (by decide +kernel)) (fun _ _ _ _ _ => pg_name (i := 6) sc_best_lie.nd rfl (Or.inl rfl)) (fun _ _ _ _ _ => pts_nil) (fun _ _ _ _ _ => (d_best_act.call hr (by rfl) (by decide) (pa_cons (pv 0) (pa_cons (pv 1) (pa_cons (pv 2) (pa_cons (pv 3) (pa_cons (pv 4) (pa_cons (pv 6) pa_nil)))))))))
    (pss_cons (ps_ret (pe_tup (pa_cons (pe_lc (own := [("one", 7)]) (g := gName 7) (tt := tYes)  rfl sc_best_lie.nd (listK K (pv 5)) (blkOk_by (N := n_best_lie) (sc := defScope s_best_lie) (by decide +kernel)) (fun _ _ _ _ _ => pg_name (i := 7) sc_best_lie.nd rfl (Or.inl rfl)) (fun _ _ _ _ _ => pts_nil) (fun _ _ _ _ _ => (ixt K (pv 7) pe_int (fun _ _ => rfl)))) (pa_cons (d_added.call hr (by rfl) (by decide) (pa_cons (pe_lc (own := [("one", 7)]) (g := gName 7) (tt := tYes)  rfl sc_best_lie.nd (listK K (pv 5)) (blkOk_by (N := n_best_lie) (sc := defScope s_best_lie) (by decide +kernel)) (fun _ _ _ _ _ => pg_name (i := 7) sc_best_lie.nd rfl (Or.inl rfl)) (fun _ _ _ _ _ => pts_nil) (fun _ _ _ _ _ => (ixt K (pv 7) pe_int (fun _ _ => rfl)))) pa_nil)) pa_nil))))
    pss_nil)), fun E => ?_⟩
  have I : Sin g rule h said := I
  have hA := I.a
  have hl : (BL g rule h i said).length ≤ 3 := by simp [BL]; exact hA.2
  refine ok_asgD (ev_lcD (f := BA g rule h i said) (evi_range (ev_ixD (x := 0) (ev_fa (ev_var (d := g) rfl)) (ev_var (d := h) rfl) I.hk) (by omega)) (by rw [List.length_range]; omega) fun t ht =>
    ev_call (g, rule, h, i, said, t) (eva_cons (ev_var rfl) (eva_cons (ev_var rfl) (eva_cons (ev_var rfl) (eva_cons (ev_var rfl) (eva_cons (ev_var rfl) (eva_cons (ev_var rfl) eva_nil)))))) I) ?_
  refine ok_ret (ev_tup2 (eva_cons (ev_lcD (f := fun p : Nat × Rat => p.1) (evi_list (ev_var (d := BL g rule h i said) rfl)) (by omega) fun y _ => ev_fst (ev_var (d := y) rfl))
    (eva_cons (ev_call ((BL g rule h i said).map fun p : Nat × Rat => p.2) (eva_cons (ev_lcD (f := fun p : Nat × Rat => p.2) (evi_list (ev_var (d := BL g rule h i said) rfl)) (by omega) fun y _ => ev_snd (ev_var (d := y) rfl)) eva_nil) (few1_acts (fun q hq => ?_) (by rw [List.length_map]; exact hl))) eva_nil))) fun d e => e
  obtain ⟨p, hp, rfl⟩ := List.mem_map.mp hq
  obtain ⟨t, _, rfl⟩ := List.mem_map.mp hp
  exact BA_sz I
abbrev GainT := T5 Nat Nat Nat (List Nat) Rat
abbrev prGl (K : PySem.W.Frag) : Sp := Pr K (fun x : Gm × RuleT => [.dat x.1, .dat x.2]) (fun x => WfG x.1 ∧ WfR x.1 x.2) (fun x (r : Option GainT) => r.isNone = true ↔ Hon x.1 x.2)
theorem ok_gaining_lie (T : Txt K mg z) (d_kind_total : Df P w K mg base "kind_total" 4 p_kind_total (prKt K)) (d_best_lie : Df P w K mg base "best_lie" 6 p_best_lie (prBl K)) (d_less : Df P w K mg base "less" 1 p_less (prLess K)) (d_sub : Df P w K mg base "sub" 2 p_sub (prSub K))
    (D : Dn K mg "gaining_lie" "gaining_lie" s_gaining_lie p_gaining_lie) : Df P w K mg base "gaining_lie" 7 p_gaining_lie (prGl K) := D.df fun f fd F => by
  refine fun_pr F sc_gaining_lie (fun _ => rfl) fun cdv A outer s H X hr ⟨g, rule⟩ ⟨G, R⟩ => ?_
  refine ⟨_, (pss_cons (ps_for PassesOwn.never rfl (pi_range1 rfl T.range (pa_cons (pe_callB (lenK K) (by rfl) T.len PySem.boot_len (pa_cons (fldK K (pv 0) rfl) pa_nil)) pa_nil)) (pg_name (i := 2) sc_gaining_lie.nd rfl (Or.inl rfl))
      (pss_cons (ps_for PassesOwn.never rfl (pi_range1 rfl T.range (pa_cons (ixl K (fldK K (pv 0) rfl) (pv 2) (fun _ _ => rfl)) pa_nil)) (pg_name (i := 3) sc_gaining_lie.nd rfl (Or.inl rfl))
          (pss_cons (ps_set (i := 4) sc_gaining_lie.nd rfl (Or.inl rfl) (d_kind_total.call hr (by rfl) (by decide) (pa_cons (pv 0) (pa_cons (pv 1) (pa_cons (pv 2) (pa_cons (pv 3) pa_nil))))))
            (pss_cons (ps_for PassesOwn.never rfl (pi_range1 rfl T.range (pa_cons (ixl K (fldK K (pv 0) rfl) (pv 2) (fun _ _ => rfl)) pa_nil)) (pg_name (i := 5) sc_gaining_lie.nd rfl (Or.inl rfl))
              (pss_cons (ps_asg (d_best_lie.call hr (by rfl) (by decide) (pa_cons (pv 0) (pa_cons (pv 1) (pa_cons (pv 2) (pa_cons (pv 3) (pa_cons (pv 5) pa_nil)))))) (pg_tup rfl (pgs_cons (pg_name (i := 6) sc_gaining_lie.nd rfl (Or.inl rfl)) (pgs_cons (pg_name (i := 7) sc_gaining_lie.nd rfl (Or.inl rfl)) pgs_nil))))
                (pss_cons (ps_if (pt_val (d_less.call hr (by rfl) (by decide) (pa_cons (pv 4) (pa_cons (pv 7) pa_nil))))
                  (pss_cons (ps_ret (pe_tup (pa_cons (pv 2) (pa_cons (pv 3) (pa_cons (pv 5) (pa_cons (pv 6) (pa_cons (d_sub.call hr (by rfl) (by decide) (pa_cons (pv 7) (pa_cons (pv 4) pa_nil))) pa_nil)))))))
                    pss_nil)
                  pss_nil)
                pss_nil)))
            pss_nil)))
        pss_nil))
    (pss_cons (ps_ret pe_non)
    pss_nil)), fun E => ?_⟩
  have G : WfG g := G
  have R : WfR g rule := R
  have hk3 := G.bk.1
  let N (h i j : Nat) : Prop := ∀ s, s < j → ¬ KT g rule h i < BV g rule h i s
  let M (h i : Nat) : Prop := ∀ i', i' < i → N h i' (g.ks.getD h 0)
  refine ok_for (ι := Unit) (evi_range (ev_len (eva_cons (ev_fk (ev_var (d := g) rfl)) eva_nil)) (by omega)) (fun h _ => ∀ h', h' < h → M h' (g.ks.getD h' 0)) (fun _ _ => [.dat g, .dat rule, .any, .any, .any, .any, .any, .any]) () (fun h' l => absurd l (Nat.not_lt_zero _)) (.keep rfl (.keep rfl (.drop (.drop (.drop (.drop (.drop (.drop .nil)))))))) (fun Fb h h' _ eh pH => ?_) (fun _ pH => ?_)
  · have lh : h < g.ks.length := by
      have := (List.getElem?_eq_some_iff.mp eh).1
      simpa using this
    rw [List.getElem?_range lh] at eh
    cases eh
    have hK := G.kb lh
    refine ok_for (ι := Unit) (evi_range (ev_ixD (x := 0) (ev_fk (ev_var (d := g) rfl)) (ev_var (d := h) rfl) lh) (by omega)) (fun i _ => M h i) (fun _ _ => [.dat g, .dat rule, .dat h, .any, .any, .any, .any, .any]) () (fun i' l => absurd l (Nat.not_lt_zero _)) (.keep rfl (.keep rfl (.keep rfl (.drop (.drop (.drop (.drop (.drop .nil)))))))) (fun Fb2 i i' _ ei pI => ?_) (fun _ pI => ?_)
    · have li : i < g.ks.getD h 0 := by
        have := (List.getElem?_eq_some_iff.mp ei).1
        simpa using this
      rw [List.getElem?_range li] at ei
      cases ei
      refine ok_asgD (ev_call (g, rule, h, i) (eva_cons (ev_var rfl) (eva_cons (ev_var rfl) (eva_cons (ev_var rfl) (eva_cons (ev_var rfl) eva_nil)))) ⟨G, R, lh⟩) ?_
      refine ok_for (ι := Unit) (evi_range (ev_ixD (x := 0) (ev_fk (ev_var (d := g) rfl)) (ev_var (d := h) rfl) lh) (by omega)) (fun j _ => N h i j) (fun _ _ => [.dat g, .dat rule, .dat h, .dat i, .dat (KT g rule h i), .any, .any, .any]) () (fun i' l => absurd l (Nat.not_lt_zero _)) (.keep rfl (.keep rfl (.keep rfl (.keep rfl (.keep rfl (.drop (.drop (.drop .nil)))))))) (fun Fb3 j j' _ ej pJ => ?_) (fun _ pJ => ?_)
      · have lj : j < g.ks.getD h 0 := by
          have := (List.getElem?_eq_some_iff.mp ej).1
          simpa using this
        rw [List.getElem?_range lj] at ej
        cases ej
        have I : Sin g rule h j := ⟨G, R, lh, lj⟩
        refine ok_tup2 (ev_call (g, rule, h, i, j) (eva_cons (ev_var rfl) (eva_cons (ev_var rfl) (eva_cons (ev_var rfl) (eva_cons (ev_var rfl) (eva_cons (ev_var rfl) eva_nil))))) I) fun d e => ?_
        subst e
        have fw := Few.mk (KT_sz (i := i) G R lh) (BV_sz (i := i) I) (by decide)
        refine ok_ifr (evt_b (ev_call (KT g rule h i, BV g rule h i j) (eva_cons (ev_var rfl) (eva_cons (ev_var rfl) eva_nil)) fw)) (fun c => ?_) (fun c => ?_)
        · have c' : KT g rule h i < BV g rule h i j := of_decide_eq_true c
          refine ok_ret (EvP.some (ev_tup5 (eva_cons (ev_var (d := h) rfl) (eva_cons (ev_var (d := i) rfl) (eva_cons (ev_var (d := j) rfl) (eva_cons (ev_var (d := (BL g rule h i j).map (·.1)) rfl) (eva_cons (ev_call (BV g rule h i j, KT g rule h i) (eva_cons (ev_var rfl) (eva_cons (ev_var rfl) eva_nil)) (Few.mk (BV_sz I) (KT_sz G R lh) (by decide))) eva_nil)))))) (fun F v d r => ?_)) fun d e => ?_
          · obtain ⟨a, _, _, _, _, _, rfl, _⟩ := r
            exact fun q => nomatch q
          · obtain ⟨d', rfl, _⟩ := e
            exact ⟨fun q => (Bool.noConfusion q), fun q => absurd c' (q h lh i li j lj)⟩
        · refine ok_next fun σ H hS => ⟨(), fun s hs => ?_, ?_⟩
          · by_cases q : s < j
            · exact pJ s q
            · have : s = j := by omega
              subst this
              exact of_decide_eq_false c
          · obtain ⟨F, S⟩ := hS
            exact ⟨F, S.weak (.keep rfl (.keep rfl (.keep rfl (.keep rfl (.keep rfl (.drop (.drop (.drop .nil))))))))⟩
      · refine ok_next fun σ H hS => ⟨(), fun s hs => ?_, ?_⟩
        · rw [List.length_range] at pJ
          by_cases q : s < i
          · exact pI s q
          · have : s = i := by omega
            subst this
            exact pJ
        · obtain ⟨F, S⟩ := hS
          exact ⟨F, S.weak (.keep rfl (.keep rfl (.keep rfl (.drop (.drop (.drop (.drop (.drop .nil))))))))⟩
    · refine ok_next fun σ H hS => ⟨(), fun s hs => ?_, ?_⟩
      · rw [List.length_range] at pI
        by_cases q : s < h
        · exact pH s q
        · have : s = h := by omega
          subst this
          exact pI
      · obtain ⟨F, S⟩ := hS
        exact ⟨F, S.weak (.keep rfl (.keep rfl (.drop (.drop (.drop (.drop (.drop (.drop .nil))))))))⟩
  · rw [List.length_range] at pH
    refine ok_ret ev_nonO fun d e => ?_
    subst e
    exact ⟨fun _ h lh i li s ls => pH h lh i li s ls, fun _ => rfl⟩
abbrev prHon (K : PySem.W.Frag) : Sp := Pr K (fun x : Gm × RuleT => [.dat x.1, .dat x.2]) (fun x => WfG x.1 ∧ WfR x.1 x.2) (fun x (r : Bool) => r = true ↔ Hon x.1 x.2)
theorem ok_honest (T : Txt K mg z) (d_gaining_lie : Df P w K mg base "gaining_lie" 7 p_gaining_lie (prGl K)) (D : Dn K mg "honest" "honest" s_honest p_honest) : Df P w K mg base "honest" 8 p_honest (prHon K) := D.df fun f fd F => by
  refine fun_pr F sc_honest (fun _ => rfl) fun cdv A outer s H X hr ⟨g, rule⟩ h => ?_
  refine ⟨_, (pss_cons (ps_ret (pe_cmp (pc_isN (d_gaining_lie.call hr (by rfl) (by decide) (pa_cons (pv 0) (pa_cons (pv 1) pa_nil))))))
    pss_nil), fun E => ?_⟩
  exact ok_ret (ev_isNP (ev_call (g, rule) (eva_cons (ev_var rfl) (eva_cons (ev_var rfl) eva_nil)) h)) fun d ⟨o, h1, h2⟩ => by rw [h2]; exact h1
abbrev prMx (K : PySem.W.Frag) : Sp := Pr K (fun x : Gm × RuleT × Nat × Nat × List Rat × List (List (List Rat)) => [.dat x.1, .dat x.2.1, .dat x.2.2.1, .dat x.2.2.2.1, .dat x.2.2.2.2.1, .dat x.2.2.2.2.2]) (fun x => Mxi x.1 x.2.1 x.2.2.1 x.2.2.2.2.1 x.2.2.2.2.2) (fun x (r : Rat) => r = MX x.1 x.2.1 x.2.2.1 x.2.2.2.1 x.2.2.2.2.1 x.2.2.2.2.2)
theorem ok_mixed_lie_total (T : Txt K mg z) (d_told_total : Df P w K mg base "told_total" 4 p_told_total (prTt K)) (d_add : Df P w K mg base "add" 2 p_add (prAdd K)) (d_mul : Df P w K mg base "mul" 2 p_mul (prMul K))
    (D : Dn K mg "mixed_lie_total" "mixed_lie_total" s_mixed_lie_total p_mixed_lie_total) : Df P w K mg base "mixed_lie_total" 5 p_mixed_lie_total (prMx K) := D.df fun f fd F => by
  refine fun_pr F sc_mixed_lie_total (fun _ => rfl) fun cdv A outer s H X hr ⟨g, rule, h, i, says, does⟩ I => ?_
  refine ⟨_, (pss_cons (ps_set (i := 6) sc_mixed_lie_total.nd rfl (Or.inl rfl) (pe_glob (v := .ref z) rfl T.z rfl))
    (pss_cons (ps_for PassesOwn.never rfl (pi_range1 rfl T.range (pa_cons (ixl K (fldK K (pv 0) rfl) (pv 2) (fun _ _ => rfl)) pa_nil)) (pg_name (i := 7) sc_mixed_lie_total.nd rfl (Or.inl rfl))
      (pss_cons (ps_for PassesOwn.never rfl (pi_range1 rfl T.range (pa_cons (ixl K (fldK K (pv 0) rfl) (pv 2) (fun _ _ => rfl)) pa_nil)) (pg_name (i := 8) sc_mixed_lie_total.nd rfl (Or.inl rfl))
          (pss_cons (ps_for PassesOwn.never rfl (pi_range1 rfl T.range (pa_cons (ixl K (fldK K (pv 0) rfl) (pv 2) (fun _ _ => rfl)) pa_nil)) (pg_name (i := 9) sc_mixed_lie_total.nd rfl (Or.inl rfl))
              (pss_cons (ps_set (i := 10) sc_mixed_lie_total.nd rfl (Or.inl rfl) (d_mul.call hr (by rfl) (by decide) (pa_cons (ixl K (pv 4) (pv 7) (fun _ _ => rfl)) (pa_cons (ixl K (ixl K (ixl K (pv 5) (pv 7) (fun _ _ => rfl)) (pv 8) (fun _ _ => rfl)) (pv 9) (fun _ _ => rfl)) pa_nil))))
                (pss_cons (ps_if (pt_cmpR (op_neD hr.units) (pv 10) (pe_glob (v := .ref z) rfl T.z rfl) (nomark _))
                  (pss_cons (ps_set (i := 6) sc_mixed_lie_total.nd rfl (Or.inl rfl) (d_add.call hr (by rfl) (by decide) (pa_cons (pv 6) (pa_cons (d_mul.call hr (by rfl) (by decide) (pa_cons (pv 10) (pa_cons (d_told_total.call hr (by rfl) (by decide) (pa_cons (pv 0) (pa_cons (pv 1) (pa_cons (pv 2) (pa_cons (pv 3) (pa_cons (pv 7) (pa_cons (pv 8) (pa_cons (pv 9) pa_nil)))))))) pa_nil))) pa_nil))))
                    pss_nil)
                  pss_nil)
                pss_nil)))
            pss_nil))
        pss_nil))
    (pss_cons (ps_ret (pv 6))
    pss_nil))), fun E => ?_⟩
  have I : Mxi g rule h says does := I
  have hK := I.G.kb I.hh
  have hA := I.G.ab I.hh
  have hha : h < g.as.length := by rw [I.G.ka]; exact I.hh
  refine ok_asgD (ev_glob (rep_zero T)) ?_
  let G0 (r : Rat) (s t : Slot) : List Slot := [.dat g, .dat rule, .dat h, .dat i, .dat says, .dat does, .dat r, s, t, .any, .any]
  refine ok_forR (ev_ixD (x := 0) (ev_fk (ev_var (d := g) rfl)) (ev_var (d := h) rfl) I.hh) (by omega) (fun s => G0 (sumR ((List.range s).flatMap (mxS g rule h i says does))) .any .any)
    (.keep rfl (.keep rfl (.keep rfl (.keep rfl (.keep rfl (.keep rfl (.keep rfl (.drop (.drop (.drop (.drop .nil))))))))))) (fun Fb s ls => ?_) ?_
  · refine ok_forR (ev_ixD (x := 0) (ev_fa (ev_var (d := g) rfl)) (ev_var (d := h) rfl) hha) (by omega) (fun t => G0 (sumR ((List.range s).flatMap (mxS g rule h i says does) ++ (List.range t).flatMap (mxA g rule h i says does s))) (.dat s) .any)
      (.keep rfl (.keep rfl (.keep rfl (.keep rfl (.keep rfl (.keep rfl (.keep (by simp) (.keep rfl (.drop (.drop (.drop .nil))))))))))) (fun Fb2 t lt => ?_) ?_
    · refine ok_forR (ev_ixD (x := 0) (ev_fa (ev_var (d := g) rfl)) (ev_var (d := h) rfl) hha) (by omega) (fun a => G0 (sumR ((List.range s).flatMap (mxS g rule h i says does) ++ (List.range t).flatMap (mxA g rule h i says does s) ++ (mxA g rule h i says does s t).take a)) (.dat s) (.dat t))
        (.keep rfl (.keep rfl (.keep rfl (.keep rfl (.keep rfl (.keep rfl (.keep (by simp) (.keep rfl (.keep rfl (.drop (.drop .nil))))))))))) (fun Fb3 a la => ?_) ?_
      · obtain ⟨a1, a2, a3, a4, s1, s2⟩ := I.at ls lt la
        have ea : (mxA g rule h i says does s t)[a]? = some (mxT g rule h i says does s t a) := by
          unfold mxA
          rw [List.getElem?_map, List.getElem?_range la]
          rfl
        have it := (I.s ls).t la
        refine ok_asgD (ev_call (says.getD s 0, ((does.getD s []).getD t []).getD a 0) (eva_cons (ev_ixD (ev_var (d := says) rfl) (ev_var (d := s) rfl) a1) (eva_cons (ev_ixD (ev_ixD (ev_ixD (ev_var (d := does) rfl) (ev_var (d := s) rfl) a2) (ev_var (d := t) rfl) a3) (ev_var (d := a) rfl) a4) eva_nil)) (Few.mk s1 s2 (by decide))) ?_
        refine ok_if (evt_test (ev_neR (ev_var (d := says.getD s 0 * ((does.getD s []).getD t []).getD a 0) rfl) (ev_glob (rep_zero T)))) (Sat K _ (G0 (sumR ((List.range s).flatMap (mxS g rule h i says does) ++ (List.range t).flatMap (mxA g rule h i says does s) ++ (mxA g rule h i says does s t).take (a + 1))) (.dat s) (.dat t))) (fun c => ?_) (fun c => ?_) (ok_wk (Wk.refl _))
        · refine ok_asgD (ev_call _ (eva_cons (ev_var rfl) (eva_cons (ev_call (says.getD s 0 * ((does.getD s []).getD t []).getD a 0, TT g rule h i s t a) (eva_cons (ev_var rfl) (eva_cons (ev_call (g, rule, h, i, s, t, a) (eva_cons (ev_var rfl) (eva_cons (ev_var rfl) (eva_cons (ev_var rfl) (eva_cons (ev_var rfl) (eva_cons (ev_var rfl) (eva_cons (ev_var rfl) (eva_cons (ev_var rfl) eva_nil))))))) it) eva_nil)) (Few.mk (s1.mul s2) (TT_sz it) (by decide))) eva_nil)) (Few.mk (mx_part I ls lt a) ((s1.mul s2).mul (TT_sz it)) (by decide))) ?_
          exact ok_wk (.keep rfl (.keep rfl (.keep rfl (.keep rfl (.keep rfl (.keep rfl (.keep (by rw [take_snoc ea, ← List.append_assoc, sumR_snoc]; rfl) (.keep rfl (.keep rfl (.drop (.drop .nil)))))))))))
        · refine ok_wk (.keep rfl (.keep rfl (.keep rfl (.keep rfl (.keep rfl (.keep rfl (.keep ?_ (.keep rfl (.keep rfl (.drop (.drop .nil)))))))))))
          have z0 : mxT g rule h i says does s t a = 0 := by
            unfold mxT
            by_cases c2 : says.getD s 0 * ((does.getD s []).getD t []).getD a 0 = 0
            · rw [c2, Rat.zero_mul]
            · rw [decide_eq_false c2] at c
              cases c
          rw [take_snoc ea, ← List.append_assoc, sumR_snoc, z0, Rat.add_zero]
      · refine ok_wk (.keep rfl (.keep rfl (.keep rfl (.keep rfl (.keep rfl (.keep rfl (.keep ?_ (.keep rfl (.drop (.drop (.drop .nil)))))))))))
        have e1 : (mxA g rule h i says does s t).take (g.as.getD h 0) = mxA g rule h i says does s t := List.take_of_length_le (by rw [mxA_len]; exact Nat.le_refl _)
        rw [e1, flat_snoc, ← List.append_assoc]
    · refine ok_wk (.keep rfl (.keep rfl (.keep rfl (.keep rfl (.keep rfl (.keep rfl (.keep ?_ (.drop (.drop (.drop (.drop .nil)))))))))))
      rw [flat_snoc]
      rfl
  · exact ok_ret (ev_var rfl) fun d e => e
end
end Tm

namespace Tm
open PySem L2
abbrev s_lie_paper : Stmt := topS 30
abbrev n_lie_paper : List Str := ["game", "rule", "paper", "h", "part", "i", "lines", "said", "told"]
abbrev p_lie_paper : List Str := ["game", "rule"]
theorem sc_lie_paper : FnScope n_lie_paper p_lie_paper (defScope s_lie_paper) := ⟨rfl, rfl, rfl, by decide +kernel, rfl, by decide +kernel, by decide +kernel⟩
abbrev s_has_form : Stmt := topS 31
abbrev n_has_form : List Str := ["game", "paper", "h", "part", "numbers"]
abbrev p_has_form : List Str := ["game", "paper"]
theorem sc_has_form : FnScope n_has_form p_has_form (defScope s_has_form) := ⟨rfl, rfl, rfl, by decide +kernel, rfl, by decide +kernel, by decide +kernel⟩
abbrev s_bounds_lie : Stmt := topS 32
abbrev n_bounds_lie : List Str := ["game", "rule", "h", "i", "said", "numbers", "told", "act"]
abbrev p_bounds_lie : List Str := ["game", "rule", "h", "i", "said", "numbers"]
theorem sc_bounds_lie : FnScope n_bounds_lie p_bounds_lie (defScope s_bounds_lie) := ⟨rfl, rfl, rfl, by decide +kernel, rfl, by decide +kernel, by decide +kernel⟩
abbrev s_judge_lies : Stmt := topS 33
abbrev n_judge_lies : List Str := ["game", "rule", "paper", "h", "i", "said"]
abbrev p_judge_lies : List Str := ["game", "rule", "paper"]
theorem sc_judge_lies : FnScope n_judge_lies p_judge_lies (defScope s_judge_lies) := ⟨rfl, rfl, rfl, by decide +kernel, rfl, by decide +kernel, by decide +kernel⟩
noncomputable def bool (p : Prop) : Bool := @decide p (Classical.propDecidable p)
theorem bool_iff {p : Prop} : bool p = true ↔ p := by
  unfold bool
  exact @decide_eq_true_iff p (Classical.propDecidable p)
theorem bool_not {p : Prop} : bool p = false ↔ ¬ p := by
  unfold bool
  exact @decide_eq_false_iff_not p (Classical.propDecidable p)
theorem eq_bool {b : Bool} {p : Prop} (h : b = true ↔ p) : b = bool p := by
  cases b with
  | true => exact (bool_iff.mpr (h.mp rfl)).symm
  | false => exact (bool_not.mpr fun q => nomatch h.mpr q).symm
theorem evb {K : PySem.W.Frag} {E : En} {te : TE} {Γ : List Slot} {p : Prop} (h : EvP K E te Γ (fun b : Bool => b = true ↔ p)) : Ev K E te Γ (bool p) := h.imp fun _ e => eq_bool e
abbrev PaperT := List (List (List (List Rat)))
variable {g : Gm} {rule : RuleT}
def laF (g : Gm) (rule : RuleT) (h i said : Nat) : List Rat := (List.range (g.as.getD h 0)).map fun told => (BA g rule h i said told).2
def liF (g : Gm) (rule : RuleT) (h i : Nat) : List (List Rat) := (List.range (g.ks.getD h 0)).map (laF g rule h i)
def lhF (g : Gm) (rule : RuleT) (h : Nat) : List (List (List Rat)) := (List.range (g.ks.getD h 0)).map (liF g rule h)
def PF (g : Gm) (rule : RuleT) : PaperT := (List.range g.ks.length).map (lhF g rule)
theorem map_snoc {α : Type} (f : Nat → α) (n : Nat) : (List.range n).map f ++ [f n] = (List.range (n + 1)).map f := by
  rw [List.range_succ, List.map_append]
  rfl
def FormP (g : Gm) (h : Nat) (part : List (List Rat)) : Prop := part.length = g.ks.getD h 0 ∧ ∀ nums ∈ part, nums.length = g.as.getD h 0
def FormH (g : Gm) (paper : PaperT) (h : Nat) : Prop := (paper.getD h []).length = g.ks.getD h 0 ∧ ∀ part ∈ paper.getD h [], FormP g h part
def Form (g : Gm) (paper : PaperT) : Prop := paper.length = g.ks.length ∧ ∀ h, h < g.ks.length → FormH g paper h
def Bnd (g : Gm) (rule : RuleT) (h i said : Nat) (nums : List Rat) : Prop := (∀ told, told < g.as.getD h 0 → ∀ act, act < g.as.getD h 0 → TT g rule h i said told act ≤ nums.getD told 0) ∧ sumR nums ≤ KT g rule h i
def Acc (g : Gm) (rule : RuleT) (paper : PaperT) : Prop := Form g paper ∧ ∀ h, h < g.ks.length → ∀ i, i < g.ks.getD h 0 → ∀ said, said < g.ks.getD h 0 → Bnd g rule h i said (((paper.getD h []).getD i []).getD said [])
def PSz (paper : PaperT) : Prop := ∀ a ∈ paper, ∀ b ∈ a, ∀ c ∈ b, ∀ q ∈ c, Sz 210 q
theorem snoc_mem {α : Type} {xs : List α} {i : Nat} {x y : α} (e : xs[i]? = some x) (h : y ∈ xs.take (i + 1)) : y ∈ xs.take i ∨ y = x := by
  rw [take_snoc e] at h
  rcases List.mem_append.mp h with h | h
  · exact .inl h
  · exact .inr (by simpa using h)
section
variable {P : Program} {w : World} {K : PySem.W.Frag} {mg : Str → Option Value} {base : Heap} {z : Addr}
abbrev prLp (K : PySem.W.Frag) : Sp := Pr K (fun x : Gm × RuleT => [.dat x.1, .dat x.2]) (fun x => WfG x.1 ∧ WfR x.1 x.2) (fun x (r : Option PaperT) => (r = none ∧ ¬ Hon x.1 x.2) ∨ (Hon x.1 x.2 ∧ r = some (PF x.1 x.2)))
theorem ok_lie_paper (T : Txt K mg z) (d_honest : Df P w K mg base "honest" 8 p_honest (prHon K)) (d_best_act : Df P w K mg base "best_act" 5 p_best_act (prBa K)) (D : Dn K mg "lie_paper" "lie_paper" s_lie_paper p_lie_paper) : Df P w K mg base "lie_paper" 9 p_lie_paper (prLp K) := D.df fun f fd F => by
  refine fun_pr F sc_lie_paper (fun _ => rfl) fun cdv A outer s H X hr ⟨g, rule⟩ ⟨G, R⟩ => ?_
  refine ⟨_, (pss_cons (ps_if (pt_not (pt_val (d_honest.call hr (by rfl) (by decide) (pa_cons (pv 0) (pa_cons (pv 1) pa_nil)))))
      (pss_cons (ps_ret pe_non)
        pss_nil)
      pss_nil)
    (pss_cons (ps_set (i := 2) sc_lie_paper.nd rfl (Or.inl rfl) (pe_lst pa_nil))
    (pss_cons (ps_for PassesOwn.never rfl (pi_range1 rfl T.range (pa_cons (pe_callB (lenK K) (by rfl) T.len PySem.boot_len (pa_cons (fldK K (pv 0) rfl) pa_nil)) pa_nil)) (pg_name (i := 3) sc_lie_paper.nd rfl (Or.inr rfl))
      (pss_cons (ps_set (i := 4) sc_lie_paper.nd rfl (Or.inl rfl) (pe_lst pa_nil))
        (pss_cons (ps_for PassesOwn.never rfl (pi_range1 rfl T.range (pa_cons (ixl K (fldK K (pv 0) rfl) (pv 3) (fun _ _ => rfl)) pa_nil)) (pg_name (i := 5) sc_lie_paper.nd rfl (Or.inr rfl))
          (pss_cons (ps_set (i := 6) sc_lie_paper.nd rfl (Or.inl rfl) (pe_lst pa_nil))
            (pss_cons (ps_for PassesOwn.never rfl (pi_range1 rfl T.range (pa_cons (ixl K (fldK K (pv 0) rfl) (pv 3) (fun _ _ => rfl)) pa_nil)) (pg_name (i := 7) sc_lie_paper.nd rfl (Or.inr rfl))
              (pss_cons (ps_expr (pe_bm PySem.F.plainAttrs_list PySem.F.slot_list_append PySem.F.type_list_append mt_append (pv 6) (pa_cons (pe_lc (own := [("told", 8)]) (g := gName 8) (tt := tYes)  rfl sc_lie_paper.nd (pi_range1 rfl T.range (pa_cons (ixl K (fldK K (pv 0) rfl) (pv 3) (fun _ _ => rfl)) pa_nil)) (blkOk_by (N := n_lie_paper) (sc := defScope s_lie_paper) (by decide +kernel)) (fun _ _ _ _ _ => pg_name (i := 8) sc_lie_paper.nd rfl (Or.inl rfl)) (fun _ _ _ _ _ => pts_nil) (fun _ _ _ _ _ => (ixt K (d_best_act.call hr (by rfl) (by decide) (pa_cons (pv 0) (pa_cons (pv 1) (pa_cons (pv 3) (pa_cons (pv 5) (pa_cons (pv 7) (pa_cons (pv 8) pa_nil))))))) pe_int (fun _ _ => rfl)))) pa_nil)))
                pss_nil))
            (pss_cons (ps_expr (pe_bm PySem.F.plainAttrs_list PySem.F.slot_list_append PySem.F.type_list_append mt_append (pv 4) (pa_cons (pv 6) pa_nil)))
            pss_nil))))
        (pss_cons (ps_expr (pe_bm PySem.F.plainAttrs_list PySem.F.slot_list_append PySem.F.type_list_append mt_append (pv 2) (pa_cons (pv 4) pa_nil)))
        pss_nil))))
    (pss_cons (ps_ret (pv 2))
    pss_nil)))), fun E => ?_⟩
  have G : WfG g := G
  have R : WfR g rule := R
  have hk3 := G.bk.1
  refine ok_ifr (evt_not (evt_b (evb (ev_call (g, rule) (eva_cons (ev_var rfl) (eva_cons (ev_var rfl) eva_nil)) ⟨G, R⟩)))) (fun c => ?_) (fun c => ?_)
  · refine ok_ret ev_nonO fun d e => .inl ⟨e, ?_⟩
    refine bool_not.mp ?_
    simpa using c
  have hon : Hon g rule := bool_iff.mp (by simpa using c)
  refine ok_new (List (List (List Rat))) ?_
  refine ok_forR (ev_len (eva_cons (ev_fk (ev_var (d := g) rfl)) eva_nil)) (by omega) (fun h => [.dat g, .dat rule, .own ((List.range h).map (lhF g rule)), .any, .any, .any, .any, .any, .any]) (.keep rfl (.keep rfl (.keep rfl (.drop (.drop (.drop (.drop (.drop (.drop .nil))))))))) (fun Fb h lh => ?_) ?_
  · have hK := G.kb lh
    have hA := G.ab lh
    have lha : h < g.as.length := by rw [G.ka]; exact lh
    refine ok_new (List (List Rat)) ?_
    refine ok_forR (ev_ixD (x := 0) (ev_fk (ev_var (d := g) rfl)) (ev_var (d := h) rfl) lh) (by omega) (fun i => [.dat g, .dat rule, .own ((List.range h).map (lhF g rule)), .dat h, .own ((List.range i).map (liF g rule h)), .any, .any, .any, .any]) (.keep rfl (.keep rfl (.keep rfl (.keep rfl (.keep rfl (.drop (.drop (.drop (.drop .nil))))))))) (fun Fb2 i li => ?_) ?_
    · refine ok_new (List Rat) ?_
      refine ok_forR (ev_ixD (x := 0) (ev_fk (ev_var (d := g) rfl)) (ev_var (d := h) rfl) lh) (by omega) (fun s => [.dat g, .dat rule, .own ((List.range h).map (lhF g rule)), .dat h, .own ((List.range i).map (liF g rule h)), .dat i, .own ((List.range s).map (laF g rule h i)), .any, .any]) (.keep rfl (.keep rfl (.keep rfl (.keep rfl (.keep rfl (.keep rfl (.keep rfl (.drop (.drop .nil))))))))) (fun Fb3 s ls => ?_) ?_
      · have I : Sin g rule h s := ⟨G, R, lh, ls⟩
        refine ok_appendD (xs := (List.range s).map (laF g rule h i)) (d := laF g rule h i s) rfl (by simp; omega) (ev_lcD (f := fun told => (BA g rule h i s told).2) (evi_range (ev_ixD (x := 0) (ev_fa (ev_var (d := g) rfl)) (ev_var (d := h) rfl) lha) (by omega)) (by rw [List.length_range]; omega) fun t ht =>
          ev_snd (ev_call (g, rule, h, i, s, t) (eva_cons (ev_var rfl) (eva_cons (ev_var rfl) (eva_cons (ev_var rfl) (eva_cons (ev_var rfl) (eva_cons (ev_var rfl) (eva_cons (ev_var rfl) eva_nil)))))) I)) ?_
        exact ok_wk (.keep rfl (.keep rfl (.keep rfl (.keep rfl (.keep rfl (.keep rfl (.keep (by rw [map_snoc]) (.drop (.drop .nil)))))))))
      · refine ok_freeze 6 (xs := (List.range (g.ks.getD h 0)).map (laF g rule h i)) rfl ?_
        refine ok_appendD (xs := (List.range i).map (liF g rule h)) (d := liF g rule h i) rfl (by simp; omega) (ev_var rfl) ?_
        exact ok_wk (.keep rfl (.keep rfl (.keep rfl (.keep rfl (.keep (by rw [map_snoc]) (.drop (.drop (.drop (.drop .nil)))))))))
    · refine ok_freeze 4 (xs := (List.range (g.ks.getD h 0)).map (liF g rule h)) rfl ?_
      refine ok_appendD (xs := (List.range h).map (lhF g rule)) (d := lhF g rule h) rfl (by simp; omega) (ev_var rfl) ?_
      exact ok_wk (.keep rfl (.keep rfl (.keep (by rw [map_snoc]) (.drop (.drop (.drop (.drop (.drop (.drop .nil)))))))))
  · refine ok_freeze 2 (xs := (List.range g.ks.length).map (lhF g rule)) rfl ?_
    refine ok_ret (EvP.some (ev_var (d := PF g rule) rfl) fun F v d r => ?_) fun d e => .inr ⟨hon, ?_⟩
    · obtain ⟨a, _, rfl, _⟩ := r
      exact fun q => nomatch q
    · obtain ⟨d', rfl, rfl⟩ := e
      rfl
abbrev prHf (K : PySem.W.Frag) : Sp := Pr K (fun x : Gm × PaperT => [.dat x.1, .dat x.2]) (fun x => WfG x.1) (fun x (r : Bool) => r = true ↔ Form x.1 x.2)
theorem ok_has_form (T : Txt K mg z) (D : Dn K mg "has_form" "has_form" s_has_form p_has_form) : Df P w K mg base "has_form" 1 p_has_form (prHf K) := D.df fun f fd F => by
  refine fun_pr F sc_has_form (fun _ => rfl) fun cdv A outer s H X hr ⟨g, paper⟩ G => ?_
  refine ⟨_, (pss_cons (ps_if (pt_cmpR op_ne (pe_callB (lenK K) (by rfl) T.len PySem.boot_len (pa_cons (pv 1) pa_nil)) (pe_callB (lenK K) (by rfl) T.len PySem.boot_len (pa_cons (fldK K (pv 0) rfl) pa_nil)) (nomark _))
      (pss_cons (ps_ret pe_bl)
        pss_nil)
      pss_nil)
    (pss_cons (ps_for PassesOwn.never rfl (pi_range1 rfl T.range (pa_cons (pe_callB (lenK K) (by rfl) T.len PySem.boot_len (pa_cons (pv 1) pa_nil)) pa_nil)) (pg_name (i := 2) sc_has_form.nd rfl (Or.inl rfl))
      (pss_cons (ps_if (pt_cmpR op_ne (pe_callB (lenK K) (by rfl) T.len PySem.boot_len (pa_cons (ixl K (pv 1) (pv 2) (fun _ _ => rfl)) pa_nil)) (ixl K (fldK K (pv 0) rfl) (pv 2) (fun _ _ => rfl)) (nomark _))
          (pss_cons (ps_ret pe_bl)
            pss_nil)
          pss_nil)
        (pss_cons (ps_for PassesOwn.never rfl (listK K (ixl K (pv 1) (pv 2) (fun _ _ => rfl))) (pg_name (i := 3) sc_has_form.nd rfl (Or.inl rfl))
          (pss_cons (ps_if (pt_cmpR op_ne (pe_callB (lenK K) (by rfl) T.len PySem.boot_len (pa_cons (pv 3) pa_nil)) (ixl K (fldK K (pv 0) rfl) (pv 2) (fun _ _ => rfl)) (nomark _))
              (pss_cons (ps_ret pe_bl)
                pss_nil)
              pss_nil)
            (pss_cons (ps_for PassesOwn.never rfl (listK K (pv 3)) (pg_name (i := 4) sc_has_form.nd rfl (Or.inl rfl))
              (pss_cons (ps_if (pt_cmpR op_ne (pe_callB (lenK K) (by rfl) T.len PySem.boot_len (pa_cons (pv 4) pa_nil)) (ixl K (fldK K (pv 0) rfl) (pv 2) (fun _ _ => rfl)) (nomark _))
                  (pss_cons (ps_ret pe_bl)
                    pss_nil)
                  pss_nil)
                pss_nil))
            pss_nil)))
        pss_nil)))
    (pss_cons (ps_ret pe_bl)
    pss_nil))), fun E => ?_⟩
  have G : WfG g := G
  have hk3 := G.bk.1
  refine ok_ifr (evt_test (ev_neN (ev_len (eva_cons (ev_var (d := paper) rfl) eva_nil)) (ev_len (eva_cons (ev_fk (ev_var (d := g) rfl)) eva_nil)))) (fun c => ?_) (fun c => ?_)
  · refine ok_ret ev_bl fun d e => ?_
    subst e
    refine ⟨fun q => (Bool.noConfusion q), fun q => ?_⟩
    rw [decide_eq_true q.1] at c
    cases c
  have e1 : paper.length = g.ks.length := by simpa using c
  refine ok_for (ι := Unit) (evi_range (ev_len (eva_cons (ev_var (d := paper) rfl) eva_nil)) (by omega)) (fun h _ => ∀ h', h' < h → FormH g paper h') (fun _ _ => [.dat g, .dat paper, .any, .any, .any]) () (fun h' l => absurd l (Nat.not_lt_zero _)) (.keep rfl (.keep rfl (.drop (.drop (.drop .nil))))) (fun Fb h h' _ eh pH => ?_) (fun _ pH => ?_)
  · have lp : h < paper.length := by
      have := (List.getElem?_eq_some_iff.mp eh).1
      simpa using this
    rw [List.getElem?_range lp] at eh
    cases eh
    have lh : h < g.ks.length := by omega
    have lha : h < g.as.length := by rw [G.ka]; exact lh
    refine ok_ifr (evt_test (ev_neN (ev_len (eva_cons (ev_ixD (x := []) (ev_var (d := paper) rfl) (ev_var (d := h) rfl) lp) eva_nil)) (ev_ixD (x := 0) (ev_fk (ev_var (d := g) rfl)) (ev_var (d := h) rfl) lh))) (fun c => ?_) (fun c => ?_)
    · refine ok_ret ev_bl fun d e => ?_
      subst e
      refine ⟨fun q => (Bool.noConfusion q), fun q => ?_⟩
      rw [decide_eq_true (q.2 h lh).1] at c
      cases c
    have e2 : (paper.getD h []).length = g.ks.getD h 0 := by
      have := of_decide_eq_true (p := (paper.getD h []).length = g.ks.getD h 0) (by cases q : decide ((paper.getD h []).length = g.ks.getD h 0) with
        | true => rfl
        | false => rw [q] at c; cases c)
      exact this
    refine ok_for (ι := Unit) (evi_list (ev_ixD (x := []) (ev_var (d := paper) rfl) (ev_var (d := h) rfl) lp)) (fun j _ => ∀ part ∈ (paper.getD h []).take j, FormP g h part) (fun _ _ => [.dat g, .dat paper, .dat h, .any, .any]) () (fun q hq => by simp at hq) (.keep rfl (.keep rfl (.keep rfl (.drop (.drop .nil))))) (fun Fb2 j part _ ep pP => ?_) (fun _ pP => ?_)
    · have mp := List.mem_of_getElem? ep
      refine ok_ifr (evt_test (ev_neN (ev_len (eva_cons (ev_var (d := part) rfl) eva_nil)) (ev_ixD (x := 0) (ev_fk (ev_var (d := g) rfl)) (ev_var (d := h) rfl) lh))) (fun c => ?_) (fun c => ?_)
      · refine ok_ret ev_bl fun d e => ?_
        subst e
        refine ⟨fun q => (Bool.noConfusion q), fun q => ?_⟩
        rw [decide_eq_true ((q.2 h lh).2 part mp).1] at c
        cases c
      have e3 : part.length = g.ks.getD h 0 := by
        refine of_decide_eq_true (p := part.length = g.ks.getD h 0) ?_
        cases q : decide (part.length = g.ks.getD h 0) with
        | true => rfl
        | false => rw [q] at c; cases c
      refine ok_for (ι := Unit) (evi_list (ev_var (d := part) rfl)) (fun m _ => ∀ nums ∈ part.take m, nums.length = g.as.getD h 0) (fun _ _ => [.dat g, .dat paper, .dat h, .dat part, .any]) () (fun q hq => by simp at hq) (.keep rfl (.keep rfl (.keep rfl (.keep rfl (.drop .nil))))) (fun Fb3 m nums _ en pN => ?_) (fun _ pN => ?_)
      · have mn := List.mem_of_getElem? en
        refine ok_ifr (evt_test (ev_neN (ev_len (eva_cons (ev_var (d := nums) rfl) eva_nil)) (ev_ixD (x := 0) (ev_fa (ev_var (d := g) rfl)) (ev_var (d := h) rfl) lha))) (fun c => ?_) (fun c => ?_)
        · refine ok_ret ev_bl fun d e => ?_
          subst e
          refine ⟨fun q => (Bool.noConfusion q), fun q => ?_⟩
          rw [decide_eq_true (((q.2 h lh).2 part mp).2 nums mn)] at c
          cases c
        · have e4 : nums.length = g.as.getD h 0 := by
            refine of_decide_eq_true (p := nums.length = g.as.getD h 0) ?_
            cases q : decide (nums.length = g.as.getD h 0) with
            | true => rfl
            | false => rw [q] at c; cases c
          refine ok_next fun σ H hS => ⟨(), fun y hy => ?_, ?_⟩
          · rcases snoc_mem en hy with q | rfl
            · exact pN y q
            · exact e4
          · obtain ⟨F, S⟩ := hS
            exact ⟨F, S.weak (.keep rfl (.keep rfl (.keep rfl (.keep rfl (.drop .nil)))))⟩
      · rw [List.take_length] at pN
        refine ok_next fun σ H hS => ⟨(), fun y hy => ?_, ?_⟩
        · rcases snoc_mem ep hy with q | rfl
          · exact pP y q
          · exact ⟨e3, pN⟩
        · obtain ⟨F, S⟩ := hS
          exact ⟨F, S.weak (.keep rfl (.keep rfl (.keep rfl (.drop (.drop .nil)))))⟩
    · rw [List.take_length] at pP
      refine ok_next fun σ H hS => ⟨(), fun y hy => ?_, ?_⟩
      · by_cases q : y < h
        · exact pH y q
        · have : y = h := by omega
          subst this
          exact ⟨e2, pP⟩
      · obtain ⟨F, S⟩ := hS
        exact ⟨F, S.weak (.keep rfl (.keep rfl (.drop (.drop (.drop .nil)))))⟩
  · rw [List.length_range] at pH
    refine ok_ret ev_bl fun d e => ?_
    subst e
    exact ⟨fun _ => ⟨e1, fun h lh => pH h (by rw [e1]; exact lh)⟩, fun _ => rfl⟩
abbrev prBn (K : PySem.W.Frag) : Sp := Pr K (fun x : Gm × RuleT × Nat × Nat × Nat × List Rat => [.dat x.1, .dat x.2.1, .dat x.2.2.1, .dat x.2.2.2.1, .dat x.2.2.2.2.1, .dat x.2.2.2.2.2])
  (fun x => Sin x.1 x.2.1 x.2.2.1 x.2.2.2.2.1 ∧ x.2.2.2.2.2.length = x.1.as.getD x.2.2.1 0 ∧ ∀ q ∈ x.2.2.2.2.2, Sz 210 q) (fun x (r : Bool) => r = true ↔ Bnd x.1 x.2.1 x.2.2.1 x.2.2.2.1 x.2.2.2.2.1 x.2.2.2.2.2)
theorem ok_bounds_lie (T : Txt K mg z) (d_less : Df P w K mg base "less" 1 p_less (prLess K)) (d_told_total : Df P w K mg base "told_total" 4 p_told_total (prTt K)) (d_kind_total : Df P w K mg base "kind_total" 4 p_kind_total (prKt K)) (d_added : Df P w K mg base "added" 3 p_added (prAdded K))
    (D : Dn K mg "bounds_lie" "bounds_lie" s_bounds_lie p_bounds_lie) : Df P w K mg base "bounds_lie" 5 p_bounds_lie (prBn K) := D.df fun f fd F => by
  refine fun_pr F sc_bounds_lie (fun _ => rfl) fun cdv A outer s H X hr ⟨g, rule, h, i, said, nums⟩ ⟨I, hl, hs⟩ => ?_
  refine ⟨_, (pss_cons (ps_for PassesOwn.never rfl (pi_range1 rfl T.range (pa_cons (ixl K (fldK K (pv 0) rfl) (pv 2) (fun _ _ => rfl)) pa_nil)) (pg_name (i := 6) sc_bounds_lie.nd rfl (Or.inl rfl))
      (pss_cons (ps_for PassesOwn.never rfl (pi_range1 rfl T.range (pa_cons (ixl K (fldK K (pv 0) rfl) (pv 2) (fun _ _ => rfl)) pa_nil)) (pg_name (i := 7) sc_bounds_lie.nd rfl (Or.inl rfl))
          (pss_cons (ps_if (pt_val (d_less.call hr (by rfl) (by decide) (pa_cons (ixl K (pv 5) (pv 6) (fun _ _ => rfl)) (pa_cons (d_told_total.call hr (by rfl) (by decide) (pa_cons (pv 0) (pa_cons (pv 1) (pa_cons (pv 2) (pa_cons (pv 3) (pa_cons (pv 4) (pa_cons (pv 6) (pa_cons (pv 7) pa_nil)))))))) pa_nil))))
              (pss_cons (ps_ret pe_bl)
                pss_nil)
              pss_nil)
            pss_nil))
        pss_nil))
    (pss_cons (ps_ret (pe_not (d_less.call hr (by rfl) (by decide) (pa_cons (d_kind_total.call hr (by rfl) (by decide) (pa_cons (pv 0) (pa_cons (pv 1) (pa_cons (pv 2) (pa_cons (pv 3) pa_nil))))) (pa_cons (d_added.call hr (by rfl) (by decide) (pa_cons (pv 5) pa_nil)) pa_nil)))))
    pss_nil)), fun E => ?_⟩
  have I : Sin g rule h said := I
  have hl : nums.length = g.as.getD h 0 := hl
  have hs : ∀ q ∈ nums, Sz 210 q := hs
  have hA := I.a
  let N (t a : Nat) : Prop := ∀ a', a' < a → TT g rule h i said t a' ≤ nums.getD t 0
  refine ok_for (ι := Unit) (evi_range (ev_ixD (x := 0) (ev_fa (ev_var (d := g) rfl)) (ev_var (d := h) rfl) I.hk) (by omega)) (fun t _ => ∀ t', t' < t → N t' (g.as.getD h 0)) (fun _ _ => [.dat g, .dat rule, .dat h, .dat i, .dat said, .dat nums, .any, .any]) () (fun h' l => absurd l (Nat.not_lt_zero _)) (.keep rfl (.keep rfl (.keep rfl (.keep rfl (.keep rfl (.keep rfl (.drop (.drop .nil)))))))) (fun Fb t t' _ et pT => ?_) (fun _ pT => ?_)
  · have lt : t < g.as.getD h 0 := by
      have := (List.getElem?_eq_some_iff.mp et).1
      simpa using this
    rw [List.getElem?_range lt] at et
    cases et
    have ln : t < nums.length := by rw [hl]; exact lt
    refine ok_for (ι := Unit) (evi_range (ev_ixD (x := 0) (ev_fa (ev_var (d := g) rfl)) (ev_var (d := h) rfl) I.hk) (by omega)) (fun a _ => N t a) (fun _ _ => [.dat g, .dat rule, .dat h, .dat i, .dat said, .dat nums, .dat t, .any]) () (fun h' l => absurd l (Nat.not_lt_zero _)) (.keep rfl (.keep rfl (.keep rfl (.keep rfl (.keep rfl (.keep rfl (.keep rfl (.drop .nil)))))))) (fun Fb2 a a' _ ea pA => ?_) (fun _ pA => ?_)
    · have la : a < g.as.getD h 0 := by
        have := (List.getElem?_eq_some_iff.mp ea).1
        simpa using this
      rw [List.getElem?_range la] at ea
      cases ea
      refine ok_ifr (evt_b (ev_call (nums.getD t 0, TT g rule h i said t a) (eva_cons (ev_ixD (ev_var (d := nums) rfl) (ev_var (d := t) rfl) ln) (eva_cons (ev_call (g, rule, h, i, said, t, a) (eva_cons (ev_var rfl) (eva_cons (ev_var rfl) (eva_cons (ev_var rfl) (eva_cons (ev_var rfl) (eva_cons (ev_var rfl) (eva_cons (ev_var rfl) (eva_cons (ev_var rfl) eva_nil))))))) (I.t la)) eva_nil)) (Few.mk (hs _ (getD_mem ln)) (TT_sz (I.t la)) (by decide)))) (fun c => ?_) (fun c => ?_)
      · have c' : nums.getD t 0 < TT g rule h i said t a := of_decide_eq_true c
        refine ok_ret ev_bl fun d e => ?_
        subst e
        exact ⟨fun q => (Bool.noConfusion q), fun q => absurd (q.1 t lt a la) (Rat.not_le.mpr c')⟩
      · have c' : ¬ nums.getD t 0 < TT g rule h i said t a := of_decide_eq_false c
        refine ok_next fun σ H hS => ⟨(), fun y hy => ?_, ?_⟩
        · by_cases q : y < a
          · exact pA y q
          · have : y = a := by omega
            subst this
            exact Rat.not_lt.mp c'
        · obtain ⟨F, S⟩ := hS
          exact ⟨F, S.weak (.keep rfl (.keep rfl (.keep rfl (.keep rfl (.keep rfl (.keep rfl (.keep rfl (.drop .nil))))))))⟩
    · rw [List.length_range] at pA
      refine ok_next fun σ H hS => ⟨(), fun y hy => ?_, ?_⟩
      · by_cases q : y < t
        · exact pT y q
        · have : y = t := by omega
          subst this
          exact pA
      · obtain ⟨F, S⟩ := hS
        exact ⟨F, S.weak (.keep rfl (.keep rfl (.keep rfl (.keep rfl (.keep rfl (.keep rfl (.drop (.drop .nil))))))))⟩
  · rw [List.length_range] at pT
    have f1 : Few1 nums := ⟨210, hs, by
      have := Nat.mul_le_mul_left 211 (Nat.succ_le_succ (show nums.length ≤ 3 by omega))
      omega⟩
    have ssz : Sz 634 (sumR nums) := sumR_szN (m := 210) (N := 3) hs (by omega)
    refine ok_ret (ev_notV (ev_call (KT g rule h i, sumR nums) (eva_cons (ev_call (g, rule, h, i) (eva_cons (ev_var rfl) (eva_cons (ev_var rfl) (eva_cons (ev_var rfl) (eva_cons (ev_var rfl) eva_nil)))) ⟨I.G, I.R, I.hh⟩) (eva_cons (ev_call nums (eva_cons (ev_var rfl) eva_nil) f1) eva_nil)) (Few.mk (KT_sz I.G I.R I.hh) ssz (by decide)))) fun d e => ?_
    have e' : d = !decide (KT g rule h i < sumR nums) := e
    rw [e']
    constructor
    · intro q
      refine ⟨fun t lt a la => pT t lt a la, ?_⟩
      have : ¬ KT g rule h i < sumR nums := by
        intro r
        rw [decide_eq_true r] at q
        cases q
      exact Rat.not_lt.mp this
    · intro q
      rw [decide_eq_false (Rat.not_lt.mpr q.2)]
      rfl
abbrev prJl (K : PySem.W.Frag) : Sp := Pr K (fun x : Gm × RuleT × PaperT => [.dat x.1, .dat x.2.1, .dat x.2.2]) (fun x => WfG x.1 ∧ WfR x.1 x.2.1 ∧ PSz x.2.2) (fun x (r : Bool) => r = true ↔ Acc x.1 x.2.1 x.2.2)
theorem ok_judge_lies (T : Txt K mg z) (d_has_form : Df P w K mg base "has_form" 1 p_has_form (prHf K)) (d_bounds_lie : Df P w K mg base "bounds_lie" 5 p_bounds_lie (prBn K)) (D : Dn K mg "judge_lies" "judge_lies" s_judge_lies p_judge_lies) : Df P w K mg base "judge_lies" 6 p_judge_lies (prJl K) := D.df fun f fd F => by
  refine fun_pr F sc_judge_lies (fun _ => rfl) fun cdv A outer s H X hr ⟨g, rule, paper⟩ ⟨G, R, Z⟩ => ?_
  refine ⟨_, (pss_cons (ps_if (pt_not (pt_val (d_has_form.call hr (by rfl) (by decide) (pa_cons (pv 0) (pa_cons (pv 2) pa_nil)))))
      (pss_cons (ps_ret pe_bl)
        pss_nil)
      pss_nil)
    (pss_cons (ps_for PassesOwn.never rfl (pi_range1 rfl T.range (pa_cons (pe_callB (lenK K) (by rfl) T.len PySem.boot_len (pa_cons (fldK K (pv 0) rfl) pa_nil)) pa_nil)) (pg_name (i := 3) sc_judge_lies.nd rfl (Or.inl rfl))
      (pss_cons (ps_for PassesOwn.never rfl (pi_range1 rfl T.range (pa_cons (ixl K (fldK K (pv 0) rfl) (pv 3) (fun _ _ => rfl)) pa_nil)) (pg_name (i := 4) sc_judge_lies.nd rfl (Or.inl rfl))
          (pss_cons (ps_for PassesOwn.never rfl (pi_range1 rfl T.range (pa_cons (ixl K (fldK K (pv 0) rfl) (pv 3) (fun _ _ => rfl)) pa_nil)) (pg_name (i := 5) sc_judge_lies.nd rfl (Or.inl rfl))
              (pss_cons (ps_if (pt_not (pt_val (d_bounds_lie.call hr (by rfl) (by decide) (pa_cons (pv 0) (pa_cons (pv 1) (pa_cons (pv 3) (pa_cons (pv 4) (pa_cons (pv 5) (pa_cons (ixl K (ixl K (ixl K (pv 2) (pv 3) (fun _ _ => rfl)) (pv 4) (fun _ _ => rfl)) (pv 5) (fun _ _ => rfl)) pa_nil)))))))))
                  (pss_cons (ps_ret pe_bl)
                    pss_nil)
                  pss_nil)
                pss_nil))
            pss_nil))
        pss_nil))
    (pss_cons (ps_ret pe_bl)
    pss_nil))), fun E => ?_⟩
  have G : WfG g := G
  have R : WfR g rule := R
  have Z : PSz paper := Z
  have hk3 := G.bk.1
  refine ok_ifr (evt_not (evt_b (evb (ev_call (g, paper) (eva_cons (ev_var rfl) (eva_cons (ev_var rfl) eva_nil)) G)))) (fun c => ?_) (fun c => ?_)
  · refine ok_ret ev_bl fun d e => ?_
    subst e
    have nf : ¬ Form g paper := bool_not.mp (by simpa using c)
    exact ⟨fun q => (Bool.noConfusion q), fun q => absurd q.1 nf⟩
  have fo : Form g paper := bool_iff.mp (by simpa using c)
  let N (h i s : Nat) : Prop := ∀ s', s' < s → Bnd g rule h i s' (((paper.getD h []).getD i []).getD s' [])
  let M (h i : Nat) : Prop := ∀ i', i' < i → N h i' (g.ks.getD h 0)
  refine ok_for (ι := Unit) (evi_range (ev_len (eva_cons (ev_fk (ev_var (d := g) rfl)) eva_nil)) (by omega)) (fun h _ => ∀ h', h' < h → M h' (g.ks.getD h' 0)) (fun _ _ => [.dat g, .dat rule, .dat paper, .any, .any, .any]) () (fun h' l => absurd l (Nat.not_lt_zero _)) (.keep rfl (.keep rfl (.keep rfl (.drop (.drop (.drop .nil)))))) (fun Fb h h' _ eh pH => ?_) (fun _ pH => ?_)
  · have lh : h < g.ks.length := by
      have := (List.getElem?_eq_some_iff.mp eh).1
      simpa using this
    rw [List.getElem?_range lh] at eh
    cases eh
    have hK := G.kb lh
    have lp : h < paper.length := by rw [fo.1]; exact lh
    obtain ⟨f1, f2⟩ := fo.2 h lh
    refine ok_for (ι := Unit) (evi_range (ev_ixD (x := 0) (ev_fk (ev_var (d := g) rfl)) (ev_var (d := h) rfl) lh) (by omega)) (fun i _ => M h i) (fun _ _ => [.dat g, .dat rule, .dat paper, .dat h, .any, .any]) () (fun i' l => absurd l (Nat.not_lt_zero _)) (.keep rfl (.keep rfl (.keep rfl (.keep rfl (.drop (.drop .nil)))))) (fun Fb2 i i' _ ei pI => ?_) (fun _ pI => ?_)
    · have li : i < g.ks.getD h 0 := by
        have := (List.getElem?_eq_some_iff.mp ei).1
        simpa using this
      rw [List.getElem?_range li] at ei
      cases ei
      have lpi : i < (paper.getD h []).length := by rw [f1]; exact li
      have fi := f2 _ (getD_memD (d := []) lpi)
      refine ok_for (ι := Unit) (evi_range (ev_ixD (x := 0) (ev_fk (ev_var (d := g) rfl)) (ev_var (d := h) rfl) lh) (by omega)) (fun j _ => N h i j) (fun _ _ => [.dat g, .dat rule, .dat paper, .dat h, .dat i, .any]) () (fun i' l => absurd l (Nat.not_lt_zero _)) (.keep rfl (.keep rfl (.keep rfl (.keep rfl (.keep rfl (.drop .nil)))))) (fun Fb3 j j' _ ej pJ => ?_) (fun _ pJ => ?_)
      · have lj : j < g.ks.getD h 0 := by
          have := (List.getElem?_eq_some_iff.mp ej).1
          simpa using this
        rw [List.getElem?_range lj] at ej
        cases ej
        have I : Sin g rule h j := ⟨G, R, lh, lj⟩
        have lpj : j < ((paper.getD h []).getD i []).length := by rw [fi.1]; exact lj
        have mn := getD_memD (d := []) lpj
        have sz : ∀ q ∈ ((paper.getD h []).getD i []).getD j [], Sz 210 q := Z _ (getD_memD lp) _ (getD_memD lpi) _ mn
        refine ok_ifr (evt_not (evt_b (evb (ev_call (g, rule, h, i, j, ((paper.getD h []).getD i []).getD j []) (eva_cons (ev_var rfl) (eva_cons (ev_var rfl) (eva_cons (ev_var rfl) (eva_cons (ev_var rfl) (eva_cons (ev_var rfl) (eva_cons (ev_ixD (ev_ixD (ev_ixD (ev_var (d := paper) rfl) (ev_var (d := h) rfl) lp) (ev_var (d := i) rfl) lpi) (ev_var (d := j) rfl) lpj) eva_nil)))))) ⟨I, fi.2 _ mn, sz⟩)))) (fun c => ?_) (fun c => ?_)
        · refine ok_ret ev_bl fun d e => ?_
          subst e
          have nb : ¬ Bnd g rule h i j (((paper.getD h []).getD i []).getD j []) := bool_not.mp (by simpa using c)
          exact ⟨fun q => (Bool.noConfusion q), fun q => absurd (q.2 h lh i li j lj) nb⟩
        · have bn : Bnd g rule h i j (((paper.getD h []).getD i []).getD j []) := bool_iff.mp (by simpa using c)
          refine ok_next fun σ H hS => ⟨(), fun s hs => ?_, ?_⟩
          · by_cases q : s < j
            · exact pJ s q
            · have : s = j := by omega
              subst this
              exact bn
          · obtain ⟨F, S⟩ := hS
            exact ⟨F, S.weak (.keep rfl (.keep rfl (.keep rfl (.keep rfl (.keep rfl (.drop .nil))))))⟩
      · refine ok_next fun σ H hS => ⟨(), fun s hs => ?_, ?_⟩
        · rw [List.length_range] at pJ
          by_cases q : s < i
          · exact pI s q
          · have : s = i := by omega
            subst this
            exact pJ
        · obtain ⟨F, S⟩ := hS
          exact ⟨F, S.weak (.keep rfl (.keep rfl (.keep rfl (.keep rfl (.drop (.drop .nil))))))⟩
    · refine ok_next fun σ H hS => ⟨(), fun s hs => ?_, ?_⟩
      · rw [List.length_range] at pI
        by_cases q : s < h
        · exact pH s q
        · have : s = h := by omega
          subst this
          exact pI
      · obtain ⟨F, S⟩ := hS
        exact ⟨F, S.weak (.keep rfl (.keep rfl (.keep rfl (.drop (.drop (.drop .nil))))))⟩
  · rw [List.length_range] at pH
    refine ok_ret ev_bl fun d e => ?_
    subst e
    exact ⟨fun _ => ⟨fo, fun h lh i li s ls => pH h lh i li s ls⟩, fun _ => rfl⟩
end
end Tm

namespace Tm
open PySem L2
abbrev s_lrow : Stmt := topS 35
abbrev n_lrow : List Str := ["_law_script", "_law_place", "_law_many", "_law_cell", "_law_rest", "_law_row_here", "_law_k", "_law_mixed"]
abbrev p_lrow : List Str := ["_law_script", "_law_place", "_law_many"]
theorem sc_lrow : FnScope n_lrow p_lrow (defScope s_lrow) := ⟨rfl, rfl, rfl, by decide +kernel, rfl, by decide +kernel, by decide +kernel⟩
abbrev s_lgcd : Stmt := topS 36
abbrev n_lgcd : List Str := ["_law_a", "_law_b", "_law_k"]
abbrev p_lgcd : List Str := ["_law_a", "_law_b"]
theorem sc_lgcd : FnScope n_lgcd p_lgcd (defScope s_lgcd) := ⟨rfl, rfl, rfl, by decide +kernel, rfl, by decide +kernel, by decide +kernel⟩
abbrev s_llowest : Stmt := topS 37
abbrev n_llowest : List Str := ["_law_p", "_law_q", "_law_common"]
abbrev p_llowest : List Str := ["_law_p", "_law_q"]
theorem sc_llowest : FnScope n_llowest p_llowest (defScope s_llowest) := ⟨rfl, rfl, rfl, by decide +kernel, rfl, by decide +kernel, by decide +kernel⟩
abbrev s_ladd : Stmt := topS 38
abbrev n_ladd : List Str := ["_law_a", "_law_b"]
abbrev p_ladd : List Str := ["_law_a", "_law_b"]
theorem sc_ladd : FnScope n_ladd p_ladd (defScope s_ladd) := ⟨rfl, rfl, rfl, by decide +kernel, rfl, by decide +kernel, by decide +kernel⟩
abbrev s_lless : Stmt := topS 39
abbrev n_lless : List Str := ["_law_a", "_law_b"]
abbrev p_lless : List Str := ["_law_a", "_law_b"]
theorem sc_lless : FnScope n_lless p_lless (defScope s_lless) := ⟨rfl, rfl, rfl, by decide +kernel, rfl, by decide +kernel, by decide +kernel⟩
abbrev s_lsize : Stmt := topS 40
abbrev n_lsize : List Str := ["_law_bounds", "_law_many", "_law_bound"]
abbrev p_lsize : List Str := ["_law_bounds"]
theorem sc_lsize : FnScope n_lsize p_lsize (defScope s_lsize) := ⟨rfl, rfl, rfl, by decide +kernel, rfl, by decide +kernel, by decide +kernel⟩
abbrev s_lsmall : Stmt := topS 42
abbrev n_lsmall : List Str := ["_law_number"]
abbrev p_lsmall : List Str := ["_law_number"]
theorem sc_lsmall : FnScope n_lsmall p_lsmall (defScope s_lsmall) := ⟨rfl, rfl, rfl, by decide +kernel, rfl, by decide +kernel, by decide +kernel⟩
abbrev s_lpay : Stmt := topS 45
abbrev n_lpay : List Str := ["_law_shape", "_law_number"]
abbrev p_lpay : List Str := ["_law_shape", "_law_number"]
theorem sc_lpay : FnScope n_lpay p_lpay (defScope s_lpay) := ⟨rfl, rfl, rfl, by decide +kernel, rfl, by decide +kernel, by decide +kernel⟩
abbrev s_lchances : Stmt := topS 43
abbrev n_lchances : List Str := ["_law_numbers", "_law_many", "_law_at", "_law_shares", "_law_total", "_law_k", "_law_x"]
abbrev p_lchances : List Str := ["_law_numbers"]
theorem sc_lchances : FnScope n_lchances p_lchances (defScope s_lchances) := ⟨rfl, rfl, rfl, by decide +kernel, rfl, by decide +kernel, by decide +kernel⟩
section
variable {K : PySem.W.Frag} {E : En} {β : Type} [Py β] {post : β → Prop} {t : TS} {N : As}
theorem ok_ex {ι : Type} {Γ : ι → List Slot} {P : ι → Prop} (h : ∀ c, P c → Ok K E post t (Sat K E (Γ c)) N) : Ok K E post t (fun σ H => ∃ c, P c ∧ Sat K E (Γ c) σ H) N := fun D hr hn σ H ⟨c, p, s⟩ => h c p D hr hn σ H s
end
/-! ### Euclid, so many turns -/
def lgcd : Nat → Nat → Nat → Nat
  | 0, a, _ => a
  | n + 1, a, b => if b = 0 then a else lgcd n b (a % b)
theorem lgcd_zero {n : Nat} (h : 1 ≤ n) (a : Nat) : lgcd n a 0 = a := by
  cases n with
  | zero => omega
  | succ n => exact if_pos rfl
theorem lgcd_ok : ∀ (m n a b : Nat), b < 2 ^ m → 2 * m + 1 ≤ n → lgcd n a b = Nat.gcd a b
  | 0, n, a, b, hb, hn => by
    have : b = 0 := by omega
    subst this
    rw [lgcd_zero (by omega), Nat.gcd_zero_right]
  | m + 1, n, a, b, hb, hn => by
    by_cases c : b = 0
    · subst c
      rw [lgcd_zero (by omega), Nat.gcd_zero_right]
    · obtain ⟨n1, rfl⟩ : ∃ n1, n = n1 + 1 := ⟨n - 1, by omega⟩
      have e1 : Nat.gcd a b = Nat.gcd b (a % b) := by
        rw [Nat.gcd_comm a b, Nat.gcd_rec b a, Nat.gcd_comm]
      show (if b = 0 then a else lgcd n1 b (a % b)) = _
      rw [if_neg c, e1]
      have lb : a % b < b := Nat.mod_lt _ (by omega)
      by_cases c2 : a % b = 0
      · rw [c2, lgcd_zero (by omega), Nat.gcd_zero_right]
      · obtain ⟨n2, rfl⟩ : ∃ n2, n1 = n2 + 1 := ⟨n1 - 1, by omega⟩
        show (if a % b = 0 then b else lgcd n2 (a % b) (b % (a % b))) = _
        rw [if_neg c2]
        generalize a % b = r at lb c2
        have lr : b % r < r := Nat.mod_lt _ (by omega)
        have h2 : b % r + r ≤ b := by
          have h3 := Nat.div_add_mod b r
          have h4 : 1 ≤ b / r := (Nat.one_le_div_iff (by omega)).mpr (Nat.le_of_lt lb)
          have h5 : r * 1 ≤ r * (b / r) := Nat.mul_le_mul_left r h4
          omega
        have h6 : b % r < 2 ^ m := by
          rw [Nat.pow_succ] at hb
          omega
        rw [lgcd_ok m n2 r (b % r) h6 (by omega), Nat.gcd_comm b r, Nat.gcd_rec r b, Nat.gcd_comm]
theorem bits_lt (b : Nat) : b < 2 ^ Builtin.Int.intBits (b : Int) := by
  unfold Builtin.Int.intBits
  split
  · rename_i h
    have : (b : Int) = 0 := by simpa using h
    have : b = 0 := by omega
    subst this
    decide
  · rw [Int.natAbs_natCast]
    exact Nat.lt_log2_self
/-! ### chances -/
theorem foldl_add (a : Rat) : ∀ xs : List Rat, xs.foldl (· + ·) a = a + xs.foldl (· + ·) 0
  | [] => (Rat.add_zero a).symm
  | x :: xs => by
    show xs.foldl (· + ·) (a + x) = a + xs.foldl (· + ·) (0 + x)
    rw [foldl_add (a + x) xs, foldl_add (0 + x) xs, Rat.zero_add, Rat.add_assoc]
theorem sumR_cons (x : Rat) (xs : List Rat) : sumR (x :: xs) = x + sumR xs := by
  show xs.foldl (· + ·) (0 + x) = _
  rw [foldl_add, Rat.zero_add]
  rfl
def unitL (n a : Nat) : List Rat := (List.range n).map fun k => if k = a then 1 else 0
theorem unitL_sum : ∀ n a : Nat, sumR (unitL n a) = if a < n then 1 else 0
  | 0, a => rfl
  | n + 1, a => by
    unfold unitL
    rw [← map_snoc, sumR_snoc]
    have ih := unitL_sum n a
    unfold unitL at ih
    rw [ih]
    by_cases h : a < n
    · rw [if_pos h, if_neg (by omega), if_pos (by omega), Rat.add_zero]
    · rw [if_neg h, Rat.zero_add]
      by_cases h2 : n = a
      · rw [if_pos h2, if_pos (by omega)]
      · rw [if_neg h2, if_neg (by omega)]
theorem share_sum (T : Nat) (hT : T ≠ 0) : ∀ xs : List Nat, sumR (xs.map fun x : Nat => mkRat (x : Int) T) = mkRat (xs.sum : Nat) T
  | [] => by
    show (0 : Rat) = mkRat 0 T
    rw [Rat.zero_mkRat]
  | x :: xs => by
    rw [List.map_cons, sumR_cons, share_sum T hT xs, Rat.mkRat_add_mkRat _ _ hT hT, List.sum_cons]
    have : ((x : Int) * (T : Int) + ((xs.sum : Nat) : Int) * (T : Int)) = (((x + xs.sum : Nat)) : Int) * (T : Int) := by
      rw [Int.natCast_add, Int.add_mul]
    rw [this]
    exact Rat.mkRat_mul_right hT
structure Ch (n : Nat) (r : List Rat) : Prop where
  l : r.length = n
  nn : ∀ q ∈ r, 0 ≤ q
  s6 : ∀ q ∈ r, Sz 6 q
  s4 : n ≤ 3 → ∀ q ∈ r, Sz 4 q
  s : sumR r = 1
theorem sz01 {p : Prop} [Decidable p] : Sz 1 (if p then (1 : Rat) else 0) := by
  split
  · exact ⟨by decide, by decide⟩
  · exact ⟨by decide, by decide⟩
theorem unitL_ch {n a : Nat} (h : a < n) : Ch n (unitL n a) := by
  refine ⟨by simp [unitL], fun q hq => ?_, fun q hq => ?_, fun _ q hq => ?_, by rw [unitL_sum, if_pos h]⟩ <;> obtain ⟨k, _, rfl⟩ := List.mem_map.mp hq
  · split <;> decide
  · exact sz01.mono (by decide)
  · exact sz01.mono (by decide)
theorem sum_le3 : ∀ xs : List Nat, (∀ x ∈ xs, x ≤ 3) → xs.sum ≤ 3 * xs.length
  | [], _ => by simp
  | x :: xs, h => by
    have h1 := sum_le3 xs fun y hy => h y (List.mem_cons_of_mem _ hy)
    have h2 := h x (List.mem_cons_self ..)
    rw [List.sum_cons, List.length_cons]
    omega
theorem share_ch {xs : List Nat} (h3 : ∀ x ∈ xs, x ≤ 3) (h0 : xs.sum ≠ 0) (l : xs.length ≤ 16) : Ch xs.length (xs.map fun x : Nat => mkRat (x : Int) xs.sum) := by
  have hs := sum_le3 xs h3
  refine ⟨by simp, fun q hq => ?_, fun q hq => ?_, fun hn q hq => ?_, ?_⟩
  · obtain ⟨x, hx, rfl⟩ := List.mem_map.mp hq
    rw [← Rat.divInt_ofNat]
    exact Rat.divInt_nonneg (by omega) (by omega)
  · obtain ⟨x, hx, rfl⟩ := List.mem_map.mp hq
    have := h3 x hx
    exact Sz.mk h0 (by rw [Int.natAbs_natCast]; omega) (by omega)
  · obtain ⟨x, hx, rfl⟩ := List.mem_map.mp hq
    have := h3 x hx
    exact Sz.mk h0 (by rw [Int.natAbs_natCast]; omega) (by omega)
  · rw [share_sum _ h0]
    have : mkRat ((xs.sum : Nat) : Int) xs.sum = mkRat (1 * (xs.sum : Int)) (1 * xs.sum) := by rw [Int.one_mul, Nat.one_mul]
    rw [this, Rat.mkRat_mul_right h0]
    rfl
section
variable {P : Program} {w : World} {K : PySem.W.Frag} {mg : Str → Option Value} {base : Heap} {z : Addr}
/-- a row of draws -/
def Rw (n : Nat) (r : List Nat) : Prop := r.length = n ∧ ∀ x ∈ r, x < 1000
abbrev prRow (K : PySem.W.Frag) : Sp := Pr K (fun x : List Int × Nat × Nat => [.dat x.1, .dat x.2.1, .dat x.2.2]) (fun x => x.2.1 ≤ 100 ∧ x.2.2 ≤ 100) (fun x (r : List Nat) => Rw x.2.2 r)
theorem ok_lrow (T : Txt K mg z) (D : Dn K mg "_law_row" "_law_row" s_lrow p_lrow) : Df P w K mg base "_law_row" 1 p_lrow (prRow K) := D.df fun f fd F => by
  refine fun_pr F sc_lrow (fun _ => rfl) fun cdv A outer s H X hr ⟨script, place, many⟩ ⟨h1, h2⟩ => ?_
  refine ⟨_, (pss_cons (ps_set (i := 3) sc_lrow.nd rfl (Or.inl rfl) (pe_op op_add (pe_op op_mul pe_int (pv 1)) pe_int))
    (pss_cons (ps_if (pt_cmpR op_lt (pv 1) (pe_callB (lenK K) (by rfl) T.len PySem.boot_len (pa_cons (pv 0) pa_nil)) (nomark _))
      (pss_cons (ps_set (i := 3) sc_lrow.nd rfl (Or.inl rfl) (ixl K (pv 0) (pv 1) (fun _ _ => rfl)))
        pss_nil)
      pss_nil)
    (pss_cons (ps_set (i := 4) sc_lrow.nd rfl (Or.inl rfl) (pe_op op_sub (pv 3) (pe_op op_pow pe_int pe_int)))
    (pss_cons (ps_set (i := 5) sc_lrow.nd rfl (Or.inl rfl) (pe_lst pa_nil))
    (pss_cons (ps_for PassesOwn.never rfl (pi_range1 rfl T.range (pa_cons (pv 2) pa_nil)) (pg_name (i := 6) sc_lrow.nd rfl (Or.inl rfl))
      (pss_cons (ps_if (pt_cmpR op_gt (pv 4) pe_int (nomark _))
          (pss_cons (ps_expr (pe_bm PySem.F.plainAttrs_list PySem.F.slot_list_append PySem.F.type_list_append mt_append (pv 5) (pa_cons (pe_op op_mod (pe_callTy call_int1 (by rfl) T.int PyProof.Rows.boot_int (pa_cons (pv 4) pa_nil)) pe_int) pa_nil)))
            (pss_cons (ps_set (i := 4) sc_lrow.nd rfl (Or.inl rfl) (pe_op op_fdiv (pv 4) pe_int))
            pss_nil))
          (pss_cons (ps_set (i := 7) sc_lrow.nd rfl (Or.inl rfl) (pe_op op_mod (pe_callTy call_int1 (by rfl) T.int PyProof.Rows.boot_int (pa_cons (pe_op op_add (pe_op op_add (pe_op op_mul (pv 3) pe_int) (pe_op op_mul (pv 6) pe_int)) pe_int) pa_nil)) pe_int))
            (pss_cons (ps_set (i := 7) sc_lrow.nd rfl (Or.inl rfl) (pe_op op_mod (pe_callTy call_int1 (by rfl) T.int PyProof.Rows.boot_int (pa_cons (pe_op op_add (pe_op op_add (pe_op op_mul (pv 7) (pv 7)) (pe_op op_mul (pv 7) pe_int)) (pe_op op_mul (pv 6) pe_int)) pa_nil)) pe_int))
            (pss_cons (ps_expr (pe_bm PySem.F.plainAttrs_list PySem.F.slot_list_append PySem.F.type_list_append mt_append (pv 5) (pa_cons (pe_op op_mod (pe_op op_fdiv (pv 7) pe_int) pe_int) pa_nil)))
            pss_nil))))
        pss_nil))
    (pss_cons (ps_ret (pv 5))
    pss_nil)))))), fun E => ?_⟩
  have h1 : place ≤ 100 := h1
  have h2 : many ≤ 100 := h2
  refine ok_asgD (Ev.int (ev_addN (ev_mulN (ev_nat 7919) (ev_var rfl) (.inl (by decide))) (ev_nat 5))) ?_
  refine ok_if (evt_test (ev_ltN (ev_var rfl) (ev_len (eva_cons (ev_var (d := script) rfl) eva_nil)))) (fun σ H => ∃ c : Int, True ∧ Sat K E [.dat script, .dat place, .dat many, .dat c, .any, .any, .any, .any] σ H) (fun c => ?_) (fun c => ?_) (ok_ex fun c _ => ?_)
  · have l : place < script.length := of_decide_eq_true c
    refine ok_asgD (ev_ixD (x := 0) (ev_var (d := script) rfl) (ev_var rfl) l) ?_
    refine ok_next fun σ H ⟨F, S⟩ => ⟨_, trivial, F, S.weak (.keep rfl (.keep rfl (.keep rfl (.keep rfl (.drop (.drop (.drop (.drop .nil))))))))⟩
  · refine ok_next fun σ H ⟨F, S⟩ => ⟨_, trivial, F, S.weak (.keep rfl (.keep rfl (.keep rfl (.keep rfl (.drop (.drop (.drop (.drop .nil))))))))⟩
  refine ok_asgD (ev_subI (ev_var (d := c) rfl) (ev_powI ev_int ev_int ⟨by decide, by decide, by decide⟩)) ?_
  refine ok_new Nat ?_
  refine ok_for (ι := List Nat × Int) (evi_range (ev_var (d := many) rfl) (by omega)) (fun i z => Rw i z.1) (fun _ z => [.dat script, .dat place, .dat many, .dat c, .dat z.2, .own z.1, .any, .any]) ([], c - 10 ^ (18 : Int).toNat) ⟨rfl, fun x hx => by simp at hx⟩ (.keep rfl (.keep rfl (.keep rfl (.keep rfl (.keep rfl (.keep rfl (.drop (.drop .nil)))))))) (fun Fb k k' z ek pz => ?_) (fun z pz => ?_)
  · obtain ⟨xs, rest⟩ := z
    have lk : k < many := by
      have := (List.getElem?_eq_some_iff.mp ek).1
      simpa using this
    rw [List.getElem?_range lk] at ek
    cases ek
    obtain ⟨pl, px⟩ := pz
    have pl : xs.length = k := pl
    have more : ∀ x : Nat, x < 1000 → Rw (k + 1) (xs ++ [x]) := fun x hx => ⟨by simp [pl], fun y hy => by
      rcases List.mem_append.mp hy with h | h
      · exact px y h
      · simp at h
        rw [h]
        exact hx⟩
    refine ok_if (evt_test (ev_gtI (ev_var (d := rest) rfl) ev_int)) (fun σ H => ∃ z : List Nat × Int, Rw (k + 1) z.1 ∧ Sat K { E with Fb := Fb } [.dat script, .dat place, .dat many, .dat c, .dat z.2, .own z.1, .any, .any] σ H) (fun q => ?_) (fun q => ?_) (ok_next fun _ _ h => h)
    · have e0 : 0 ≤ rest % 1000 := Int.emod_nonneg _ (by decide)
      have e1 : rest % 1000 < 1000 := Int.emod_lt_of_pos _ (by decide)
      refine ok_appendD (xs := xs) (d := (rest % 1000).toNat) rfl (by omega) (Ev.nat (ev_modI (ev_int1 (eva_cons (ev_var (d := rest) rfl) eva_nil)) ev_int (by decide)) (by omega)) ?_
      refine ok_asgD (ev_divI (ev_var (d := rest) rfl) ev_int ⟨by decide, by decide⟩) ?_
      exact ok_next fun σ H ⟨F, S⟩ => ⟨(_, rest / 1000), more _ (by omega), F, S.weak (.keep rfl (.keep rfl (.keep rfl (.keep rfl (.keep rfl (.keep rfl (.drop (.drop .nil))))))))⟩
    · refine ok_asgD (ev_modI (ev_int1 (eva_cons (ev_addI (ev_addI (ev_mulI (ev_var (d := c) rfl) ev_int (cmul_r (by decide))) (ev_mulI (Ev.int (ev_var (d := k) rfl)) ev_int (cmul_r (by decide)))) ev_int) eva_nil)) ev_int (by decide)) ?_
      generalize hm : (c * 48271 + (k : Int) * 69621 + 12345) % 2147483647 = m
      have m0 : 0 ≤ m := by rw [← hm]; exact Int.emod_nonneg _ (by decide)
      have m1 : m < 2147483647 := by rw [← hm]; exact Int.emod_lt_of_pos _ (by decide)
      refine ok_asgD (ev_modI (ev_int1 (eva_cons (ev_addI (ev_addI (ev_mulI (ev_var (d := m) rfl) (ev_var (d := m) rfl) (cmul_l (by omega))) (ev_mulI (ev_var (d := m) rfl) ev_int (cmul_l (by omega)))) (ev_mulI (Ev.int (ev_var (d := k) rfl)) ev_int (cmul_r (by decide)))) eva_nil)) ev_int (by decide)) ?_
      generalize hm2 : (m * m + m * 16807 + (k : Int) * 40692) % 2147483399 = m2
      have e0 : 0 ≤ m2 / 64 % 1000 := Int.emod_nonneg _ (by decide)
      have e1 : m2 / 64 % 1000 < 1000 := Int.emod_lt_of_pos _ (by decide)
      refine ok_appendD (xs := xs) (d := (m2 / 64 % 1000).toNat) rfl (by omega) (Ev.nat (ev_modI (ev_divI (ev_var (d := m2) rfl) ev_int ⟨by decide, by decide⟩) ev_int (by decide)) (by omega)) ?_
      exact ok_next fun σ H ⟨F, S⟩ => ⟨(_, rest), more _ (by omega), F, S.weak (.keep rfl (.keep rfl (.keep rfl (.keep rfl (.keep rfl (.keep rfl (.drop (.drop .nil))))))))⟩
  · rw [List.length_range] at pz
    refine ok_freeze 5 (xs := z.1) rfl ?_
    exact ok_ret (ev_var rfl) fun d e => by rw [e]; exact pz
abbrev prGcd (K : PySem.W.Frag) : Sp := Pr K (fun x : Nat × Nat => [.dat x.1, .dat x.2]) (fun x => x.2 < 2 ^ 9000) (fun x (r : Nat) => r = Nat.gcd x.1 x.2)
theorem ok_lgcd (T : Txt K mg z) (D : Dn K mg "_law_gcd" "_law_gcd" s_lgcd p_lgcd) : Df P w K mg base "_law_gcd" 1 p_lgcd (prGcd K) := D.df fun f fd F => by
  refine fun_pr F sc_lgcd (fun _ => rfl) fun cdv A outer s H X hr ⟨a, b⟩ hb => ?_
  refine ⟨_, (pss_cons (ps_for PassesOwn.never rfl (pi_range1 rfl T.range (pa_cons (pe_op op_add (pe_op op_mul pe_int (pe_bits (pv 1))) pe_int) pa_nil)) (pg_name (i := 2) sc_lgcd.nd rfl (Or.inl rfl))
      (pss_cons (ps_if (pt_cmpR op_eq (pv 1) pe_int (nomark _))
          (pss_cons (ps_ret (pv 0))
            pss_nil)
          pss_nil)
        (pss_cons (ps_par (i := 0) (j := 1) (by rfl) sc_lgcd.nd rfl rfl (by decide) rfl rfl (pa_cons (pv 1) (pa_cons (pe_op op_mod (pe_callTy call_int1 (by rfl) T.int PyProof.Rows.boot_int (pa_cons (pv 0) pa_nil)) (pv 1)) pa_nil)) (by rfl))
        pss_nil)))
    (pss_cons (ps_ret (pv 0))
    pss_nil)), fun E => ?_⟩
  have hb : b < 2 ^ 9000 := hb
  have hB : Builtin.Int.intBits (b : Int) ≤ 9000 := PyProof.Rows.intBits_le (by rw [Int.natAbs_natCast]; exact hb)
  have hL := bits_lt b
  generalize hn : 2 * Builtin.Int.intBits (b : Int) + 2 = n
  have key : lgcd n a b = Nat.gcd a b := lgcd_ok _ n a b hL (by omega)
  refine ok_for (ι := Nat × Nat) (evi_range (n := n) (Ev.to (ev_addN (ev_mulN (ev_nat 2) (ev_bits (Ev.int (ev_var rfl))) (.inl (by decide))) (ev_nat 2)) hn) (by omega)) (fun i z => lgcd (n - i) z.1 z.2 = Nat.gcd a b) (fun _ z => [.dat z.1, .dat z.2, .any]) (a, b) key (.keep rfl (.keep rfl (.drop .nil))) (fun Fb i i' z ei pz => ?_) (fun z pz => ?_)
  · obtain ⟨a', b'⟩ := z
    have li : i < n := by
      have := (List.getElem?_eq_some_iff.mp ei).1
      simpa using this
    have e : n - i = (n - (i + 1)) + 1 := by omega
    have pz : lgcd (n - i) a' b' = Nat.gcd a b := pz
    rw [e] at pz
    refine ok_ifr (evt_test (ev_eqN (ev_var (d := b') rfl) (ev_nat 0))) (fun c => ?_) (fun c => ?_)
    · have c' : b' = 0 := of_decide_eq_true c
      refine ok_ret (ev_var (d := a') rfl) fun d e => ?_
      subst c'
      rw [e]
      rw [lgcd_zero (by omega)] at pz
      exact pz
    · have c' : ¬ b' = 0 := of_decide_eq_false c
      refine ok_par (eva_cons (ev_var (d := b') rfl) (eva_cons (ev_modN (ev_int1N (eva_cons (ev_var (d := a') rfl) eva_nil)) (ev_var (d := b') rfl) (by omega)) eva_nil)) ?_
      refine ok_next fun σ H ⟨F, S⟩ => ⟨(b', a' % b'), ?_, F, S.weak (.keep rfl (.keep rfl (.drop .nil)))⟩
      have q : (if b' = 0 then a' else lgcd (n - (i + 1)) b' (a' % b')) = Nat.gcd a b := pz
      rw [if_neg c'] at q
      exact q
  · rw [List.length_range, Nat.sub_self] at pz
    exact ok_ret (ev_var (d := z.1) rfl) fun d e => by rw [e]; exact pz
abbrev prLow (K : PySem.W.Frag) : Sp := Pr K (fun x : Int × Nat => [.dat x.1, .dat x.2]) (fun x => x.2 ≠ 0 ∧ x.2 < 2 ^ 8990) (fun x (r : Rat) => r = mkRat x.1 x.2)
theorem ok_llowest (T : Txt K mg z) (d_lgcd : Df P w K mg base "_law_gcd" 1 p_lgcd (prGcd K)) (D : Dn K mg "_law_lowest" "_law_lowest" s_llowest p_llowest) : Df P w K mg base "_law_lowest" 2 p_llowest (prLow K) := D.df fun f fd F => by
  refine fun_pr F sc_llowest (fun _ => rfl) fun cdv A outer s H X hr ⟨p, q⟩ ⟨h0, h2⟩ => ?_
  refine ⟨_, (pss_cons (ps_set (i := 2) sc_llowest.nd rfl (Or.inl rfl) (d_lgcd.call hr (by rfl) (by decide) (pa_cons (pe_callB call_abs (by rfl) T.abs (by decide +kernel) (pa_cons (pv 0) pa_nil)) (pa_cons (pv 1) pa_nil))))
    (pss_cons (ps_ret (pe_tup (pa_cons (pe_op op_fdivW (pv 0) (pv 2)) (pa_cons (pe_op op_fdivW (pv 1) (pv 2)) pa_nil))))
    pss_nil)), fun E => ?_⟩
  have h0 : q ≠ 0 := h0
  have h2 : q < 2 ^ 8990 := h2
  refine ok_asgD (ev_call (p.natAbs, q) (eva_cons (ev_abs (eva_cons (ev_var rfl) eva_nil)) (eva_cons (ev_var rfl) eva_nil)) (Nat.lt_of_lt_of_le h2 (Nat.pow_le_pow_right (by decide) (by decide)))) ?_
  have hg : 0 < Nat.gcd p.natAbs q := Nat.pos_of_ne_zero fun e => h0 (Nat.eq_zero_of_gcd_eq_zero_right e)
  have hgl : Nat.gcd p.natAbs q ≤ q := Nat.le_of_dvd (Nat.pos_of_ne_zero h0) (Nat.gcd_dvd_right _ _)
  have hd : CDivW 0 ((Nat.gcd p.natAbs q : Nat) : Int) := wide_div (b := 8990) (by omega) (by rw [Int.natAbs_natCast]; exact Nat.lt_of_le_of_lt hgl h2) (by decide) (by decide)
  refine ok_ret (Ev.to (ev_rat (eva_cons (ev_divW (ev_var rfl) (Ev.int (ev_var (d := Nat.gcd p.natAbs q) rfl)) hd) (eva_cons (ev_divW (Ev.int (ev_var rfl)) (Ev.int (ev_var (d := Nat.gcd p.natAbs q) rfl)) hd) eva_nil)) ?_ ?_) rfl) (fun d e => e)
  · rw [mk_num p q h0]
  · rw [mk_den p q h0]
    exact (Int.natCast_ediv _ _).symm
theorem ok_ladd (T : Txt K mg z) (d_llowest : Df P w K mg base "_law_lowest" 2 p_llowest (prLow K)) (D : Dn K mg "_law_add" "_law_add" s_ladd p_ladd) : Df P w K mg base "_law_add" 3 p_ladd (prAdd K) := D.df fun f fd F => by
  refine fun_pr F sc_ladd (fun _ => rfl) fun cdv A outer s H X hr ⟨a, b⟩ ⟨m, n, h1, h2, h3⟩ => ?_
  refine ⟨_, (pss_cons (ps_ret (d_llowest.call hr (by rfl) (by decide) (pa_cons (pe_op op_add (pe_op op_mulX (ixt K (pv 0) pe_int (fun _ _ => rfl)) (ixt K (pv 1) pe_int (fun _ _ => rfl))) (pe_op op_mulX (ixt K (pv 1) pe_int (fun _ _ => rfl)) (ixt K (pv 0) pe_int (fun _ _ => rfl)))) (pa_cons (pe_op op_mulX (ixt K (pv 0) pe_int (fun _ _ => rfl)) (ixt K (pv 1) pe_int (fun _ _ => rfl))) pa_nil))))
    pss_nil), fun E => ?_⟩
  refine ok_ret (ev_call (a.num * (b.den : Int) + b.num * (a.den : Int), a.den * b.den)
    (eva_cons (ev_addI (ev_mulX (ev_num (ev_var rfl)) (ev_den (ev_var rfl)) (cx1 h1 h2 h3)) (ev_mulX (ev_num (ev_var rfl)) (ev_den (ev_var rfl)) (cx1 h2 h1 (by omega))))
      (eva_cons (Ev.nat (ev_mulX (ev_den (ev_var rfl)) (ev_den (ev_var rfl)) (cx2 h1 h2 h3)) (Int.natCast_mul _ _).symm) eva_nil))
    ⟨Nat.mul_ne_zero a.den_nz b.den_nz, den_lt h1 h2 h3⟩) fun d e => ?_
  rw [e]
  exact (Rat.add_def' a b).symm
theorem ok_lless (T : Txt K mg z) (D : Dn K mg "_law_less" "_law_less" s_lless p_lless) : Df P w K mg base "_law_less" 1 p_lless (prLess K) := D.df fun f fd F => by
  refine fun_pr F sc_lless (fun _ => rfl) fun cdv A outer s H X hr ⟨a, b⟩ ⟨m, n, h1, h2, h3⟩ => ?_
  refine ⟨_, (pss_cons (ps_ret (pe_cmpR op_lt (pe_op op_mulX (ixt K (pv 0) pe_int (fun _ _ => rfl)) (ixt K (pv 1) pe_int (fun _ _ => rfl))) (pe_op op_mulX (ixt K (pv 1) pe_int (fun _ _ => rfl)) (ixt K (pv 0) pe_int (fun _ _ => rfl))) (nomark _)))
    pss_nil), fun E => ?_⟩
  refine ok_ret (ev_ltI (ev_mulX (ev_num (ev_var rfl)) (ev_den (ev_var rfl)) (cx1 h1 h2 h3)) (ev_mulX (ev_num (ev_var rfl)) (ev_den (ev_var rfl)) (cx1 h2 h1 (by omega)))) fun d e => ?_
  rw [e]
  exact decide_eq_decide.mpr (Rat.lt_iff a b).symm
abbrev prLsize (K : PySem.W.Frag) : Sp := Pr K (fun x : List Nat => [.dat x]) (fun x => ∀ b ∈ x, b ≤ 4) (fun x (r : Nat) => r = sizeN x)
theorem ok_lsize (T : Txt K mg z) (D : Dn K mg "_law_size" "_law_size" s_lsize p_lsize) : Df P w K mg base "_law_size" 1 p_lsize (prLsize K) := D.df fun f fd F => by
  refine fun_pr F sc_lsize (fun _ => rfl) fun cdv A outer s H X hr bs h2 => ?_
  refine ⟨_, (pss_cons (ps_set (i := 1) sc_lsize.nd rfl (Or.inl rfl) pe_int)
    (pss_cons (ps_for PassesOwn.never rfl (listK K (pv 0)) (pg_name (i := 2) sc_lsize.nd rfl (Or.inl rfl))
      (pss_cons (ps_set (i := 1) sc_lsize.nd rfl (Or.inl rfl) (pe_op op_mul (pv 1) (pv 2)))
        pss_nil))
    (pss_cons (ps_ret (pv 1))
    pss_nil))), fun E => ?_⟩
  refine ok_asgD (ev_nat 1) ?_
  refine ok_forD (evi_list (ev_var (d := bs) rfl)) (fun i => [.dat bs, .dat (sizeN (bs.take i)), .any]) (.keep rfl (.keep rfl (.drop .nil))) (fun Fb i x e => ?_) ?_
  · have := h2 x (List.mem_of_getElem? e)
    refine ok_asgD (ev_mulN (ev_var rfl) (ev_var rfl) (.inr (by omega))) ?_
    exact ok_wk (.keep rfl (.keep (by rw [take_snoc e, sizeN_snoc]) (.drop .nil)))
  · refine ok_ret (ev_var rfl) fun d e => ?_
    rw [e, List.take_length]
abbrev prSmall (K : PySem.W.Frag) : Sp := Pr K (fun x : Nat => [.dat x]) (fun _ => True) (fun _ (r : Rat) => Sz 3 r)
theorem ok_lsmall (T : Txt K mg z) (d_llowest : Df P w K mg base "_law_lowest" 2 p_llowest (prLow K)) (D : Dn K mg "_law_small" "_law_small" s_lsmall p_lsmall) : Df P w K mg base "_law_small" 3 p_lsmall (prSmall K) := D.df fun f fd F => by
  refine fun_pr F sc_lsmall (fun _ => rfl) fun cdv A outer s H X hr x _ => ?_
  refine ⟨_, (pss_cons (ps_ret (d_llowest.call hr (by rfl) (by decide) (pa_cons (pe_op op_sub (pe_op op_mod (pe_callTy call_int1 (by rfl) T.int PyProof.Rows.boot_int (pa_cons (pv 0) pa_nil)) pe_int) pe_int) (pa_cons (pe_op op_add pe_int (pe_op op_mod (pe_callTy call_int1 (by rfl) T.int PyProof.Rows.boot_int (pa_cons (pe_op op_fdiv (pv 0) pe_int) pa_nil)) pe_int)) pa_nil))))
    pss_nil), fun E => ?_⟩
  refine ok_ret (ev_call ((x : Int) % 9 - 3, 1 + x / 9 % 3) (eva_cons (ev_subI (ev_modI (Ev.int (ev_int1N (eva_cons (ev_var rfl) eva_nil))) ev_int (by decide)) ev_int) (eva_cons (ev_addN (ev_nat 1) (ev_modN (ev_int1N (eva_cons (ev_divN (ev_var rfl) (ev_nat 9) (by decide) (by decide)) eva_nil)) (ev_nat 3) (by decide))) eva_nil)) ⟨by show 1 + x / 9 % 3 ≠ 0; omega, ?_⟩) fun d e => ?_
  · show 1 + x / 9 % 3 < 2 ^ 8990
    have : 1 + x / 9 % 3 < 2 ^ 3 := by omega
    exact Nat.lt_of_lt_of_le this (Nat.pow_le_pow_right (by decide) (by decide))
  · rw [e]
    exact Sz.mk (by omega) (by omega) (by omega)
abbrev prPay (K : PySem.W.Frag) : Sp := Pr K (fun x : List Nat × Nat => [.dat x.1, .dat x.2]) (fun x => x.1.length = 10) (fun _ (r : Rat) => Sz 3 r)
theorem ok_lpay (T : Txt K mg z) (d_lsmall : Df P w K mg base "_law_small" 3 p_lsmall (prSmall K)) (D : Dn K mg "_law_pay" "_law_pay" s_lpay p_lpay) : Df P w K mg base "_law_pay" 4 p_lpay (prPay K) := D.df fun f fd F => by
  refine fun_pr F sc_lpay (fun _ => rfl) fun cdv A outer s H X hr ⟨sh, x⟩ hl => ?_
  refine ⟨_, (pss_cons (ps_if (PW.pt (pw_and (pt_cmpR op_eq (pe_op op_mod (pe_callTy call_int1 (by rfl) T.int PyProof.Rows.boot_int (pa_cons (ixl K (pv 0) pe_int (fun _ _ => rfl)) pa_nil)) pe_int) pe_int (nomark _)) (pw_and1 (pt_cmpR op_gt (pe_op op_mod (pe_callTy call_int1 (by rfl) T.int PyProof.Rows.boot_int (pa_cons (pe_op op_fdiv (pv 1) pe_int) pa_nil)) pe_int) pe_int (nomark _)))))
      (pss_cons (ps_ret (pe_tup (pa_cons pe_int (pa_cons pe_int pa_nil))))
        pss_nil)
      pss_nil)
    (pss_cons (ps_if (pt_cmpR op_eq (pe_op op_mod (pe_callTy call_int1 (by rfl) T.int PyProof.Rows.boot_int (pa_cons (ixl K (pv 0) pe_int (fun _ _ => rfl)) pa_nil)) pe_int) pe_int (nomark _))
      (pss_cons (ps_ret (pe_tup (pa_cons (pe_op op_mod (pe_callTy call_int1 (by rfl) T.int PyProof.Rows.boot_int (pa_cons (pv 1) pa_nil)) pe_int) (pa_cons pe_int pa_nil))))
        pss_nil)
      pss_nil)
    (pss_cons (ps_ret (d_lsmall.call hr (by rfl) (by decide) (pa_cons (pv 1) pa_nil)))
    pss_nil))), fun E => ?_⟩
  have hl : sh.length = 10 := hl
  refine ok_ifr (evt_and (evt_test (ev_eqN (ev_modN (ev_int1N (eva_cons (ev_ixD (x := 0) (ev_var (d := sh) rfl) (ev_nat 9) (by omega)) eva_nil)) (ev_nat 4) (by decide)) (ev_nat 0))) fun _ => evt_test (ev_gtN (ev_modN (ev_int1N (eva_cons (ev_divN (ev_var (d := x) rfl) (ev_nat 9) (by decide) (by decide)) eva_nil)) (ev_nat 3) (by decide)) (ev_nat 0))) (fun c => ?_) (fun c => ?_)
  · refine ok_ret (ev_rat (z := 0) (eva_cons ev_int (eva_cons ev_int eva_nil)) rfl rfl) fun d e => ?_
    rw [e]
    exact Sz.zero.mono (by decide)
  refine ok_ifr (evt_test (ev_eqN (ev_modN (ev_int1N (eva_cons (ev_ixD (x := 0) (ev_var (d := sh) rfl) (ev_nat 9) (by omega)) eva_nil)) (ev_nat 4) (by decide)) (ev_nat 1))) (fun c => ?_) (fun c => ?_)
  · refine ok_ret (ev_rat (z := ((x % 3 : Nat) : Rat)) (eva_cons (Ev.int (ev_modN (ev_int1N (eva_cons (ev_var (d := x) rfl) eva_nil)) (ev_nat 3) (by decide))) (eva_cons ev_int eva_nil)) rfl rfl) fun d e => ?_
    rw [e]
    exact ⟨by show ((x % 3 : Nat) : Int).natAbs < 2 ^ 3; omega, by show 1 < 2 ^ 3; decide⟩
  · exact ok_ret (ev_call x (eva_cons (ev_var (d := x) rfl) eva_nil) trivial) fun d e => e
abbrev prCh (K : PySem.W.Frag) : Sp := Pr K (fun x : List Nat => [.dat x]) (fun x => 1 ≤ x.length ∧ x.length ≤ 16) (fun x (r : List Rat) => Ch x.length r)
theorem ok_lchances (T : Txt K mg z) (d_llowest : Df P w K mg base "_law_lowest" 2 p_llowest (prLow K)) (D : Dn K mg "_law_chances" "_law_chances" s_lchances p_lchances) : Df P w K mg base "_law_chances" 3 p_lchances (prCh K) := D.df fun f fd F => by
  refine fun_pr F sc_lchances (fun _ => rfl) fun cdv A outer s H X hr xs ⟨h1, h2⟩ => ?_
  refine ⟨_, (pss_cons (ps_set (i := 1) sc_lchances.nd rfl (Or.inl rfl) (pe_callB (lenK K) (by rfl) T.len PySem.boot_len (pa_cons (pv 0) pa_nil)))
    (pss_cons (ps_if (pt_cmpR op_eq (pe_op op_mod (pe_callTy call_int1 (by rfl) T.int PyProof.Rows.boot_int (pa_cons (ixl K (pv 0) pe_int (fun _ _ => rfl)) pa_nil)) pe_int) pe_int (nomark _))
      (pss_cons (ps_set (i := 2) sc_lchances.nd rfl (Or.inr rfl) (pe_op op_mod (pe_callTy call_int1 (by rfl) T.int PyProof.Rows.boot_int (pa_cons (pe_op op_fdiv (ixl K (pv 0) pe_int (fun _ _ => rfl)) pe_int) pa_nil)) (pv 1)))
        (pss_cons (ps_ret (pe_lc (own := [("_law_k", 5)]) (g := gName 5) (tt := tYes)  rfl sc_lchances.nd (pi_range1 rfl T.range (pa_cons (pv 1) pa_nil)) (blkOk_by (N := n_lchances) (sc := defScope s_lchances) (by decide +kernel)) (fun _ _ _ _ _ => pg_name (i := 5) sc_lchances.nd rfl (Or.inl rfl)) (fun _ _ _ _ _ => pts_nil) (fun _ _ _ _ _ => (pe_tup (pa_cons (pe_callTy call_int1 (by rfl) T.int PyProof.Rows.boot_int (pa_cons (pe_cmpR op_eq (pv 5) (pv 2) (nomark _)) pa_nil)) (pa_cons pe_int pa_nil))))))
        pss_nil))
      pss_nil)
    (pss_cons (ps_setLc (i := 3) (own := [("_law_x", 6)]) (g := gName 6) (tt := tYes)  rfl sc_lchances.nd rfl rfl (sw_true rfl rfl rfl (by decide +kernel)) (listK K (pv 0)) (blkOk_by (N := n_lchances) (sc := defScope s_lchances) (by decide +kernel)) (fun _ _ _ _ _ => pg_name (i := 6) sc_lchances.nd rfl (Or.inl rfl)) (fun _ _ _ _ _ => pts_nil) (fun _ _ _ _ _ => (pe_op op_mod (pe_callTy call_int1 (by rfl) T.int PyProof.Rows.boot_int (pa_cons (pv 6) pa_nil)) pe_int)))
    (pss_cons (ps_set (i := 4) sc_lchances.nd rfl (Or.inr rfl) (pe_callB (cr_sum rfl) (by rfl) T.sum PyProof.Rows.boot_sum (pa_cons (pv 3) pa_nil)))
    (pss_cons (ps_if (pt_cmpR op_eq (pv 4) pe_int (nomark _))
      (pss_cons (ps_ret (pe_lc (own := [("_law_k", 5)]) (g := gName 5) (tt := tYes)  rfl sc_lchances.nd (pi_range1 rfl T.range (pa_cons (pv 1) pa_nil)) (blkOk_by (N := n_lchances) (sc := defScope s_lchances) (by decide +kernel)) (fun _ _ _ _ _ => pg_name (i := 5) sc_lchances.nd rfl (Or.inl rfl)) (fun _ _ _ _ _ => pts_nil) (fun _ _ _ _ _ => (pe_tup (pa_cons (pe_callTy call_int1 (by rfl) T.int PyProof.Rows.boot_int (pa_cons (pe_cmpR op_eq (pv 5) pe_int (nomark _)) pa_nil)) (pa_cons pe_int pa_nil))))))
        pss_nil)
      pss_nil)
    (pss_cons (ps_ret (pe_lc (own := [("_law_x", 6)]) (g := gName 6) (tt := tYes)  rfl sc_lchances.nd (listK K (pv 3)) (blkOk_by (N := n_lchances) (sc := defScope s_lchances) (by decide +kernel)) (fun _ _ _ _ _ => pg_name (i := 6) sc_lchances.nd rfl (Or.inl rfl)) (fun _ _ _ _ _ => pts_nil) (fun _ _ _ _ _ => (d_llowest.call hr (by rfl) (by decide) (pa_cons (pv 6) (pa_cons (pv 4) pa_nil))))))
    pss_nil)))))), fun E => ?_⟩
  have b01 : ∀ p : Bool, (if p then (1 : Int) else 0) = (if p = true then (1 : Rat) else 0).num := fun p => by cases p <;> rfl
  have b02 : ∀ p : Bool, (1 : Int) = (((if p = true then (1 : Rat) else 0).den : Nat) : Int) := fun p => by cases p <;> rfl
  have eu : ∀ n a : Nat, ((List.range n).map fun k => if decide (k = a) = true then (1 : Rat) else 0) = unitL n a := fun n a => by
    unfold unitL
    refine List.map_congr_left fun k _ => ?_
    by_cases c : k = a
    · rw [if_pos c, if_pos (decide_eq_true c)]
    · rw [if_neg c, if_neg (by simp [c])]
  refine ok_asgD (ev_len (eva_cons (ev_var (d := xs) rfl) eva_nil)) ?_
  refine ok_ifr (evt_test (ev_eqN (ev_modN (ev_int1N (eva_cons (ev_ixD (x := 0) (ev_var (d := xs) rfl) (ev_nat 0) (by omega)) eva_nil)) (ev_nat 3) (by decide)) (ev_nat 0))) (fun c => ?_) (fun c => ?_)
  · refine ok_asgD (ev_modN (ev_int1N (eva_cons (ev_divN (ev_ixD (x := 0) (ev_var (d := xs) rfl) (ev_nat 0) (by omega)) (ev_nat 3) (by decide) (by decide)) eva_nil)) (ev_var (d := xs.length) rfl) (by omega)) ?_
    generalize ha : xs.getD 0 0 / 3 % xs.length = a
    have la : a < xs.length := by
      rw [← ha]
      exact Nat.mod_lt _ (by omega)
    refine ok_ret (ev_lcD (f := fun k => if decide (k = a) = true then (1 : Rat) else 0) (evi_range (ev_var (d := xs.length) rfl) (by omega)) (by rw [List.length_range]; omega) fun k _ => ev_rat (eva_cons (ev_int1B (eva_cons (ev_eqN (ev_var (d := k) rfl) (ev_var (d := a) rfl)) eva_nil)) (eva_cons ev_int eva_nil)) (b01 _) (b02 _)) fun d e => ?_
    rw [e, eu]
    exact unitL_ch la
  refine ok_asgD (ev_lcD (f := fun x => x % 4) (evi_list (ev_var (d := xs) rfl)) (by omega) fun x _ => ev_modN (ev_int1N (eva_cons (ev_var (d := x) rfl) eva_nil)) (ev_nat 4) (by decide)) ?_
  generalize hy : (xs.map fun x => x % 4) = ys
  have ly : ys.length = xs.length := by rw [← hy, List.length_map]
  have y3 : ∀ y ∈ ys, y ≤ 3 := fun y h => by
    rw [← hy] at h
    obtain ⟨x, _, rfl⟩ := List.mem_map.mp h
    omega
  refine ok_asgD (ev_sum (eva_cons (ev_var (d := ys) rfl) eva_nil)) ?_
  refine ok_ifr (evt_test (ev_eqN (ev_var (d := ys.sum) rfl) (ev_nat 0))) (fun c => ?_) (fun c => ?_)
  · refine ok_ret (ev_lcD (f := fun k => if decide (k = 0) = true then (1 : Rat) else 0) (evi_range (ev_var (d := xs.length) rfl) (by omega)) (by rw [List.length_range]; omega) fun k _ => ev_rat (eva_cons (ev_int1B (eva_cons (ev_eqN (ev_var (d := k) rfl) (ev_nat 0)) eva_nil)) (eva_cons ev_int eva_nil)) (b01 _) (b02 _)) fun d e => ?_
    rw [e, eu]
    exact unitL_ch (by omega)
  · have c' : ys.sum ≠ 0 := of_decide_eq_false c
    have hs := sum_le3 ys y3
    have hs2 : ys.sum < 2 ^ 8990 := by
      have : ys.sum < 2 ^ 10 := by omega
      exact Nat.lt_of_lt_of_le this (Nat.pow_le_pow_right (by decide) (by decide))
    refine ok_ret (ev_lcD (f := fun x : Nat => mkRat (x : Int) ys.sum) (evi_list (ev_var (d := ys) rfl)) (by omega) fun x _ => ev_call ((x : Int), ys.sum) (eva_cons (Ev.int (ev_var (d := x) rfl)) (eva_cons (ev_var (d := ys.sum) rfl) eva_nil)) ⟨c', hs2⟩) fun d e => ?_
    rw [e]
    have := share_ch y3 c' (by omega)
    rw [ly] at this
    exact this
end
end Tm

namespace Tm
open PySem L2
abbrev s_ldims : Stmt := topS 41
abbrev n_ldims : List Str := ["_law_shape", "_law_cap", "_law_hearers", "_law_dims_here", "_law_h", "_law_turn", "_law_at"]
abbrev p_ldims : List Str := ["_law_shape", "_law_cap"]
theorem sc_ldims : FnScope n_ldims p_ldims (defScope s_ldims) := ⟨rfl, rfl, rfl, by decide +kernel, rfl, by decide +kernel, by decide +kernel⟩
abbrev s_lgame : Stmt := topS 44
abbrev n_lgame : List Str := ["_law_script", "_law_place", "_law_cap", "_law_shape", "_law_states", "_law_kinds", "_law_acts", "_law_many", "_law_ends", "_law_row_here", "_law_weights", "_law_s", "_law_pays", "_law_who", "_law_part", "_law_lines", "_law_k", "_law_start", "_law_a"]
abbrev p_lgame : List Str := ["_law_script", "_law_place", "_law_cap"]
theorem sc_lgame : FnScope n_lgame p_lgame (defScope s_lgame) := ⟨rfl, rfl, rfl, by decide +kernel, rfl, by decide +kernel, by decide +kernel⟩
abbrev s_lrule : Stmt := topS 47
abbrev n_lrule : List Str := ["_law_script", "_law_place", "_law_game_here", "_law_states", "_law_kinds", "_law_acts", "_law_weights", "_law_pays", "_law_many", "_law_ends", "_law_row_here", "_law_rule_here", "_law_s", "_law_lines", "_law_k", "_law_start"]
abbrev p_lrule : List Str := ["_law_script", "_law_place", "_law_game_here"]
theorem sc_lrule : FnScope n_lrule p_lrule (defScope s_lrule) := ⟨rfl, rfl, rfl, by decide +kernel, rfl, by decide +kernel, by decide +kernel⟩
abbrev s_lcopy : Stmt := topS 48
abbrev n_lcopy : List Str := ["_law_rule_here", "_law_part", "_law_line"]
abbrev p_lcopy : List Str := ["_law_rule_here"]
theorem sc_lcopy : FnScope n_lcopy p_lcopy (defScope s_lcopy) := ⟨rfl, rfl, rfl, by decide +kernel, rfl, by decide +kernel, by decide +kernel⟩
abbrev s_lpaper_of : Stmt := topS 49
abbrev n_lpaper_of : List Str := ["_law_made_here", "_law_rule_here", "_law_game_here", "_law_paper", "_law_h", "_law_part", "_law_i", "_law_lines", "_law_said", "_law_done", "_law_told"]
abbrev p_lpaper_of : List Str := ["_law_made_here", "_law_rule_here", "_law_game_here"]
theorem sc_lpaper_of : FnScope n_lpaper_of p_lpaper_of (defScope s_lpaper_of) := ⟨rfl, rfl, rfl, by decide +kernel, rfl, by decide +kernel, by decide +kernel⟩
/-! ### dimensions -/
theorem foldl_mul (a : Nat) : ∀ xs : List Nat, xs.foldl (· * ·) a = a * xs.foldl (· * ·) 1
  | [] => (Nat.mul_one a).symm
  | x :: xs => by
    show xs.foldl (· * ·) (a * x) = a * xs.foldl (· * ·) (1 * x)
    rw [foldl_mul (a * x) xs, foldl_mul (1 * x) xs, Nat.one_mul, Nat.mul_assoc]
theorem sizeN_cons (x : Nat) (xs : List Nat) : sizeN (x :: xs) = x * sizeN xs := by
  show xs.foldl (· * ·) (1 * x) = _
  rw [foldl_mul, Nat.one_mul]
  rfl
theorem sizeN_app (xs ys : List Nat) : sizeN (xs ++ ys) = sizeN xs * sizeN ys := by
  show (xs ++ ys).foldl (· * ·) 1 = _
  rw [List.foldl_append, foldl_mul]
  rfl
theorem sizeN_le1 : ∀ xs : List Nat, (∀ x ∈ xs, x ≤ 1) → sizeN xs ≤ 1
  | [], _ => Nat.le_refl _
  | x :: xs, h => by
    rw [sizeN_cons]
    exact Nat.mul_le_mul (h x (List.mem_cons_self ..)) (sizeN_le1 xs fun y hy => h y (List.mem_cons_of_mem _ hy))
/-- each from 1 on, the first to 4, the others to 3 -/
def Dd (n : Nat) (z : List Nat) : Prop := z.length = n ∧ ∀ j d, z[j]? = some d → 1 ≤ d ∧ d ≤ (if j = 0 then 4 else 3)
def hits (n r t j : Nat) : Nat := ((List.range t).filter fun t' => decide ((r + t') % n = j)).length
theorem hits_succ (n r t j : Nat) : hits n r (t + 1) j = hits n r t j + if (r + t) % n = j then 1 else 0 := by
  unfold hits
  rw [List.range_succ, List.filter_append, List.length_append]
  by_cases h : (r + t) % n = j
  · simp [h]
  · simp [h]
theorem hits_mod (n r t j : Nat) : hits n r t j = hits n (r % n) t j := by
  unfold hits
  congr 1
  refine List.filter_congr fun x _ => ?_
  rw [Nat.mod_add_mod]
theorem hits16 : ∀ n ∈ [3, 5, 7], ∀ r, r < n → ∀ j, j < n → 2 ≤ hits n r 16 j := by decide
/-- so far -/
def Hd (n r t : Nat) (z : List Nat) : Prop := Dd n z ∧ (sizeN z ≤ 16 ∨ ∀ j d, z[j]? = some d → d ≤ 1 ∨ d + hits n r t j ≤ (if j = 0 then 4 else 3))
theorem Hd.step {n r t : Nat} {z : List Nat} (h : Hd n r t z) (hn : 0 < n) :
    Hd n r (t + 1) (if 16 < sizeN z ∧ 1 < z.getD ((r + t) % n) 0 then z.set ((r + t) % n) (z.getD ((r + t) % n) 0 - 1) else z) := by
  obtain ⟨⟨hl, hd⟩, hs⟩ := h
  have la : (r + t) % n < z.length := by
    rw [hl]
    exact Nat.mod_lt _ hn
  have ga := getD_some (d := 0) la
  have da := hd _ _ ga
  split
  · rename_i c
    have hs' : ∀ j d, z[j]? = some d → d ≤ 1 ∨ d + hits n r t j ≤ (if j = 0 then 4 else 3) := by
      rcases hs with h | h
      · omega
      · exact h
    refine ⟨⟨by rw [List.length_set, hl], fun j d e => ?_⟩, .inr fun j d e => ?_⟩
    · rw [List.getElem?_set] at e
      by_cases q : (r + t) % n = j
      · rw [if_pos q, if_pos la] at e
        cases e
        rw [q] at da c ⊢
        omega
      · rw [if_neg q] at e
        exact hd j d e
    · rw [hits_succ]
      rw [List.getElem?_set] at e
      by_cases q : (r + t) % n = j
      · rw [if_pos q, if_pos la] at e
        cases e
        rw [if_pos q]
        have := hs' _ _ ga
        rw [q] at this c ⊢
        omega
      · rw [if_neg q] at e ⊢
        exact hs' j d e
  · rename_i c
    refine ⟨⟨hl, hd⟩, ?_⟩
    by_cases s : sizeN z ≤ 16
    · exact .inl s
    · rcases hs with h | h
      · exact absurd h s
      · refine .inr fun j d e => ?_
        rw [hits_succ]
        by_cases q : (r + t) % n = j
        · have : ¬ 1 < z.getD ((r + t) % n) 0 := fun k => c ⟨by omega, k⟩
          rw [q] at ga this
          rw [ga] at e
          cases e
          exact .inl (by omega)
        · rw [if_neg q]
          exact h j d e
theorem Hd.done {n r : Nat} {z : List Nat} (hn : n ∈ [3, 5, 7]) (h : Hd n r 16 z) : sizeN z ≤ 16 := by
  obtain ⟨⟨hl, hd⟩, hs⟩ := h
  rcases hs with h | h
  · exact h
  · have n0 : 0 < n := by
      simp at hn
      omega
    have hh : ∀ j, j < n → 2 ≤ hits n r 16 j := fun j hj => by
      rw [hits_mod]
      exact hits16 n hn _ (Nat.mod_lt _ n0) j hj
    cases z with
    | nil => exact (by decide : sizeN [] ≤ 16)
    | cons x xs =>
      have h0 : x ≤ 2 := by
        have := h 0 x rfl
        have := hh 0 n0
        rw [if_pos rfl] at *
        omega
      have h1 : ∀ y ∈ xs, y ≤ 1 := fun y hy => by
        obtain ⟨i, hi⟩ := List.mem_iff_getElem?.mp hy
        have li := (List.getElem?_eq_some_iff.mp hi).1
        have := h (i + 1) y (by simpa using hi)
        have := hh (i + 1) (by
          rw [← hl, List.length_cons]
          omega)
        rw [if_neg (by omega)] at *
        omega
      rw [sizeN_cons]
      have := Nat.mul_le_mul h0 (sizeN_le1 xs h1)
      omega
structure Dm (s : Nat) (ks as : List Nat) : Prop where
  s1 : 1 ≤ s
  s4 : s ≤ 4
  bk : Bd ks
  ba : Bd as
  k1 : 1 ≤ ks.length
  ka : as.length = ks.length
  cap : s * sizeN ks * sizeN as ≤ 16
theorem Dm.of {m r : Nat} {z : List Nat} (hm : m = 1 ∨ m = 2 ∨ m = 3) (h : Hd (1 + 2 * m) r 16 z) : Dm (z.getD 0 0) ((z.drop 1).take m) (z.drop (1 + m)) := by
  have hn : 1 + 2 * m ∈ [3, 5, 7] := by
    rcases hm with rfl | rfl | rfl <;> decide
  have cap := h.done hn
  obtain ⟨⟨hl, hd⟩, _⟩ := h
  cases z with
  | nil =>
    rw [List.length_nil] at hl
    omega
  | cons x xs =>
    have lx : xs.length = 2 * m := by
      rw [List.length_cons] at hl
      omega
    have dx := hd 0 x rfl
    rw [if_pos rfl] at dx
    have dy : ∀ y ∈ xs, 1 ≤ y ∧ y ≤ 3 := fun y hy => by
      obtain ⟨i, hi⟩ := List.mem_iff_getElem?.mp hy
      have := hd (i + 1) y (by simpa using hi)
      rw [if_neg (by omega)] at this
      exact this
    have e1 : ((x :: xs).drop 1).take m = xs.take m := rfl
    have e2 : (x :: xs).drop (1 + m) = xs.drop m := by
      rw [Nat.add_comm]
      rfl
    rw [e1, e2]
    refine ⟨dx.1, dx.2, ⟨by rw [List.length_take]; omega, fun b hb => dy b (List.mem_of_mem_take hb)⟩, ⟨by rw [List.length_drop]; omega, fun b hb => dy b (List.mem_of_mem_drop hb)⟩, by rw [List.length_take]; omega, by rw [List.length_take, List.length_drop]; omega, ?_⟩
    have : sizeN (x :: xs) = x * sizeN (xs.take m) * sizeN (xs.drop m) := by
      rw [sizeN_cons, Nat.mul_assoc, ← sizeN_app, List.take_append_drop]
    show x * sizeN (xs.take m) * sizeN (xs.drop m) ≤ 16
    rw [← this]
    exact cap
abbrev DimT := T3 Nat (List Nat) (List Nat)
abbrev GameT := T5 Nat (List Nat) (List Nat) (List (List Rat)) (List (List (List (List Rat))))
def gm (t : GameT) : Gm := ⟨t.x, t.y, t.z, t.u, t.w⟩
section
variable {P : Program} {w : World} {K : PySem.W.Frag} {mg : Str → Option Value} {base : Heap} {z : Addr}
theorem repN {F F' : Hp} {v : V} {d : Nat} (h : Py.rep K F v d) : Py.rep K F' v d := h
abbrev prDims (K : PySem.W.Frag) : Sp := Pr K (fun x : List Nat => [.dat x, .dat (16 : Nat)]) (fun x => Rw 10 x) (fun _ (r : DimT) => Dm r.x r.y r.z)
theorem ok_ldims (T : Txt K mg z) (d_lsize : Df P w K mg base "_law_size" 1 p_lsize (prLsize K)) (D : Dn K mg "_law_dims" "_law_dims" s_ldims p_ldims) : Df P w K mg base "_law_dims" 2 p_ldims (prDims K) := D.df fun f fd F => by
  refine fun_pr F sc_ldims (fun _ => rfl) fun cdv A outer s H X hr sh ⟨hl, hx⟩ => ?_
  refine ⟨_, (pss_cons (ps_set (i := 2) sc_ldims.nd rfl (Or.inl rfl) (ixl K (pe_lst (pa_cons pe_int (pa_cons pe_int (pa_cons pe_int (pa_cons pe_int (pa_cons pe_int (pa_cons pe_int pa_nil))))))) (pe_op op_mod (pe_callTy call_int1 (by rfl) T.int PyProof.Rows.boot_int (pa_cons (ixl K (pv 0) pe_int (fun _ _ => rfl)) pa_nil)) pe_int) (fun _ _ => rfl)))
    (pss_cons (ps_set (i := 3) sc_ldims.nd rfl (Or.inl rfl) (pe_lst (pa_cons (pe_op op_add pe_int (pe_op op_mod (pe_callTy call_int1 (by rfl) T.int PyProof.Rows.boot_int (pa_cons (ixl K (pv 0) pe_int (fun _ _ => rfl)) pa_nil)) pe_int)) pa_nil)))
    (pss_cons (ps_for PassesOwn.never rfl (pi_range1 rfl T.range (pa_cons (pe_op op_mul pe_int (pv 2)) pa_nil)) (pg_name (i := 4) sc_ldims.nd rfl (Or.inl rfl))
      (pss_cons (ps_expr (pe_bm PySem.F.plainAttrs_list PySem.F.slot_list_append PySem.F.type_list_append mt_append (pv 3) (pa_cons (pe_op op_add pe_int (pe_op op_mod (pe_callTy call_int1 (by rfl) T.int PyProof.Rows.boot_int (pa_cons (ixl K (pv 0) (pe_op op_add pe_int (pv 4)) (fun _ _ => rfl)) pa_nil)) pe_int)) pa_nil)))
        pss_nil))
    (pss_cons (ps_for PassesOwn.never rfl (pi_range1 rfl T.range (pa_cons pe_int pa_nil)) (pg_name (i := 5) sc_ldims.nd rfl (Or.inl rfl))
      (pss_cons (ps_set (i := 6) sc_ldims.nd rfl (Or.inl rfl) (pe_op op_mod (pe_callTy call_int1 (by rfl) T.int PyProof.Rows.boot_int (pa_cons (pe_op op_add (ixl K (pv 0) pe_int (fun _ _ => rfl)) (pv 5)) pa_nil)) (pe_callB (lenK K) (by rfl) T.len PySem.boot_len (pa_cons (pv 3) pa_nil))))
        (pss_cons (ps_if (PW.pt (pw_and (pt_cmpR op_gt (d_lsize.call hr (by rfl) (by decide) (pa_cons (pv 3) pa_nil)) (pv 1) (nomark _)) (pw_and1 (pt_cmpR op_gt (ixl K (pv 3) (pv 6) (fun _ _ => rfl)) pe_int (nomark _)))))
          (pss_cons (ps_asg (pe_op op_sub (ixl K (pv 3) (pv 6) (fun _ _ => rfl)) pe_int) (pg_sub (pv 3) (pv 6) set_list))
            pss_nil)
          pss_nil)
        pss_nil)))
    (pss_cons (ps_ret (pe_tup (pa_cons (ixl K (pv 3) pe_int (fun _ _ => rfl)) (pa_cons (pe_slice (slK K) (pv 3) (po_some pe_int) (po_some (pe_op op_add pe_int (pv 2)))) (pa_cons (pe_slice (slK K) (pv 3) (po_some (pe_op op_add pe_int (pv 2))) po_none) pa_nil)))))
    pss_nil))))), fun E => ?_⟩
  refine ok_asgD (ev_ixD (x := 0) (ev_lst (xs := [1, 1, 2, 1, 2, 3]) (eva_cons (ev_nat 1) (eva_cons (ev_nat 1) (eva_cons (ev_nat 2) (eva_cons (ev_nat 1) (eva_cons (ev_nat 2) (eva_cons (ev_nat 3) eva_nil)))))) (by decide)) (ev_modN (ev_int1N (eva_cons (ev_ixD (x := 0) (ev_var (d := sh) rfl) (ev_nat 0) (by omega)) eva_nil)) (ev_nat 6) (by decide)) (by
    show sh.getD 0 0 % 6 < 6
    omega)) ?_
  have hm : ∀ k, k < 6 → ([1, 1, 2, 1, 2, 3].getD k 0 = 1 ∨ [1, 1, 2, 1, 2, 3].getD k 0 = 2 ∨ [1, 1, 2, 1, 2, 3].getD k 0 = 3) := by decide
  have hm := hm (sh.getD 0 0 % 6) (by omega)
  generalize [1, 1, 2, 1, 2, 3].getD (sh.getD 0 0 % 6) 0 = m at hm
  refine ok_newL (xs := [1 + sh.getD 1 0 % 4]) (by exact (by decide : 3 < 7)) (eva_cons (ev_addN (ev_nat 1) (ev_modN (ev_int1N (eva_cons (ev_ixD (x := 0) (ev_var (d := sh) rfl) (ev_nat 1) (by omega)) eva_nil)) (ev_nat 4) (by decide))) eva_nil) (by exact (by decide : 1 ≤ 1000)) ?_
  refine ok_for (ι := List Nat) (evi_range (ev_mulN (ev_nat 2) (ev_var (d := m) rfl) (.inl (by decide))) (by omega)) (fun i z => Dd (1 + i) z) (fun _ z => [.dat sh, .dat (16 : Nat), .dat m, .own z, .any, .any, .any]) [1 + sh.getD 1 0 % 4] ⟨rfl, fun j d e => ?_⟩ (.keep rfl (.keep rfl (.keep rfl (.keep rfl (.drop (.drop (.drop .nil))))))) (fun Fb i i' zz ei pz => ?_) (fun zz pz => ?_)
  · cases j with
    | zero =>
      cases e
      rw [if_pos rfl]
      omega
    | succ j => cases e
  · have li : i < 2 * m := by
      have := (List.getElem?_eq_some_iff.mp ei).1
      simpa using this
    rw [List.getElem?_range li] at ei
    cases ei
    obtain ⟨zl, zd⟩ := pz
    refine ok_appendD (xs := zz) (d := 1 + sh.getD (2 + i) 0 % 3) rfl (by omega) (ev_addN (ev_nat 1) (ev_modN (ev_int1N (eva_cons (ev_ixD (x := 0) (ev_var (d := sh) rfl) (ev_addN (ev_nat 2) (ev_var (d := i) rfl)) (by omega)) eva_nil)) (ev_nat 3) (by decide))) ?_
    refine ok_next fun σ H ⟨F, S⟩ => ⟨_, ⟨by simp [zl]; omega, fun j d e => ?_⟩, F, S.weak (.keep rfl (.keep rfl (.keep rfl (.keep rfl (.drop (.drop (.drop .nil)))))))⟩
    by_cases q : j < zz.length
    · rw [List.getElem?_append_left q] at e
      exact zd j d e
    · have l := (List.getElem?_eq_some_iff.mp e).1
      simp at l
      have : j = zz.length := by omega
      subst this
      rw [List.getElem?_append_right (Nat.le_refl _), Nat.sub_self] at e
      cases e
      rw [if_neg (by omega)]
      omega
  rw [List.length_range] at pz
  generalize hr8 : sh.getD 8 0 = r
  refine ok_for (ι := List Nat) (evi_range (ev_nat 16) (by decide)) (fun t z => Hd (1 + 2 * m) r t z) (fun _ z => [.dat sh, .dat (16 : Nat), .dat m, .own z, .any, .any, .any]) zz ⟨pz, .inr fun j d e => .inr ?_⟩ (.keep rfl (.keep rfl (.keep rfl (.keep rfl (.drop (.drop (.drop .nil))))))) (fun Fb t t' y et py => ?_) (fun y py => ?_)
  · have := (pz.2 j d e).2
    have h0 : hits (1 + 2 * m) r 0 j = 0 := rfl
    omega
  · have lt : t < 16 := by
      have := (List.getElem?_eq_some_iff.mp et).1
      simpa using this
    rw [List.getElem?_range lt] at et
    cases et
    have yl : y.length = 1 + 2 * m := py.1.1
    have st := py.step (by omega)
    have b4 : ∀ b ∈ y, b ≤ 4 := fun b hb => by
      obtain ⟨i, hi⟩ := List.mem_iff_getElem?.mp hb
      have := (py.1.2 i b hi).2
      split at this <;> omega
    refine ok_asgD (ev_modN (ev_int1N (eva_cons (ev_addN (Ev.to (ev_ixD (x := 0) (ev_var (d := sh) rfl) (ev_nat 8) (by omega)) hr8) (ev_var (d := t) rfl)) eva_nil)) (ev_view (i := 3) (xs := y) (fun _ _ _ _ h => h) rfl (ev_len (eva_cons (ev_var (d := y) rfl) eva_nil))) (by omega)) ?_
    rw [yl]
    have la : (r + t) % (1 + 2 * m) < y.length := by
      rw [yl]
      exact Nat.mod_lt _ (by omega)
    refine ok_if (evt_view (i := 3) (xs := y) rfl (evt_and (evt_test (ev_gtN (ev_call y (eva_cons (ev_var (d := y) rfl) eva_nil) b4) (ev_var (d := 16) rfl))) fun _ => evt_test (ev_gtN (ev_ixD (x := 0) (ev_var (d := y) rfl) (ev_var (d := (r + t) % (1 + 2 * m)) rfl) la) (ev_nat 1))))
      (fun σ H => ∃ y' : List Nat, Hd (1 + 2 * m) r (t + 1) y' ∧ Sat K { E with Fb := Fb } [.dat sh, .dat (16 : Nat), .dat m, .own y', .any, .any, .any] σ H) (fun c => ?_) (fun c => ?_) (ok_next fun _ _ h => h)
    · rw [Bool.and_eq_true] at c
      have c1 := of_decide_eq_true c.1
      have c2 := of_decide_eq_true c.2
      rw [if_pos ⟨c1, c2⟩] at st
      refine ok_setix (i := 3) (xs := y) (n := (r + t) % (1 + 2 * m)) rfl la (ev_view (i := 3) (xs := y) (fun _ _ _ _ h => h) rfl (ev_subN (ev_ixD (x := 0) (ev_var (d := y) rfl) (ev_var (d := (r + t) % (1 + 2 * m)) rfl) la) (ev_nat 1) (by omega))) (ev_var (d := (r + t) % (1 + 2 * m)) rfl) fun d e => ?_
      subst e
      exact ok_next fun σ H ⟨F, S⟩ => ⟨_, st, F, S.weak (.keep rfl (.keep rfl (.keep rfl (.keep rfl (.drop (.drop (.drop .nil)))))))⟩
    · have nc : ¬ (16 < sizeN y ∧ 1 < y.getD ((r + t) % (1 + 2 * m)) 0) := fun h => by
        rw [decide_eq_true h.1, decide_eq_true h.2] at c
        cases c
      rw [if_neg nc] at st
      exact ok_next fun σ H ⟨F, S⟩ => ⟨_, st, F, S.weak (.keep rfl (.keep rfl (.keep rfl (.keep rfl (.drop (.drop (.drop .nil)))))))⟩
  · rw [List.length_range] at py
    have dm := Dm.of hm py
    refine ok_freeze 3 (xs := y) rfl ?_
    refine ok_ret (ev_tup3 (eva_cons (ev_ixD (x := 0) (ev_var (d := y) rfl) (ev_nat 0) (by rw [py.1.1]; omega)) (eva_cons (Ev.list (ev_cutNL (ev_var (d := y) rfl) (ev_nat 1) (ev_addN (ev_nat 1) (ev_var (d := m) rfl)))) (eva_cons (Ev.list (ev_dropNL (ev_var (d := y) rfl) (ev_addN (ev_nat 1) (ev_var (d := m) rfl)))) eva_nil)))) fun d e => ?_
    rw [e]
    show Dm (y.getD 0 0) ((y.drop 1).take (1 + m - 1)) (y.drop (1 + m))
    rw [Nat.add_sub_cancel_left]
    exact dm
end
end Tm

namespace Tm
open PySem L2
theorem sizeN_pos {bs : List Nat} (h : Bd bs) : 1 ≤ sizeN bs := by
  have aux : ∀ (bs : List Nat), (∀ b ∈ bs, 1 ≤ b) → 1 ≤ sizeN bs := by
    intro bs
    induction bs with
    | nil => exact fun _ => Nat.le_refl _
    | cons b r ih =>
      intro hb
      rw [sizeN_cons]
      exact Nat.mul_pos (hb b (List.mem_cons_self ..)) (ih fun c hc => hb c (List.mem_cons_of_mem _ hc))
  exact aux bs fun b hb => (h.2 b hb).1
theorem Dm.pos {s : Nat} {ks as : List Nat} (d : Dm s ks as) : 1 ≤ sizeN ks ∧ 1 ≤ sizeN as ∧ sizeN ks ≤ 16 ∧ sizeN as ≤ 16 ∧ s * sizeN ks ≤ 16 := by
  have p1 := sizeN_pos d.bk
  have p2 := sizeN_pos d.ba
  have s1 := d.s1
  have h := d.cap
  have e1 : s * sizeN ks ≤ s * sizeN ks * sizeN as := Nat.le_mul_of_pos_right _ p2
  have e2 : sizeN ks ≤ s * sizeN ks := Nat.le_mul_of_pos_left _ s1
  have e3 : sizeN as ≤ s * sizeN ks * sizeN as := Nat.le_mul_of_pos_left _ (Nat.mul_pos s1 p1)
  exact ⟨p1, p2, by omega, by omega, by omega⟩
theorem at_lt {s S k M : Nat} (hs : s < S) (hk : k < M) : s * M + k < S * M := by
  have h : (s + 1) * M ≤ S * M := Nat.mul_le_mul_right _ hs
  rw [Nat.succ_mul] at h
  omega
/-- lists of so many, each with Q -/
def LQ {α : Type} (n : Nat) (Q : α → Prop) (xs : List α) : Prop := xs.length = n ∧ ∀ x ∈ xs, Q x
theorem LQ.nil {α : Type} {Q : α → Prop} : LQ 0 Q [] := ⟨rfl, fun x h => by simp at h⟩
theorem LQ.snoc {α : Type} {Q : α → Prop} {n : Nat} {xs : List α} {x : α} (h : LQ n Q xs) (q : Q x) : LQ (n + 1) Q (xs ++ [x]) := by
  refine ⟨by simp [h.1], fun y hy => ?_⟩
  rcases List.mem_append.mp hy with k | k
  · exact h.2 y k
  · simp at k
    rw [k]
    exact q
theorem LQ.of {α : Type} {Q : α → Prop} {n : Nat} {xs : List α} (h : xs.length = n ∧ ∀ (i : Nat) (z : α), xs[i]? = some z → Q z) : LQ n Q xs := ⟨h.1, fun x hx => by
  obtain ⟨i, hi⟩ := List.mem_iff_getElem?.mp hx
  exact h.2 i x hi⟩
section
variable {P : Program} {w : World} {K : PySem.W.Frag} {mg : Str → Option Value} {base : Heap} {z : Addr}
theorem wfg_of {d : DimT} {ws : List (List Rat)} {ps : List (List (List (List Rat)))} (dm : Dm d.x d.y d.z) (hw : LQ d.x (LQ (sizeN d.y) (Sz 2)) ws) (hp : LQ (1 + d.y.length) (LQ d.x (LQ (sizeN d.y) (LQ (sizeN d.z) (Sz 3)))) ps) : WfG (gm ⟨d.x, d.y, d.z, ws, ps⟩) :=
  ⟨dm.s1, dm.s4, dm.bk, dm.ba, dm.k1, dm.ka, dm.cap, hw.1, hw.2, by show ps.length = d.y.length + 1; rw [hp.1, Nat.add_comm], fun p hpm => hp.2 p hpm⟩
abbrev prGame (K : PySem.W.Frag) : Sp := Pr K (fun x : List Int × Nat => [.dat x.1, .dat x.2, .dat (16 : Nat)]) (fun x => x.2 ≤ 10) (fun _ (r : GameT) => WfG (gm r))
theorem ok_lgame (T : Txt K mg z) (d_lrow : Df P w K mg base "_law_row" 1 p_lrow (prRow K)) (d_ldims : Df P w K mg base "_law_dims" 2 p_ldims (prDims K)) (d_lsize : Df P w K mg base "_law_size" 1 p_lsize (prLsize K)) (d_llowest : Df P w K mg base "_law_lowest" 2 p_llowest (prLow K))
    (d_lpay : Df P w K mg base "_law_pay" 4 p_lpay (prPay K)) (D : Dn K mg "_law_game" "_law_game" s_lgame p_lgame) : Df P w K mg base "_law_game" 5 p_lgame (prGame K) := D.df fun f fd F => by
  refine fun_pr F sc_lgame (fun _ => rfl) fun cdv A outer s H X hr ⟨script, place⟩ hp => ?_
  refine ⟨_, (pss_cons (ps_set (i := 3) sc_lgame.nd rfl (Or.inr rfl) (d_lrow.call hr (by rfl) (by decide) (pa_cons (pv 0) (pa_cons (pv 1) (pa_cons pe_int pa_nil)))))
    (pss_cons (ps_asg (d_ldims.call hr (by rfl) (by decide) (pa_cons (pv 3) (pa_cons (pv 2) pa_nil))) (pg_tup rfl (pgs_cons (pg_name (i := 4) sc_lgame.nd rfl (Or.inl rfl)) (pgs_cons (pg_name (i := 5) sc_lgame.nd rfl (Or.inl rfl)) (pgs_cons (pg_name (i := 6) sc_lgame.nd rfl (Or.inl rfl)) pgs_nil)))))
    (pss_cons (ps_set (i := 7) sc_lgame.nd rfl (Or.inr rfl) (d_lsize.call hr (by rfl) (by decide) (pa_cons (pv 5) pa_nil)))
    (pss_cons (ps_set (i := 8) sc_lgame.nd rfl (Or.inl rfl) (d_lsize.call hr (by rfl) (by decide) (pa_cons (pv 6) pa_nil)))
    (pss_cons (ps_set (i := 9) sc_lgame.nd rfl (Or.inr rfl) (d_lrow.call hr (by rfl) (by decide) (pa_cons (pv 0) (pa_cons (pe_op op_add (pv 1) pe_int) (pa_cons (pe_op op_mul (pv 4) (pv 7)) pa_nil)))))
    (pss_cons (ps_set (i := 10) sc_lgame.nd rfl (Or.inl rfl) (pe_lst pa_nil))
    (pss_cons (ps_for PassesOwn.never rfl (pi_range1 rfl T.range (pa_cons (pv 4) pa_nil)) (pg_name (i := 11) sc_lgame.nd rfl (Or.inr rfl))
      (pss_cons (ps_expr (pe_bm PySem.F.plainAttrs_list PySem.F.slot_list_append PySem.F.type_list_append mt_append (pv 10) (pa_cons (pe_lc (own := [("_law_k", 16)]) (g := gName 16) (tt := tYes)  rfl sc_lgame.nd (pi_range1 rfl T.range (pa_cons (pv 7) pa_nil)) (blkOk_by (N := n_lgame) (sc := defScope s_lgame) (by decide +kernel)) (fun _ _ _ _ _ => pg_name (i := 16) sc_lgame.nd rfl (Or.inl rfl)) (fun _ _ _ _ _ => pts_nil) (fun _ _ _ _ _ => (d_llowest.call hr (by rfl) (by decide) (pa_cons (pe_op op_mod (pe_callTy call_int1 (by rfl) T.int PyProof.Rows.boot_int (pa_cons (ixl K (pv 9) (pe_op op_add (pe_op op_mul (pv 11) (pv 7)) (pv 16)) (fun _ _ => rfl)) pa_nil)) pe_int) (pa_cons (pe_op op_add pe_int (pe_op op_mod (pe_callTy call_int1 (by rfl) T.int PyProof.Rows.boot_int (pa_cons (pe_op op_fdiv (ixl K (pv 9) (pe_op op_add (pe_op op_mul (pv 11) (pv 7)) (pv 16)) (fun _ _ => rfl)) pe_int) pa_nil)) pe_int)) pa_nil))))) pa_nil)))
        pss_nil))
    (pss_cons (ps_set (i := 12) sc_lgame.nd rfl (Or.inl rfl) (pe_lst pa_nil))
    (pss_cons (ps_for PassesOwn.never rfl (pi_range1 rfl T.range (pa_cons (pe_op op_add pe_int (pe_callB (lenK K) (by rfl) T.len PySem.boot_len (pa_cons (pv 5) pa_nil))) pa_nil)) (pg_name (i := 13) sc_lgame.nd rfl (Or.inl rfl))
      (pss_cons (ps_set (i := 9) sc_lgame.nd rfl (Or.inr rfl) (d_lrow.call hr (by rfl) (by decide) (pa_cons (pv 0) (pa_cons (pe_op op_add (pe_op op_add (pv 1) pe_int) (pv 13)) (pa_cons (pe_op op_mul (pe_op op_mul (pv 4) (pv 7)) (pv 8)) pa_nil)))))
        (pss_cons (ps_set (i := 14) sc_lgame.nd rfl (Or.inl rfl) (pe_lst pa_nil))
        (pss_cons (ps_for PassesOwn.never rfl (pi_range1 rfl T.range (pa_cons (pv 4) pa_nil)) (pg_name (i := 11) sc_lgame.nd rfl (Or.inr rfl))
          (pss_cons (ps_set (i := 15) sc_lgame.nd rfl (Or.inl rfl) (pe_lst pa_nil))
            (pss_cons (ps_for PassesOwn.never rfl (pi_range1 rfl T.range (pa_cons (pv 7) pa_nil)) (pg_name (i := 16) sc_lgame.nd rfl (Or.inl rfl))
              (pss_cons (ps_set (i := 17) sc_lgame.nd rfl (Or.inr rfl) (pe_op op_mul (pe_op op_add (pe_op op_mul (pv 11) (pv 7)) (pv 16)) (pv 8)))
                (pss_cons (ps_expr (pe_bm PySem.F.plainAttrs_list PySem.F.slot_list_append PySem.F.type_list_append mt_append (pv 15) (pa_cons (pe_lc (own := [("_law_a", 18)]) (g := gName 18) (tt := tYes)  rfl sc_lgame.nd (pi_range1 rfl T.range (pa_cons (pv 8) pa_nil)) (blkOk_by (N := n_lgame) (sc := defScope s_lgame) (by decide +kernel)) (fun _ _ _ _ _ => pg_name (i := 18) sc_lgame.nd rfl (Or.inl rfl)) (fun _ _ _ _ _ => pts_nil) (fun _ _ _ _ _ => (d_lpay.call hr (by rfl) (by decide) (pa_cons (pv 3) (pa_cons (ixl K (pv 9) (pe_op op_add (pv 17) (pv 18)) (fun _ _ => rfl)) pa_nil))))) pa_nil)))
                pss_nil)))
            (pss_cons (ps_expr (pe_bm PySem.F.plainAttrs_list PySem.F.slot_list_append PySem.F.type_list_append mt_append (pv 14) (pa_cons (pv 15) pa_nil)))
            pss_nil))))
        (pss_cons (ps_expr (pe_bm PySem.F.plainAttrs_list PySem.F.slot_list_append PySem.F.type_list_append mt_append (pv 12) (pa_cons (pv 14) pa_nil)))
        pss_nil)))))
    (pss_cons (ps_ret (pe_tup (pa_cons (pv 4) (pa_cons (pv 5) (pa_cons (pv 6) (pa_cons (pv 10) (pa_cons (pv 12) pa_nil)))))))
    pss_nil)))))))))), fun E => ?_⟩
  have hp : place ≤ 10 := hp
  refine ok_asg (ev_call (script, place, 10) (eva_cons (ev_var rfl) (eva_cons (ev_var rfl) (eva_cons (ev_nat 10) eva_nil))) ⟨by show place ≤ 100; omega, by show 10 ≤ 100; omega⟩) fun sh hsh => ?_
  have hsh : Rw 10 sh := hsh
  refine ok_tup3 (ev_call sh (eva_cons (ev_var rfl) (eva_cons (ev_var rfl) eva_nil)) hsh) fun d dm => ?_
  have dm : Dm d.x d.y d.z := dm
  obtain ⟨M1, N1, M16, N16, SM⟩ := dm.pos
  have cap := dm.cap
  have s4 := dm.s4
  have k3 := dm.bk.1
  refine ok_asgD (ev_call d.y (eva_cons (ev_var rfl) eva_nil) fun b hb => by have := (dm.bk.2 b hb).2; omega) ?_
  refine ok_asgD (ev_call d.z (eva_cons (ev_var rfl) eva_nil) fun b hb => by have := (dm.ba.2 b hb).2; omega) ?_
  generalize hM : sizeN d.y = M at *
  generalize hN : sizeN d.z = N at *
  have hSM : d.x * M ≤ 100 := by omega
  have hSMN : d.x * M * N ≤ 100 := by omega
  refine ok_asg (ev_call (script, place + 1, d.x * M) (eva_cons (ev_var rfl) (eva_cons (ev_addN (ev_var rfl) (ev_nat 1)) (eva_cons (ev_mulN (ev_var (d := d.x) rfl) (ev_var (d := M) rfl) (.inl (by omega))) eva_nil))) ⟨by show place + 1 ≤ 100; omega, hSM⟩) fun row hrow => ?_
  obtain ⟨rl, rx⟩ : Rw (d.x * M) row := hrow
  refine ok_new (List Rat) ?_
  let G0 (row weights sS pays who part lines : Slot) : List Slot := [.dat script, .dat place, .dat (16 : Nat), .dat sh, .dat d.x, .dat d.y, .dat d.z, .dat M, .dat N, row, weights, sS, pays, who, part, lines, .any, .any, .any]
  refine ok_for (ι := List (List Rat)) (evi_range (ev_var (d := d.x) rfl) (by omega)) (fun i ws => LQ i (LQ M (Sz 2)) ws) (fun _ ws => G0 (.dat row) (.own ws) .any .any .any .any .any) [] LQ.nil
    (.keep rfl (.keep rfl (.keep rfl (.keep rfl (.keep rfl (.keep rfl (.keep rfl (.keep rfl (.keep rfl (.keep rfl (.keep rfl (.drop (.drop (.drop (.drop (.drop (.drop (.drop (.drop .nil))))))))))))))))))) (fun Fb i i' ws ei pw => ?_) (fun ws pw => ?_)
  · have li : i < d.x := by
      have := (List.getElem?_eq_some_iff.mp ei).1
      simpa using this
    rw [List.getElem?_range li] at ei
    cases ei
    have wl : ws.length = i := pw.1
    refine ok_append (xs := ws) rfl (by omega) (EvP.list (P' := LQ M (Sz 2)) (ev_lc (P := fun _ q => Sz 2 q) (evi_range (ev_var (d := M) rfl) (by omega)) (by rw [List.length_range]; omega) fun j k ek => ?_) fun x hx => LQ.of (by rw [List.length_range] at hx; exact hx)) fun x hx => ?_
    · have lk : k < M := by
        have l0 := (List.getElem?_eq_some_iff.mp ek).1
        rw [List.length_range] at l0
        rw [List.getElem?_range l0] at ek
        cases ek
        exact l0
      have la : i * M + k < row.length := by
        rw [rl]
        exact at_lt li lk
      have ix : ∀ {E : En} {Γ : List Slot}, Γ[9]? = some (.dat row) → Γ[11]? = some (.dat i) → Γ[7]? = some (.dat M) → Γ[16]? = some (.dat k) → Ev K E (tOp (rIxL K) (tVar 9) (tOp (rI0 fun i j => .int (i + j)) (tOp (rI CMul fun i j => .int (i * j)) (tVar 11) (tVar 7)) (tVar 16))) Γ (row.getD (i * M + k) 0) := fun h1 h2 h3 h4 =>
        ev_ixD (ev_var h1) (ev_addN (ev_mulN (ev_var h2) (ev_var h3) (.inl (by omega))) (ev_var h4)) la
      generalize hv : row.getD (i * M + k) 0 = v at ix
      have hq : 1 + v / 4 % 2 < 2 ^ 2 := by omega
      refine (ev_call (((v % 4 : Nat) : Int), 1 + v / 4 % 2) (eva_cons (Ev.int (ev_modN (ev_int1N (eva_cons (ix rfl rfl rfl rfl) eva_nil)) (ev_nat 4) (by decide))) (eva_cons (ev_addN (ev_nat 1) (ev_modN (ev_int1N (eva_cons (ev_divN (ix rfl rfl rfl rfl) (ev_nat 4) (by decide) (by decide)) eva_nil)) (ev_nat 2) (by decide))) eva_nil)) ⟨by show 1 + v / 4 % 2 ≠ 0; omega, Nat.lt_of_lt_of_le hq (Nat.pow_le_pow_right (by decide) (by decide))⟩).imp fun q e => ?_
      rw [e]
      exact Sz.mk (by omega) (by rw [Int.natAbs_natCast]; omega) (by omega)
    · refine ok_next fun σ H ⟨F, S⟩ => ⟨_, pw.snoc hx, F, S.weak (.keep rfl (.keep rfl (.keep rfl (.keep rfl (.keep rfl (.keep rfl (.keep rfl (.keep rfl (.keep rfl (.keep rfl (.keep rfl (.drop (.drop (.drop (.drop (.drop (.drop (.drop (.drop .nil)))))))))))))))))))⟩
  rw [List.length_range] at pw
  refine ok_freeze 10 (xs := ws) rfl ?_
  refine ok_new (List (List (List Rat))) ?_
  refine ok_for (ι := List (List (List (List Rat)))) (evi_range (ev_addN (ev_nat 1) (ev_len (eva_cons (ev_var (d := d.y) rfl) eva_nil))) (by omega)) (fun i ps => LQ i (LQ d.x (LQ M (LQ N (Sz 3)))) ps) (fun _ ps => G0 .any (.dat ws) .any (.own ps) .any .any .any) [] LQ.nil
    (.keep rfl (.keep rfl (.keep rfl (.keep rfl (.keep rfl (.keep rfl (.keep rfl (.keep rfl (.keep rfl (.drop (.keep rfl (.drop (.keep rfl (.drop (.drop (.drop (.drop (.drop (.drop .nil))))))))))))))))))) (fun Fb i i' ps ei pp => ?_) (fun ps pp => ?_)
  · have li : i < 1 + d.y.length := by
      have := (List.getElem?_eq_some_iff.mp ei).1
      simpa using this
    rw [List.getElem?_range li] at ei
    cases ei
    have psl : ps.length = i := pp.1
    refine ok_asg (ev_call (script, place + 2 + i, d.x * M * N) (eva_cons (ev_var rfl) (eva_cons (ev_addN (ev_addN (ev_var rfl) (ev_nat 2)) (ev_var rfl)) (eva_cons (ev_mulN (ev_mulN (ev_var (d := d.x) rfl) (ev_var (d := M) rfl) (.inl (by omega))) (ev_var (d := N) rfl) (.inr (by omega))) eva_nil))) ⟨by show place + 2 + i ≤ 100; omega, hSMN⟩) fun row hrow => ?_
    obtain ⟨rl, rx⟩ : Rw (d.x * M * N) row := hrow
    refine ok_new (List (List Rat)) ?_
    refine ok_for (ι := List (List (List Rat))) (evi_range (ev_var (d := d.x) rfl) (by omega)) (fun j pt => LQ j (LQ M (LQ N (Sz 3))) pt) (fun _ pt => G0 (.dat row) (.dat ws) .any (.own ps) (.dat i) (.own pt) .any) [] LQ.nil
      (.keep rfl (.keep rfl (.keep rfl (.keep rfl (.keep rfl (.keep rfl (.keep rfl (.keep rfl (.keep rfl (.keep rfl (.keep rfl (.drop (.keep rfl (.keep rfl (.keep rfl (.drop (.drop (.drop (.drop .nil))))))))))))))))))) (fun Fb2 j j' pt ej pj => ?_) (fun pt pj => ?_)
    · have lj : j < d.x := by
        have := (List.getElem?_eq_some_iff.mp ej).1
        simpa using this
      rw [List.getElem?_range lj] at ej
      cases ej
      have ptl : pt.length = j := pj.1
      refine ok_new (List Rat) ?_
      refine ok_for (ι := List (List Rat)) (evi_range (ev_var (d := M) rfl) (by omega)) (fun k ls => LQ k (LQ N (Sz 3)) ls) (fun _ ls => G0 (.dat row) (.dat ws) (.dat j) (.own ps) (.dat i) (.own pt) (.own ls)) [] LQ.nil
        (.keep rfl (.keep rfl (.keep rfl (.keep rfl (.keep rfl (.keep rfl (.keep rfl (.keep rfl (.keep rfl (.keep rfl (.keep rfl (.keep rfl (.keep rfl (.keep rfl (.keep rfl (.keep rfl (.drop (.drop (.drop .nil))))))))))))))))))) (fun Fb3 k k' ls ek pk => ?_) (fun ls pk => ?_)
      · have lk : k < M := by
          have := (List.getElem?_eq_some_iff.mp ek).1
          simpa using this
        rw [List.getElem?_range lk] at ek
        cases ek
        have lsl : ls.length = k := pk.1
        refine ok_asgD (ev_mulN (ev_addN (ev_mulN (ev_var (d := j) rfl) (ev_var (d := M) rfl) (.inl (by omega))) (ev_var (d := k) rfl)) (ev_var (d := N) rfl) (.inr (by omega))) ?_
        refine ok_append (xs := ls) rfl (by omega) (EvP.list (P' := LQ N (Sz 3)) (ev_lc (P := fun _ q => Sz 3 q) (evi_range (ev_var (d := N) rfl) (by omega)) (by rw [List.length_range]; omega) fun m a ea => ?_) fun x hx => LQ.of (by rw [List.length_range] at hx; exact hx)) fun x hx => ?_
        · have la : a < N := by
            have l0 := (List.getElem?_eq_some_iff.mp ea).1
            rw [List.length_range] at l0
            rw [List.getElem?_range l0] at ea
            cases ea
            exact l0
          have lr : (j * M + k) * N + a < row.length := by
            rw [rl]
            exact at_lt (at_lt lj lk) la
          exact ev_call (sh, row.getD ((j * M + k) * N + a) 0) (eva_cons (ev_var (d := sh) rfl) (eva_cons (ev_ixD (ev_var (d := row) rfl) (ev_addN (ev_var (d := (j * M + k) * N) rfl) (ev_var (d := a) rfl)) lr) eva_nil)) hsh.1
        · refine ok_next fun σ H ⟨F, S⟩ => ⟨_, pk.snoc hx, F, S.weak (.keep rfl (.keep rfl (.keep rfl (.keep rfl (.keep rfl (.keep rfl (.keep rfl (.keep rfl (.keep rfl (.keep rfl (.keep rfl (.keep rfl (.keep rfl (.keep rfl (.keep rfl (.keep rfl (.drop (.drop (.drop .nil)))))))))))))))))))⟩
      · rw [List.length_range] at pk
        refine ok_freeze 15 (xs := ls) rfl ?_
        refine ok_appendD (xs := pt) (d := ls) rfl (by omega) (ev_var (d := ls) rfl) ?_
        exact ok_next fun σ H ⟨F, S⟩ => ⟨_, pj.snoc pk, F, S.weak (.keep rfl (.keep rfl (.keep rfl (.keep rfl (.keep rfl (.keep rfl (.keep rfl (.keep rfl (.keep rfl (.keep rfl (.keep rfl (.drop (.keep rfl (.keep rfl (.keep rfl (.drop (.drop (.drop (.drop .nil)))))))))))))))))))⟩
    · rw [List.length_range] at pj
      refine ok_freeze 14 (xs := pt) rfl ?_
      refine ok_appendD (xs := ps) (d := pt) rfl (by omega) (ev_var (d := pt) rfl) ?_
      exact ok_next fun σ H ⟨F, S⟩ => ⟨_, pp.snoc pj, F, S.weak (.keep rfl (.keep rfl (.keep rfl (.keep rfl (.keep rfl (.keep rfl (.keep rfl (.keep rfl (.keep rfl (.drop (.keep rfl (.drop (.keep rfl (.drop (.drop (.drop (.drop (.drop (.drop .nil)))))))))))))))))))⟩
  · rw [List.length_range] at pp
    refine ok_freeze 12 (xs := ps) rfl ?_
    refine ok_ret (ev_tup5 (eva_cons (ev_var (d := d.x) rfl) (eva_cons (ev_var (d := d.y) rfl) (eva_cons (ev_var (d := d.z) rfl) (eva_cons (ev_var (d := ws) rfl) (eva_cons (ev_var (d := ps) rfl) eva_nil)))))) fun r e => ?_
    rw [e]
    subst hM hN
    exact wfg_of dm pw pp
abbrev prRule (K : PySem.W.Frag) : Sp := Pr K (fun x : List Int × Nat × GameT => [.dat x.1, .dat x.2.1, .dat x.2.2]) (fun x => x.2.1 ≤ 10 ∧ WfG (gm x.2.2)) (fun x (r : RuleT) => WfR (gm x.2.2) r)
theorem WfG.dm {t : GameT} (G : WfG (gm t)) : Dm t.x t.y t.z := ⟨G.s1, G.s4, G.bk, G.ba, G.k1, G.ka, G.cap⟩
theorem ok_lrule (T : Txt K mg z) (d_lrow : Df P w K mg base "_law_row" 1 p_lrow (prRow K)) (d_lsize : Df P w K mg base "_law_size" 1 p_lsize (prLsize K)) (d_lchances : Df P w K mg base "_law_chances" 3 p_lchances (prCh K)) (D : Dn K mg "_law_rule" "_law_rule" s_lrule p_lrule) : Df P w K mg base "_law_rule" 4 p_lrule (prRule K) := D.df fun f fd F => by
  refine fun_pr F sc_lrule (fun _ => rfl) fun cdv A outer s H X hr ⟨script, place, t⟩ ⟨hp, G⟩ => ?_
  refine ⟨_, (pss_cons (ps_asg (pv 2) (pg_tup rfl (pgs_cons (pg_name (i := 3) sc_lrule.nd rfl (Or.inl rfl)) (pgs_cons (pg_name (i := 4) sc_lrule.nd rfl (Or.inl rfl)) (pgs_cons (pg_name (i := 5) sc_lrule.nd rfl (Or.inl rfl)) (pgs_cons (pg_name (i := 6) sc_lrule.nd rfl (Or.inl rfl)) (pgs_cons (pg_name (i := 7) sc_lrule.nd rfl (Or.inl rfl)) pgs_nil)))))))
    (pss_cons (ps_set (i := 8) sc_lrule.nd rfl (Or.inl rfl) (d_lsize.call hr (by rfl) (by decide) (pa_cons (pv 4) pa_nil)))
    (pss_cons (ps_set (i := 9) sc_lrule.nd rfl (Or.inl rfl) (d_lsize.call hr (by rfl) (by decide) (pa_cons (pv 5) pa_nil)))
    (pss_cons (ps_set (i := 10) sc_lrule.nd rfl (Or.inl rfl) (d_lrow.call hr (by rfl) (by decide) (pa_cons (pv 0) (pa_cons (pv 1) (pa_cons (pe_op op_mul (pe_op op_mul (pv 3) (pv 8)) (pv 9)) pa_nil)))))
    (pss_cons (ps_set (i := 11) sc_lrule.nd rfl (Or.inl rfl) (pe_lst pa_nil))
    (pss_cons (ps_for PassesOwn.never rfl (pi_range1 rfl T.range (pa_cons (pv 3) pa_nil)) (pg_name (i := 12) sc_lrule.nd rfl (Or.inl rfl))
      (pss_cons (ps_set (i := 13) sc_lrule.nd rfl (Or.inl rfl) (pe_lst pa_nil))
        (pss_cons (ps_for PassesOwn.never rfl (pi_range1 rfl T.range (pa_cons (pv 8) pa_nil)) (pg_name (i := 14) sc_lrule.nd rfl (Or.inl rfl))
          (pss_cons (ps_set (i := 15) sc_lrule.nd rfl (Or.inl rfl) (pe_op op_mul (pe_op op_add (pe_op op_mul (pv 12) (pv 8)) (pv 14)) (pv 9)))
            (pss_cons (ps_expr (pe_bm PySem.F.plainAttrs_list PySem.F.slot_list_append PySem.F.type_list_append mt_append (pv 13) (pa_cons (d_lchances.call hr (by rfl) (by decide) (pa_cons (pe_slice (slK K) (pv 10) (po_some (pv 15)) (po_some (pe_op op_add (pv 15) (pv 9)))) pa_nil)) pa_nil)))
            pss_nil)))
        (pss_cons (ps_expr (pe_bm PySem.F.plainAttrs_list PySem.F.slot_list_append PySem.F.type_list_append mt_append (pv 11) (pa_cons (pv 13) pa_nil)))
        pss_nil))))
    (pss_cons (ps_ret (pv 11))
    pss_nil))))))), fun E => ?_⟩
  have hp : place ≤ 10 := hp
  have dm : Dm t.x t.y t.z := WfG.dm G
  obtain ⟨M1, N1, M16, N16, SM⟩ := dm.pos
  have cap := dm.cap
  have s4 := dm.s4
  refine ok_tup5 (ev_var (d := t) rfl) fun t' e => ?_
  subst e
  refine ok_asgD (ev_call t'.y (eva_cons (ev_var rfl) eva_nil) fun b hb => by have := (dm.bk.2 b hb).2; omega) ?_
  refine ok_asgD (ev_call t'.z (eva_cons (ev_var rfl) eva_nil) fun b hb => by have := (dm.ba.2 b hb).2; omega) ?_
  generalize hM : sizeN t'.y = M at *
  generalize hN : sizeN t'.z = N at *
  have hSMN : t'.x * M * N ≤ 100 := by omega
  refine ok_asg (ev_call (script, place, t'.x * M * N) (eva_cons (ev_var rfl) (eva_cons (ev_var rfl) (eva_cons (ev_mulN (ev_mulN (ev_var (d := t'.x) rfl) (ev_var (d := M) rfl) (.inl (by omega))) (ev_var (d := N) rfl) (.inr (by omega))) eva_nil))) ⟨by show place ≤ 100; omega, hSMN⟩) fun row hrow => ?_
  obtain ⟨rl, rx⟩ : Rw (t'.x * M * N) row := hrow
  refine ok_new (List (List Rat)) ?_
  let G0 (r s l : Slot) : List Slot := [.dat script, .dat place, .dat t', .dat t'.x, .dat t'.y, .dat t'.z, .dat t'.u, .dat t'.w, .dat M, .dat N, .dat row, r, s, l, .any, .any]
  refine ok_for (ι := RuleT) (evi_range (ev_var (d := t'.x) rfl) (by omega)) (fun j r => LQ j (LQ M (LQ N (Sz 6))) r) (fun _ r => G0 (.own r) .any .any) [] LQ.nil
    (.keep rfl (.keep rfl (.keep rfl (.keep rfl (.keep rfl (.keep rfl (.keep rfl (.keep rfl (.keep rfl (.keep rfl (.keep rfl (.keep rfl (.drop (.drop (.drop (.drop .nil)))))))))))))))) (fun Fb j j' r ej pj => ?_) (fun r pj => ?_)
  · have lj : j < t'.x := by
      have := (List.getElem?_eq_some_iff.mp ej).1
      simpa using this
    rw [List.getElem?_range lj] at ej
    cases ej
    have rjl : r.length = j := pj.1
    refine ok_new (List Rat) ?_
    refine ok_for (ι := List (List Rat)) (evi_range (ev_var (d := M) rfl) (by omega)) (fun k ls => LQ k (LQ N (Sz 6)) ls) (fun _ ls => G0 (.own r) (.dat j) (.own ls)) [] LQ.nil
      (.keep rfl (.keep rfl (.keep rfl (.keep rfl (.keep rfl (.keep rfl (.keep rfl (.keep rfl (.keep rfl (.keep rfl (.keep rfl (.keep rfl (.keep rfl (.keep rfl (.drop (.drop .nil)))))))))))))))) (fun Fb2 k k' ls ek pk => ?_) (fun ls pk => ?_)
    · have lk : k < M := by
        have := (List.getElem?_eq_some_iff.mp ek).1
        simpa using this
      rw [List.getElem?_range lk] at ek
      cases ek
      have lsl : ls.length = k := pk.1
      refine ok_asgD (ev_mulN (ev_addN (ev_mulN (ev_var (d := j) rfl) (ev_var (d := M) rfl) (.inl (by omega))) (ev_var (d := k) rfl)) (ev_var (d := N) rfl) (.inr (by omega))) ?_
      have le : (j * M + k) * N + N ≤ row.length := by
        rw [rl, ← Nat.succ_mul]
        exact Nat.mul_le_mul_right _ (at_lt lj lk)
      have lc : ((row.drop ((j * M + k) * N)).take ((j * M + k) * N + N - (j * M + k) * N)).length = N := by
        rw [List.length_take, List.length_drop]
        omega
      refine ok_append (xs := ls) rfl (by omega) (ev_call ((row.drop ((j * M + k) * N)).take ((j * M + k) * N + N - (j * M + k) * N)) (eva_cons (Ev.list (ev_cutNL (ev_var (d := row) rfl) (ev_var (d := (j * M + k) * N) rfl) (ev_addN (ev_var (d := (j * M + k) * N) rfl) (ev_var (d := N) rfl)))) eva_nil) ⟨by rw [lc]; exact N1, by rw [lc]; exact N16⟩) fun x hx => ?_
      have hx : Ch ((row.drop ((j * M + k) * N)).take ((j * M + k) * N + N - (j * M + k) * N)).length x := hx
      rw [lc] at hx
      exact ok_next fun σ H ⟨F, S⟩ => ⟨_, pk.snoc ⟨hx.l, hx.s6⟩, F, S.weak (.keep rfl (.keep rfl (.keep rfl (.keep rfl (.keep rfl (.keep rfl (.keep rfl (.keep rfl (.keep rfl (.keep rfl (.keep rfl (.keep rfl (.keep rfl (.keep rfl (.drop (.drop .nil))))))))))))))))⟩
    · rw [List.length_range] at pk
      refine ok_freeze 13 (xs := ls) rfl ?_
      refine ok_appendD (xs := r) (d := ls) rfl (by omega) (ev_var (d := ls) rfl) ?_
      exact ok_next fun σ H ⟨F, S⟩ => ⟨_, pj.snoc pk, F, S.weak (.keep rfl (.keep rfl (.keep rfl (.keep rfl (.keep rfl (.keep rfl (.keep rfl (.keep rfl (.keep rfl (.keep rfl (.keep rfl (.keep rfl (.drop (.drop (.drop (.drop .nil))))))))))))))))⟩
  · rw [List.length_range] at pj
    refine ok_freeze 11 (xs := r) rfl ?_
    refine ok_ret (ev_var (d := r) rfl) fun r' e => ?_
    rw [e]
    subst hM hN
    exact ⟨pj.1, fun x hx => ⟨(pj.2 x hx).1, fun y hy => (pj.2 x hx).2 y hy⟩⟩
abbrev prCopy (K : PySem.W.Frag) : Sp := Pr K (fun x : RuleT => [.dat x]) (fun x => x.length ≤ 100 ∧ ∀ y ∈ x, y.length ≤ 100) (fun x (r : RuleT) => r = x)
theorem ok_lcopy (T : Txt K mg z) (D : Dn K mg "_law_copy" "_law_copy" s_lcopy p_lcopy) : Df P w K mg base "_law_copy" 1 p_lcopy (prCopy K) := D.df fun f fd F => by
  refine fun_pr F sc_lcopy (fun _ => rfl) fun cdv A outer s H X hr r ⟨h1, h2⟩ => ?_
  refine ⟨_, (pss_cons (ps_ret (pe_lc (own := [("_law_part", 1)]) (g := gName 1) (tt := tYes)  rfl sc_lcopy.nd (listK K (pv 0)) (blkOk_by (N := n_lcopy) (sc := defScope s_lcopy) (by decide +kernel)) (fun _ _ _ _ _ => pg_name (i := 1) sc_lcopy.nd rfl (Or.inl rfl)) (fun _ _ _ _ _ => pts_nil) (fun _ _ _ _ _ => (pe_lc (own := [("_law_line", 2)]) (g := gName 2) (tt := tYes)  rfl sc_lcopy.nd (listK K (pv 1)) (blkD1 (N := n_lcopy) (sc := defScope s_lcopy) rfl rfl (by decide +kernel)) (fun _ _ _ _ _ => pg_name (i := 2) sc_lcopy.nd rfl (Or.inl rfl)) (fun _ _ _ _ _ => pts_nil) (fun _ _ _ _ _ => (pe_callTy (mkListK K) (by rfl) T.list PyProof.Rows.boot_list (pa_cons (pv 2) pa_nil)))))))
    pss_nil), fun E => ?_⟩
  refine ok_ret (ev_lcD (f := fun p : List (List Rat) => p.map fun l => l) (evi_list (ev_var (d := r) rfl)) (by omega) fun p hp => ev_lcD (f := fun l : List Rat => l) (evi_list (ev_var (d := p) rfl)) (by have := h2 p hp; omega) fun l _ => ev_list (eva_cons (ev_var (d := l) rfl) eva_nil)) fun d e => ?_
  rw [e]
  simp
abbrev prPo (K : PySem.W.Frag) : Sp := Pr K (fun x : GameT × RuleT => [.dat (gm x.1), .dat x.2, .dat x.1]) (fun x => WfG (gm x.1) ∧ WfR (gm x.1) x.2) (fun x (r : PaperT) => r = PF (gm x.1) x.2)
theorem ok_lpaper_of (T : Txt K mg z) (d_best_lie : Df P w K mg base "best_lie" 6 p_best_lie (prBl K)) (d_told_total : Df P w K mg base "told_total" 4 p_told_total (prTt K)) (D : Dn K mg "_law_paper_of" "_law_paper_of" s_lpaper_of p_lpaper_of) : Df P w K mg base "_law_paper_of" 7 p_lpaper_of (prPo K) := D.df fun f fd F => by
  refine fun_pr F sc_lpaper_of (fun _ => rfl) fun cdv A outer s H X hr ⟨t, rule⟩ ⟨G, R⟩ => ?_
  refine ⟨_, (pss_cons (ps_set (i := 3) sc_lpaper_of.nd rfl (Or.inl rfl) (pe_lst pa_nil))
    (pss_cons (ps_for PassesOwn.never rfl (pi_range1 rfl T.range (pa_cons (pe_callB (lenK K) (by rfl) T.len PySem.boot_len (pa_cons (ixt K (pv 2) pe_int (fun _ _ => rfl)) pa_nil)) pa_nil)) (pg_name (i := 4) sc_lpaper_of.nd rfl (Or.inr rfl))
      (pss_cons (ps_set (i := 5) sc_lpaper_of.nd rfl (Or.inl rfl) (pe_lst pa_nil))
        (pss_cons (ps_for PassesOwn.never rfl (pi_range1 rfl T.range (pa_cons (ixl K (ixt K (pv 2) pe_int (fun _ _ => rfl)) (pv 4) (fun _ _ => rfl)) pa_nil)) (pg_name (i := 6) sc_lpaper_of.nd rfl (Or.inr rfl))
          (pss_cons (ps_set (i := 7) sc_lpaper_of.nd rfl (Or.inl rfl) (pe_lst pa_nil))
            (pss_cons (ps_for PassesOwn.never rfl (pi_range1 rfl T.range (pa_cons (ixl K (ixt K (pv 2) pe_int (fun _ _ => rfl)) (pv 4) (fun _ _ => rfl)) pa_nil)) (pg_name (i := 8) sc_lpaper_of.nd rfl (Or.inr rfl))
              (pss_cons (ps_set (i := 9) sc_lpaper_of.nd rfl (Or.inr rfl) (ixt K (d_best_lie.call hr (by rfl) (by decide) (pa_cons (pv 0) (pa_cons (pv 1) (pa_cons (pv 4) (pa_cons (pv 6) (pa_cons (pv 8) pa_nil)))))) pe_int (fun _ _ => rfl)))
                (pss_cons (ps_expr (pe_bm PySem.F.plainAttrs_list PySem.F.slot_list_append PySem.F.type_list_append mt_append (pv 7) (pa_cons (pe_lc (own := [("_law_told", 10)]) (g := gName 10) (tt := tYes)  rfl sc_lpaper_of.nd (pi_range1 rfl T.range (pa_cons (ixl K (ixt K (pv 2) pe_int (fun _ _ => rfl)) (pv 4) (fun _ _ => rfl)) pa_nil)) (blkOk_by (N := n_lpaper_of) (sc := defScope s_lpaper_of) (by decide +kernel)) (fun _ _ _ _ _ => pg_name (i := 10) sc_lpaper_of.nd rfl (Or.inl rfl)) (fun _ _ _ _ _ => pts_nil) (fun _ _ _ _ _ => (d_told_total.call hr (by rfl) (by decide) (pa_cons (pv 0) (pa_cons (pv 1) (pa_cons (pv 4) (pa_cons (pv 6) (pa_cons (pv 8) (pa_cons (pv 10) (pa_cons (ixl K (pv 9) (pv 10) (fun _ _ => rfl)) pa_nil)))))))))) pa_nil)))
                pss_nil)))
            (pss_cons (ps_expr (pe_bm PySem.F.plainAttrs_list PySem.F.slot_list_append PySem.F.type_list_append mt_append (pv 5) (pa_cons (pv 7) pa_nil)))
            pss_nil))))
        (pss_cons (ps_expr (pe_bm PySem.F.plainAttrs_list PySem.F.slot_list_append PySem.F.type_list_append mt_append (pv 3) (pa_cons (pv 5) pa_nil)))
        pss_nil))))
    (pss_cons (ps_ret (pv 3))
    pss_nil))), fun E => ?_⟩
  generalize hg : gm t = g at *
  have G : WfG g := G
  have R : WfR g rule := R
  have ek : t.y = g.ks := by rw [← hg]; rfl
  have ea : t.z = g.as := by rw [← hg]; rfl
  have hk3 := G.bk.1
  have iK : ∀ {E : En} {Γ : List Slot}, Γ[2]? = some (.dat t) → Ev K E (tOp (rIxT K) (tVar 2) (tC (.int 1))) Γ g.ks := fun h => Ev.to (ev_t5_1 (ev_var h)) ek
  have iA : ∀ {E : En} {Γ : List Slot}, Γ[2]? = some (.dat t) → Ev K E (tOp (rIxT K) (tVar 2) (tC (.int 2))) Γ g.as := fun h => Ev.to (ev_t5_2 (ev_var h)) ea
  refine ok_new (List (List (List Rat))) ?_
  refine ok_forR (ev_len (eva_cons (iK rfl) eva_nil)) (by omega) (fun h => [.dat g, .dat rule, .dat t, .own ((List.range h).map (lhF g rule)), .any, .any, .any, .any, .any, .any, .any]) (.keep rfl (.keep rfl (.keep rfl (.keep rfl (.drop (.drop (.drop (.drop (.drop (.drop (.drop .nil))))))))))) (fun Fb h lh => ?_) ?_
  · have hK := G.kb lh
    have hA := G.ab lh
    have lha : h < g.as.length := by rw [G.ka]; exact lh
    refine ok_new (List (List Rat)) ?_
    refine ok_forR (ev_ixD (x := 0) (iK rfl) (ev_var (d := h) rfl) lh) (by omega) (fun i => [.dat g, .dat rule, .dat t, .own ((List.range h).map (lhF g rule)), .dat h, .own ((List.range i).map (liF g rule h)), .any, .any, .any, .any, .any]) (.keep rfl (.keep rfl (.keep rfl (.keep rfl (.keep rfl (.keep rfl (.drop (.drop (.drop (.drop (.drop .nil))))))))))) (fun Fb2 i li => ?_) ?_
    · refine ok_new (List Rat) ?_
      refine ok_forR (ev_ixD (x := 0) (iK rfl) (ev_var (d := h) rfl) lh) (by omega) (fun s => [.dat g, .dat rule, .dat t, .own ((List.range h).map (lhF g rule)), .dat h, .own ((List.range i).map (liF g rule h)), .dat i, .own ((List.range s).map (laF g rule h i)), .any, .any, .any]) (.keep rfl (.keep rfl (.keep rfl (.keep rfl (.keep rfl (.keep rfl (.keep rfl (.keep rfl (.drop (.drop (.drop .nil))))))))))) (fun Fb3 s ls => ?_) ?_
      · have I : Sin g rule h s := ⟨G, R, lh, ls⟩
        refine ok_asgD (ev_fst (ev_call (g, rule, h, i, s) (eva_cons (ev_var rfl) (eva_cons (ev_var rfl) (eva_cons (ev_var rfl) (eva_cons (ev_var rfl) (eva_cons (ev_var rfl) eva_nil))))) I)) ?_
        have dn : ∀ m, m < g.as.getD h 0 → m < ((BL g rule h i s).map (·.1)).length ∧ ((BL g rule h i s).map (·.1)).getD m 0 = (BA g rule h i s m).1 := fun m hm => by
          have l : m < ((BL g rule h i s).map (·.1)).length := by simp [BL]; exact hm
          refine ⟨l, ?_⟩
          have := getD_some (d := 0) l
          rw [List.getElem?_map] at this
          unfold BL at this ⊢
          rw [List.getElem?_map, List.getElem?_range hm] at this
          exact (Option.some.inj this).symm
        refine ok_appendD (xs := (List.range s).map (laF g rule h i)) (d := laF g rule h i s) rfl (by simp; omega) (ev_lcD (f := fun told => (BA g rule h i s told).2) (evi_range (ev_ixD (x := 0) (iA rfl) (ev_var (d := h) rfl) lha) (by omega)) (by rw [List.length_range]; omega) fun m hm => ?_) ?_
        · have lm := List.mem_range.mp hm
          obtain ⟨d1, d2⟩ := dn m lm
          have bo := BA_ok (i := i) (told := m) I
          refine Ev.to (ev_call (g, rule, h, i, s, m, ((BL g rule h i s).map (·.1)).getD m 0) (eva_cons (ev_var rfl) (eva_cons (ev_var rfl) (eva_cons (ev_var rfl) (eva_cons (ev_var rfl) (eva_cons (ev_var rfl) (eva_cons (ev_var rfl) (eva_cons (ev_ixD (ev_var (d := (BL g rule h i s).map (·.1)) rfl) (ev_var (d := m) rfl) d1) eva_nil))))))) (I.t (by rw [d2]; exact bo.2.1))) ?_
          show TT g rule h i s m (((BL g rule h i s).map (·.1)).getD m 0) = _
          rw [d2, bo.1]
        · exact ok_wk (.keep rfl (.keep rfl (.keep rfl (.keep rfl (.keep rfl (.keep rfl (.keep rfl (.keep (by rw [map_snoc]) (.drop (.drop (.drop .nil)))))))))))
      · refine ok_freeze 7 (xs := (List.range (g.ks.getD h 0)).map (laF g rule h i)) rfl ?_
        refine ok_appendD (xs := (List.range i).map (liF g rule h)) (d := liF g rule h i) rfl (by simp; omega) (ev_var rfl) ?_
        exact ok_wk (.keep rfl (.keep rfl (.keep rfl (.keep rfl (.keep rfl (.keep (by rw [map_snoc]) (.drop (.drop (.drop (.drop (.drop .nil)))))))))))
    · refine ok_freeze 5 (xs := (List.range (g.ks.getD h 0)).map (liF g rule h)) rfl ?_
      refine ok_appendD (xs := (List.range h).map (lhF g rule)) (d := lhF g rule h) rfl (by simp; omega) (ev_var rfl) ?_
      exact ok_wk (.keep rfl (.keep rfl (.keep rfl (.keep (by rw [map_snoc]) (.drop (.drop (.drop (.drop (.drop (.drop (.drop .nil)))))))))))
  · refine ok_freeze 3 (xs := (List.range g.ks.length).map (lhF g rule)) rfl ?_
    exact ok_ret (ev_var (d := PF g rule) rfl) fun d e => e
end
end Tm

namespace Tm
open PySem L2
abbrev s_Game_init : Stmt := inClass (topS 16) 0
abbrev n_Game_init : List Str := ["self", "states", "kinds", "acts", "weights", "pays", "row", "who", "part"]
abbrev p_Game_init : List Str := ["self", "states", "kinds", "acts", "weights", "pays"]
theorem sc_Game_init : FnScope n_Game_init p_Game_init (defScope s_Game_init) := ⟨rfl, rfl, rfl, by decide +kernel, rfl, by decide +kernel, by decide +kernel⟩
abbrev s_lmade : Stmt := topS 46
abbrev n_lmade : List Str := ["_law_game_here", "_law_states", "_law_kinds", "_law_acts", "_law_weights", "_law_pays", "_law_copied", "_law_who", "_law_part", "_law_line"]
abbrev p_lmade : List Str := ["_law_game_here"]
theorem sc_lmade : FnScope n_lmade p_lmade (defScope s_lmade) := ⟨rfl, rfl, rfl, by decide +kernel, rfl, by decide +kernel, by decide +kernel⟩
abbrev s_lmoved : Stmt := topS 50
abbrev n_lmoved : List Str := ["_law_paper", "_law_row_here", "_law_move", "_law_copied", "_law_one", "_law_part", "_law_line"]
abbrev p_lmoved : List Str := ["_law_paper", "_law_row_here", "_law_move"]
theorem sc_lmoved : FnScope n_lmoved p_lmoved (defScope s_lmoved) := ⟨rfl, rfl, rfl, by decide +kernel, rfl, by decide +kernel, by decide +kernel⟩
/-! ### a Game is made -/
def er (H : Hp) (p : Addr) : Hp := fun b => if b = p then none else H b
def small (g : Gm) : Prop := g.ws.length ≤ 100 ∧ g.ps.length ≤ 100 ∧ ∀ x ∈ g.ps, x.length ≤ 100 ∧ ∀ y ∈ x, y.length ≤ 100
def spInit (K : PySem.W.Frag) (C : Addr) : Sp := fun vs H Q _ => ∃ (F : Hp) (p dx : Addr) (g : Gm) (vs' : List V), vs = .ref p :: vs' ∧ H p = some (.ins C dx []) ∧ F p = none ∧ Same F H ∧
  RepsS K F vs' [.dat g.s, .dat g.ks, .dat g.as, .dat g.ws, .dat g.ps] ∧ small g ∧ ∀ F' H', Ext F (er H p) F' H' → Py.rep K F' (.ref p) g → Q .non H'
structure Mg (P : Program) (w : World) (K : PySem.W.Frag) (mg : Str → Option Value) (base : Heap) (k : Nat) : Prop where
  ex : ∃ (C f : Addr) (fd : FuncData), Mk K C f ∧ FnOk P w K mg base CX0 k f fd p_Game_init (spInit K C) ∧ mg "Game" = some (.ref C) ∧ Binds K fd p_Game_init [] ∧ GmC K C
def tGame (K : PySem.W.Frag) (t : TA) : TE := fun σ H Q => ∀ C, GmC K C → tMake C (spInit K C) [] E0 t σ H Q
theorem Mg.call {X : Cx} {k n : Nat} {p pos : Pos} {e : Expr} {es : List Expr} {t : TA} (M : Mg X.prog X.w X.K X.mg X.base k) (hr : Room n X.A) (hg : Gl X "Game") (l : k + 1 ≤ n) (ha : PA X (e :: es) t)
    (he : starEach (e :: es) X.env = (false, eval e X.env) :: starEach es X.env := by rfl) (hpl : (backTo pos (starEach es X.env)).any (·.1) = false := by rfl) : PE X (.Call (.Name "Game" p) (e :: es) [] pos) (tGame X.K t) := by
  obtain ⟨C, f, fd, mk, F, m, b, c⟩ := M.ex
  exact ⟨fun pins s σ H Q I h => (pe_make mk F (hr.mono l) hg m b .nil pass0 ha (he := he) (hpl := hpl)).run pins s σ H Q I (h C c)⟩
section
variable {K : PySem.W.Frag} {E : En} {F H : Hp} {σ : St} {Γ : List Slot}
theorem ev_game {ta : TA} {g : Gm} (h : EvA K E ta Γ [.dat g.s, .dat g.ks, .dat g.as, .dat g.ws, .dat g.ps]) (sm : small g) : Ev K E (tGame K ta) Γ g := fun F H σ S Q q C c => by
  refine h F H σ S _ fun vs F1 H1 x r => ?_
  intro a dx ha hdx ne
  rw [List.append_nil]
  have eq : er (upd (upd H1 dx (.own a)) a (.ins C dx [])) a = upd H1 dx (.own a) := by
    funext b
    unfold er
    by_cases c : b = a
    · subst c
      rw [if_pos rfl, upd_ne ne.symm, ha]
    · rw [if_neg c, upd_ne c]
  have y : Ext F1 H1 F1 (upd H1 dx (.own a)) := Ext.raw x.fh hdx
  refine ⟨F1, a, dx, g, vs, rfl, upd_same, x.fh.free ha, ?_, r, sm, fun F' H' e rd => ⟨rfl, q g _ F' H' rfl ((x.trans y).trans (by rw [eq] at e; exact e)) rd⟩⟩
  refine y.fh.trans (same_new ?_)
  rw [upd_ne ne.symm]
  exact ha
/-- the slots of a start with one that is not told -/
theorem stt_args {H0 : Hp} {v0 : V} {vs : List V} {ss : List Slot} {m : Nat} (x : Ext F H0 F H) (s0 : Same F H0) (r : RepsS K F vs ss) : Stt K ⟨F, H0, F⟩ F H (some v0 :: (vs.map some ++ List.replicate m none)) (.any :: (ss ++ List.replicate m .any)) := by
  have e := r.len
  have no : ∀ (i : Nat) (s : Slot), (Slot.any :: (ss ++ List.replicate m .any))[i]? = some s → s.isOwn = true → False := by
    intro i s k o
    cases i with
    | zero =>
      cases k
      exact nomatch o
    | succ i =>
      rw [List.getElem?_cons_succ] at k
      by_cases c : i < ss.length
      · rw [List.getElem?_append_left c] at k
        obtain ⟨v, α', inst, d, rfl, h1, h2⟩ := r.get k
        exact nomatch o
      · rw [List.getElem?_append_right (by omega), List.getElem?_replicate] at k
        split at k
        · cases k
          exact nomatch o
        · cases k
  refine ⟨s0, x, Same.refl _, by simp [e], fun i t k => ?_, fun i j t u a n k1 k2 o1 o2 => (no i t k1 o1).elim⟩
  cases i with
  | zero =>
    cases k
    exact ⟨_, rfl, trivial⟩
  | succ i =>
    rw [List.getElem?_cons_succ] at k ⊢
    by_cases c : i < ss.length
    · rw [List.getElem?_append_left c] at k
      obtain ⟨v, α', inst, d, rfl, h1, h2⟩ := r.get k
      refine ⟨some v, ?_, v, rfl, h2⟩
      rw [List.getElem?_append_left (by simp; omega), List.getElem?_map, h1]
      rfl
    · rw [List.getElem?_append_right (by omega), List.getElem?_replicate] at k
      split at k
      · rename_i l
        cases k
        refine ⟨none, ?_, trivial⟩
        rw [List.getElem?_append_right (by simp; omega), List.getElem?_replicate, if_pos (by simp; omega)]
      · cases k
/-- self.f = e -/
theorem fld_step {α : Type} [Py α] {te : TE} {d : α} {f : Str} {p C dx : Addr} {fs : List (Str × V)} {D : Ends} {rest : TS} (S : Stt K E F H σ Γ) (hσ : σ[0]? = some (some (.ref p))) (no : ∀ (i : Nat) (s : Slot), Γ[i]? = some s → s.isOwn = false)
    (hp : H p = some (.ins C dx fs)) (fp : F p = none) (h0 : E.H0 p = none) (c : Cls K C) (n : NoAttr K C f) (hl : fs.length < 1000) (he : Ev K E te Γ d)
    (k : ∀ (v : V) (F' H' : Hp), Same F F' → Stt K E F' H' σ Γ → H' p = some (.ins C dx (putF f v fs)) → F' p = none → Py.rep K F' v d → rest D σ H') : tSeq (sFld K (tVar 0) te f) rest D σ H := by
  refine he F H σ S _ fun d' v F1 H1 e x r => ?_
  subst e
  refine ⟨.ref p, hσ, p, C, dx, fs, rfl, x.hh _ _ hp, c, n, hl, ?_⟩
  have fp1 := x.fr _ _ fp hp
  refine k v F1 _ x.ff ((S.mono x).mutAt fp1 h0 fun j s a kj oj ej => ?_) upd_same fp1 r
  rw [no j s kj] at oj
  cases oj
end
section
variable {P : Program} {w : World} {K : PySem.W.Frag} {mg : Str → Option Value} {base : Heap} {z : Addr}
theorem lk {f g : Str} {v : V} {fs : List (Str × V)} (h : g ≠ f) : (putF f v fs).lookup g = fs.lookup g := by rw [lookup_putF, if_neg h]
theorem lk0 {f : Str} {v : V} {fs : List (Str × V)} : (putF f v fs).lookup f = some v := by rw [lookup_putF, if_pos rfl]
theorem putF_len (f : Str) (v : V) : ∀ fs : List (Str × V), (putF f v fs).length ≤ fs.length + 1
  | [] => Nat.le_refl _
  | (g, y) :: fs => by
    unfold putF
    split
    · simp
    · have := putF_len f v fs
      simp
      exact this
theorem ok_init (T : Txt K mg z) {f C : Addr} {fd : FuncData} (F : Fun K "__init__" "Game.__init__" s_Game_init f fd) (c : GmC K C) : FnOk P w K mg base CX0 1 f fd p_Game_init (spInit K C) := by
  refine F.ok sc_Game_init (fun vs H Q E h => ?_) (fun cdv A outer s H vs Q E hr h => ?_)
  · obtain ⟨F, p, dx, g, vs', rfl, _, _, _, r, _⟩ := h
    show vs'.length + 1 = 6
    rw [r.len]
    rfl
  · obtain ⟨F, p, dx, g, vs', rfl, hp, fp, sm, r, ⟨sm1, sm2, sm3⟩, q⟩ := h
    refine ⟨_, (pss_cons (ps_fld (pv 0) (pv 1) rfl)
    (pss_cons (ps_fld (pv 0) (pe_callTy (mkListK K) (by rfl) T.list PyProof.Rows.boot_list (pa_cons (pv 2) pa_nil)) rfl)
    (pss_cons (ps_fld (pv 0) (pe_callTy (mkListK K) (by rfl) T.list PyProof.Rows.boot_list (pa_cons (pv 3) pa_nil)) rfl)
    (pss_cons (ps_fld (pv 0) (pe_lc (own := [("row", 6)]) (g := gName 6) (tt := tYes)  rfl sc_Game_init.nd (listK K (pv 4)) (blkOk_by (N := n_Game_init) (sc := defScope s_Game_init) (by decide +kernel)) (fun _ _ _ _ _ => pg_name (i := 6) sc_Game_init.nd rfl (Or.inl rfl)) (fun _ _ _ _ _ => pts_nil) (fun _ _ _ _ _ => (pe_callTy (mkListK K) (by rfl) T.list PyProof.Rows.boot_list (pa_cons (pv 6) pa_nil)))) rfl)
    (pss_cons (ps_fld (pv 0) (pe_lc (own := [("who", 7)]) (g := gName 7) (tt := tYes)  rfl sc_Game_init.nd (listK K (pv 5)) (blkOk_by (N := n_Game_init) (sc := defScope s_Game_init) (by decide +kernel)) (fun _ _ _ _ _ => pg_name (i := 7) sc_Game_init.nd rfl (Or.inl rfl)) (fun _ _ _ _ _ => pts_nil) (fun _ _ _ _ _ => (pe_lc (own := [("part", 8)]) (g := gName 8) (tt := tYes)  rfl sc_Game_init.nd (listK K (pv 7)) (blkD1 (N := n_Game_init) (sc := defScope s_Game_init) rfl rfl (by decide +kernel)) (fun _ _ _ _ _ => pg_name (i := 8) sc_Game_init.nd rfl (Or.inl rfl)) (fun _ _ _ _ _ => pts_nil) (fun _ _ _ _ _ => (pe_lc (own := [("row", 6)]) (g := gName 6) (tt := tYes)  rfl sc_Game_init.nd (listK K (pv 8)) (blkD2 (N := n_Game_init) (sc := defScope s_Game_init) rfl rfl (by decide +kernel)) (fun _ _ _ _ _ => pg_name (i := 6) sc_Game_init.nd rfl (Or.inl rfl)) (fun _ _ _ _ _ => pts_nil) (fun _ _ _ _ _ => (pe_callTy (mkListK K) (by rfl) T.list PyProof.Rows.boot_list (pa_cons (pv 6) pa_nil)))))))) rfl)
    pss_nil))))), ?_⟩
    have x0 : Ext F (er H p) F H := ⟨Same.refl _, sm, fun b o e => by
      unfold er at e
      split at e
      · cases e
      · exact e, fun b o h _ => h⟩
    have s0 : Same F (er H p) := fun b o e => by
      unfold er
      rw [if_neg (ne_of_none e fp)]
      exact sm _ _ e
    have e0 : (er H p) p = none := by
      unfold er
      rw [if_pos rfl]
    have S0 := stt_args (K := K) (v0 := .ref p) (m := 3) x0 s0 r
    have hs : L2.start n_Game_init (.ref p :: vs') = some (.ref p) :: (vs'.map some ++ List.replicate 3 none) := by
      have e5 : vs'.length = 5 := r.len
      have h9 : n_Game_init.length - (V.ref p :: vs').length = 3 := by
        show 9 - (vs'.length + 1) = 3
        rw [e5]
      unfold L2.start
      rw [h9]
      rfl
    rw [hs]
    have no : ∀ (i : Nat) (s : Slot), (Slot.any :: ([.dat g.s, .dat g.ks, .dat g.as, .dat g.ws, .dat g.ps] ++ List.replicate 3 Slot.any))[i]? = some s → s.isOwn = false := by
      intro i s k
      match i, k with
      | 0, k => cases k; rfl
      | 1, k => cases k; rfl
      | 2, k => cases k; rfl
      | 3, k => cases k; rfl
      | 4, k => cases k; rfl
      | 5, k => cases k; rfl
      | 6, k => cases k; rfl
      | 7, k => cases k; rfl
      | 8, k => cases k; rfl
    refine fld_step S0 rfl no hp fp e0 c.cl c.nS (by decide) (ev_var (d := g.s) rfl) fun v1 F1 H1 m1 S1 hp1 fp1 r1 => ?_
    refine fld_step S1 rfl no hp1 fp1 e0 c.cl c.nK (Nat.lt_of_le_of_lt (putF_len _ _ _) (by decide)) (ev_list (eva_cons (ev_var (d := g.ks) rfl) eva_nil)) fun v2 F2 H2 m2 S2 hp2 fp2 r2 => ?_
    have l2 : (putF "kinds" v2 (putF "states" v1 [])).length ≤ 2 := Nat.le_trans (putF_len _ _ _) (Nat.succ_le_succ (putF_len _ _ _))
    refine fld_step S2 rfl no hp2 fp2 e0 c.cl c.nA (Nat.lt_of_le_of_lt l2 (by decide)) (ev_list (eva_cons (ev_var (d := g.as) rfl) eva_nil)) fun v3 F3 H3 m3 S3 hp3 fp3 r3 => ?_
    have l3 := Nat.le_trans (putF_len "acts" v3 _) (Nat.succ_le_succ l2)
    refine fld_step (d := g.ws.map fun l => l) S3 rfl no hp3 fp3 e0 c.cl c.nW (Nat.lt_of_le_of_lt l3 (by decide)) (ev_lcD (f := fun l : List Rat => l) (evi_list (ev_var (d := g.ws) rfl)) (by omega) fun l _ => ev_list (eva_cons (ev_var (d := l) rfl) eva_nil)) fun v4 F4 H4 m4 S4 hp4 fp4 r4 => ?_
    have l4 := Nat.le_trans (putF_len "weights" v4 _) (Nat.succ_le_succ l3)
    refine fld_step (d := g.ps.map fun q : List (List (List Rat)) => q.map fun p : List (List Rat) => p.map fun l : List Rat => l) S4 rfl no hp4 fp4 e0 c.cl c.nP (Nat.lt_of_le_of_lt l4 (by decide))
      (ev_lcD (f := fun q : List (List (List Rat)) => q.map fun p : List (List Rat) => p.map fun l : List Rat => l) (evi_list (ev_var (d := g.ps) rfl)) (by omega) fun q hq => ev_lcD (f := fun p : List (List Rat) => p.map fun l : List Rat => l) (evi_list (ev_var (d := q) rfl)) (by have := (sm3 q hq).1; omega) fun p hp => ev_lcD (f := fun l : List Rat => l) (evi_list (ev_var (d := p) rfl)) (by have := (sm3 q hq).2 p hp; omega) fun l _ => ev_list (eva_cons (ev_var (d := l) rfl) eva_nil)) fun v5 F5 H5 m5 S5 hp5 fp5 r5 => ?_
    have m45 := m5
    have m35 := m4.trans m45
    have m25 := m3.trans m35
    have m15 := m2.trans m25
    have n5 := same_new (o := HO.ins C dx (putF "pays" v5 (putF "weights" v4 (putF "acts" v3 (putF "kinds" v2 (putF "states" v1 [])))))) fp5
    rw [List.map_id'] at r4
    have e5 : (g.ps.map fun q : List (List (List Rat)) => q.map fun p : List (List Rat) => p.map fun l : List Rat => l) = g.ps := by simp
    rw [e5] at r5
    refine q _ _ (S5.ext.freeze s0 hp5 fp5 e0) ⟨p, C, dx, _, v1, v2, v3, v4, v5, rfl, upd_same, c, ⟨?_, Py.mono (m15.trans n5) r1⟩, ⟨?_, Py.mono (m25.trans n5) r2⟩, ⟨?_, Py.mono (m35.trans n5) r3⟩, ⟨?_, Py.mono (m45.trans n5) r4⟩, lk0, Py.mono n5 r5⟩
    · rw [lk (by decide +kernel), lk (by decide +kernel), lk (by decide +kernel), lk (by decide +kernel), lk0]
    · rw [lk (by decide +kernel), lk (by decide +kernel), lk (by decide +kernel), lk0]
    · rw [lk (by decide +kernel), lk (by decide +kernel), lk0]
    · rw [lk (by decide +kernel), lk0]
abbrev prMade (K : PySem.W.Frag) : Sp := Pr K (fun x : GameT => [.dat x]) (fun x => WfG (gm x)) (fun x (r : Gm) => r = gm x)
theorem WfG.small {g : Gm} (G : WfG g) : small g := by
  have h1 := G.s4
  have h2 := sizeN_le G.bk
  have h3 := G.bk.1
  refine ⟨by rw [G.wl]; omega, by rw [G.pl]; omega, fun x hx => ⟨by rw [(G.pk x hx).1]; omega, fun y hy => by rw [((G.pk x hx).2 y hy).1]; omega⟩⟩
theorem ok_lmade (T : Txt K mg z) (mk_Game : Mg P w K mg base 1) (D : Dn K mg "_law_made" "_law_made" s_lmade p_lmade) : Df P w K mg base "_law_made" 3 p_lmade (prMade K) := D.df fun f fd F => by
  refine fun_pr F sc_lmade (fun _ => rfl) fun cdv A outer s H X hr t G => ?_
  refine ⟨_, (pss_cons (ps_asg (pv 0) (pg_tup rfl (pgs_cons (pg_name (i := 1) sc_lmade.nd rfl (Or.inl rfl)) (pgs_cons (pg_name (i := 2) sc_lmade.nd rfl (Or.inl rfl)) (pgs_cons (pg_name (i := 3) sc_lmade.nd rfl (Or.inl rfl)) (pgs_cons (pg_name (i := 4) sc_lmade.nd rfl (Or.inl rfl)) (pgs_cons (pg_name (i := 5) sc_lmade.nd rfl (Or.inl rfl)) pgs_nil)))))))
    (pss_cons (ps_setLc (i := 6) (own := [("_law_who", 7)]) (g := gName 7) (tt := tYes)  rfl sc_lmade.nd rfl rfl (sw_true rfl rfl rfl (by decide +kernel)) (listK K (pv 5)) (blkOk_by (N := n_lmade) (sc := defScope s_lmade) (by decide +kernel)) (fun _ _ _ _ _ => pg_name (i := 7) sc_lmade.nd rfl (Or.inl rfl)) (fun _ _ _ _ _ => pts_nil) (fun _ _ _ _ _ => (pe_lc (own := [("_law_part", 8)]) (g := gName 8) (tt := tYes)  rfl sc_lmade.nd (listK K (pv 7)) (blkD1 (N := n_lmade) (sc := defScope s_lmade) rfl rfl (by decide +kernel)) (fun _ _ _ _ _ => pg_name (i := 8) sc_lmade.nd rfl (Or.inl rfl)) (fun _ _ _ _ _ => pts_nil) (fun _ _ _ _ _ => (pe_lc (own := [("_law_line", 9)]) (g := gName 9) (tt := tYes)  rfl sc_lmade.nd (listK K (pv 8)) (blkD2 (N := n_lmade) (sc := defScope s_lmade) rfl rfl (by decide +kernel)) (fun _ _ _ _ _ => pg_name (i := 9) sc_lmade.nd rfl (Or.inl rfl)) (fun _ _ _ _ _ => pts_nil) (fun _ _ _ _ _ => (pe_callTy (mkListK K) (by rfl) T.list PyProof.Rows.boot_list (pa_cons (pv 9) pa_nil))))))))
    (pss_cons (ps_ret (mk_Game.call hr (by rfl) (by decide) (pa_cons (pv 1) (pa_cons (pe_callTy (mkListK K) (by rfl) T.list PyProof.Rows.boot_list (pa_cons (pv 2) pa_nil)) (pa_cons (pe_callTy (mkListK K) (by rfl) T.list PyProof.Rows.boot_list (pa_cons (pv 3) pa_nil)) (pa_cons (pe_lc (own := [("_law_line", 9)]) (g := gName 9) (tt := tYes)  rfl sc_lmade.nd (listK K (pv 4)) (blkOk_by (N := n_lmade) (sc := defScope s_lmade) (by decide +kernel)) (fun _ _ _ _ _ => pg_name (i := 9) sc_lmade.nd rfl (Or.inl rfl)) (fun _ _ _ _ _ => pts_nil) (fun _ _ _ _ _ => (pe_callTy (mkListK K) (by rfl) T.list PyProof.Rows.boot_list (pa_cons (pv 9) pa_nil)))) (pa_cons (pv 6) pa_nil)))))))
    pss_nil))), fun E => ?_⟩
  have G : WfG (gm t) := G
  obtain ⟨sm1, sm2, sm3⟩ := G.small
  have sm1 : t.u.length ≤ 100 := sm1
  have sm2 : t.w.length ≤ 100 := sm2
  have sm3 : ∀ x ∈ t.w, x.length ≤ 100 ∧ ∀ y ∈ x, y.length ≤ 100 := sm3
  refine ok_tup5 (ev_var (d := t) rfl) fun t' e => ?_
  subst e
  refine ok_asgD (d := t'.w.map fun q : List (List (List Rat)) => q.map fun p : List (List Rat) => p.map fun l : List Rat => l)
    (ev_lcD (f := fun q : List (List (List Rat)) => q.map fun p : List (List Rat) => p.map fun l : List Rat => l) (evi_list (ev_var (d := t'.w) rfl)) (by omega) fun q hq => ev_lcD (f := fun p : List (List Rat) => p.map fun l : List Rat => l) (evi_list (ev_var (d := q) rfl)) (by have := (sm3 q hq).1; omega) fun p hp => ev_lcD (f := fun l : List Rat => l) (evi_list (ev_var (d := p) rfl)) (by have := (sm3 q hq).2 p hp; omega) fun l _ => ev_list (eva_cons (ev_var (d := l) rfl) eva_nil)) ?_
  have e5 : (t'.w.map fun q : List (List (List Rat)) => q.map fun p : List (List Rat) => p.map fun l : List Rat => l) = t'.w := by simp
  rw [e5]
  have e4 : (t'.u.map fun l : List Rat => l) = t'.u := by simp
  refine ok_ret (ev_game (g := gm t') (eva_cons (ev_var (d := t'.x) rfl) (eva_cons (ev_list (eva_cons (ev_var (d := t'.y) rfl) eva_nil)) (eva_cons (ev_list (eva_cons (ev_var (d := t'.z) rfl) eva_nil)) (eva_cons (Ev.to (ev_lcD (f := fun l : List Rat => l) (evi_list (ev_var (d := t'.u) rfl)) (by omega) fun l _ => ev_list (eva_cons (ev_var (d := l) rfl) eva_nil)) e4) (eva_cons (ev_var (d := t'.w) rfl) eva_nil))))) ⟨sm1, sm2, sm3⟩) fun d e => e
end
end Tm

namespace Tm
open PySem L2
/-! ### a paper is changed at one place -/
/-- the written part is not tracked -/
def NoK (K : PySem.W.Frag) (H : Hp) : Prop := ∀ (a : Addr) (o : Obj), K.lookup a = some o → H a = none
def tNok (K : PySem.W.Frag) (t : TE) : TE := fun σ H Q => t σ H fun v H' => NoK K H' → Q v H'
theorem pe_nok {X : Cx} {e : Expr} {t : TE} (K : PySem.W.Frag) (h : PE X e t) (hK : X.K = K := by rfl) : PE X e (tNok K t) := by
  subst hK
  exact ⟨fun pins s σ H Q I hw => thn (h.run pins s σ H _ I hw) fun u s' ⟨v, H', I', r, q⟩ => ⟨v, H', I', r, q fun a o ho => (I'.bs a o (I'.ok.mod.kin a o ho)).2⟩⟩
def PSn (n : Nat) (paper : PaperT) : Prop := ∀ a ∈ paper, ∀ b ∈ a, ∀ c ∈ b, ∀ q ∈ c, Sz n q
section
variable {K : PySem.W.Frag} {F F3 H : Hp} {l : Addr} {vs ws : List V}
/-- what a frozen part becomes when the list at l is another -/
structure Chg (K : PySem.W.Frag) (F F3 : Hp) (l : Addr) (vs ws : List V) : Prop where
  at_ : F l = some (.lst vs)
  new : F3 l = some (.lst ws)
  else_ : ∀ b o, b ≠ l → F b = some o → F3 b = some o
  nok : ∀ a o u, K.lookup a = some o → F a = some u → False
theorem Chg.tup (c : Chg K F F3 l vs ws) {a : Addr} {xs : List V} (h : SqT K F a xs) : SqT K F3 a xs := by
  have ne : ∀ u, F a = some u → u ≠ .lst vs → a ≠ l := fun u e n q => by
    rw [q, c.at_] at e
    exact n (Option.some.inj e).symm
  rcases h with (h | ⟨o, h⟩) | h
  · exact .inl (.inl (c.else_ _ _ (ne _ h (by intro q; cases q)) h))
  · exact .inl (.inr ⟨o, c.else_ _ _ (ne _ h (by intro q; cases q)) h⟩)
  · exact .inr h
theorem Chg.rat (c : Chg K F F3 l vs ws) {v : V} {q : Rat} (h : Py.rep K F v q) : Py.rep K F3 v q := by
  obtain ⟨a, rfl, h⟩ := h
  exact ⟨a, rfl, c.tup h⟩
theorem reps_map {α β : Type} [Py α] [Py β] {P : β → Prop} : ∀ {us : List V} {xs : List α}, us.length = xs.length → (∀ (i : Nat) (u : V) (x : α), us[i]? = some u → xs[i]? = some x → ∃ x' : β, Py.rep K F3 u x' ∧ P x') →
    ∃ ys : List β, Reps K F3 us ys ∧ ∀ y ∈ ys, P y
  | [], [], _, _ => ⟨[], Reps.nil, fun y h => by simp at h⟩
  | u :: us, x :: xs, hl, h => by
    obtain ⟨y, h1, h2⟩ := h 0 u x rfl rfl
    obtain ⟨ys, h3, h4⟩ := reps_map (us := us) (xs := xs) (by simpa using hl) fun i v z e1 e2 => h (i + 1) v z (by simpa using e1) (by simpa using e2)
    refine ⟨y :: ys, ⟨by simp [h3.1], fun i v z e1 e2 => ?_⟩, fun w hw => ?_⟩
    · cases i with
      | zero =>
        simp at e1 e2
        rw [← e1, ← e2]
        exact h1
      | succ i => exact h3.2 i v z (by simpa using e1) (by simpa using e2)
    · rcases List.mem_cons.mp hw with rfl | k
      · exact h2
      · exact h4 w k
  | [], _ :: _, hl, _ => by simp at hl
  | _ :: _, [], hl, _ => by simp at hl
variable {H0 : Hp}
/-- the line itself, or another line -/
theorem Chg.line (c : Chg K F F3 l vs ws) {n : Nat} {ls : List Rat} (lw : Reps K F3 ws ls) (lz : ∀ q ∈ ls, Sz n q) {v : V} {x : NL H0 Rat} (h : Py.rep K F v x) (hz : ∀ q ∈ x.l, Sz n q) : ∃ y : List Rat, Py.rep K F3 v y ∧ ∀ q ∈ y, Sz n q := by
  obtain ⟨a, us, rfl, h1, _, h2⟩ := h
  by_cases e : a = l
  · subst e
    exact ⟨ls, ⟨a, ws, rfl, .inl (.inl c.new), lw⟩, lz⟩
  · exact ⟨x.l, ⟨a, us, rfl, .inl (.inl (c.else_ _ _ e h1)), h2.1, fun i u q e1 e2 => c.rat (h2.2 i u q e1 e2)⟩, hz⟩
/-- a list of lists -/
theorem Chg.outer {α β : Type} [Py α] [Py β] {Pα : α → Prop} {Pβ : β → Prop} (c : Chg K F F3 l vs ws) {line : List Rat} (hl : Reps K F vs line) (ne : 0 < vs.length)
    (isl : ∀ (v : V) (x : α), Py.rep K F v x → ∃ a us, v = .ref a ∧ F a = some (.lst us)) (inn : ∀ (v : V) (x : α), Py.rep K F v x → Pα x → ∃ y : β, Py.rep K F3 v y ∧ Pβ y)
    {v : V} {X : NL H0 α} (h : Py.rep K F v X) (hX : ∀ x ∈ X.l, Pα x) : ∃ Y : List β, Py.rep K F3 v Y ∧ ∀ y ∈ Y, Pβ y := by
  obtain ⟨a, us, rfl, h1, _, h2⟩ := h
  have al : a ≠ l := by
    intro e
    subst e
    have eu : us = vs := by
      have := h1.symm.trans c.at_
      cases this
      rfl
    subst eu
    have lx : 0 < X.l.length := by
      rw [← h2.1]
      exact ne
    have ll : 0 < line.length := by
      rw [← hl.1]
      exact ne
    have g0 : us[0]? = some us[0] := List.getElem?_eq_getElem ne
    obtain ⟨b, us', e1, e2⟩ := isl _ _ (h2.2 0 _ _ g0 (List.getElem?_eq_getElem lx))
    obtain ⟨b', e3, e4⟩ := hl.2 0 _ _ g0 (List.getElem?_eq_getElem ll)
    rw [e1] at e3
    cases e3
    rcases e4 with (k | ⟨o, k⟩) | ⟨o, its, m, k, _⟩
    · rw [e2] at k
      cases k
    · rw [e2] at k
      cases k
    · exact c.nok _ _ _ k e2
  obtain ⟨ys, h3, h4⟩ := reps_map (β := β) (P := Pβ) h2.1 fun i u x e1 e2 => inn u x (h2.2 i u x e1 e2) (hX x (List.mem_of_getElem? e2))
  exact ⟨ys, ⟨a, us, rfl, .inl (.inl (c.else_ _ _ al h1)), h3⟩, h4⟩
theorem nl_isl {α : Type} [Py α] (v : V) (x : NL H0 α) (h : Py.rep K F v x) : ∃ a us, v = .ref a ∧ F a = some (.lst us) := by
  obtain ⟨a, us, rfl, h1, _⟩ := h
  exact ⟨a, us, rfl, h1⟩
end
abbrev N1 (H0 : Hp) := NL H0 Rat
abbrev N2 (H0 : Hp) := NL H0 (N1 H0)
abbrev N3 (H0 : Hp) := NL H0 (N2 H0)
abbrev N4 (H0 : Hp) := NL H0 (N3 H0)
def nl1 (H0 : Hp) (x : List Rat) : N1 H0 := ⟨x⟩
def nl2 (H0 : Hp) (x : List (List Rat)) : N2 H0 := ⟨x.map (nl1 H0)⟩
def nl3 (H0 : Hp) (x : List (List (List Rat))) : N3 H0 := ⟨x.map (nl2 H0)⟩
def nl4 (H0 : Hp) (x : PaperT) : N4 H0 := ⟨x.map (nl3 H0)⟩
section
variable {K : PySem.W.Frag} {E : En} {Γ : List Slot} {rest : TS} {N : As}
theorem ok_moved {te ti : TE} {paper : PaperT} {line : List Rat} {n : Nat} {q : Rat} (k3 : Γ[3]? = some (.dat (nl4 E.H0 paper))) (k6 : Γ[6]? = some (.dat (nl1 E.H0 line))) (hz : PSn 210 paper) (lz : ∀ q ∈ line, Sz 210 q) (qz : Sz 210 q)
    (hn : n < line.length) (he : Ev K E te Γ q) (hi : Ev K E ti Γ n) : Ok K E (PSn 210) (tSeq (tAsg (tNok K te) (gSub (tVar 6) ti rSetL)) (tSeq (tRet (tVar 3)) rest)) (Sat K E Γ) N := by
  rintro D hr hn' σ H ⟨F, S⟩
  refine he F H σ S _ fun d v F1 H1 e x rd nk => ?_
  subst e
  obtain ⟨v6, e6, l, vs, rfl, hl, l0, rl⟩ := S.at k6
  obtain ⟨v3, e3, r3⟩ := S.at k3
  refine ⟨.ref l, e6, ?_⟩
  refine hi F1 H1 σ (S.mono x) _ fun d2 v2 F2 H2 e2 x2 r2 => ?_
  subst e2
  have lv : d2 < vs.length := by
    rw [rl.1]
    exact hn
  have hl2 : H2 l = some (.lst vs) := x2.hh _ _ (x.fh _ _ (x.ff _ _ hl))
  refine ⟨l, vs, d2, d2, rfl, r2, hl2, ?_, ?_⟩
  · unfold ixN
    rw [if_pos (by omega), if_pos (by omega)]
    rfl
  have s02 : Same F F2 := x.ff.trans x2.ff
  have ch : Chg K F (upd F2 l (.lst (vs.set d2 v))) l vs (vs.set d2 v) := ⟨hl, upd_same, fun b o nb hb => by
    rw [upd_ne nb]
    exact s02 _ _ hb, fun a o u ka fa => by
    have := nk a o ka
    rw [x.fh _ _ (x.ff _ _ fa)] at this
    cases this⟩
  have ch2 : Chg K F2 (upd F2 l (.lst (vs.set d2 v))) l vs (vs.set d2 v) → True := fun _ => trivial
  have f2l : F2 l = some (.lst vs) := s02 _ _ hl
  have lw : Reps K (upd F2 l (.lst (vs.set d2 v))) (vs.set d2 v) (line.set d2 d) := by
    have base : Reps K (upd F2 l (.lst (vs.set d2 v))) vs line := ⟨rl.1, fun i u q' a b => ch.rat (rl.2 i u q' a b)⟩
    have rv : Py.rep K (upd F2 l (.lst (vs.set d2 v))) v d := by
      obtain ⟨t, rfl, ht⟩ := Py.mono x2.ff rd
      refine ⟨t, rfl, ?_⟩
      have ne : ∀ u, F2 t = some u → u ≠ .lst vs → t ≠ l := fun u e n q => by
        rw [q, f2l] at e
        exact n (Option.some.inj e).symm
      rcases ht with (h | ⟨o, h⟩) | h
      · exact .inl (.inl (by rw [upd_ne (ne _ h (by intro q; cases q))]; exact h))
      · exact .inl (.inr ⟨o, by rw [upd_ne (ne _ h (by intro q; cases q))]; exact h⟩)
      · exact .inr h
    exact base.set rv
  have lwz : ∀ q ∈ line.set d2 d, Sz 210 q := fun q hq => by
    rcases List.mem_or_eq_of_mem_set hq with h | rfl
    · exact lz q h
    · exact qz
  have ext2 := (S.mono x).ext.trans x2
  have f0l : E.F0 l = none := S.s0.free l0
  have ext3 : Ext E.F0 E.H0 (upd F2 l (.lst (vs.set d2 v))) (upd H2 l (.lst (vs.set d2 v))) := by
    refine ⟨fun b o h => ?_, fun b o h => ?_, fun b o h => ?_, fun b o h k => ?_⟩
    · rw [upd_ne (ne_of_none h f0l)]
      exact ext2.ff _ _ h
    · by_cases c : b = l
      · subst c
        rw [upd_same] at h ⊢
        exact h
      · rw [upd_ne c] at h ⊢
        exact ext2.fh _ _ h
    · rw [upd_ne (ne_of_none h l0)]
      exact ext2.hh _ _ h
    · rw [upd_ne (ne_of_none k l0)]
      exact ext2.fr _ _ h k
  have nv : 0 < vs.length := by omega
  have p1 := fun (v : V) (x : N1 E.H0) (h : Py.rep K F v x) (hz : ∀ q ∈ x.l, Sz 210 q) => ch.line lw lwz h hz
  have p2 := fun (v : V) (x : N2 E.H0) (h : Py.rep K F v x) (hz : ∀ y ∈ x.l, ∀ q ∈ y.l, Sz 210 q) => ch.outer (β := List Rat) (Pα := fun x : N1 E.H0 => ∀ q ∈ x.l, Sz 210 q) (Pβ := fun x : List Rat => ∀ q ∈ x, Sz 210 q) rl nv nl_isl p1 h hz
  have p3 := fun (v : V) (x : N3 E.H0) (h : Py.rep K F v x) (hz : ∀ z ∈ x.l, ∀ y ∈ z.l, ∀ q ∈ y.l, Sz 210 q) => ch.outer (β := List (List Rat)) (Pα := fun x : N2 E.H0 => ∀ y ∈ x.l, ∀ q ∈ y.l, Sz 210 q) (Pβ := fun x : List (List Rat) => ∀ y ∈ x, ∀ q ∈ y, Sz 210 q) rl nv nl_isl p2 h hz
  obtain ⟨Y, rY, hY⟩ := ch.outer (β := List (List (List Rat))) (Pα := fun x : N3 E.H0 => ∀ z ∈ x.l, ∀ y ∈ z.l, ∀ q ∈ y.l, Sz 210 q) (Pβ := fun x : List (List (List Rat)) => ∀ z ∈ x, ∀ y ∈ z, ∀ q ∈ y, Sz 210 q) rl nv nl_isl p3 r3 (fun a ha b hb c hc q hq => by
    obtain ⟨a', ha', rfl⟩ := List.mem_map.mp ha
    obtain ⟨b', hb', rfl⟩ := List.mem_map.mp hb
    obtain ⟨c', hc', rfl⟩ := List.mem_map.mp hc
    exact hz a' ha' b' hb' c' hc' q hq)
  exact ⟨v3, e3, hr Y v3 _ _ hY ext3 rY⟩
end
section
variable {P : Program} {w : World} {K : PySem.W.Frag} {mg : Str → Option Value} {base : Heap} {z : Addr}
/-- a paper of at most 100 a level, none empty -/
def Full (paper : PaperT) : Prop := (1 ≤ paper.length ∧ paper.length ≤ 100) ∧ ∀ a ∈ paper, (1 ≤ a.length ∧ a.length ≤ 100) ∧ ∀ b ∈ a, (1 ≤ b.length ∧ b.length ≤ 100) ∧ ∀ c ∈ b, 1 ≤ c.length ∧ c.length ≤ 100
abbrev prMoved (K : PySem.W.Frag) : Sp := Pr K (fun x : PaperT × List Nat × Rat => [.dat x.1, .dat x.2.1, .dat x.2.2]) (fun x => Full x.1 ∧ PSn 193 x.1 ∧ x.2.1.length = 5 ∧ Sz 4 x.2.2) (fun _ (r : PaperT) => PSn 210 r)
theorem ok_lmoved (T : Txt K mg z) (d_ladd : Df P w K mg base "_law_add" 3 p_ladd (prAdd K)) (D : Dn K mg "_law_moved" "_law_moved" s_lmoved p_lmoved) : Df P w K mg base "_law_moved" 4 p_lmoved (prMoved K) := D.df fun f fd F => by
  refine fun_pr F sc_lmoved (fun _ => rfl) fun cdv A outer s H X hr ⟨paper, row, mv⟩ ⟨fu, hz, hl, hm⟩ => ?_
  refine ⟨_, (pss_cons (ps_setLc (i := 3) (own := [("_law_one", 4)]) (g := gName 4) (tt := tYes)  rfl sc_lmoved.nd rfl rfl (sw_true rfl rfl rfl (by decide +kernel)) (listK K (pv 0)) (blkOk_by (N := n_lmoved) (sc := defScope s_lmoved) (by decide +kernel)) (fun _ _ _ _ _ => pg_name (i := 4) sc_lmoved.nd rfl (Or.inl rfl)) (fun _ _ _ _ _ => pts_nil) (fun _ _ _ _ _ => (pe_lc (own := [("_law_part", 5)]) (g := gName 5) (tt := tYes)  rfl sc_lmoved.nd (listK K (pv 4)) (blkD1 (N := n_lmoved) (sc := defScope s_lmoved) rfl rfl (by decide +kernel)) (fun _ _ _ _ _ => pg_name (i := 5) sc_lmoved.nd rfl (Or.inl rfl)) (fun _ _ _ _ _ => pts_nil) (fun _ _ _ _ _ => (pe_lc (own := [("_law_line", 6)]) (g := gName 6) (tt := tYes)  rfl sc_lmoved.nd (listK K (pv 5)) (blkD2 (N := n_lmoved) (sc := defScope s_lmoved) rfl rfl (by decide +kernel)) (fun _ _ _ _ _ => pg_name (i := 6) sc_lmoved.nd rfl (Or.inl rfl)) (fun _ _ _ _ _ => pts_nil) (fun _ _ _ _ _ => (pe_callTy (mkListK K) (by rfl) T.list PyProof.Rows.boot_list (pa_cons (pv 6) pa_nil))))))))
    (pss_cons (ps_set (i := 4) sc_lmoved.nd rfl (Or.inl rfl) (ixl K (pv 3) (pe_op op_mod (pe_callTy call_int1 (by rfl) T.int PyProof.Rows.boot_int (pa_cons (ixl K (pv 1) pe_int (fun _ _ => rfl)) pa_nil)) (pe_callB (lenK K) (by rfl) T.len PySem.boot_len (pa_cons (pv 3) pa_nil))) (fun _ _ => rfl)))
    (pss_cons (ps_set (i := 5) sc_lmoved.nd rfl (Or.inl rfl) (ixl K (pv 4) (pe_op op_mod (pe_callTy call_int1 (by rfl) T.int PyProof.Rows.boot_int (pa_cons (ixl K (pv 1) pe_int (fun _ _ => rfl)) pa_nil)) (pe_callB (lenK K) (by rfl) T.len PySem.boot_len (pa_cons (pv 4) pa_nil))) (fun _ _ => rfl)))
    (pss_cons (ps_set (i := 6) sc_lmoved.nd rfl (Or.inl rfl) (ixl K (pv 5) (pe_op op_mod (pe_callTy call_int1 (by rfl) T.int PyProof.Rows.boot_int (pa_cons (ixl K (pv 1) pe_int (fun _ _ => rfl)) pa_nil)) (pe_callB (lenK K) (by rfl) T.len PySem.boot_len (pa_cons (pv 5) pa_nil))) (fun _ _ => rfl)))
    (pss_cons (ps_asg (pe_nok K (d_ladd.call hr (by rfl) (by decide) (pa_cons (ixl K (pv 6) (pe_op op_mod (pe_callTy call_int1 (by rfl) T.int PyProof.Rows.boot_int (pa_cons (ixl K (pv 1) pe_int (fun _ _ => rfl)) pa_nil)) (pe_callB (lenK K) (by rfl) T.len PySem.boot_len (pa_cons (pv 6) pa_nil))) (fun _ _ => rfl)) (pa_cons (pv 2) pa_nil)))) (pg_sub (pv 6) (pe_op op_mod (pe_callTy call_int1 (by rfl) T.int PyProof.Rows.boot_int (pa_cons (ixl K (pv 1) pe_int (fun _ _ => rfl)) pa_nil)) (pe_callB (lenK K) (by rfl) T.len PySem.boot_len (pa_cons (pv 6) pa_nil))) set_list))
    (pss_cons (ps_ret (pv 3))
    pss_nil)))))), fun E => ?_⟩
  have fu : Full paper := fu
  have hz : PSn 193 paper := hz
  have hl : row.length = 5 := hl
  have hm : Sz 4 mv := hm
  obtain ⟨⟨f1, f2⟩, f3⟩ := fu
  refine ok_asgD (d := nl4 E.H0 paper) (ev_lcNL (f := nl3 E.H0) (evi_list (ev_var (d := paper) rfl)) (by omega) fun a ha => ev_lcNL (f := nl2 E.H0) (evi_list (ev_var (d := a) rfl)) (by have := (f3 a ha).1; omega) fun b hb => ev_lcNL (f := nl1 E.H0) (evi_list (ev_var (d := b) rfl)) (by have := ((f3 a ha).2 b hb).1; omega) fun c _ => ev_listNL (eva_cons (ev_var (d := c) rfl) eva_nil)) ?_
  have ix : ∀ {α : Type} [Py α] {E : En} {Γ : List Slot} {i k : Nat} {xs : NL E.H0 α} (j : Int) (j' : Nat), j = (j' : Int) → Γ[1]? = some (.dat row) → j' < 5 → Γ[i]? = some (.dat xs) → 1 ≤ xs.l.length →
      Ev K E (tOp (rI (fun _ j => 0 < j) fun i j => .int (i % j)) (tCB (fun xs H Q => (∃ i, xs = [.int i] ∧ Q (.int i) H) ∨ ∃ k, xs = [.bl k] ∧ Q (.int (if k then 1 else 0)) H) (tCons (tOp (rIxL K) (tVar 1) (tC (.int j))) tNil)) (tCB (fun xs H Q => ∃ p ys, xs = [.ref p] ∧ (SqL K H p ys ∨ SqT K H p ys) ∧ Q (.int ys.length) H) (tCons (tVar i) tNil))) Γ (row.getD j' 0 % xs.l.length) := by
    intro α _ E Γ i k xs j j' ej h1 lj h2 h3
    exact ev_modN (ev_int1N (eva_cons (ev_ixD (x := 0) (ev_var h1) (ev_nat j' ej) (by omega)) eva_nil)) (ev_len (xs := xs.l) (eva_cons (Ev.list (Hb := E.H0) (ev_var h2)) eva_nil)) (by omega)
  have l4 : (nl4 E.H0 paper).l.length = paper.length := by simp [nl4]
  have i0 : row.getD 0 0 % paper.length < paper.length := Nat.mod_lt _ (by omega)
  refine ok_asgD (d := nl3 E.H0 (paper.getD (row.getD 0 0 % paper.length) [])) (ev_ix (xs := paper.map (nl3 E.H0)) (n := row.getD 0 0 % paper.length) (Ev.list (Hb := E.H0) (ev_var (d := nl4 E.H0 paper) rfl)) (Ev.to (ix (k := 0) (xs := nl4 E.H0 paper) 0 0 rfl rfl (by decide) rfl (by omega)) (by rw [l4])) ?_) ?_
  · rw [List.getElem?_map, getD_some i0]
    rfl
  have ma := getD_memD (d := []) i0
  generalize paper.getD (row.getD 0 0 % paper.length) [] = a at ma
  obtain ⟨⟨a1, a2⟩, a3⟩ := f3 a ma
  have l3 : (nl3 E.H0 a).l.length = a.length := by simp [nl3]
  have i1 : row.getD 1 0 % a.length < a.length := Nat.mod_lt _ (by omega)
  refine ok_asgD (d := nl2 E.H0 (a.getD (row.getD 1 0 % a.length) [])) (ev_ix (xs := a.map (nl2 E.H0)) (n := row.getD 1 0 % a.length) (Ev.list (Hb := E.H0) (ev_var (d := nl3 E.H0 a) rfl)) (Ev.to (ix (k := 0) (xs := nl3 E.H0 a) 1 1 rfl rfl (by decide) rfl (by omega)) (by rw [l3])) ?_) ?_
  · rw [List.getElem?_map, getD_some i1]
    rfl
  have mb := getD_memD (d := []) i1
  generalize a.getD (row.getD 1 0 % a.length) [] = b at mb
  obtain ⟨⟨b1, b2⟩, b3⟩ := a3 b mb
  have l2 : (nl2 E.H0 b).l.length = b.length := by simp [nl2]
  have i2 : row.getD 2 0 % b.length < b.length := Nat.mod_lt _ (by omega)
  refine ok_asgD (d := nl1 E.H0 (b.getD (row.getD 2 0 % b.length) [])) (ev_ix (xs := b.map (nl1 E.H0)) (n := row.getD 2 0 % b.length) (Ev.list (Hb := E.H0) (ev_var (d := nl2 E.H0 b) rfl)) (Ev.to (ix (k := 0) (xs := nl2 E.H0 b) 2 2 rfl rfl (by decide) rfl (by omega)) (by rw [l2])) ?_) ?_
  · rw [List.getElem?_map, getD_some i2]
    rfl
  have mc := getD_memD (d := []) i2
  generalize b.getD (row.getD 2 0 % b.length) [] = c at mc
  obtain ⟨c1, c2⟩ := b3 c mc
  have lc : ∀ q ∈ c, Sz 193 q := hz a ma b mb c mc
  have i3 : row.getD 3 0 % c.length < c.length := Nat.mod_lt _ (by omega)
  have l1 : (nl1 E.H0 c).l.length = c.length := rfl
  have hq := lc _ (getD_mem i3)
  refine ok_moved (paper := paper) (line := c) (n := row.getD 3 0 % c.length) (q := c.getD (row.getD 3 0 % c.length) 0 + mv) rfl rfl (fun a ha b hb c hc q hq => (hz a ha b hb c hc q hq).mono (by decide)) (fun q hq => (lc q hq).mono (by decide)) ((hq.add hm).mono (by decide)) i3
    (ev_call (c.getD (row.getD 3 0 % c.length) 0, mv) (eva_cons (ev_ixD (Ev.list (Hb := E.H0) (xs := c) (ev_var (d := nl1 E.H0 c) rfl)) (ix (k := 0) (xs := nl1 E.H0 c) 3 3 rfl rfl (by decide) rfl c1) i3) (eva_cons (ev_var (d := mv) rfl) eva_nil)) (Few.mk hq hm (by decide)))
    (ix (k := 0) (xs := nl1 E.H0 c) 3 3 rfl rfl (by decide) rfl c1)
end
end Tm

namespace Tm
open PySem L2
abbrev s_llies_bounded : Stmt := topS 51
abbrev n_llies_bounded : List Str := ["_law_script", "_law_made_here", "_law_rule_here", "_law_game_here", "_law_h", "_law_many", "_law_i", "_law_truth", "_law_row_here", "_law_says", "_law_does", "_law_said", "_law_start", "_law_told"]
abbrev p_llies_bounded : List Str := ["_law_script", "_law_made_here", "_law_rule_here", "_law_game_here"]
theorem sc_llies_bounded : FnScope n_llies_bounded p_llies_bounded (defScope s_llies_bounded) := ⟨rfl, rfl, rfl, by decide +kernel, rfl, by decide +kernel, by decide +kernel⟩
/-! ### the plain law -/
theorem sumR_app (xs ys : List Rat) : sumR (xs ++ ys) = sumR xs + sumR ys := by
  unfold sumR
  rw [List.foldl_append, foldl_add]
theorem sumR_flat {α : Type} (f : α → List Rat) : ∀ l : List α, sumR (l.flatMap f) = sumR (l.map fun x => sumR (f x))
  | [] => rfl
  | x :: l => by
    rw [List.flatMap_cons, sumR_app, List.map_cons, sumR_cons, sumR_flat f l]
theorem sumR_le {α : Type} {f g : α → Rat} : ∀ l : List α, (∀ x ∈ l, f x ≤ g x) → sumR (l.map f) ≤ sumR (l.map g)
  | [], _ => Rat.le_refl
  | x :: l, h => by
    rw [List.map_cons, List.map_cons, sumR_cons, sumR_cons]
    have h1 := h x (List.mem_cons_self ..)
    have h2 := sumR_le l fun y hy => h y (List.mem_cons_of_mem _ hy)
    grind
theorem sumR_mul (c : Rat) {α : Type} (f : α → Rat) : ∀ l : List α, sumR (l.map fun x => c * f x) = c * sumR (l.map f)
  | [] => (Rat.mul_zero c).symm
  | x :: l => by
    rw [List.map_cons, List.map_cons, sumR_cons, sumR_cons, sumR_mul c f l, Rat.mul_add]
theorem sumR_getD (xs : List Rat) : sumR ((List.range xs.length).map fun k => xs.getD k 0) = sumR xs := by
  congr 1
  refine List.ext_getElem? fun i => ?_
  rw [List.getElem?_map]
  by_cases h : i < xs.length
  · rw [List.getElem?_range h, getD_some (d := 0) h]
    rfl
  · rw [List.getElem?_eq_none (by simp; omega), List.getElem?_eq_none (by omega)]
    rfl
variable {g : Gm} {rule : RuleT}
theorem BV_eq (h i said : Nat) : BV g rule h i said = sumR ((List.range (g.as.getD h 0)).map fun t => (BA g rule h i said t).2) := by
  unfold BV BL
  rw [List.map_map]
  rfl
/-- an accepted paper: no lie gains -/
theorem Acc.hon {paper : PaperT} (G : WfG g) (R : WfR g rule) (a : Acc g rule paper) : Hon g rule := by
  obtain ⟨⟨f1, f2⟩, a⟩ := a
  intro h lh i li s ls
  obtain ⟨b1, b2⟩ := a h lh i li s ls
  have I : Sin g rule h s := ⟨G, R, lh, ls⟩
  have fh := f2 h lh
  have lp : h < paper.length := by rw [f1]; exact lh
  have lpi : i < (paper.getD h []).length := by rw [fh.1]; exact li
  have fi := fh.2 _ (getD_memD (d := []) lpi)
  have lpj : s < ((paper.getD h []).getD i []).length := by rw [fi.1]; exact ls
  have fj := fi.2 _ (getD_memD (d := []) lpj)
  generalize ((paper.getD h []).getD i []).getD s [] = nums at b1 b2 fj
  refine Rat.not_lt.mpr (Rat.le_trans ?_ b2)
  rw [BV_eq, ← sumR_getD nums, fj]
  refine sumR_le _ fun t ht => ?_
  have lt := List.mem_range.mp ht
  have bo := BA_ok (i := i) (told := t) I
  rw [bo.1]
  exact b1 t lt _ bo.2.1
theorem getD_map {α : Type} (f : Nat → α) (d : α) {n k : Nat} (h : k < n) : ((List.range n).map f).getD k d = f k := by
  rw [List.getD_eq_getElem?_getD, List.getElem?_map, List.getElem?_range h]
  rfl
/-- the paper of the greatest parts is accepted where no lie gains -/
theorem PF_acc (G : WfG g) (R : WfR g rule) (H : Hon g rule) : Acc g rule (PF g rule) := by
  refine ⟨⟨by simp [PF], fun h lh => ?_⟩, fun h lh i li s ls => ?_⟩
  · unfold FormH PF
    rw [getD_map _ _ lh]
    refine ⟨by simp [lhF], fun part hp => ?_⟩
    obtain ⟨i, _, rfl⟩ := List.mem_map.mp hp
    refine ⟨by simp [liF], fun nums hn => ?_⟩
    obtain ⟨s, _, rfl⟩ := List.mem_map.mp hn
    simp [laF]
  · have I : Sin g rule h s := ⟨G, R, lh, ls⟩
    have e : (((PF g rule).getD h []).getD i []).getD s [] = laF g rule h i s := by
      unfold PF
      rw [getD_map _ _ lh]
      unfold lhF
      rw [getD_map _ _ li]
      unfold liF
      rw [getD_map _ _ ls]
    rw [e]
    refine ⟨fun t lt a la => ?_, ?_⟩
    · unfold laF
      rw [getD_map _ _ lt]
      exact (BA_ok (i := i) (told := t) I).2.2 a la
    · have := Rat.not_lt.mp (H h lh i li s ls)
      rw [BV_eq] at this
      exact this
theorem PF_mem {P : Rat → Prop} (h : ∀ h, h < g.ks.length → ∀ i, ∀ s, s < g.ks.getD h 0 → ∀ t, P (BA g rule h i s t).2) : ∀ a ∈ PF g rule, ∀ b ∈ a, ∀ c ∈ b, ∀ q ∈ c, P q := by
  intro a ha b hb c hc q hq
  obtain ⟨x, hx, rfl⟩ := List.mem_map.mp ha
  obtain ⟨i, hi, rfl⟩ := List.mem_map.mp hb
  obtain ⟨s, hs, rfl⟩ := List.mem_map.mp hc
  obtain ⟨t, ht, rfl⟩ := List.mem_map.mp hq
  exact h x (List.mem_range.mp hx) i s (List.mem_range.mp hs) t
theorem PF_sz (G : WfG g) (R : WfR g rule) : PSn 193 (PF g rule) := PF_mem fun h lh i s ls t => BA_sz ⟨G, R, lh, ls⟩
theorem PF_full (G : WfG g) (R : WfR g rule) : Full (PF g rule) := by
  have k3 := G.bk.1
  have k1 := G.k1
  refine ⟨by unfold PF; rw [List.length_map, List.length_range]; omega, fun a ha => ?_⟩
  obtain ⟨h, hx, rfl⟩ := List.mem_map.mp ha
  have lh := List.mem_range.mp hx
  have hK := G.kb lh
  have hA := G.ab lh
  refine ⟨by unfold lhF; rw [List.length_map, List.length_range]; omega, fun b hb => ?_⟩
  obtain ⟨i, hi, rfl⟩ := List.mem_map.mp hb
  refine ⟨by unfold liF; rw [List.length_map, List.length_range]; omega, fun c hc => ?_⟩
  obtain ⟨s, hs, rfl⟩ := List.mem_map.mp hc
  unfold laF
  rw [List.length_map, List.length_range]
  omega
/-- the best lie's acts get the best lie's sum -/
theorem LT_best {h i s : Nat} (I : Sin g rule h s) : LT g rule h i s ((BL g rule h i s).map (·.1)) = BV g rule h i s := by
  rw [BV_eq]
  unfold LT
  congr 1
  refine List.map_congr_left fun t ht => ?_
  have lt := List.mem_range.mp ht
  have e : ((BL g rule h i s).map (·.1)).getD t 0 = (BA g rule h i s t).1 := by
    unfold BL
    rw [List.map_map, getD_map _ _ lt]
    rfl
  rw [e, (BA_ok (i := i) (told := t) I).1]
/-- a lie by chances gets no more than the truth where no lie gains -/
theorem MX_le {h i : Nat} {says : List Rat} {does : List (List (List Rat))} (G : WfG g) (R : WfR g rule) (H : Hon g rule) (lh : h < g.ks.length) (li : i < g.ks.getD h 0) (cs : Ch (g.ks.getD h 0) says)
    (dl : does.length = g.ks.getD h 0) (dd : ∀ x ∈ does, x.length = g.as.getD h 0 ∧ ∀ y ∈ x, Ch (g.as.getD h 0) y) : MX g rule h i says does ≤ KT g rule h i := by
  unfold MX
  rw [sumR_flat]
  have e : KT g rule h i = sumR ((List.range (g.ks.getD h 0)).map fun s => KT g rule h i * says.getD s 0) := by
    rw [sumR_mul]
    have : (List.range (g.ks.getD h 0)).map (fun s => says.getD s 0) = (List.range says.length).map fun s => says.getD s 0 := by rw [cs.l]
    rw [this, sumR_getD, cs.s, Rat.mul_one]
  rw [e]
  refine sumR_le _ fun s hs => ?_
  have ls := List.mem_range.mp hs
  have I : Sin g rule h s := ⟨G, R, lh, ls⟩
  have a1 : s < says.length := by rw [cs.l]; exact ls
  have p0 : 0 ≤ says.getD s 0 := cs.nn _ (getD_mem a1)
  have a2 : s < does.length := by rw [dl]; exact ls
  have m := dd _ (getD_memD (d := []) a2)
  have hv := Rat.not_lt.mp (H h lh i li s ls)
  -- all that is told
  have step : sumR (mxS g rule h i says does s) ≤ says.getD s 0 * BV g rule h i s := by
    unfold mxS
    rw [sumR_flat, BV_eq, ← sumR_mul]
    refine sumR_le _ fun t ht => ?_
    have lt := List.mem_range.mp ht
    have a3 : t < (does.getD s []).length := by rw [m.1]; exact lt
    have cy := m.2 _ (getD_memD (d := []) a3)
    have bo := BA_ok (i := i) (told := t) I
    have e2 : says.getD s 0 * (BA g rule h i s t).2 = sumR ((List.range (g.as.getD h 0)).map fun a => (says.getD s 0 * (BA g rule h i s t).2) * ((does.getD s []).getD t []).getD a 0) := by
      rw [sumR_mul]
      have : (List.range (g.as.getD h 0)).map (fun a => ((does.getD s []).getD t []).getD a 0) = (List.range ((does.getD s []).getD t []).length).map fun a => ((does.getD s []).getD t []).getD a 0 := by rw [cy.l]
      rw [this, sumR_getD, cy.s, Rat.mul_one]
    rw [e2]
    unfold mxA
    refine sumR_le _ fun a ha => ?_
    have la := List.mem_range.mp ha
    have a4 : a < ((does.getD s []).getD t []).length := by rw [cy.l]; exact la
    have q0 : 0 ≤ ((does.getD s []).getD t []).getD a 0 := cy.nn _ (getD_mem a4)
    have b := bo.2.2 a la
    unfold mxT
    have := Rat.mul_le_mul_of_nonneg_left b (Rat.mul_nonneg p0 q0)
    grind
  have := Rat.mul_le_mul_of_nonneg_left hv p0
  grind
section
variable {P : Program} {w : World} {K : PySem.W.Frag} {mg : Str → Option Value} {base : Heap} {z : Addr}
abbrev prLb (K : PySem.W.Frag) : Sp := Pr K (fun x : List Int × GameT × RuleT => [.dat x.1, .dat (gm x.2.1), .dat x.2.2, .dat x.2.1]) (fun x => WfG (gm x.2.1) ∧ WfR (gm x.2.1) x.2.2 ∧ Hon (gm x.2.1) x.2.2) (fun _ (r : Bool) => r = true)
theorem ok_llies_bounded (T : Txt K mg z) (d_kind_total : Df P w K mg base "kind_total" 4 p_kind_total (prKt K)) (d_lrow : Df P w K mg base "_law_row" 1 p_lrow (prRow K)) (d_lchances : Df P w K mg base "_law_chances" 3 p_lchances (prCh K)) (d_lless : Df P w K mg base "_law_less" 1 p_lless (prLess K))
    (d_lie_total : Df P w K mg base "lie_total" 5 p_lie_total (prLt K)) (d_best_lie : Df P w K mg base "best_lie" 6 p_best_lie (prBl K)) (d_mixed_lie_total : Df P w K mg base "mixed_lie_total" 5 p_mixed_lie_total (prMx K))
    (D : Dn K mg "_law_lies_bounded" "_law_lies_bounded" s_llies_bounded p_llies_bounded) : Df P w K mg base "_law_lies_bounded" 7 p_llies_bounded (prLb K) := D.df fun f fd F => by
  refine fun_pr F sc_llies_bounded (fun _ => rfl) fun cdv A outer s H X hr ⟨script, t, rule⟩ ⟨G, R, Hn⟩ => ?_
  refine ⟨_, (pss_cons (ps_for PassesOwn.never rfl (pi_range1 rfl T.range (pa_cons (pe_callB (lenK K) (by rfl) T.len PySem.boot_len (pa_cons (ixt K (pv 3) pe_int (fun _ _ => rfl)) pa_nil)) pa_nil)) (pg_name (i := 4) sc_llies_bounded.nd rfl (Or.inl rfl))
      (pss_cons (ps_set (i := 5) sc_llies_bounded.nd rfl (Or.inr rfl) (ixl K (ixt K (pv 3) pe_int (fun _ _ => rfl)) (pv 4) (fun _ _ => rfl)))
        (pss_cons (ps_for PassesOwn.never rfl (pi_range1 rfl T.range (pa_cons (ixl K (ixt K (pv 3) pe_int (fun _ _ => rfl)) (pv 4) (fun _ _ => rfl)) pa_nil)) (pg_name (i := 6) sc_llies_bounded.nd rfl (Or.inl rfl))
          (pss_cons (ps_set (i := 7) sc_llies_bounded.nd rfl (Or.inl rfl) (d_kind_total.call hr (by rfl) (by decide) (pa_cons (pv 1) (pa_cons (pv 2) (pa_cons (pv 4) (pa_cons (pv 6) pa_nil))))))
            (pss_cons (ps_set (i := 8) sc_llies_bounded.nd rfl (Or.inr rfl) (d_lrow.call hr (by rfl) (by decide) (pa_cons (pv 0) (pa_cons (pe_op op_add (pe_op op_add pe_int (pe_op op_mul pe_int (pv 4))) (pv 6)) (pa_cons pe_int pa_nil)))))
            (pss_cons (ps_set (i := 9) sc_llies_bounded.nd rfl (Or.inl rfl) (d_lchances.call hr (by rfl) (by decide) (pa_cons (pe_slice (slK K) (pv 8) po_none (po_some (ixl K (ixt K (pv 3) pe_int (fun _ _ => rfl)) (pv 4) (fun _ _ => rfl)))) pa_nil)))
            (pss_cons (ps_set (i := 10) sc_llies_bounded.nd rfl (Or.inl rfl) (pe_lst pa_nil))
            (pss_cons (ps_for PassesOwn.never rfl (pi_range1 rfl T.range (pa_cons (ixl K (ixt K (pv 3) pe_int (fun _ _ => rfl)) (pv 4) (fun _ _ => rfl)) pa_nil)) (pg_name (i := 11) sc_llies_bounded.nd rfl (Or.inl rfl))
              (pss_cons (ps_set (i := 12) sc_llies_bounded.nd rfl (Or.inr rfl) (pe_op op_add pe_int (pe_op op_mul pe_int (pv 11))))
                (pss_cons (ps_expr (pe_bm PySem.F.plainAttrs_list PySem.F.slot_list_append PySem.F.type_list_append mt_append (pv 10) (pa_cons (pe_lc (own := [("_law_told", 13)]) (g := gName 13) (tt := tYes)  rfl sc_llies_bounded.nd (pi_range1 rfl T.range (pa_cons (pv 5) pa_nil)) (blkOk_by (N := n_llies_bounded) (sc := defScope s_llies_bounded) (by decide +kernel)) (fun _ _ _ _ _ => pg_name (i := 13) sc_llies_bounded.nd rfl (Or.inl rfl)) (fun _ _ _ _ _ => pts_nil) (fun _ _ _ _ _ => (d_lchances.call hr (by rfl) (by decide) (pa_cons (pe_slice (slK K) (pv 8) (po_some (pe_op op_add (pv 12) (pe_op op_mul pe_int (pv 13)))) (po_some (pe_op op_add (pe_op op_add (pv 12) (pe_op op_mul pe_int (pv 13))) (pv 5)))) pa_nil)))) pa_nil)))
                (pss_cons (ps_if (pt_val (d_lless.call hr (by rfl) (by decide) (pa_cons (pv 7) (pa_cons (d_lie_total.call hr (by rfl) (by decide) (pa_cons (pv 1) (pa_cons (pv 2) (pa_cons (pv 4) (pa_cons (pv 6) (pa_cons (pv 11) (pa_cons (ixt K (d_best_lie.call hr (by rfl) (by decide) (pa_cons (pv 1) (pa_cons (pv 2) (pa_cons (pv 4) (pa_cons (pv 6) (pa_cons (pv 11) pa_nil)))))) pe_int (fun _ _ => rfl)) pa_nil))))))) pa_nil))))
                  (pss_cons (ps_ret pe_bl)
                    pss_nil)
                  pss_nil)
                pss_nil))))
            (pss_cons (ps_if (pt_val (d_lless.call hr (by rfl) (by decide) (pa_cons (pv 7) (pa_cons (d_mixed_lie_total.call hr (by rfl) (by decide) (pa_cons (pv 1) (pa_cons (pv 2) (pa_cons (pv 4) (pa_cons (pv 6) (pa_cons (pv 9) (pa_cons (pv 10) pa_nil))))))) pa_nil))))
              (pss_cons (ps_ret pe_bl)
                pss_nil)
              pss_nil)
            pss_nil)))))))
        pss_nil)))
    (pss_cons (ps_ret pe_bl)
    pss_nil)), fun E => ?_⟩
  generalize hg : gm t = g at *
  have G : WfG g := G
  have R : WfR g rule := R
  have Hn : Hon g rule := Hn
  have ek : t.y = g.ks := by rw [← hg]; rfl
  have ea : t.z = g.as := by rw [← hg]; rfl
  have hk3 := G.bk.1
  have iK : ∀ {E : En} {Γ : List Slot}, Γ[3]? = some (.dat t) → Ev K E (tOp (rIxT K) (tVar 3) (tC (.int 1))) Γ g.ks := fun h => Ev.to (ev_t5_1 (ev_var h)) ek
  have iA : ∀ {E : En} {Γ : List Slot}, Γ[3]? = some (.dat t) → Ev K E (tOp (rIxT K) (tVar 3) (tC (.int 2))) Γ g.as := fun h => Ev.to (ev_t5_2 (ev_var h)) ea
  refine ok_forR (ev_len (eva_cons (iK rfl) eva_nil)) (by omega) (fun h => [.dat script, .dat g, .dat rule, .dat t, .any, .any, .any, .any, .any, .any, .any, .any, .any, .any]) (.keep rfl (.keep rfl (.keep rfl (.keep rfl (.drop (.drop (.drop (.drop (.drop (.drop (.drop (.drop (.drop (.drop .nil)))))))))))))) (fun Fb h lh => ?_) ?_
  · have hK := G.kb lh
    have hA := G.ab lh
    have lha : h < g.as.length := by rw [G.ka]; exact lh
    refine ok_asgD (ev_ixD (x := 0) (iA rfl) (ev_var (d := h) rfl) lha) ?_
    refine ok_forR (ev_ixD (x := 0) (iK rfl) (ev_var (d := h) rfl) lh) (by omega) (fun i => [.dat script, .dat g, .dat rule, .dat t, .dat h, .dat (g.as.getD h 0), .any, .any, .any, .any, .any, .any, .any, .any]) (.keep rfl (.keep rfl (.keep rfl (.keep rfl (.keep rfl (.keep rfl (.drop (.drop (.drop (.drop (.drop (.drop (.drop (.drop .nil)))))))))))))) (fun Fb2 i li => ?_) ?_
    · refine ok_asgD (ev_call (g, rule, h, i) (eva_cons (ev_var rfl) (eva_cons (ev_var rfl) (eva_cons (ev_var rfl) (eva_cons (ev_var rfl) eva_nil)))) ⟨G, R, lh⟩) ?_
      refine ok_asg (ev_call (script, 9 + 3 * h + i, 30) (eva_cons (ev_var rfl) (eva_cons (ev_addN (ev_addN (ev_nat 9) (ev_mulN (ev_nat 3) (ev_var (d := h) rfl) (.inl (by decide)))) (ev_var (d := i) rfl)) (eva_cons (ev_nat 30) eva_nil))) ⟨by show 9 + 3 * h + i ≤ 100; omega, by show 30 ≤ 100; decide⟩) fun row hrow => ?_
      obtain ⟨rl, rx⟩ : Rw 30 row := hrow
      have lk : (row.take (g.ks.getD h 0)).length = g.ks.getD h 0 := by
        rw [List.length_take]
        omega
      refine ok_asg (ev_call (row.take (g.ks.getD h 0)) (eva_cons (Ev.list (ev_takeNL (ev_var (d := row) rfl) (ev_ixD (x := 0) (iK rfl) (ev_var (d := h) rfl) lh))) eva_nil) ⟨by rw [lk]; omega, by rw [lk]; omega⟩) fun says cs => ?_
      have cs : Ch (row.take (g.ks.getD h 0)).length says := cs
      rw [lk] at cs
      refine ok_new (List (List Rat)) ?_
      refine ok_for (ι := List (List (List Rat))) (evi_range (ev_ixD (x := 0) (iK rfl) (ev_var (d := h) rfl) lh) (by omega)) (fun j ds => LQ j (LQ (g.as.getD h 0) (Ch (g.as.getD h 0))) ds) (fun _ ds => [.dat script, .dat g, .dat rule, .dat t, .dat h, .dat (g.as.getD h 0), .dat i, .dat (KT g rule h i), .dat row, .dat says, .own ds, .any, .any, .any]) [] LQ.nil
        (.keep rfl (.keep rfl (.keep rfl (.keep rfl (.keep rfl (.keep rfl (.keep rfl (.keep rfl (.keep rfl (.keep rfl (.keep rfl (.drop (.drop (.drop .nil)))))))))))))) (fun Fb3 j j' ds ej pj => ?_) (fun ds pj => ?_)
      · have lj : j < g.ks.getD h 0 := by
          have := (List.getElem?_eq_some_iff.mp ej).1
          simpa using this
        rw [List.getElem?_range lj] at ej
        cases ej
        have I : Sin g rule h j := ⟨G, R, lh, lj⟩
        have dl : ds.length = j := pj.1
        refine ok_asgD (ev_addN (ev_nat 3) (ev_mulN (ev_nat 9) (ev_var (d := j) rfl) (.inl (by decide)))) ?_
        refine ok_append (xs := ds) rfl (by omega) (EvP.list (P' := LQ (g.as.getD h 0) (Ch (g.as.getD h 0))) (ev_lc (P := fun _ q => Ch (g.as.getD h 0) q) (evi_range (ev_var (d := g.as.getD h 0) rfl) (by omega)) (by rw [List.length_range]; omega) fun m a em => ?_) fun x hx => LQ.of (by rw [List.length_range] at hx; exact hx)) fun x hx => ?_
        · have la : a < g.as.getD h 0 := by
            have l0 := (List.getElem?_eq_some_iff.mp em).1
            rw [List.length_range] at l0
            rw [List.getElem?_range l0] at em
            cases em
            exact l0
          have lc : ((row.drop (3 + 9 * j + 3 * a)).take (3 + 9 * j + 3 * a + g.as.getD h 0 - (3 + 9 * j + 3 * a))).length = g.as.getD h 0 := by
            rw [List.length_take, List.length_drop]
            omega
          refine (ev_call ((row.drop (3 + 9 * j + 3 * a)).take (3 + 9 * j + 3 * a + g.as.getD h 0 - (3 + 9 * j + 3 * a))) (eva_cons (Ev.list (ev_cutNL (ev_var (d := row) rfl) (ev_addN (ev_var (d := 3 + 9 * j) rfl) (ev_mulN (ev_nat 3) (ev_var (d := a) rfl) (.inl (by decide)))) (ev_addN (ev_addN (ev_var (d := 3 + 9 * j) rfl) (ev_mulN (ev_nat 3) (ev_var (d := a) rfl) (.inl (by decide)))) (ev_var (d := g.as.getD h 0) rfl)))) eva_nil) ⟨by rw [lc]; omega, by rw [lc]; omega⟩).imp fun q hq => ?_
          have hq : Ch ((row.drop (3 + 9 * j + 3 * a)).take (3 + 9 * j + 3 * a + g.as.getD h 0 - (3 + 9 * j + 3 * a))).length q := hq
          rw [lc] at hq
          exact hq
        have bl : ∀ {E : En} {Γ : List Slot}, Γ[1]? = some (.dat g) → Γ[2]? = some (.dat rule) → Γ[4]? = some (.dat h) → Γ[6]? = some (.dat i) → Γ[11]? = some (.dat j) → EvA K E (tCons (tVar 1) (tCons (tVar 2) (tCons (tVar 4) (tCons (tVar 6) (tCons (tVar 11) tNil))))) Γ [.dat g, .dat rule, .dat h, .dat i, .dat j] := fun h1 h2 h3 h4 h5 =>
          eva_cons (ev_var h1) (eva_cons (ev_var h2) (eva_cons (ev_var h3) (eva_cons (ev_var h4) (eva_cons (ev_var h5) eva_nil))))
        have dn : ((BL g rule h i j).map fun p : Nat × Rat => p.1).length = g.as.getD h 0 ∧ ∀ m, m < g.as.getD h 0 → ((BL g rule h i j).map fun p : Nat × Rat => p.1).getD m 0 < g.as.getD h 0 := by
          refine ⟨by simp [BL], fun m hm => ?_⟩
          have e : ((BL g rule h i j).map fun p : Nat × Rat => p.1).getD m 0 = (BA g rule h i j m).1 := by
            unfold BL
            rw [List.map_map, getD_map _ _ hm]
            rfl
          rw [e]
          exact (BA_ok (i := i) (told := m) I).2.1
        refine ok_ifr (evt_b (ev_call (KT g rule h i, LT g rule h i j ((BL g rule h i j).map (fun p : Nat × Rat => p.1))) (eva_cons (ev_var (d := KT g rule h i) rfl) (eva_cons (ev_call (g, rule, h, i, j, (BL g rule h i j).map fun p : Nat × Rat => p.1) (eva_cons (ev_var (d := g) rfl) (eva_cons (ev_var (d := rule) rfl) (eva_cons (ev_var (d := h) rfl) (eva_cons (ev_var (d := i) rfl) (eva_cons (ev_var (d := j) rfl) (eva_cons (ev_fst (p := ((BL g rule h i j).map (fun p : Nat × Rat => p.1), BV g rule h i j)) (ev_call (g, rule, h, i, j) (bl rfl rfl rfl rfl rfl) I)) eva_nil)))))) ⟨I, dn.1, dn.2⟩) eva_nil)) (Few.mk (KT_sz (i := i) G R lh) (LT_sz I dn.2) (by decide)))) (fun c => ?_) (fun c => ?_)
        · have c' : KT g rule h i < LT g rule h i j ((BL g rule h i j).map (fun p : Nat × Rat => p.1)) := of_decide_eq_true c
          rw [LT_best I] at c'
          exact absurd c' (Hn h lh i li j lj)
        · exact ok_next fun σ H ⟨F, S⟩ => ⟨_, pj.snoc hx, F, S.weak (.keep rfl (.keep rfl (.keep rfl (.keep rfl (.keep rfl (.keep rfl (.keep rfl (.keep rfl (.keep rfl (.keep rfl (.keep rfl (.drop (.drop (.drop .nil))))))))))))))⟩
      · rw [List.length_range] at pj
        refine ok_freeze 10 (xs := ds) rfl ?_
        have mi : Mxi g rule h says ds := ⟨G, R, lh, cs.l, cs.s4 hK.2, pj.1, fun x hx => ⟨(pj.2 x hx).1, fun y hy => ⟨((pj.2 x hx).2 y hy).l, ((pj.2 x hx).2 y hy).s4 hA.2⟩⟩⟩
        have le : MX g rule h i says ds ≤ KT g rule h i := MX_le G R Hn lh li cs pj.1 fun x hx => pj.2 x hx
        refine ok_ifr (evt_b (ev_call (KT g rule h i, MX g rule h i says ds) (eva_cons (ev_var (d := KT g rule h i) rfl) (eva_cons (ev_call (g, rule, h, i, says, ds) (eva_cons (ev_var rfl) (eva_cons (ev_var rfl) (eva_cons (ev_var rfl) (eva_cons (ev_var rfl) (eva_cons (ev_var rfl) (eva_cons (ev_var rfl) eva_nil)))))) mi) eva_nil)) (Few.mk (KT_sz (i := i) G R lh) (MX_sz (i := i) mi) (by decide)))) (fun c => ?_) (fun c => ?_)
        · have c' : KT g rule h i < MX g rule h i says ds := of_decide_eq_true c
          exact absurd c' (Rat.not_lt.mpr le)
        · exact ok_wk (.keep rfl (.keep rfl (.keep rfl (.keep rfl (.keep rfl (.keep rfl (.drop (.drop (.drop (.drop (.drop (.drop (.drop (.drop .nil))))))))))))))
    · exact ok_wk (.keep rfl (.keep rfl (.keep rfl (.keep rfl (.drop (.drop (.drop (.drop (.drop (.drop (.drop (.drop (.drop (.drop .nil))))))))))))))
  · exact ok_ret ev_bl fun d e => e
end
end Tm

namespace Tm
open PySem L2
abbrev s_law : Stmt := topS 52
abbrev n_law : List Str := ["_law_script", "_law_game_here", "_law_made_here", "_law_rule_here", "_law_row_here", "_law_told", "_law_base", "_law_papers", "_law_paper", "_law_part", "_law_line"]
abbrev p_law : List Str := ["_law_script"]
theorem sc_law : FnScope n_law p_law (defScope s_law) := ⟨rfl, rfl, rfl, by decide +kernel, rfl, by decide +kernel, by decide +kernel⟩
section
variable {K : PySem.W.Frag} {E : En} {F H : Hp} {σ : St} {Γ : List Slot} {α β : Type} [Py α] [Py β]
theorem ev_unsome {te : TE} {d : α} (h : Ev K E te Γ (some d)) : Ev K E te Γ d := EvP.conv h fun F v o e r => ⟨d, rfl, by
  subst e
  exact r.2⟩
theorem ok_freezeNL {post : β → Prop} {N : As} {t : TS} (i : Nat) {xs : List α} (k : Γ[i]? = some (.own xs)) (h : Ok K E post t (Sat K E (Γ.set i (.dat (⟨xs⟩ : NL E.H0 α)))) N) : Ok K E post t (Sat K E Γ) N := h.pre fun σ H ⟨F, S⟩ => by
  obtain ⟨F', S'⟩ := S.freeze k
  obtain ⟨a, vs, ha, hH, fa, a0, r⟩ := S.atOwn k
  have li : i < Γ.length := (List.getElem?_eq_some_iff.mp k).1
  have ff : Same F (upd F a (.lst vs)) := same_new fa
  refine ⟨upd F a (.lst vs), S.s0, S.ext.freeze S.s0 hH fa a0, S.bs.trans ff, by simp [S.len], fun j s kj => ?_, fun j l s t c n k1 k2 o1 o2 => ?_⟩
  · by_cases q : i = j
    · subst q
      rw [List.getElem?_set_self li] at kj
      cases kj
      exact ⟨_, ha, .ref a, rfl, a, vs, rfl, upd_same, a0, r.mono ff⟩
    · rw [List.getElem?_set_ne q] at kj
      obtain ⟨o, e2, r2⟩ := S.ok j s kj
      refine ⟨o, e2, ?_⟩
      cases s with
      | any => exact trivial
      | dat d =>
        obtain ⟨v, rfl, r3⟩ := r2
        exact ⟨v, rfl, Py.mono ff r3⟩
      | own zs =>
        obtain ⟨c, us, rfl, hc, fc, c0, r3⟩ := r2
        have nca : c ≠ a := fun z => by
          subst z
          exact S.sep i j _ _ c q k kj rfl rfl ha e2
        exact ⟨c, us, rfl, hc, by rw [upd_ne nca]; exact fc, c0, r3.mono ff⟩
  · have tr : ∀ (m : Nat) (u : Slot), (Γ.set i (.dat (⟨xs⟩ : NL E.H0 α)))[m]? = some u → u.isOwn = true → Γ[m]? = some u := by
      intro m u km om
      by_cases q : i = m
      · subst q
        rw [List.getElem?_set_self li] at km
        cases km
        exact nomatch om
      · rw [List.getElem?_set_ne q] at km
        exact km
    exact S.sep j l s t c n (tr _ _ k1 o1) (tr _ _ k2 o2) o1 o2
/-- arguments of one kind, by what holds of them -/
def EvL (K : PySem.W.Frag) (E : En) (ta : TA) (Γ : List Slot) (P : List α → Prop) : Prop :=
  ∀ (F H : Hp) (σ : St), Stt K E F H σ Γ → ∀ Q : List V → Hp → Prop, (∀ (xs : List α) (vs : List V) (F' H' : Hp), P xs → Ext F H F' H' → Reps K F' vs xs → Q vs H') → ta σ H Q
theorem evl_nil : EvL K E tNil Γ (fun xs : List α => xs = []) := fun F H σ S Q q => q [] [] F H rfl (Ext.refl S.fh) Reps.nil
theorem evl_cons {te : TE} {tr : TA} {P : α → Prop} {R : List α → Prop} (h : EvP K E te Γ P) (hr : EvL K E tr Γ R) : EvL K E (tCons te tr) Γ (fun l => ∃ x xs, l = x :: xs ∧ P x ∧ R xs) := fun F H σ S Q q => by
  refine h F H σ S _ fun d v F1 H1 p x r => ?_
  refine hr F1 H1 σ (S.mono x) _ fun xs vs F2 H2 p2 x2 r2 => ?_
  refine q (d :: xs) (v :: vs) F2 H2 ⟨d, xs, rfl, p, p2⟩ (x.trans x2) ⟨by simp [r2.1], fun i w y a b => ?_⟩
  cases i with
  | zero =>
    simp at a b
    rw [← a, ← b]
    exact Py.mono x2.ff r
  | succ i => exact r2.2 i w y (by simpa using a) (by simpa using b)
theorem ev_lstP {ta : TA} {P : List α → Prop} (h : EvL K E ta Γ P) (hz : ∀ l, P l → l.length ≤ 1000) : EvP K E (tLst ta) Γ (fun l : NL E.H0 α => P l.l) := fun F H σ S Q q => by
  refine h F H σ S _ fun xs vs F1 H1 p x r => ?_
  refine ⟨by rw [r.1]; exact Nat.le_of_lt (small1000 (hz xs p)), fun a ha => ?_⟩
  have y : Ext F1 H1 (upd F1 a (.lst vs)) (upd H1 a (.lst vs)) := Ext.new x.fh ha
  exact q ⟨xs⟩ _ _ _ p (x.trans y) ⟨a, vs, rfl, upd_same, (S.mono x).ext.hh.free ha, r.mono y.ff⟩
theorem ev_catP {ta tb : TE} {Pa Pb : List α → Prop} (ha : EvP K E ta Γ (fun l : NL E.H0 α => Pa l.l)) (hb : EvP K E tb Γ (fun l : NL E.H0 α => Pb l.l)) (hz : ∀ a b, Pa a → Pb b → a.length + b.length ≤ 1000) :
    EvP K E (tOp rCat ta tb) Γ (fun l : NL E.H0 α => ∃ a b, l.l = a ++ b ∧ Pa a ∧ Pb b) := fun F H σ S Q q => by
  refine ha F H σ S _ fun d v F1 H1 p x r => ?_
  refine hb F1 H1 σ (S.mono x) _ fun d2 v2 F2 H2 p2 x2 r2 => ?_
  obtain ⟨a, vs, rfl, h1, _, h3⟩ := r
  obtain ⟨b, ws, rfl, g1, _, g3⟩ := r2
  refine ⟨a, b, vs, ws, rfl, rfl, x2.hh _ _ (x.fh _ _ h1), x2.fh _ _ g1, by rw [h3.1, g3.1]; exact Nat.le_of_lt (small1000 (hz _ _ p p2)), fun c hc => ?_⟩
  have y : Ext F2 H2 (upd F2 c (.lst (vs ++ ws))) (upd H2 c (.lst (vs ++ ws))) := Ext.new x2.fh hc
  exact q ⟨d.l ++ d2.l⟩ _ _ _ ⟨d.l, d2.l, rfl, p, p2⟩ ((x.trans x2).trans y) ⟨c, _, rfl, upd_same, ((S.mono x).mono x2).ext.hh.free hc, ((h3.mono x2.ff).mono y.ff).append (g3.mono y.ff)⟩
end
section
variable {P : Program} {w : World} {K : PySem.W.Frag} {mg : Str → Option Value} {base : Heap} {z : Addr}
abbrev prLaw (K : PySem.W.Frag) : Sp := Pr K (fun x : List Int => [.dat x]) (fun _ => True) (fun _ (r : Bool) => r = true)
theorem WfR.c {g : Gm} {rule : RuleT} (G : WfG g) (R : WfR g rule) : rule.length ≤ 100 ∧ ∀ y ∈ rule, y.length ≤ 100 := by
  have := G.s4
  have := sizeN_le G.bk
  exact ⟨by rw [R.l]; omega, fun y hy => by rw [(R.k y hy).1]; omega⟩
theorem ok_law (T : Txt K mg z) (d_lgame : Df P w K mg base "_law_game" 5 p_lgame (prGame K)) (d_lmade : Df P w K mg base "_law_made" 3 p_lmade (prMade K)) (d_lrule : Df P w K mg base "_law_rule" 4 p_lrule (prRule K)) (d_lrow : Df P w K mg base "_law_row" 1 p_lrow (prRow K))
    (d_lie_paper : Df P w K mg base "lie_paper" 9 p_lie_paper (prLp K)) (d_lcopy : Df P w K mg base "_law_copy" 1 p_lcopy (prCopy K)) (d_lpaper_of : Df P w K mg base "_law_paper_of" 7 p_lpaper_of (prPo K)) (d_lmoved : Df P w K mg base "_law_moved" 4 p_lmoved (prMoved K))
    (d_judge_lies : Df P w K mg base "judge_lies" 6 p_judge_lies (prJl K)) (d_llies_bounded : Df P w K mg base "_law_lies_bounded" 7 p_llies_bounded (prLb K)) (d_honest : Df P w K mg base "honest" 8 p_honest (prHon K))
    {f : Addr} {fd : FuncData} (F : Fun K "law" "law" s_law f fd) : FnOk P w K mg base CX0 10 f fd p_law (prLaw K) := by
  refine fun_pr F sc_law (fun _ => rfl) fun cdv A outer s H X hr script _ => ?_
  refine ⟨_, (pss_cons (ps_set (i := 1) sc_law.nd rfl (Or.inl rfl) (d_lgame.call hr (by rfl) (by decide) (pa_cons (pv 0) (pa_cons pe_int (pa_cons pe_int pa_nil)))))
    (pss_cons (ps_set (i := 2) sc_law.nd rfl (Or.inl rfl) (d_lmade.call hr (by rfl) (by decide) (pa_cons (pv 1) pa_nil)))
    (pss_cons (ps_set (i := 3) sc_law.nd rfl (Or.inr rfl) (d_lrule.call hr (by rfl) (by decide) (pa_cons (pv 0) (pa_cons pe_int (pa_cons (pv 1) pa_nil)))))
    (pss_cons (ps_set (i := 4) sc_law.nd rfl (Or.inl rfl) (d_lrow.call hr (by rfl) (by decide) (pa_cons (pv 0) (pa_cons pe_int (pa_cons pe_int pa_nil)))))
    (pss_cons (ps_if (pt_cmpR op_eq (pe_op op_mod (pe_callTy call_int1 (by rfl) T.int PyProof.Rows.boot_int (pa_cons (ixl K (pv 4) pe_int (fun _ _ => rfl)) pa_nil)) pe_int) pe_int (nomark _))
      (pss_cons (ps_set (i := 3) sc_law.nd rfl (Or.inr rfl) (pe_lc (own := [("_law_part", 9)]) (g := gName 9) (tt := tYes)  rfl sc_law.nd (listK K (pv 3)) (blkOk_by (N := n_law) (sc := defScope s_law) (by decide +kernel)) (fun _ _ _ _ _ => pg_name (i := 9) sc_law.nd rfl (Or.inl rfl)) (fun _ _ _ _ _ => pts_nil) (fun _ _ _ _ _ => (pe_lc (own := [("_law_line", 10)]) (g := gName 10) (tt := tYes)  rfl sc_law.nd (listK K (pv 9)) (blkD1 (N := n_law) (sc := defScope s_law) rfl rfl (by decide +kernel)) (fun _ _ _ _ _ => pg_name (i := 10) sc_law.nd rfl (Or.inl rfl)) (fun _ _ _ _ _ => pts_nil) (fun _ _ _ _ _ => (pe_callTy (mkListK K) (by rfl) T.list PyProof.Rows.boot_list (pa_cons (ixl K (ixl K (pv 3) pe_int (fun _ _ => rfl)) pe_int (fun _ _ => rfl)) pa_nil)))))))
        pss_nil)
      pss_nil)
    (pss_cons (ps_set (i := 5) sc_law.nd rfl (Or.inl rfl) (d_lie_paper.call hr (by rfl) (by decide) (pa_cons (pv 2) (pa_cons (d_lcopy.call hr (by rfl) (by decide) (pa_cons (pv 3) pa_nil)) pa_nil))))
    (pss_cons (ps_set (i := 6) sc_law.nd rfl (Or.inl rfl) (d_lpaper_of.call hr (by rfl) (by decide) (pa_cons (pv 2) (pa_cons (pv 3) (pa_cons (pv 1) pa_nil)))))
    (pss_cons (ps_set (i := 7) sc_law.nd rfl (Or.inl rfl) (pe_lst (pa_cons (pv 6) pa_nil)))
    (pss_cons (ps_if (pt_cmp (pc_notN (pv 5)))
      (pss_cons (ps_expr (pe_bm PySem.F.plainAttrs_list PySem.F.slot_list_append PySem.F.type_list_append mt_append (pv 7) (pa_cons (pv 5) pa_nil)))
        (pss_cons (ps_set (i := 6) sc_law.nd rfl (Or.inl rfl) (pv 5))
        pss_nil))
      pss_nil)
    (pss_cons (ps_set (i := 7) sc_law.nd rfl (Or.inl rfl) (pe_op op_cat (pv 7) (pe_lst (pa_cons (d_lmoved.call hr (by rfl) (by decide) (pa_cons (pv 6) (pa_cons (pv 4) (pa_cons (pe_tup (pa_cons pe_int (pa_cons pe_int pa_nil))) pa_nil)))) (pa_cons (d_lmoved.call hr (by rfl) (by decide) (pa_cons (pv 6) (pa_cons (pv 4) (pa_cons (pe_tup (pa_cons (pe_un un_neg pe_int) (pa_cons pe_int pa_nil))) pa_nil)))) pa_nil)))))
    (pss_cons (ps_for PassesOwn.never rfl (listK K (pv 7)) (pg_name (i := 8) sc_law.nd rfl (Or.inl rfl))
      (pss_cons (ps_if (pt_val (d_judge_lies.call hr (by rfl) (by decide) (pa_cons (pv 2) (pa_cons (d_lcopy.call hr (by rfl) (by decide) (pa_cons (pv 3) pa_nil)) (pa_cons (pv 8) pa_nil)))))
          (pss_cons (ps_if (PW.pt (pw_or (pt_not (pt_val (d_llies_bounded.call hr (by rfl) (by decide) (pa_cons (pv 0) (pa_cons (pv 2) (pa_cons (pv 3) (pa_cons (pv 1) pa_nil))))))) (pw_or (pt_cmpR op_notBl (d_honest.call hr (by rfl) (by decide) (pa_cons (pv 2) (pa_cons (pv 3) pa_nil))) pe_bl (nomark _)) (pw_or1 (pt_cmp (pc_isN (pv 5)))))))
              (pss_cons (ps_ret pe_bl)
                pss_nil)
              pss_nil)
            pss_nil)
          pss_nil)
        pss_nil))
    (pss_cons (ps_ret (pe_or (pe_cmp (pc_isN (pv 5))) (pe_one (pe_cmpR op_isBl (d_judge_lies.call hr (by rfl) (by decide) (pa_cons (pv 2) (pa_cons (d_lcopy.call hr (by rfl) (by decide) (pa_cons (pv 3) pa_nil)) (pa_cons (pv 5) pa_nil)))) pe_bl (nomark _)))))
    pss_nil)))))))))))), fun E => ?_⟩
  refine ok_asg (ev_call (script, 0) (eva_cons (ev_var rfl) (eva_cons (ev_nat 0) (eva_cons (ev_nat 16) eva_nil))) (by show 0 ≤ 10; decide)) fun t G => ?_
  have G : WfG (gm t) := G
  refine ok_asgD (ev_call t (eva_cons (ev_var rfl) eva_nil) G) ?_
  refine ok_asg (ev_call (script, 6, t) (eva_cons (ev_var rfl) (eva_cons (ev_nat 6) (eva_cons (ev_var rfl) eva_nil))) ⟨by show 6 ≤ 10; decide, G⟩) fun rule0 R0 => ?_
  have R0 : WfR (gm t) rule0 := R0
  refine ok_asg (ev_call (script, 7, 5) (eva_cons (ev_var rfl) (eva_cons (ev_nat 7) (eva_cons (ev_nat 5) eva_nil))) ⟨by show 7 ≤ 100; decide, by show 5 ≤ 100; decide⟩) fun row hrow => ?_
  obtain ⟨rl, rx⟩ : Rw 5 row := hrow
  refine ok_if (evt_test (ev_eqN (ev_modN (ev_int1N (eva_cons (ev_ixD (x := 0) (ev_var (d := row) rfl) (ev_nat 4) (by omega)) eva_nil)) (ev_nat 3) (by decide)) (ev_nat 1)))
    (fun σ H => ∃ r : RuleT, WfR (gm t) r ∧ Sat K E [.dat script, .dat t, .dat (gm t), .dat r, .dat row, .any, .any, .any, .any, .any, .any] σ H) (fun c => ?_) (fun c => ?_) (ok_ex fun rule R => ?_)
  · have c0 := R0.c G
    have l0 : 0 < rule0.length := by rw [R0.l]; exact G.s1
    have m0 := getD_memD (d := []) l0
    have k0 := R0.k _ m0
    have l1 : 0 < (rule0.getD 0 []).length := by rw [k0.1]; exact sizeN_pos G.bk
    have m1 := k0.2 _ (getD_memD (d := []) l1)
    refine ok_asgD (ev_lcD (f := fun p : List (List Rat) => p.map fun _ => (rule0.getD 0 []).getD 0 []) (evi_list (ev_var (d := rule0) rfl)) (by omega) fun p hp => ev_lcD (f := fun _ : List Rat => (rule0.getD 0 []).getD 0 []) (evi_list (ev_var (d := p) rfl)) (by have := c0.2 p hp; omega) fun l _ => ev_list (eva_cons (ev_ixD (x := []) (ev_ixD (x := []) (ev_var (d := rule0) rfl) (ev_nat 0) l0) (ev_nat 0) l1) eva_nil)) ?_
    refine ok_next fun σ H ⟨F, S⟩ => ⟨_, ⟨by rw [List.length_map, R0.l], fun x hx => ?_⟩, F, S.weak (.keep rfl (.keep rfl (.keep rfl (.keep rfl (.keep rfl (.drop (.drop (.drop (.drop (.drop (.drop .nil)))))))))))⟩
    obtain ⟨p, hp, rfl⟩ := List.mem_map.mp hx
    refine ⟨by rw [List.length_map]; exact (R0.k p hp).1, fun y hy => ?_⟩
    obtain ⟨_, _, rfl⟩ := List.mem_map.mp hy
    exact m1
  · exact ok_next fun σ H ⟨F, S⟩ => ⟨_, R0, F, S.weak (.keep rfl (.keep rfl (.keep rfl (.keep rfl (.keep rfl (.drop (.drop (.drop (.drop (.drop (.drop .nil)))))))))))⟩
  have cp := R.c G
  refine ok_asg (ev_call (gm t, rule) (eva_cons (ev_var rfl) (eva_cons (ev_call rule (eva_cons (ev_var rfl) eva_nil) cp) eva_nil)) ⟨G, R⟩) fun told ht => ?_
  have ht : (told = none ∧ ¬ Hon (gm t) rule) ∨ (Hon (gm t) rule ∧ told = some (PF (gm t) rule)) := ht
  refine ok_asgD (ev_call (t, rule) (eva_cons (ev_var rfl) (eva_cons (ev_var rfl) (eva_cons (ev_var rfl) eva_nil))) ⟨G, R⟩) ?_
  have pz := PF_sz (g := gm t) G R
  have pz2 : PSn 210 (PF (gm t) rule) := fun a ha b hb c hc q hq => (pz a ha b hb c hc q hq).mono (by decide)
  have pf := PF_full (g := gm t) G R
  generalize hP : PF (gm t) rule = PP at *
  refine ok_newL (xs := [PP]) (by exact (by decide : 7 < 11)) (eva_cons (ev_var (d := PP) rfl) eva_nil) (by exact (by decide : 1 ≤ 1000)) ?_
  let G0 (ps : Slot) : List Slot := [.dat script, .dat t, .dat (gm t), .dat rule, .dat row, .dat told, .dat PP, ps, .any, .any, .any]
  refine ok_if (evt_b (ev_notN (ev_var (d := told) rfl))) (fun σ H => ∃ ps : List PaperT, (ps.length ≤ 2 ∧ ∀ p ∈ ps, PSn 210 p) ∧ Sat K E (G0 (.own ps)) σ H) (fun c => ?_) (fun c => ?_) (ok_ex fun ps hps => ?_)
  · rcases ht with ⟨rfl, _⟩ | ⟨hon, rfl⟩
    · cases c
    · refine ok_appendD (xs := [PP]) (d := PP) rfl (by exact (by decide : 1 < 1000)) (ev_unsome (ev_var (d := some PP) rfl)) ?_
      refine ok_asgD (d := PP) (ev_unsome (ev_var (d := some PP) rfl)) ?_
      refine ok_next fun σ H ⟨F, S⟩ => ⟨[PP, PP], ⟨by exact (by decide : 2 ≤ 2), fun p hp => ?_⟩, F, S.weak (.keep rfl (.keep rfl (.keep rfl (.keep rfl (.keep rfl (.keep rfl (.keep rfl (.keep rfl (.drop (.drop (.drop .nil)))))))))))⟩
      simp at hp
      rw [hp]
      exact pz2
  · refine ok_next fun σ H ⟨F, S⟩ => ⟨[PP], ⟨by exact (by decide : 1 ≤ 2), fun p hp => ?_⟩, F, S.weak (.keep rfl (.keep rfl (.keep rfl (.keep rfl (.keep rfl (.keep rfl (.keep rfl (.keep rfl (.drop (.drop (.drop .nil)))))))))))⟩
    simp at hp
    rw [hp]
    exact pz2
  refine ok_freezeNL 7 (xs := ps) rfl ?_
  have t1 : Sz 4 (mkRat 1 10) := ⟨by decide, by decide⟩
  have t2 : Sz 4 (mkRat (-1) 10) := ⟨by decide, by decide⟩
  refine ok_asg (ev_catP (Pa := fun l => l = ps) (EvP.imp (ev_var (d := (⟨ps⟩ : NL E.H0 PaperT)) rfl) fun d e => by rw [e]) (ev_lstP (evl_cons (ev_call (PP, row, mkRat 1 10) (eva_cons (ev_var (d := PP) rfl) (eva_cons (ev_var (d := row) rfl) (eva_cons (ev_rat (z := mkRat 1 10) (eva_cons ev_int (eva_cons ev_int eva_nil)) rfl rfl) eva_nil))) ⟨pf, pz, rl, t1⟩)
    (evl_cons (ev_call (PP, row, mkRat (-1) 10) (eva_cons (ev_var (d := PP) rfl) (eva_cons (ev_var (d := row) rfl) (eva_cons (ev_rat (z := mkRat (-1) 10) (eva_cons (ev_neg ev_int) (eva_cons ev_int eva_nil)) rfl rfl) eva_nil))) ⟨pf, pz, rl, t2⟩) evl_nil)) fun l hl => ?_) fun a b ha hb => ?_) fun all hall => ?_
  · obtain ⟨x, xs, rfl, _, y, ys, rfl, _, rfl⟩ := hl
    exact (by decide : 2 ≤ 1000)
  · obtain ⟨x, xs, rfl, _, y, ys, rfl, _, rfl⟩ := hb
    subst ha
    have := hps.1
    show a.length + 2 ≤ 1000
    omega
  have good : ∀ p ∈ all.l, PSn 210 p := by
    obtain ⟨a, b, e, rfl, x, xs, rfl, h1, y, ys, rfl, h2, rfl⟩ := hall
    rw [e]
    intro p hp
    rcases List.mem_append.mp hp with h | h
    · exact hps.2 p h
    · simp at h
      rcases h with rfl | rfl
      · exact h1
      · exact h2
  have jl : ∀ {E : En} {Γ : List Slot} {ta : TE} (p : PaperT), Γ[2]? = some (.dat (gm t)) → Γ[3]? = some (.dat rule) → Ev K E ta Γ p → PSn 210 p → Ev K E (tCall (prJl K) [] E0 (tCons (tVar 2) (tCons (tCall (prCopy K) [] E0 (tCons (tVar 3) tNil)) (tCons ta tNil)))) Γ (bool (Acc (gm t) rule p)) := fun p h2 h3 h5 hp =>
    evb (ev_call (gm t, rule, p) (eva_cons (ev_var h2) (eva_cons (ev_call rule (eva_cons (ev_var h3) eva_nil) cp) (eva_cons h5 eva_nil))) ⟨G, R, hp⟩)
  refine ok_forD (evi_list (Ev.list (Hb := E.H0) (xs := all.l) (ev_var (d := all) rfl))) (fun _ => [.dat script, .dat t, .dat (gm t), .dat rule, .dat row, .dat told, .dat PP, .any, .any, .any, .any]) (.keep rfl (.keep rfl (.keep rfl (.keep rfl (.keep rfl (.keep rfl (.keep rfl (.drop (.drop (.drop (.drop .nil))))))))))) (fun Fb i p ei => ?_) ?_
  · have gp := good p (List.mem_of_getElem? ei)
    refine ok_if (evt_b (jl p rfl rfl (ev_var (d := p) rfl) gp)) (Sat K _ [.dat script, .dat t, .dat (gm t), .dat rule, .dat row, .dat told, .dat PP, .any, .any, .any, .any]) (fun c => ?_) (fun c => ?_) (ok_wk (Wk.refl _))
    · have hon : Hon (gm t) rule := Acc.hon G R (bool_iff.mp c)
      have et : told = some PP := by
        rcases ht with ⟨_, nh⟩ | ⟨_, e⟩
        · exact absurd hon nh
        · exact e
      subst et
      have hb : bool (Hon (gm t) rule) = true := bool_iff.mpr hon
      refine ok_ifr (b := false) (EvT.to (evt_or (evt_not (evt_b (b := true) (ev_call (script, t, rule) (eva_cons (ev_var (d := script) rfl) (eva_cons (ev_var (d := gm t) rfl) (eva_cons (ev_var (d := rule) rfl) (eva_cons (ev_var (d := t) rfl) eva_nil)))) ⟨G, R, hon⟩))) fun _ => evt_or (evt_test (ev_isNotB (evb (ev_call (gm t, rule) (eva_cons (ev_var (d := gm t) rfl) (eva_cons (ev_var (d := rule) rfl) eva_nil)) ⟨G, R⟩)) (ev_bl (b := true)))) fun _ => evt_b (ev_isN (ev_var (d := some PP) rfl))) ?_) (fun c => nomatch c) (fun _ => ?_)
      · rw [hb]
        rfl
      · exact ok_wk (.keep rfl (.keep rfl (.keep rfl (.keep rfl (.keep rfl (.keep rfl (.keep rfl (.drop (.drop (.drop (.drop .nil)))))))))))
    · exact ok_wk (.keep rfl (.keep rfl (.keep rfl (.keep rfl (.keep rfl (.keep rfl (.keep rfl (.drop (.drop (.drop (.drop .nil)))))))))))
  · rcases ht with ⟨rfl, _⟩ | ⟨hon, rfl⟩
    · refine ok_ret (ev_orV (a := true) (b := true) (ev_isN (ev_var (d := (none : Option PaperT)) rfl)) (fun c => nomatch c)) fun d e => e
    · have ha : bool (Acc (gm t) rule PP) = true := bool_iff.mpr (by rw [← hP]; exact PF_acc G R hon)
      refine ok_ret (ev_orV (a := false) (ev_isN (ev_var (d := some PP) rfl)) (fun _ => ev_isB (jl PP rfl rfl (ev_unsome (ev_var (d := some PP) rfl)) pz2) (ev_bl (b := true)))) fun d e => ?_
      rw [e, ha]
      rfl
end
end Tm

namespace Tm
open PySem L2
/-! ### what the top has written -/
structure DefIn (K : PySem.W.Frag) (x : Str) (st : Stmt) (f : Addr) (oc : Value) (od an : Option Addr) (sl : Array (Option Value)) (kV dc pm cd ct : Value) : Prop where
  a : PySem.W.nsIn K mainGlobals x = some (some (.ref f))
  l : K.lookup f = some ⟨oc, od, .func (PySem.W.fnOf x x (defArgs st) (defBody st) (defScope st) .none kV dc pm an cd ct), sl⟩
  c : PySem.W.codeIn K cd x = true
  k : PySem.W.keepIn K (.ref f) = true
theorem DefIn.dn {K : PySem.W.Frag} {h : Heap} {mg : Str → Option Value} {x : Str} {st : Stmt} {f : Addr} {oc : Value} {od an : Option Addr} {sl : Array (Option Value)} {kV dc pm cd ct : Value} {ps : List Str} (D : DefIn K x st f oc od an sl kV dc pm cd ct) (X : K.In h) (G : h.Ns mainGlobals mg)
    (hb : ∀ (kV doc pm : Value) (an : Option Addr) (cdv ct : Value) (us : List Value), us.length = ps.length → bindArgs (PySem.W.fnOf x x (defArgs st) (defBody st) (defScope st) .none kV doc pm an cdv ct) ⟨us, []⟩ = pure (ps.zip us)) : Dn K mg x x st ps :=
  ⟨f, _, fun_mk (st := st) D.l D.c D.k, PySem.W.mg_of X G D.a, (fun_mk (st := st) D.l D.c D.k).binds hb⟩
structure GameIn (K : PySem.W.Frag) (C f : Addr) (oc : Value) (od an : Option Addr) (sl : Array (Option Value)) (kV dc pm cd ct : Value) : Prop where
  aC : PySem.W.nsIn K mainGlobals "Game" = some (some (.ref C))
  a : PySem.W.findIn K (.ref C) "__init__" = some (some (.ref f))
  i : PySem.W.isFn K (.ref f) = true
  l : K.lookup f = some ⟨oc, od, .func (PySem.W.fnOf "__init__" "Game.__init__" (defArgs s_Game_init) (defBody s_Game_init) (defScope s_Game_init) .none kV dc pm an cd ct), sl⟩
  c : PySem.W.codeIn K cd "Game.__init__" = true
  k : PySem.W.keepIn K (.ref f) = true
  pg : PySem.W.plainGet K C Str.empty = true
  hd : PySem.W.hasDictIn K C = true
  po : PySem.W.plainOver K C = true
  sa : PySem.W.findIn K (.ref C) "__setattr__" = some (some (.builtin "object.__setattr__"))
  mks : PySem.W.makesIn K C = true
  kc : PySem.W.keepIn K (.ref C) = true
  nS : PySem.W.findIn K (.ref C) "states" = some none
  nK : PySem.W.findIn K (.ref C) "kinds" = some none
  nA : PySem.W.findIn K (.ref C) "acts" = some none
  nW : PySem.W.findIn K (.ref C) "weights" = some none
  nP : PySem.W.findIn K (.ref C) "pays" = some none
structure TxtIn (K : PySem.W.Frag) (z : Addr) (dZ : Option Addr) (t0 t1 : Tok) (nZ : Nat) (sZ : Array (Option Value)) : Prop where
  len : PySem.W.nsIn K mainGlobals "len" = some none
  range : PySem.W.nsIn K mainGlobals "range" = some none
  int : PySem.W.nsIn K mainGlobals "int" = some none
  list : PySem.W.nsIn K mainGlobals "list" = some none
  abs : PySem.W.nsIn K mainGlobals "abs" = some none
  sum : PySem.W.nsIn K mainGlobals "sum" = some none
  gcd : PySem.W.nsIn K mainGlobals "gcd" = some (some (.builtin "math.gcd"))
  zz : PySem.W.nsIn K mainGlobals "ZERO" = some (some (.ref z))
  zl : K.lookup z = some ⟨.type "tuple", dZ, .seq #[.int 0 t0, .int 1 t1] nZ, sZ⟩
theorem TxtIn.txt {K : PySem.W.Frag} {h : Heap} {mg : Str → Option Value} {z : Addr} {dZ : Option Addr} {t0 t1 : Tok} {nZ : Nat} {sZ : Array (Option Value)} (T : TxtIn K z dZ t0 t1 nZ sZ) (X : K.In h) (G : h.Ns mainGlobals mg) : Txt K mg z :=
  ⟨PySem.W.mg_none_of X G T.len, PySem.W.mg_none_of X G T.range, PySem.W.mg_none_of X G T.int, PySem.W.mg_none_of X G T.list, PySem.W.mg_none_of X G T.abs, PySem.W.mg_none_of X G T.sum, PySem.W.mg_of X G T.gcd, PySem.W.mg_of X G T.zz,
    fun F => .inr ⟨_, _, _, T.zl, rfl, rfl, by show 2 ≤ sizeLine; decide, .cons ⟨_, rfl⟩ (.cons ⟨_, rfl⟩ .nil)⟩⟩

set_option maxHeartbeats 8000000 in
theorem all_mk {l : PySem.W.OpenLaw} {w : World} {K : PySem.W.Frag} {h : Heap} {mg : Str → Option Value} {fa C z : Addr} {dZ : Option Addr} {t0 t1 : Tok} {nZ : Nat} {sZ : Array (Option Value)}
    {f_ratio : Addr} {oc_ratio : Value} {od_ratio an_ratio : Option Addr} {sl_ratio : Array (Option Value)} {kV_ratio dc_ratio pm_ratio cd_ratio ct_ratio : Value}
    {f_add : Addr} {oc_add : Value} {od_add an_add : Option Addr} {sl_add : Array (Option Value)} {kV_add dc_add pm_add cd_add ct_add : Value}
    {f_sub : Addr} {oc_sub : Value} {od_sub an_sub : Option Addr} {sl_sub : Array (Option Value)} {kV_sub dc_sub pm_sub cd_sub ct_sub : Value}
    {f_mul : Addr} {oc_mul : Value} {od_mul an_mul : Option Addr} {sl_mul : Array (Option Value)} {kV_mul dc_mul pm_mul cd_mul ct_mul : Value}
    {f_less : Addr} {oc_less : Value} {od_less an_less : Option Addr} {sl_less : Array (Option Value)} {kV_less dc_less pm_less cd_less ct_less : Value}
    {f_added : Addr} {oc_added : Value} {od_added an_added : Option Addr} {sl_added : Array (Option Value)} {kV_added dc_added pm_added cd_added ct_added : Value}
    {f_dot : Addr} {oc_dot : Value} {od_dot an_dot : Option Addr} {sl_dot : Array (Option Value)} {kV_dot dc_dot pm_dot cd_dot ct_dot : Value}
    {f_size : Addr} {oc_size : Value} {od_size an_size : Option Addr} {sl_size : Array (Option Value)} {kV_size dc_size pm_size cd_size ct_size : Value}
    {f_row_at : Addr} {oc_row_at : Value} {od_row_at an_row_at : Option Addr} {sl_row_at : Array (Option Value)} {kV_row_at dc_row_at pm_row_at cd_row_at ct_row_at : Value}
    {f_rows : Addr} {oc_rows : Value} {od_rows an_rows : Option Addr} {sl_rows : Array (Option Value)} {kV_rows dc_rows pm_rows cd_rows ct_rows : Value}
    {f_kind_rows : Addr} {oc_kind_rows : Value} {od_kind_rows an_kind_rows : Option Addr} {sl_kind_rows : Array (Option Value)} {kV_kind_rows dc_kind_rows pm_kind_rows cd_kind_rows ct_kind_rows : Value}
    {f_kind_total : Addr} {oc_kind_total : Value} {od_kind_total an_kind_total : Option Addr} {sl_kind_total : Array (Option Value)} {kV_kind_total dc_kind_total pm_kind_total cd_kind_total ct_kind_total : Value}
    {f_place : Addr} {oc_place : Value} {od_place an_place : Option Addr} {sl_place : Array (Option Value)} {kV_place dc_place pm_place cd_place ct_place : Value}
    {f_replaced : Addr} {oc_replaced : Value} {od_replaced an_replaced : Option Addr} {sl_replaced : Array (Option Value)} {kV_replaced dc_replaced pm_replaced cd_replaced ct_replaced : Value}
    {f_told_total : Addr} {oc_told_total : Value} {od_told_total an_told_total : Option Addr} {sl_told_total : Array (Option Value)} {kV_told_total dc_told_total pm_told_total cd_told_total ct_told_total : Value}
    {f_best_act : Addr} {oc_best_act : Value} {od_best_act an_best_act : Option Addr} {sl_best_act : Array (Option Value)} {kV_best_act dc_best_act pm_best_act cd_best_act ct_best_act : Value}
    {f_best_lie : Addr} {oc_best_lie : Value} {od_best_lie an_best_lie : Option Addr} {sl_best_lie : Array (Option Value)} {kV_best_lie dc_best_lie pm_best_lie cd_best_lie ct_best_lie : Value}
    {f_gaining_lie : Addr} {oc_gaining_lie : Value} {od_gaining_lie an_gaining_lie : Option Addr} {sl_gaining_lie : Array (Option Value)} {kV_gaining_lie dc_gaining_lie pm_gaining_lie cd_gaining_lie ct_gaining_lie : Value}
    {f_honest : Addr} {oc_honest : Value} {od_honest an_honest : Option Addr} {sl_honest : Array (Option Value)} {kV_honest dc_honest pm_honest cd_honest ct_honest : Value}
    {f_lie_paper : Addr} {oc_lie_paper : Value} {od_lie_paper an_lie_paper : Option Addr} {sl_lie_paper : Array (Option Value)} {kV_lie_paper dc_lie_paper pm_lie_paper cd_lie_paper ct_lie_paper : Value}
    {f_has_form : Addr} {oc_has_form : Value} {od_has_form an_has_form : Option Addr} {sl_has_form : Array (Option Value)} {kV_has_form dc_has_form pm_has_form cd_has_form ct_has_form : Value}
    {f_bounds_lie : Addr} {oc_bounds_lie : Value} {od_bounds_lie an_bounds_lie : Option Addr} {sl_bounds_lie : Array (Option Value)} {kV_bounds_lie dc_bounds_lie pm_bounds_lie cd_bounds_lie ct_bounds_lie : Value}
    {f_judge_lies : Addr} {oc_judge_lies : Value} {od_judge_lies an_judge_lies : Option Addr} {sl_judge_lies : Array (Option Value)} {kV_judge_lies dc_judge_lies pm_judge_lies cd_judge_lies ct_judge_lies : Value}
    {f_lrow : Addr} {oc_lrow : Value} {od_lrow an_lrow : Option Addr} {sl_lrow : Array (Option Value)} {kV_lrow dc_lrow pm_lrow cd_lrow ct_lrow : Value}
    {f_lgcd : Addr} {oc_lgcd : Value} {od_lgcd an_lgcd : Option Addr} {sl_lgcd : Array (Option Value)} {kV_lgcd dc_lgcd pm_lgcd cd_lgcd ct_lgcd : Value}
    {f_llowest : Addr} {oc_llowest : Value} {od_llowest an_llowest : Option Addr} {sl_llowest : Array (Option Value)} {kV_llowest dc_llowest pm_llowest cd_llowest ct_llowest : Value}
    {f_ladd : Addr} {oc_ladd : Value} {od_ladd an_ladd : Option Addr} {sl_ladd : Array (Option Value)} {kV_ladd dc_ladd pm_ladd cd_ladd ct_ladd : Value}
    {f_lless : Addr} {oc_lless : Value} {od_lless an_lless : Option Addr} {sl_lless : Array (Option Value)} {kV_lless dc_lless pm_lless cd_lless ct_lless : Value}
    {f_lsize : Addr} {oc_lsize : Value} {od_lsize an_lsize : Option Addr} {sl_lsize : Array (Option Value)} {kV_lsize dc_lsize pm_lsize cd_lsize ct_lsize : Value}
    {f_lsmall : Addr} {oc_lsmall : Value} {od_lsmall an_lsmall : Option Addr} {sl_lsmall : Array (Option Value)} {kV_lsmall dc_lsmall pm_lsmall cd_lsmall ct_lsmall : Value}
    {f_lpay : Addr} {oc_lpay : Value} {od_lpay an_lpay : Option Addr} {sl_lpay : Array (Option Value)} {kV_lpay dc_lpay pm_lpay cd_lpay ct_lpay : Value}
    {f_lchances : Addr} {oc_lchances : Value} {od_lchances an_lchances : Option Addr} {sl_lchances : Array (Option Value)} {kV_lchances dc_lchances pm_lchances cd_lchances ct_lchances : Value}
    {f_ldims : Addr} {oc_ldims : Value} {od_ldims an_ldims : Option Addr} {sl_ldims : Array (Option Value)} {kV_ldims dc_ldims pm_ldims cd_ldims ct_ldims : Value}
    {f_lgame : Addr} {oc_lgame : Value} {od_lgame an_lgame : Option Addr} {sl_lgame : Array (Option Value)} {kV_lgame dc_lgame pm_lgame cd_lgame ct_lgame : Value}
    {f_lrule : Addr} {oc_lrule : Value} {od_lrule an_lrule : Option Addr} {sl_lrule : Array (Option Value)} {kV_lrule dc_lrule pm_lrule cd_lrule ct_lrule : Value}
    {f_lcopy : Addr} {oc_lcopy : Value} {od_lcopy an_lcopy : Option Addr} {sl_lcopy : Array (Option Value)} {kV_lcopy dc_lcopy pm_lcopy cd_lcopy ct_lcopy : Value}
    {f_lpaper_of : Addr} {oc_lpaper_of : Value} {od_lpaper_of an_lpaper_of : Option Addr} {sl_lpaper_of : Array (Option Value)} {kV_lpaper_of dc_lpaper_of pm_lpaper_of cd_lpaper_of ct_lpaper_of : Value}
    {f_lmade : Addr} {oc_lmade : Value} {od_lmade an_lmade : Option Addr} {sl_lmade : Array (Option Value)} {kV_lmade dc_lmade pm_lmade cd_lmade ct_lmade : Value}
    {f_lmoved : Addr} {oc_lmoved : Value} {od_lmoved an_lmoved : Option Addr} {sl_lmoved : Array (Option Value)} {kV_lmoved dc_lmoved pm_lmoved cd_lmoved ct_lmoved : Value}
    {f_lie_total : Addr} {oc_lie_total : Value} {od_lie_total an_lie_total : Option Addr} {sl_lie_total : Array (Option Value)} {kV_lie_total dc_lie_total pm_lie_total cd_lie_total ct_lie_total : Value}
    {f_mixed_lie_total : Addr} {oc_mixed_lie_total : Value} {od_mixed_lie_total an_mixed_lie_total : Option Addr} {sl_mixed_lie_total : Array (Option Value)} {kV_mixed_lie_total dc_mixed_lie_total pm_mixed_lie_total cd_mixed_lie_total ct_mixed_lie_total : Value}
    {f_llies_bounded : Addr} {oc_llies_bounded : Value} {od_llies_bounded an_llies_bounded : Option Addr} {sl_llies_bounded : Array (Option Value)} {kV_llies_bounded dc_llies_bounded pm_llies_bounded cd_llies_bounded ct_llies_bounded : Value}
    {f_law : Addr} {oc_law : Value} {od_law an_law : Option Addr} {sl_law : Array (Option Value)} {kV_law dc_law pm_law cd_law ct_law : Value}
    {f_G : Addr} {oc_G : Value} {od_G an_G : Option Addr} {sl_G : Array (Option Value)} {kV_G dc_G pm_G cd_G ct_G : Value}
    (X : K.In h) (G : h.Ns mainGlobals mg) (hfa : mg "law" = some (.ref fa)) (hT : TxtIn K z dZ t0 t1 nZ sZ) (hG : GameIn K C f_G oc_G od_G an_G sl_G kV_G dc_G pm_G cd_G ct_G)
    (h_ratio : DefIn K "ratio" s_ratio f_ratio oc_ratio od_ratio an_ratio sl_ratio kV_ratio dc_ratio pm_ratio cd_ratio ct_ratio)
    (h_add : DefIn K "add" s_add f_add oc_add od_add an_add sl_add kV_add dc_add pm_add cd_add ct_add)
    (h_sub : DefIn K "sub" s_sub f_sub oc_sub od_sub an_sub sl_sub kV_sub dc_sub pm_sub cd_sub ct_sub)
    (h_mul : DefIn K "mul" s_mul f_mul oc_mul od_mul an_mul sl_mul kV_mul dc_mul pm_mul cd_mul ct_mul)
    (h_less : DefIn K "less" s_less f_less oc_less od_less an_less sl_less kV_less dc_less pm_less cd_less ct_less)
    (h_added : DefIn K "added" s_added f_added oc_added od_added an_added sl_added kV_added dc_added pm_added cd_added ct_added)
    (h_dot : DefIn K "dot" s_dot f_dot oc_dot od_dot an_dot sl_dot kV_dot dc_dot pm_dot cd_dot ct_dot)
    (h_size : DefIn K "size" s_size f_size oc_size od_size an_size sl_size kV_size dc_size pm_size cd_size ct_size)
    (h_row_at : DefIn K "row_at" s_row_at f_row_at oc_row_at od_row_at an_row_at sl_row_at kV_row_at dc_row_at pm_row_at cd_row_at ct_row_at)
    (h_rows : DefIn K "rows" s_rows f_rows oc_rows od_rows an_rows sl_rows kV_rows dc_rows pm_rows cd_rows ct_rows)
    (h_kind_rows : DefIn K "kind_rows" s_kind_rows f_kind_rows oc_kind_rows od_kind_rows an_kind_rows sl_kind_rows kV_kind_rows dc_kind_rows pm_kind_rows cd_kind_rows ct_kind_rows)
    (h_kind_total : DefIn K "kind_total" s_kind_total f_kind_total oc_kind_total od_kind_total an_kind_total sl_kind_total kV_kind_total dc_kind_total pm_kind_total cd_kind_total ct_kind_total)
    (h_place : DefIn K "place" s_place f_place oc_place od_place an_place sl_place kV_place dc_place pm_place cd_place ct_place)
    (h_replaced : DefIn K "replaced" s_replaced f_replaced oc_replaced od_replaced an_replaced sl_replaced kV_replaced dc_replaced pm_replaced cd_replaced ct_replaced)
    (h_told_total : DefIn K "told_total" s_told_total f_told_total oc_told_total od_told_total an_told_total sl_told_total kV_told_total dc_told_total pm_told_total cd_told_total ct_told_total)
    (h_best_act : DefIn K "best_act" s_best_act f_best_act oc_best_act od_best_act an_best_act sl_best_act kV_best_act dc_best_act pm_best_act cd_best_act ct_best_act)
    (h_best_lie : DefIn K "best_lie" s_best_lie f_best_lie oc_best_lie od_best_lie an_best_lie sl_best_lie kV_best_lie dc_best_lie pm_best_lie cd_best_lie ct_best_lie)
    (h_gaining_lie : DefIn K "gaining_lie" s_gaining_lie f_gaining_lie oc_gaining_lie od_gaining_lie an_gaining_lie sl_gaining_lie kV_gaining_lie dc_gaining_lie pm_gaining_lie cd_gaining_lie ct_gaining_lie)
    (h_honest : DefIn K "honest" s_honest f_honest oc_honest od_honest an_honest sl_honest kV_honest dc_honest pm_honest cd_honest ct_honest)
    (h_lie_paper : DefIn K "lie_paper" s_lie_paper f_lie_paper oc_lie_paper od_lie_paper an_lie_paper sl_lie_paper kV_lie_paper dc_lie_paper pm_lie_paper cd_lie_paper ct_lie_paper)
    (h_has_form : DefIn K "has_form" s_has_form f_has_form oc_has_form od_has_form an_has_form sl_has_form kV_has_form dc_has_form pm_has_form cd_has_form ct_has_form)
    (h_bounds_lie : DefIn K "bounds_lie" s_bounds_lie f_bounds_lie oc_bounds_lie od_bounds_lie an_bounds_lie sl_bounds_lie kV_bounds_lie dc_bounds_lie pm_bounds_lie cd_bounds_lie ct_bounds_lie)
    (h_judge_lies : DefIn K "judge_lies" s_judge_lies f_judge_lies oc_judge_lies od_judge_lies an_judge_lies sl_judge_lies kV_judge_lies dc_judge_lies pm_judge_lies cd_judge_lies ct_judge_lies)
    (h_lrow : DefIn K "_law_row" s_lrow f_lrow oc_lrow od_lrow an_lrow sl_lrow kV_lrow dc_lrow pm_lrow cd_lrow ct_lrow)
    (h_lgcd : DefIn K "_law_gcd" s_lgcd f_lgcd oc_lgcd od_lgcd an_lgcd sl_lgcd kV_lgcd dc_lgcd pm_lgcd cd_lgcd ct_lgcd)
    (h_llowest : DefIn K "_law_lowest" s_llowest f_llowest oc_llowest od_llowest an_llowest sl_llowest kV_llowest dc_llowest pm_llowest cd_llowest ct_llowest)
    (h_ladd : DefIn K "_law_add" s_ladd f_ladd oc_ladd od_ladd an_ladd sl_ladd kV_ladd dc_ladd pm_ladd cd_ladd ct_ladd)
    (h_lless : DefIn K "_law_less" s_lless f_lless oc_lless od_lless an_lless sl_lless kV_lless dc_lless pm_lless cd_lless ct_lless)
    (h_lsize : DefIn K "_law_size" s_lsize f_lsize oc_lsize od_lsize an_lsize sl_lsize kV_lsize dc_lsize pm_lsize cd_lsize ct_lsize)
    (h_lsmall : DefIn K "_law_small" s_lsmall f_lsmall oc_lsmall od_lsmall an_lsmall sl_lsmall kV_lsmall dc_lsmall pm_lsmall cd_lsmall ct_lsmall)
    (h_lpay : DefIn K "_law_pay" s_lpay f_lpay oc_lpay od_lpay an_lpay sl_lpay kV_lpay dc_lpay pm_lpay cd_lpay ct_lpay)
    (h_lchances : DefIn K "_law_chances" s_lchances f_lchances oc_lchances od_lchances an_lchances sl_lchances kV_lchances dc_lchances pm_lchances cd_lchances ct_lchances)
    (h_ldims : DefIn K "_law_dims" s_ldims f_ldims oc_ldims od_ldims an_ldims sl_ldims kV_ldims dc_ldims pm_ldims cd_ldims ct_ldims)
    (h_lgame : DefIn K "_law_game" s_lgame f_lgame oc_lgame od_lgame an_lgame sl_lgame kV_lgame dc_lgame pm_lgame cd_lgame ct_lgame)
    (h_lrule : DefIn K "_law_rule" s_lrule f_lrule oc_lrule od_lrule an_lrule sl_lrule kV_lrule dc_lrule pm_lrule cd_lrule ct_lrule)
    (h_lcopy : DefIn K "_law_copy" s_lcopy f_lcopy oc_lcopy od_lcopy an_lcopy sl_lcopy kV_lcopy dc_lcopy pm_lcopy cd_lcopy ct_lcopy)
    (h_lpaper_of : DefIn K "_law_paper_of" s_lpaper_of f_lpaper_of oc_lpaper_of od_lpaper_of an_lpaper_of sl_lpaper_of kV_lpaper_of dc_lpaper_of pm_lpaper_of cd_lpaper_of ct_lpaper_of)
    (h_lmade : DefIn K "_law_made" s_lmade f_lmade oc_lmade od_lmade an_lmade sl_lmade kV_lmade dc_lmade pm_lmade cd_lmade ct_lmade)
    (h_lmoved : DefIn K "_law_moved" s_lmoved f_lmoved oc_lmoved od_lmoved an_lmoved sl_lmoved kV_lmoved dc_lmoved pm_lmoved cd_lmoved ct_lmoved)
    (h_lie_total : DefIn K "lie_total" s_lie_total f_lie_total oc_lie_total od_lie_total an_lie_total sl_lie_total kV_lie_total dc_lie_total pm_lie_total cd_lie_total ct_lie_total)
    (h_mixed_lie_total : DefIn K "mixed_lie_total" s_mixed_lie_total f_mixed_lie_total oc_mixed_lie_total od_mixed_lie_total an_mixed_lie_total sl_mixed_lie_total kV_mixed_lie_total dc_mixed_lie_total pm_mixed_lie_total cd_mixed_lie_total ct_mixed_lie_total)
    (h_llies_bounded : DefIn K "_law_lies_bounded" s_llies_bounded f_llies_bounded oc_llies_bounded od_llies_bounded an_llies_bounded sl_llies_bounded kV_llies_bounded dc_llies_bounded pm_llies_bounded cd_llies_bounded ct_llies_bounded)
    (h_law : DefIn K "law" s_law f_law oc_law od_law an_law sl_law kV_law dc_law pm_law cd_law ct_law) :
    ∃ fd : FuncData, (∀ (s : Shared) (v : Value), BindsTo s fd ⟨[v], []⟩ [("_law_script", v)]) ∧ ∀ base : Heap, K.In base → base.Ns mainGlobals mg → FnOk l.prog w K mg base CX0 10 fa fd ["_law_script"] (prLaw K) := by
  have e := hfa.symm.trans (PySem.W.mg_of X G h_law.a)
  cases e
  have T : Txt K mg z := hT.txt X G
  have D_ratio : Dn K mg "ratio" "ratio" s_ratio p_ratio := h_ratio.dn X G fun _ _ _ _ _ _ us hl => match us, hl with | [_, _], _ => rfl
  have D_add : Dn K mg "add" "add" s_add p_add := h_add.dn X G fun _ _ _ _ _ _ us hl => match us, hl with | [_, _], _ => rfl
  have D_sub : Dn K mg "sub" "sub" s_sub p_sub := h_sub.dn X G fun _ _ _ _ _ _ us hl => match us, hl with | [_, _], _ => rfl
  have D_mul : Dn K mg "mul" "mul" s_mul p_mul := h_mul.dn X G fun _ _ _ _ _ _ us hl => match us, hl with | [_, _], _ => rfl
  have D_less : Dn K mg "less" "less" s_less p_less := h_less.dn X G fun _ _ _ _ _ _ us hl => match us, hl with | [_, _], _ => rfl
  have D_added : Dn K mg "added" "added" s_added p_added := h_added.dn X G fun _ _ _ _ _ _ us hl => match us, hl with | [_], _ => rfl
  have D_dot : Dn K mg "dot" "dot" s_dot p_dot := h_dot.dn X G fun _ _ _ _ _ _ us hl => match us, hl with | [_, _], _ => rfl
  have D_size : Dn K mg "size" "size" s_size p_size := h_size.dn X G fun _ _ _ _ _ _ us hl => match us, hl with | [_], _ => rfl
  have D_row_at : Dn K mg "row_at" "row_at" s_row_at p_row_at := h_row_at.dn X G fun _ _ _ _ _ _ us hl => match us, hl with | [_, _], _ => rfl
  have D_rows : Dn K mg "rows" "rows" s_rows p_rows := h_rows.dn X G fun _ _ _ _ _ _ us hl => match us, hl with | [_], _ => rfl
  have D_kind_rows : Dn K mg "kind_rows" "kind_rows" s_kind_rows p_kind_rows := h_kind_rows.dn X G fun _ _ _ _ _ _ us hl => match us, hl with | [_, _, _], _ => rfl
  have D_kind_total : Dn K mg "kind_total" "kind_total" s_kind_total p_kind_total := h_kind_total.dn X G fun _ _ _ _ _ _ us hl => match us, hl with | [_, _, _, _], _ => rfl
  have D_place : Dn K mg "place" "place" s_place p_place := h_place.dn X G fun _ _ _ _ _ _ us hl => match us, hl with | [_, _], _ => rfl
  have D_replaced : Dn K mg "replaced" "replaced" s_replaced p_replaced := h_replaced.dn X G fun _ _ _ _ _ _ us hl => match us, hl with | [_, _, _], _ => rfl
  have D_told_total : Dn K mg "told_total" "told_total" s_told_total p_told_total := h_told_total.dn X G fun _ _ _ _ _ _ us hl => match us, hl with | [_, _, _, _, _, _, _], _ => rfl
  have D_best_act : Dn K mg "best_act" "best_act" s_best_act p_best_act := h_best_act.dn X G fun _ _ _ _ _ _ us hl => match us, hl with | [_, _, _, _, _, _], _ => rfl
  have D_best_lie : Dn K mg "best_lie" "best_lie" s_best_lie p_best_lie := h_best_lie.dn X G fun _ _ _ _ _ _ us hl => match us, hl with | [_, _, _, _, _], _ => rfl
  have D_gaining_lie : Dn K mg "gaining_lie" "gaining_lie" s_gaining_lie p_gaining_lie := h_gaining_lie.dn X G fun _ _ _ _ _ _ us hl => match us, hl with | [_, _], _ => rfl
  have D_honest : Dn K mg "honest" "honest" s_honest p_honest := h_honest.dn X G fun _ _ _ _ _ _ us hl => match us, hl with | [_, _], _ => rfl
  have D_lie_paper : Dn K mg "lie_paper" "lie_paper" s_lie_paper p_lie_paper := h_lie_paper.dn X G fun _ _ _ _ _ _ us hl => match us, hl with | [_, _], _ => rfl
  have D_has_form : Dn K mg "has_form" "has_form" s_has_form p_has_form := h_has_form.dn X G fun _ _ _ _ _ _ us hl => match us, hl with | [_, _], _ => rfl
  have D_bounds_lie : Dn K mg "bounds_lie" "bounds_lie" s_bounds_lie p_bounds_lie := h_bounds_lie.dn X G fun _ _ _ _ _ _ us hl => match us, hl with | [_, _, _, _, _, _], _ => rfl
  have D_judge_lies : Dn K mg "judge_lies" "judge_lies" s_judge_lies p_judge_lies := h_judge_lies.dn X G fun _ _ _ _ _ _ us hl => match us, hl with | [_, _, _], _ => rfl
  have D_lrow : Dn K mg "_law_row" "_law_row" s_lrow p_lrow := h_lrow.dn X G fun _ _ _ _ _ _ us hl => match us, hl with | [_, _, _], _ => rfl
  have D_lgcd : Dn K mg "_law_gcd" "_law_gcd" s_lgcd p_lgcd := h_lgcd.dn X G fun _ _ _ _ _ _ us hl => match us, hl with | [_, _], _ => rfl
  have D_llowest : Dn K mg "_law_lowest" "_law_lowest" s_llowest p_llowest := h_llowest.dn X G fun _ _ _ _ _ _ us hl => match us, hl with | [_, _], _ => rfl
  have D_ladd : Dn K mg "_law_add" "_law_add" s_ladd p_ladd := h_ladd.dn X G fun _ _ _ _ _ _ us hl => match us, hl with | [_, _], _ => rfl
  have D_lless : Dn K mg "_law_less" "_law_less" s_lless p_lless := h_lless.dn X G fun _ _ _ _ _ _ us hl => match us, hl with | [_, _], _ => rfl
  have D_lsize : Dn K mg "_law_size" "_law_size" s_lsize p_lsize := h_lsize.dn X G fun _ _ _ _ _ _ us hl => match us, hl with | [_], _ => rfl
  have D_lsmall : Dn K mg "_law_small" "_law_small" s_lsmall p_lsmall := h_lsmall.dn X G fun _ _ _ _ _ _ us hl => match us, hl with | [_], _ => rfl
  have D_lpay : Dn K mg "_law_pay" "_law_pay" s_lpay p_lpay := h_lpay.dn X G fun _ _ _ _ _ _ us hl => match us, hl with | [_, _], _ => rfl
  have D_lchances : Dn K mg "_law_chances" "_law_chances" s_lchances p_lchances := h_lchances.dn X G fun _ _ _ _ _ _ us hl => match us, hl with | [_], _ => rfl
  have D_ldims : Dn K mg "_law_dims" "_law_dims" s_ldims p_ldims := h_ldims.dn X G fun _ _ _ _ _ _ us hl => match us, hl with | [_, _], _ => rfl
  have D_lgame : Dn K mg "_law_game" "_law_game" s_lgame p_lgame := h_lgame.dn X G fun _ _ _ _ _ _ us hl => match us, hl with | [_, _, _], _ => rfl
  have D_lrule : Dn K mg "_law_rule" "_law_rule" s_lrule p_lrule := h_lrule.dn X G fun _ _ _ _ _ _ us hl => match us, hl with | [_, _, _], _ => rfl
  have D_lcopy : Dn K mg "_law_copy" "_law_copy" s_lcopy p_lcopy := h_lcopy.dn X G fun _ _ _ _ _ _ us hl => match us, hl with | [_], _ => rfl
  have D_lpaper_of : Dn K mg "_law_paper_of" "_law_paper_of" s_lpaper_of p_lpaper_of := h_lpaper_of.dn X G fun _ _ _ _ _ _ us hl => match us, hl with | [_, _, _], _ => rfl
  have D_lmade : Dn K mg "_law_made" "_law_made" s_lmade p_lmade := h_lmade.dn X G fun _ _ _ _ _ _ us hl => match us, hl with | [_], _ => rfl
  have D_lmoved : Dn K mg "_law_moved" "_law_moved" s_lmoved p_lmoved := h_lmoved.dn X G fun _ _ _ _ _ _ us hl => match us, hl with | [_, _, _], _ => rfl
  have D_lie_total : Dn K mg "lie_total" "lie_total" s_lie_total p_lie_total := h_lie_total.dn X G fun _ _ _ _ _ _ us hl => match us, hl with | [_, _, _, _, _, _], _ => rfl
  have D_mixed_lie_total : Dn K mg "mixed_lie_total" "mixed_lie_total" s_mixed_lie_total p_mixed_lie_total := h_mixed_lie_total.dn X G fun _ _ _ _ _ _ us hl => match us, hl with | [_, _, _, _, _, _], _ => rfl
  have D_llies_bounded : Dn K mg "_law_lies_bounded" "_law_lies_bounded" s_llies_bounded p_llies_bounded := h_llies_bounded.dn X G fun _ _ _ _ _ _ us hl => match us, hl with | [_, _, _, _], _ => rfl
  refine ⟨PySem.W.fnOf "law" "law" (defArgs s_law) (defBody s_law) (defScope s_law) .none kV_law dc_law pm_law an_law cd_law ct_law, fun s v => .of_eq rfl, fun base _ _ => ?_⟩
  have FI := fun_mk (st := s_Game_init) hG.l hG.c hG.k
  have mk_Game : Mg l.prog w K mg base 1 := ⟨C, _, _, ⟨hG.mks, hG.a, hG.i, hG.kc⟩, ok_init T FI ⟨⟨hG.pg, hG.hd, hG.po, hG.sa⟩, hG.nS, hG.nK, hG.nA, hG.nW, hG.nP⟩, PySem.W.mg_of X G hG.aC, FI.binds (ps := p_Game_init) fun _ _ _ _ _ _ us hl => match us, hl with | [_, _, _, _, _, _], _ => rfl, ⟨⟨hG.pg, hG.hd, hG.po, hG.sa⟩, hG.nS, hG.nK, hG.nA, hG.nW, hG.nP⟩⟩
  have d_ratio : Df l.prog w K mg base "ratio" 1 p_ratio (prRatio K) := ok_ratio T D_ratio
  have d_add : Df l.prog w K mg base "add" 2 p_add (prAdd K) := ok_add T d_ratio D_add
  have d_sub : Df l.prog w K mg base "sub" 2 p_sub (prSub K) := ok_sub T d_ratio D_sub
  have d_mul : Df l.prog w K mg base "mul" 2 p_mul (prMul K) := ok_mul T d_ratio D_mul
  have d_less : Df l.prog w K mg base "less" 1 p_less (prLess K) := ok_less T D_less
  have d_added : Df l.prog w K mg base "added" 3 p_added (prAdded K) := ok_added T d_add D_added
  have d_dot : Df l.prog w K mg base "dot" 3 p_dot (prDot K) := ok_dot T d_add d_mul D_dot
  have d_size : Df l.prog w K mg base "size" 1 p_size (prSize K) := ok_size T D_size
  have d_row_at : Df l.prog w K mg base "row_at" 1 p_row_at (prRowAt K) := ok_row_at T D_row_at
  have d_rows : Df l.prog w K mg base "rows" 2 p_rows (prRows K) := ok_rows T d_size d_row_at D_rows
  have d_kind_rows : Df l.prog w K mg base "kind_rows" 3 p_kind_rows (prKr K) := ok_kind_rows T d_rows D_kind_rows
  have d_kind_total : Df l.prog w K mg base "kind_total" 4 p_kind_total (prKt K) := ok_kind_total T d_kind_rows d_add d_mul d_dot D_kind_total
  have d_place : Df l.prog w K mg base "place" 1 p_place (prPlace K) := ok_place T D_place
  have d_replaced : Df l.prog w K mg base "replaced" 1 p_replaced (prRep K) := ok_replaced T D_replaced
  have d_told_total : Df l.prog w K mg base "told_total" 4 p_told_total (prTt K) := ok_told_total T d_rows d_place d_replaced d_kind_rows d_add d_mul D_told_total
  have d_best_act : Df l.prog w K mg base "best_act" 5 p_best_act (prBa K) := ok_best_act T d_told_total d_less D_best_act
  have d_best_lie : Df l.prog w K mg base "best_lie" 6 p_best_lie (prBl K) := ok_best_lie T d_best_act d_added D_best_lie
  have d_gaining_lie : Df l.prog w K mg base "gaining_lie" 7 p_gaining_lie (prGl K) := ok_gaining_lie T d_kind_total d_best_lie d_less d_sub D_gaining_lie
  have d_honest : Df l.prog w K mg base "honest" 8 p_honest (prHon K) := ok_honest T d_gaining_lie D_honest
  have d_lie_paper : Df l.prog w K mg base "lie_paper" 9 p_lie_paper (prLp K) := ok_lie_paper T d_honest d_best_act D_lie_paper
  have d_has_form : Df l.prog w K mg base "has_form" 1 p_has_form (prHf K) := ok_has_form T D_has_form
  have d_bounds_lie : Df l.prog w K mg base "bounds_lie" 5 p_bounds_lie (prBn K) := ok_bounds_lie T d_less d_told_total d_kind_total d_added D_bounds_lie
  have d_judge_lies : Df l.prog w K mg base "judge_lies" 6 p_judge_lies (prJl K) := ok_judge_lies T d_has_form d_bounds_lie D_judge_lies
  have d_lrow : Df l.prog w K mg base "_law_row" 1 p_lrow (prRow K) := ok_lrow T D_lrow
  have d_lgcd : Df l.prog w K mg base "_law_gcd" 1 p_lgcd (prGcd K) := ok_lgcd T D_lgcd
  have d_llowest : Df l.prog w K mg base "_law_lowest" 2 p_llowest (prLow K) := ok_llowest T d_lgcd D_llowest
  have d_ladd : Df l.prog w K mg base "_law_add" 3 p_ladd (prAdd K) := ok_ladd T d_llowest D_ladd
  have d_lless : Df l.prog w K mg base "_law_less" 1 p_lless (prLess K) := ok_lless T D_lless
  have d_lsize : Df l.prog w K mg base "_law_size" 1 p_lsize (prLsize K) := ok_lsize T D_lsize
  have d_lsmall : Df l.prog w K mg base "_law_small" 3 p_lsmall (prSmall K) := ok_lsmall T d_llowest D_lsmall
  have d_lpay : Df l.prog w K mg base "_law_pay" 4 p_lpay (prPay K) := ok_lpay T d_lsmall D_lpay
  have d_lchances : Df l.prog w K mg base "_law_chances" 3 p_lchances (prCh K) := ok_lchances T d_llowest D_lchances
  have d_ldims : Df l.prog w K mg base "_law_dims" 2 p_ldims (prDims K) := ok_ldims T d_lsize D_ldims
  have d_lgame : Df l.prog w K mg base "_law_game" 5 p_lgame (prGame K) := ok_lgame T d_lrow d_ldims d_lsize d_llowest d_lpay D_lgame
  have d_lrule : Df l.prog w K mg base "_law_rule" 4 p_lrule (prRule K) := ok_lrule T d_lrow d_lsize d_lchances D_lrule
  have d_lcopy : Df l.prog w K mg base "_law_copy" 1 p_lcopy (prCopy K) := ok_lcopy T D_lcopy
  have d_lpaper_of : Df l.prog w K mg base "_law_paper_of" 7 p_lpaper_of (prPo K) := ok_lpaper_of T d_best_lie d_told_total D_lpaper_of
  have d_lmade : Df l.prog w K mg base "_law_made" 3 p_lmade (prMade K) := ok_lmade T mk_Game D_lmade
  have d_lmoved : Df l.prog w K mg base "_law_moved" 4 p_lmoved (prMoved K) := ok_lmoved T d_ladd D_lmoved
  have d_lie_total : Df l.prog w K mg base "lie_total" 5 p_lie_total (prLt K) := ok_lie_total T d_added d_told_total D_lie_total
  have d_mixed_lie_total : Df l.prog w K mg base "mixed_lie_total" 5 p_mixed_lie_total (prMx K) := ok_mixed_lie_total T d_told_total d_add d_mul D_mixed_lie_total
  have d_llies_bounded : Df l.prog w K mg base "_law_lies_bounded" 7 p_llies_bounded (prLb K) := ok_llies_bounded T d_kind_total d_lrow d_lchances d_lless d_lie_total d_best_lie d_mixed_lie_total D_llies_bounded
  exact ok_law T d_lgame d_lmade d_lrule d_lrow d_lie_paper d_lcopy d_lpaper_of d_lmoved d_judge_lies d_llies_bounded d_honest (fun_mk (st := s_law) h_law.l h_law.c h_law.k)
theorem rep_script {K : PySem.W.Frag} {H : Hp} {a : Addr} {ns : List Int} (h : SqL K H a (ns.map V.int)) : Py.rep K H (.ref a) ns :=
  ⟨a, _, rfl, h, by simp, fun i v x e1 e2 => by
    rw [List.getElem?_map, e2] at e1
    exact (Option.some.inj e1).symm⟩
theorem walk {l : PySem.W.OpenLaw} {q : Program} {loose : List Str} {XP : (Str → Option Value) → Heap → Prop} {YP : World → Heap → Prop} {d : DefRec} {K : Params → PySem.W.Frag} (hn : l.most = some 63) (hdf : d.params.defaults = [])
    (hY : ∀ (w : World) (h : Heap), YP w h → (K w.params).In h)
    (F : ∀ (w : World) (mg : Str → Option Value) (fa : Addr) (h : Heap), (K w.params).In h → h.Ns mainGlobals mg → mg d.name = some (.ref fa) →
      ∃ fd : FuncData, (∀ (s : Shared) (u : Value), BindsTo s fd ⟨[u], []⟩ [("_law_script", u)]) ∧ ∀ base : Heap, (K w.params).In base → base.Ns mainGlobals mg → FnOk l.prog w (K w.params) mg base CX0 10 fa fd ["_law_script"] (prLaw (K w.params))) :
    PySem.W.WalkO q loose XP YP l.row.toRowW d [] (fun f vs => PySem.call f vs) :=
  L2.walk_of (n := 63) (k := 10) (x := "_law_script") (CX := fun _ => CX0) (sp := fun w => prLaw (K w.params)) hn (by decide) hdf ⟨rfl, by decide, by decide⟩ hY F (fun w H a ns hl _ hS => ⟨H, ns, Same.refl _, ⟨rep_script hS, trivial⟩, trivial, fun d v F' H' e _ r => by
    have e : d = true := e
    subst e
    exact r⟩) fun _ _ _ _ _ z => z
end Tm

open PySem PySem.W PyProof.Rows in
set_option maxRecDepth 100000 in
set_option maxHeartbeats 0 in
theorem PySem.Challenge.cw_talkmost_k38_whole_lie_papers_bound_lies_holds : PySem.Challenge.rw_talkmost_k38_whole_lie_papers_bound_lies.Holds := by
  w_on; o_law; k_head; (case hw => w_witness2)
  k_fill
  refine Tm.walk (l := PySem.Challenge.rw_talkmost_k38_whole_lie_papers_bound_lies) rfl rfl (fun w h Y => PySem.W.kIn_of Y) ?F
  case F =>
    intro w mg fa h KX G hmg
    refine' Tm.all_mk KX G hmg ?dT ?dG ?d_ratio ?d_add ?d_sub ?d_mul ?d_less ?d_added ?d_dot ?d_size ?d_row_at ?d_rows ?d_kind_rows ?d_kind_total ?d_place ?d_replaced ?d_told_total ?d_best_act ?d_best_lie ?d_gaining_lie ?d_honest ?d_lie_paper ?d_has_form ?d_bounds_lie ?d_judge_lies ?d_lrow ?d_lgcd ?d_llowest ?d_ladd ?d_lless ?d_lsize ?d_lsmall ?d_lpay ?d_lchances ?d_ldims ?d_lgame ?d_lrule ?d_lcopy ?d_lpaper_of ?d_lmade ?d_lmoved ?d_lie_total ?d_mixed_lie_total ?d_llies_bounded ?d_law
    (case dT => refine' ⟨?t0, ?t1, ?t2, ?t3, ?t4, ?t5, ?t6, ?t7, ?t8⟩; (case t0 => k_is); (case t1 => k_is); (case t2 => k_is); (case t3 => k_is); (case t4 => k_is); (case t5 => k_is); (case t6 => k_is); (case t7 => k_is); (case t8 => k_is))
    (case dG => refine' ⟨?g_aC, ?g_a, ?g_i, ?g_l, ?g_c, ?g_k, ?g_pg, ?g_hd, ?g_po, ?g_sa, ?g_mk, ?g_kc, ?g_nS, ?g_nK, ?g_nA, ?g_nW, ?g_nP⟩; (case g_aC => k_is); (case g_a => k_is); (case g_i => k_is); (case g_l => k_is); (case g_c => k_is); (case g_k => k_is); (case g_pg => k_is); (case g_hd => k_is); (case g_po => k_is); (case g_sa => k_is); (case g_mk => k_is); (case g_kc => k_is); (case g_nS => k_is); (case g_nK => k_is); (case g_nA => k_is); (case g_nW => k_is); (case g_nP => k_is))
    (case d_ratio => refine' ⟨?a_ratio, ?l_ratio, ?c_ratio, ?k_ratio⟩; (case a_ratio => k_is); (case l_ratio => k_is); (case c_ratio => k_is); (case k_ratio => k_is))
    (case d_add => refine' ⟨?a_add, ?l_add, ?c_add, ?k_add⟩; (case a_add => k_is); (case l_add => k_is); (case c_add => k_is); (case k_add => k_is))
    (case d_sub => refine' ⟨?a_sub, ?l_sub, ?c_sub, ?k_sub⟩; (case a_sub => k_is); (case l_sub => k_is); (case c_sub => k_is); (case k_sub => k_is))
    (case d_mul => refine' ⟨?a_mul, ?l_mul, ?c_mul, ?k_mul⟩; (case a_mul => k_is); (case l_mul => k_is); (case c_mul => k_is); (case k_mul => k_is))
    (case d_less => refine' ⟨?a_less, ?l_less, ?c_less, ?k_less⟩; (case a_less => k_is); (case l_less => k_is); (case c_less => k_is); (case k_less => k_is))
    (case d_added => refine' ⟨?a_added, ?l_added, ?c_added, ?k_added⟩; (case a_added => k_is); (case l_added => k_is); (case c_added => k_is); (case k_added => k_is))
    (case d_dot => refine' ⟨?a_dot, ?l_dot, ?c_dot, ?k_dot⟩; (case a_dot => k_is); (case l_dot => k_is); (case c_dot => k_is); (case k_dot => k_is))
    (case d_size => refine' ⟨?a_size, ?l_size, ?c_size, ?k_size⟩; (case a_size => k_is); (case l_size => k_is); (case c_size => k_is); (case k_size => k_is))
    (case d_row_at => refine' ⟨?a_row_at, ?l_row_at, ?c_row_at, ?k_row_at⟩; (case a_row_at => k_is); (case l_row_at => k_is); (case c_row_at => k_is); (case k_row_at => k_is))
    (case d_rows => refine' ⟨?a_rows, ?l_rows, ?c_rows, ?k_rows⟩; (case a_rows => k_is); (case l_rows => k_is); (case c_rows => k_is); (case k_rows => k_is))
    (case d_kind_rows => refine' ⟨?a_kind_rows, ?l_kind_rows, ?c_kind_rows, ?k_kind_rows⟩; (case a_kind_rows => k_is); (case l_kind_rows => k_is); (case c_kind_rows => k_is); (case k_kind_rows => k_is))
    (case d_kind_total => refine' ⟨?a_kind_total, ?l_kind_total, ?c_kind_total, ?k_kind_total⟩; (case a_kind_total => k_is); (case l_kind_total => k_is); (case c_kind_total => k_is); (case k_kind_total => k_is))
    (case d_place => refine' ⟨?a_place, ?l_place, ?c_place, ?k_place⟩; (case a_place => k_is); (case l_place => k_is); (case c_place => k_is); (case k_place => k_is))
    (case d_replaced => refine' ⟨?a_replaced, ?l_replaced, ?c_replaced, ?k_replaced⟩; (case a_replaced => k_is); (case l_replaced => k_is); (case c_replaced => k_is); (case k_replaced => k_is))
    (case d_told_total => refine' ⟨?a_told_total, ?l_told_total, ?c_told_total, ?k_told_total⟩; (case a_told_total => k_is); (case l_told_total => k_is); (case c_told_total => k_is); (case k_told_total => k_is))
    (case d_best_act => refine' ⟨?a_best_act, ?l_best_act, ?c_best_act, ?k_best_act⟩; (case a_best_act => k_is); (case l_best_act => k_is); (case c_best_act => k_is); (case k_best_act => k_is))
    (case d_best_lie => refine' ⟨?a_best_lie, ?l_best_lie, ?c_best_lie, ?k_best_lie⟩; (case a_best_lie => k_is); (case l_best_lie => k_is); (case c_best_lie => k_is); (case k_best_lie => k_is))
    (case d_gaining_lie => refine' ⟨?a_gaining_lie, ?l_gaining_lie, ?c_gaining_lie, ?k_gaining_lie⟩; (case a_gaining_lie => k_is); (case l_gaining_lie => k_is); (case c_gaining_lie => k_is); (case k_gaining_lie => k_is))
    (case d_honest => refine' ⟨?a_honest, ?l_honest, ?c_honest, ?k_honest⟩; (case a_honest => k_is); (case l_honest => k_is); (case c_honest => k_is); (case k_honest => k_is))
    (case d_lie_paper => refine' ⟨?a_lie_paper, ?l_lie_paper, ?c_lie_paper, ?k_lie_paper⟩; (case a_lie_paper => k_is); (case l_lie_paper => k_is); (case c_lie_paper => k_is); (case k_lie_paper => k_is))
    (case d_has_form => refine' ⟨?a_has_form, ?l_has_form, ?c_has_form, ?k_has_form⟩; (case a_has_form => k_is); (case l_has_form => k_is); (case c_has_form => k_is); (case k_has_form => k_is))
    (case d_bounds_lie => refine' ⟨?a_bounds_lie, ?l_bounds_lie, ?c_bounds_lie, ?k_bounds_lie⟩; (case a_bounds_lie => k_is); (case l_bounds_lie => k_is); (case c_bounds_lie => k_is); (case k_bounds_lie => k_is))
    (case d_judge_lies => refine' ⟨?a_judge_lies, ?l_judge_lies, ?c_judge_lies, ?k_judge_lies⟩; (case a_judge_lies => k_is); (case l_judge_lies => k_is); (case c_judge_lies => k_is); (case k_judge_lies => k_is))
    (case d_lrow => refine' ⟨?a_lrow, ?l_lrow, ?c_lrow, ?k_lrow⟩; (case a_lrow => k_is); (case l_lrow => k_is); (case c_lrow => k_is); (case k_lrow => k_is))
    (case d_lgcd => refine' ⟨?a_lgcd, ?l_lgcd, ?c_lgcd, ?k_lgcd⟩; (case a_lgcd => k_is); (case l_lgcd => k_is); (case c_lgcd => k_is); (case k_lgcd => k_is))
    (case d_llowest => refine' ⟨?a_llowest, ?l_llowest, ?c_llowest, ?k_llowest⟩; (case a_llowest => k_is); (case l_llowest => k_is); (case c_llowest => k_is); (case k_llowest => k_is))
    (case d_ladd => refine' ⟨?a_ladd, ?l_ladd, ?c_ladd, ?k_ladd⟩; (case a_ladd => k_is); (case l_ladd => k_is); (case c_ladd => k_is); (case k_ladd => k_is))
    (case d_lless => refine' ⟨?a_lless, ?l_lless, ?c_lless, ?k_lless⟩; (case a_lless => k_is); (case l_lless => k_is); (case c_lless => k_is); (case k_lless => k_is))
    (case d_lsize => refine' ⟨?a_lsize, ?l_lsize, ?c_lsize, ?k_lsize⟩; (case a_lsize => k_is); (case l_lsize => k_is); (case c_lsize => k_is); (case k_lsize => k_is))
    (case d_lsmall => refine' ⟨?a_lsmall, ?l_lsmall, ?c_lsmall, ?k_lsmall⟩; (case a_lsmall => k_is); (case l_lsmall => k_is); (case c_lsmall => k_is); (case k_lsmall => k_is))
    (case d_lpay => refine' ⟨?a_lpay, ?l_lpay, ?c_lpay, ?k_lpay⟩; (case a_lpay => k_is); (case l_lpay => k_is); (case c_lpay => k_is); (case k_lpay => k_is))
    (case d_lchances => refine' ⟨?a_lchances, ?l_lchances, ?c_lchances, ?k_lchances⟩; (case a_lchances => k_is); (case l_lchances => k_is); (case c_lchances => k_is); (case k_lchances => k_is))
    (case d_ldims => refine' ⟨?a_ldims, ?l_ldims, ?c_ldims, ?k_ldims⟩; (case a_ldims => k_is); (case l_ldims => k_is); (case c_ldims => k_is); (case k_ldims => k_is))
    (case d_lgame => refine' ⟨?a_lgame, ?l_lgame, ?c_lgame, ?k_lgame⟩; (case a_lgame => k_is); (case l_lgame => k_is); (case c_lgame => k_is); (case k_lgame => k_is))
    (case d_lrule => refine' ⟨?a_lrule, ?l_lrule, ?c_lrule, ?k_lrule⟩; (case a_lrule => k_is); (case l_lrule => k_is); (case c_lrule => k_is); (case k_lrule => k_is))
    (case d_lcopy => refine' ⟨?a_lcopy, ?l_lcopy, ?c_lcopy, ?k_lcopy⟩; (case a_lcopy => k_is); (case l_lcopy => k_is); (case c_lcopy => k_is); (case k_lcopy => k_is))
    (case d_lpaper_of => refine' ⟨?a_lpaper_of, ?l_lpaper_of, ?c_lpaper_of, ?k_lpaper_of⟩; (case a_lpaper_of => k_is); (case l_lpaper_of => k_is); (case c_lpaper_of => k_is); (case k_lpaper_of => k_is))
    (case d_lmade => refine' ⟨?a_lmade, ?l_lmade, ?c_lmade, ?k_lmade⟩; (case a_lmade => k_is); (case l_lmade => k_is); (case c_lmade => k_is); (case k_lmade => k_is))
    (case d_lmoved => refine' ⟨?a_lmoved, ?l_lmoved, ?c_lmoved, ?k_lmoved⟩; (case a_lmoved => k_is); (case l_lmoved => k_is); (case c_lmoved => k_is); (case k_lmoved => k_is))
    (case d_lie_total => refine' ⟨?a_lie_total, ?l_lie_total, ?c_lie_total, ?k_lie_total⟩; (case a_lie_total => k_is); (case l_lie_total => k_is); (case c_lie_total => k_is); (case k_lie_total => k_is))
    (case d_mixed_lie_total => refine' ⟨?a_mixed_lie_total, ?l_mixed_lie_total, ?c_mixed_lie_total, ?k_mixed_lie_total⟩; (case a_mixed_lie_total => k_is); (case l_mixed_lie_total => k_is); (case c_mixed_lie_total => k_is); (case k_mixed_lie_total => k_is))
    (case d_llies_bounded => refine' ⟨?a_llies_bounded, ?l_llies_bounded, ?c_llies_bounded, ?k_llies_bounded⟩; (case a_llies_bounded => k_is); (case l_llies_bounded => k_is); (case c_llies_bounded => k_is); (case k_llies_bounded => k_is))
    (case d_law => refine' ⟨?a_law, ?l_law, ?c_law, ?k_law⟩; (case a_law => k_is); (case l_law => k_is); (case c_law => k_is); (case k_law => k_is))
#print axioms PySem.Challenge.cw_talkmost_k38_whole_lie_papers_bound_lies_holds

