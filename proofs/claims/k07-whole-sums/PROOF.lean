import PyProof.Rows.All
import Wide.All
import OpenK.AllK
import Wide.FinOn
import HandS.ForMost
import HandS.Wide
import HandS.EndBits
import HandS.Defaults
import KE.Datum
import KE.DatumIndex
import HandS.IsInst
import HandS.Style
import HandS.ClsMeth
import HandS.Codes
import HandS.Rev
import PySem.Challenge.RW_voucherstack_k07_whole_sums
set_option Elab.async false
set_option linter.all false
set_option maxRecDepth 100000
namespace T
open PySem PySem.Spec PyProof.Rows L2

/-! the module's facts; what is true of a value in the part of the heap that stays as it is -/
structure Gb where
  K : PySem.W.Frag
  mg : Str → Option Value
abbrev gb (X : Cx) : Gb := ⟨X.K, X.mg⟩
structure PR where
  p : Hp → V → Prop
  mono : ∀ {I I' : Hp} {v : V}, Same I I' → p I v → p I' v
structure PL where
  p : Hp → List V → Prop
  mono : ∀ {I I' : Hp} {vs : List V}, Same I I' → p I vs → p I' vs
class Py (α : Type) where
  r : Gb → α → PR

theorem seqT {K : PySem.W.Frag} {H H' : Hp} {a : Addr} {xs : List V} (e : Same H H') (h : SqT K H a xs) : SqT K H' a xs := by
  rcases h with (h | ⟨o, h⟩) | h
  · exact .inl (.inl (e _ _ h))
  · exact .inl (.inr ⟨o, e _ _ h⟩)
  · exact .inr h
theorem same_new {H : Hp} {p : Addr} {o : HO} (h : H p = none) : Same H (upd H p o) := fun b x e => by
  rw [upd_ne (ne_of_none e h)]
  exact e

/-- items, one by one; no more than a list may hold -/
def rl {α : Type} [Py α] (g : Gb) (as : List α) : PL where
  p := fun I vs => as.length ≤ sizeLine ∧ Paired (fun a v => (Py.r g a).p I v) as vs
  mono := fun s h => ⟨h.1, L2.Paired.mapP h.2 fun _ _ q => (Py.r g _).mono s q⟩
theorem rl_len {α : Type} [Py α] {g : Gb} {as : List α} {I : Hp} {vs : List V} (h : (rl g as).p I vs) : vs.length = as.length := (Paired.length h.2).symm

section
variable {α β γ δ : Type} [Py α] [Py β] [Py γ] [Py δ]
instance : Py Int := ⟨fun _ i => ⟨fun _ v => v = .int i, fun _ h => h⟩⟩
instance : Py Bool := ⟨fun _ i => ⟨fun _ v => v = .bl i, fun _ h => h⟩⟩
instance : Py Str := ⟨fun _ i => ⟨fun _ v => v = .str i, fun _ h => h⟩⟩
instance : Py Unit := ⟨fun _ _ => ⟨fun _ v => v = .non, fun _ h => h⟩⟩
def rOpt (g : Gb) : Option α → PR
  | none => ⟨fun _ v => v = .non, fun _ h => h⟩
  | some a => Py.r g a
instance : Py (Option α) := ⟨rOpt⟩
def rLst (g : Gb) (as : List α) : PR where
  p := fun I v => ∃ l vs, v = .ref l ∧ SqL g.K I l vs ∧ (rl g as).p I vs
  mono := fun s ⟨l, vs, e, h, q⟩ => ⟨l, vs, e, s.seq h, (rl g as).mono s q⟩
instance : Py (List α) := ⟨rLst⟩
end
structure T2 (α β : Type) where
  x0 : α
  x1 : β
  deriving DecidableEq
structure T3 (α β γ : Type) where
  x0 : α
  x1 : β
  x2 : γ
  deriving DecidableEq
structure T4 (α β γ δ : Type) where
  x0 : α
  x1 : β
  x2 : γ
  x3 : δ
  deriving DecidableEq
section
variable {α β γ δ : Type} [Py α] [Py β] [Py γ] [Py δ]
instance : Py (T2 α β) := ⟨fun g t => ⟨fun I v => ∃ p a b, v = .ref p ∧ SqT g.K I p [a, b] ∧ (Py.r g t.x0).p I a ∧ (Py.r g t.x1).p I b,
  fun s ⟨p, a, b, e, h, q1, q2⟩ => ⟨p, a, b, e, seqT s h, (Py.r g _).mono s q1, (Py.r g _).mono s q2⟩⟩⟩
instance : Py (T3 α β γ) := ⟨fun g t => ⟨fun I v => ∃ p a b c, v = .ref p ∧ SqT g.K I p [a, b, c] ∧ (Py.r g t.x0).p I a ∧ (Py.r g t.x1).p I b ∧ (Py.r g t.x2).p I c,
  fun s ⟨p, a, b, c, e, h, q1, q2, q3⟩ => ⟨p, a, b, c, e, seqT s h, (Py.r g _).mono s q1, (Py.r g _).mono s q2, (Py.r g _).mono s q3⟩⟩⟩
instance : Py (T4 α β γ δ) := ⟨fun g t => ⟨fun I v => ∃ p a b c d, v = .ref p ∧ SqT g.K I p [a, b, c, d] ∧ (Py.r g t.x0).p I a ∧ (Py.r g t.x1).p I b ∧ (Py.r g t.x2).p I c ∧ (Py.r g t.x3).p I d,
  fun s ⟨p, a, b, c, d, e, h, q1, q2, q3, q4⟩ => ⟨p, a, b, c, d, e, seqT s h, (Py.r g _).mono s q1, (Py.r g _).mono s q2, (Py.r g _).mono s q3, (Py.r g _).mono s q4⟩⟩⟩
end

/-- a thing owned: by the part that stays, a fragment of the heap of its own, and its value -/
structure OR where
  p : Hp → Hp → V → Prop
  mono : ∀ {I I' F : Hp} {v : V}, Same I I' → p I F v → p I' F v
/-! kinds of values: a thing that stays (im), a new list of one's own (fr), a list of the caller's (bw), a list as it stands now (rd); an owned thing (ow), the caller's (bo), as it stands now (ro) -/
inductive RK where
  | im (p : PR) | fr (q : PL) | bw (q : PL) | rd (q : PL) | ow (o : OR) | bo (o : OR) | ro (o : OR)
def RK.holds (g : Gb) : RK → Hp → V → Hp → Hp → Prop
  | .im p, _, v, I', _ => p.p I' v
  | .fr q, H, v, I', H' => ∃ l vs, v = .ref l ∧ H l = none ∧ I' l = none ∧ H' l = some (.lst vs) ∧ q.p I' vs
  | .bw q, H, v, I', _ => ∃ l vs, v = .ref l ∧ SqL g.K H l vs ∧ q.p I' vs
  | .rd q, _, v, I', H' => ∃ l vs, v = .ref l ∧ SqL g.K H' l vs ∧ q.p I' vs
  | .ow o, H, v, I', H' => ∃ F : Hp, (∀ a, F a ≠ none → H a = none ∧ I' a = none) ∧ Same F H' ∧ o.p I' F v
  | .bo o, H, v, I', _ => ∃ F : Hp, Same F H ∧ o.p I' F v
  | .ro o, _, v, I', H' => ∃ F : Hp, Same F H' ∧ o.p I' F v
/-- two parts of the heap together, the second one ahead -/
def Un (I F : Hp) : Hp := fun a => match F a with
  | some o => some o
  | none => I a
theorem un_none {I F : Hp} {a : Addr} (h : F a = none) : Un I F a = I a := by unfold Un; rw [h]
theorem un_r {I F : Hp} {a : Addr} {o : HO} (h : F a = some o) : Un I F a = some o := by unfold Un; rw [h]
theorem un_some {I F : Hp} {a : Addr} {o : HO} (h : Un I F a = some o) : F a = some o ∨ (F a = none ∧ I a = some o) := by
  unfold Un at h
  cases e : F a with
  | none => rw [e] at h; exact .inr ⟨rfl, h⟩
  | some u => rw [e] at h; exact .inl h
theorem un_l {I F : Hp} (h : ∀ a, F a ≠ none → I a = none) : Same I (Un I F) := fun a o e => by
  rw [un_none]
  · exact e
  · cases q : F a with
    | none => rfl
    | some u =>
      have := h a (by rw [q]; simp)
      rw [this] at e; cases e
theorem un_s {I F : Hp} : Same F (Un I F) := fun a o e => un_r e
/-- the heap grows: I what stays as it is, H all -/
structure Ext (I H I' H' : Hp) : Prop where
  i : Same I I'
  h : Same H H'
  s : Same I' H'
  n : ∀ l, H l ≠ none → I l = none → I' l = none
theorem Ext.refl {I H : Hp} (s : Same I H) : Ext I H I H := ⟨Same.refl _, Same.refl _, s, fun _ _ h => h⟩
theorem Ext.trans {I H I1 H1 I2 H2 : Hp} (a : Ext I H I1 H1) (b : Ext I1 H1 I2 H2) : Ext I H I2 H2 :=
  ⟨a.i.trans b.i, a.h.trans b.h, b.s, fun l h1 h2 => b.n l (fun z => h1 (a.h.free z)) (a.n l h1 h2)⟩
theorem ne_of_some {H : Hp} {a : Addr} {o : HO} (h : H a = some o) : H a ≠ none := by rw [h]; simp
theorem same_ne {F H : Hp} (s : Same F H) {a : Addr} (h : F a ≠ none) : H a ≠ none := by
  cases e : F a with
  | none => exact absurd e h
  | some o => exact ne_of_some (s _ _ e)
theorem RK.ext {g : Gb} {k : RK} {H : Hp} {v : V} {I1 H1 I2 H2 : Hp} (h : RK.holds g k H v I1 H1) (x : Ext I1 H1 I2 H2) : RK.holds g k H v I2 H2 := by
  cases k with
  | im p => exact p.mono x.i h
  | fr q =>
    obtain ⟨l, vs, e, h1, h2, h3, h4⟩ := h
    exact ⟨l, vs, e, h1, x.n l (by rw [h3]; simp) h2, x.h _ _ h3, q.mono x.i h4⟩
  | bw q =>
    obtain ⟨l, vs, e, h1, h4⟩ := h
    exact ⟨l, vs, e, h1, q.mono x.i h4⟩
  | rd q =>
    obtain ⟨l, vs, e, h1, h4⟩ := h
    exact ⟨l, vs, e, x.h.seq h1, q.mono x.i h4⟩
  | ow o =>
    obtain ⟨F, h1, h2, h3⟩ := h
    exact ⟨F, fun a ha => ⟨(h1 a ha).1, x.n a (same_ne h2 ha) (h1 a ha).2⟩, h2.trans x.h, o.mono x.i h3⟩
  | bo o =>
    obtain ⟨F, h2, h3⟩ := h
    exact ⟨F, h2, o.mono x.i h3⟩
  | ro o =>
    obtain ⟨F, h2, h3⟩ := h
    exact ⟨F, h2.trans x.h, o.mono x.i h3⟩
/-- borrowed kinds are seen from where they are borrowed -/
def RK.isB : RK → Bool
  | .bw _ => true
  | .bo _ => true
  | _ => false
/-- seen from an earlier heap (of a borrowed list: no) -/
theorem RK.back {g : Gb} {k : RK} {H0 H : Hp} {v : V} {I' H' : Hp} (hb : k.isB = false) (s : Same H0 H) (h : RK.holds g k H v I' H') : RK.holds g k H0 v I' H' := by
  cases k with
  | im p => exact h
  | fr q =>
    obtain ⟨l, vs, e, h1, h2, h3, h4⟩ := h
    exact ⟨l, vs, e, s.free h1, h2, h3, h4⟩
  | bw q => cases hb
  | rd q => exact h
  | ow o =>
    obtain ⟨F, h1, h2, h3⟩ := h
    exact ⟨F, fun a ha => ⟨s.free (h1 a ha).1, (h1 a ha).2⟩, h2, h3⟩
  | bo q => cases hb
  | ro q => exact h

/-! the state: what is known of each slot; slots of kinds fr, ow own a fragment -/
structure Bs where
  I : Hp
  H : Hp
abbrev SL := List (Option RK)
/-- a slot's value, F its own fragment -/
def RK.inS (g : Gb) : RK → Hp → V → Hp → Hp → Prop
  | .im p, _, v, I, _ => p.p I v
  | .fr q, _, v, I, F => ∃ l vs, v = .ref l ∧ F l = some (.lst vs) ∧ q.p I vs
  | .bw q, H, v, I, _ => ∃ l vs, v = .ref l ∧ SqL g.K H l vs ∧ q.p I vs
  | .rd _, _, _, _, _ => False
  | .ow o, _, v, I, F => o.p I F v
  | .bo o, H, v, I, _ => ∃ F : Hp, Same F H ∧ o.p I F v
  | .ro _, _, _, _, _ => False
theorem RK.inS_mono {g : Gb} {k : RK} {H : Hp} {v : V} {I I' F : Hp} (s : Same I I') (h : RK.inS g k H v I F) : RK.inS g k H v I' F := by
  cases k with
  | im p => exact p.mono s h
  | fr q =>
    obtain ⟨l, vs, e, h3, h4⟩ := h
    exact ⟨l, vs, e, h3, q.mono s h4⟩
  | bw q =>
    obtain ⟨l, vs, e, h1, h4⟩ := h
    exact ⟨l, vs, e, h1, q.mono s h4⟩
  | rd q => exact h
  | ow o => exact o.mono s h
  | bo o =>
    obtain ⟨F, h2, h3⟩ := h
    exact ⟨F, h2, o.mono s h3⟩
  | ro q => exact h
structure HoldF (g : Gb) (B : Bs) (S : SL) (σ : L2.St) (I H : Hp) (Φ : Nat → Hp) : Prop where
  len : σ.length = S.length
  sub : Same I H
  base : Same B.H H
  at_ : ∀ (i : Nat) (k : RK), S[i]? = some (some k) → ∃ v, σ[i]? = some (some v) ∧ RK.inS g k B.H v I (Φ i)
  fr : ∀ (i : Nat) (a : Addr) (o : HO), Φ i a = some o → H a = some o ∧ I a = none ∧ B.H a = none
  dj : ∀ (i j : Nat) (a : Addr), Φ i a ≠ none → Φ j a ≠ none → i = j
def Hold (g : Gb) (B : Bs) (S : SL) (σ : L2.St) (I H : Hp) : Prop := ∃ Φ, HoldF g B S σ I H Φ
section
variable {g : Gb} {B : Bs} {S : SL} {σ : L2.St} {I H I' H' : Hp} {Φ : Nat → Hp}
theorem HoldF.ne (h : HoldF g B S σ I H Φ) {i : Nat} {a : Addr} (e : Φ i a ≠ none) : H a ≠ none ∧ I a = none ∧ B.H a = none := by
  cases q : Φ i a with
  | none => exact absurd q e
  | some o =>
    obtain ⟨h1, h2⟩ := h.fr i a o q
    exact ⟨ne_of_some h1, h2⟩
theorem Hold.len (h : Hold g B S σ I H) : σ.length = S.length := h.elim fun _ h => h.len
theorem Hold.sub (h : Hold g B S σ I H) : Same I H := h.elim fun _ h => h.sub
theorem Hold.base (h : Hold g B S σ I H) : Same B.H H := h.elim fun _ h => h.base
theorem Hold.at_ (h : Hold g B S σ I H) (i : Nat) (k : RK) (e : S[i]? = some (some k)) : ∃ v, σ[i]? = some (some v) ∧ RK.holds g k B.H v I H := by
  obtain ⟨Φ, h⟩ := h
  obtain ⟨v, e1, q⟩ := h.at_ i k e
  refine ⟨v, e1, ?_⟩
  cases k with
  | im p => exact q
  | fr p =>
    obtain ⟨l, vs, e3, h3, h4⟩ := q
    obtain ⟨f1, f2, f3⟩ := h.fr i l _ h3
    exact ⟨l, vs, e3, f3, f2, f1, h4⟩
  | bw p => exact q
  | rd p => exact q.elim
  | ow o => exact ⟨Φ i, fun a ha => ⟨(h.ne ha).2.2, (h.ne ha).2.1⟩, fun a o e => (h.fr i a o e).1, q⟩
  | bo o => exact q
  | ro p => exact q.elim
theorem HoldF.ext (h : HoldF g B S σ I H Φ) (x : Ext I H I' H') : HoldF g B S σ I' H' Φ :=
  ⟨h.len, x.s, h.base.trans x.h, fun i k e => let ⟨v, e1, q⟩ := h.at_ i k e; ⟨v, e1, RK.inS_mono x.i q⟩, fun i a o e => let ⟨h1, h2, h3⟩ := h.fr i a o e; ⟨x.h _ _ h1, x.n a (ne_of_some h1) h2, h3⟩, h.dj⟩
theorem Hold.ext (h : Hold g B S σ I H) (x : Ext I H I' H') : Hold g B S σ I' H' := h.elim fun Φ h => ⟨Φ, h.ext x⟩
end
def RK.slotty : RK → Bool
  | .im _ => true
  | .fr _ => true
  | .ow _ => true
  | _ => false
theorem set_some {α : Type} {l : List α} {i j : Nat} {x y : α} (h : (l.set i x)[j]? = some y) : (i = j ∧ x = y ∧ i < l.length) ∨ (i ≠ j ∧ l[j]? = some y) := by
  by_cases hj : i = j
  · subst hj
    have hi : i < l.length := by
      have := (List.getElem?_eq_some_iff.mp h).1
      rwa [List.length_set] at this
    rw [List.getElem?_set_self hi] at h
    exact .inl ⟨rfl, Option.some.inj h, hi⟩
  · rw [List.getElem?_set_ne hj] at h
    exact .inr ⟨hj, h⟩
/-- a single object -/
def one1 (l : Addr) (o : HO) : Hp := fun a => if a = l then some o else none
theorem one1_same {l : Addr} {o : HO} : one1 l o l = some o := if_pos rfl
theorem one1_ne {l a : Addr} {o : HO} (h : one1 l o a ≠ none) : a = l := by
  unfold one1 at h
  by_cases e : a = l
  · exact e
  · rw [if_neg e] at h; exact absurd rfl h
theorem one1_some {l a : Addr} {o u : HO} (h : one1 l o a = some u) : a = l ∧ u = o := by
  have e := one1_ne (ne_of_some h)
  subst e
  rw [one1_same] at h
  exact ⟨rfl, (Option.some.inj h).symm⟩
/-- what a value brings along -/
theorem RK.frag {g : Gb} {k : RK} {H : Hp} {v : V} {I' H' : Hp} (hk : k.slotty = true) (h : RK.holds g k H v I' H') : ∃ F : Hp, (∀ a, F a ≠ none → H a = none ∧ I' a = none) ∧ Same F H' ∧ ∀ B, RK.inS g k B v I' F := by
  cases k with
  | im p => exact ⟨fun _ => none, fun a z => absurd rfl z, fun _ _ z => (by cases z), fun _ => h⟩
  | fr q =>
    obtain ⟨l, vs, e, h1, h2, h3, h4⟩ := h
    refine ⟨one1 l (.lst vs), fun a ha => ?_, fun a o e => ?_, fun _ => ⟨l, vs, e, one1_same, h4⟩⟩
    · rw [one1_ne ha]; exact ⟨h1, h2⟩
    · obtain ⟨e1, e2⟩ := one1_some e
      rw [e1, e2]; exact h3
  | bw q => cases hk
  | rd q => cases hk
  | ow o =>
    obtain ⟨F, h1, h2, h3⟩ := h
    exact ⟨F, h1, h2, fun _ => h3⟩
  | bo q => cases hk
  | ro q => cases hk
/-- the fragments with another one at i -/
def putF (Φ : Nat → Hp) (i : Nat) (F : Hp) : Nat → Hp := fun j => if j = i then F else Φ j
theorem putF_same {Φ : Nat → Hp} {i : Nat} {F : Hp} : putF Φ i F i = F := if_pos rfl
theorem putF_ne {Φ : Nat → Hp} {i j : Nat} {F : Hp} (h : j ≠ i) : putF Φ i F j = Φ j := if_neg h
/-- a value goes to a slot -/
theorem HoldF.set {g : Gb} {B : Bs} {S : SL} {σ : L2.St} {I H : Hp} {Φ : Nat → Hp} {i : Nat} {k : RK} {v : V} {F : Hp} (h : HoldF g B S σ I H Φ) (hv : RK.inS g k B.H v I F) (hF : Same F H) (hn : ∀ a, F a ≠ none → I a = none ∧ B.H a = none) (hd : ∀ j a, j ≠ i → F a ≠ none → Φ j a = none) :
    HoldF g B (S.set i (some k)) (σ.set i (some v)) I H (putF Φ i F) := by
  refine ⟨by rw [List.length_set, List.length_set, h.len], h.sub, h.base, fun j k' e => ?_, fun j a o e => ?_, fun j l a hj hl => ?_⟩
  · rcases set_some e with ⟨a, b, c⟩ | ⟨a, b⟩
    · subst a
      cases b
      exact ⟨v, List.getElem?_set_self (by rw [h.len]; exact c), by rw [putF_same]; exact hv⟩
    · obtain ⟨u, e1, q⟩ := h.at_ j k' b
      exact ⟨u, by rw [List.getElem?_set_ne a]; exact e1, by rw [putF_ne (fun z => a z.symm)]; exact q⟩
  · by_cases hji : j = i
    · rw [hji, putF_same] at e
      exact ⟨hF _ _ e, hn a (ne_of_some e)⟩
    · rw [putF_ne hji] at e
      exact h.fr j a o e
  · by_cases hji : j = i
    · by_cases hli : l = i
      · rw [hji, hli]
      · rw [hji, putF_same] at hj
        rw [putF_ne hli] at hl
        exact absurd (hd l a hli hj) hl
    · by_cases hli : l = i
      · rw [hli, putF_same] at hl
        rw [putF_ne hji] at hj
        exact absurd (hd j a hji hl) hj
      · rw [putF_ne hji] at hj
        rw [putF_ne hli] at hl
        exact h.dj j l a hj hl
theorem Hold.put {g : Gb} {B : Bs} {S : SL} {σ : L2.St} {I H I' H' : Hp} {i : Nat} {k : RK} {v : V} (h : Hold g B S σ I H) (x : Ext I H I' H') (hk : k.slotty = true) (hv : RK.holds g k H v I' H') : Hold g B (S.set i (some k)) (σ.set i (some v)) I' H' := by
  obtain ⟨Φ, h⟩ := h
  obtain ⟨F, f1, f2, f3⟩ := RK.frag hk hv
  refine ⟨putF Φ i F, (h.ext x).set (f3 _) f2 (fun a ha => ⟨(f1 a ha).2, h.base.free (f1 a ha).1⟩) fun j a _ ha => ?_⟩
  cases q : Φ j a with
  | none => rfl
  | some o => exact absurd (f1 a ha).1 (ne_of_some (h.fr j a o q).1)
end T
set_option Elab.async false
set_option linter.all false
set_option maxRecDepth 100000
namespace T
open PySem PySem.Spec PyProof.Rows L2

/-! judgements: an expression's value, a test's answer, an argument list -/
def rdE (g : Gb) (B : Bs) (S : SL) (k : RK) : TE := fun σ H Q => ∃ I, Hold g B S σ I H ∧ ∀ v I' H', Ext I H I' H' → RK.holds g k H v I' H' → Q v H'
structure ME {α : Type} (X : Cx) (g : Gb) (B : Bs) (S : SL) (e : Expr) (m : Option α) (k : α → RK) : Prop where
  run : ∀ a, m = some a → PE X e (rdE g B S (k a))
def rdT (g : Gb) (B : Bs) (S : SL) (b : Bool) : TT := fun σ H Q => ∃ I, Hold g B S σ I H ∧ ∀ I' H', Ext I H I' H' → Q b H'
structure MT (X : Cx) (g : Gb) (B : Bs) (S : SL) (e : Expr) (m : Option Bool) : Prop where
  run : ∀ b, m = some b → PT X e (rdT g B S b)
structure MW (X : Cx) (g : Gb) (B : Bs) (S : SL) (e : Expr) (m : Option Bool) : Prop where
  run : ∀ b, m = some b → PW X e (rdT g B S b)
theorem pe_imp {X : Cx} {e : Expr} {t t' : TE} (h : PE X e t) (f : ∀ σ H Q, t' σ H Q → t σ H Q) : PE X e t' := ⟨fun pins s σ H Q I hw => h.run pins s σ H Q I (f σ H Q hw)⟩
theorem pt_imp {X : Cx} {e : Expr} {t t' : TT} (h : PT X e t) (f : ∀ σ H Q, t' σ H Q → t σ H Q) : PT X e t' := ⟨fun pins s σ H Q I hw => h.run pins s σ H Q I (f σ H Q hw)⟩
theorem pw_imp {X : Cx} {e : Expr} {t t' : TT} (h : PW X e t) (f : ∀ σ H Q, t' σ H Q → t σ H Q) : PW X e t' := ⟨fun wh pins s σ H Q I hw => h.run wh pins s σ H Q I (f σ H Q hw)⟩
theorem bind_some {α β : Type} {m : Option α} {f : α → Option β} {b : β} (h : (m >>= f) = some b) : ∃ a, m = some a ∧ f a = some b := by
  cases m with
  | none => cases h
  | some a => exact ⟨a, rfl, h⟩
theorem ME.eq {α : Type} {X : Cx} {g : Gb} {B : Bs} {S : SL} {e : Expr} {m m' : Option α} {k : α → RK} (h : ME X g B S e m k) (q : m = m') : ME X g B S e m' k := q ▸ h
theorem MT.eq {X : Cx} {g : Gb} {B : Bs} {S : SL} {e : Expr} {m m' : Option Bool} (h : MT X g B S e m) (q : m = m') : MT X g B S e m' := q ▸ h

/-- a list that can be read -/
def LR {α : Type} [Py α] (g : Gb) (k : List α → RK) : Prop := ∀ xs H v I' H', Same I' H' → RK.holds g (k xs) H v I' H' → ∃ l vs, v = .ref l ∧ SqL g.K H' l vs ∧ (rl g xs).p I' vs
section
variable {α β γ δ : Type} [Py α] [Py β] [Py γ] [Py δ] {g : Gb}
theorem lr_im : LR (α := α) g (fun xs => .im (Py.r g xs)) := fun xs H v I' H' s h => by
  obtain ⟨l, vs, e, h1, h2⟩ := h
  exact ⟨l, vs, e, s.seq h1, h2⟩
theorem lr_fr : LR (α := α) g (fun xs => .fr (rl g xs)) := fun xs H v I' H' s h => by
  obtain ⟨l, vs, e, _, _, h1, h2⟩ := h
  exact ⟨l, vs, e, SqL.of h1, h2⟩
theorem lr_rd : LR (α := α) g (fun xs => .rd (rl g xs)) := fun xs H v I' H' s h => h
end
theorem vals_ints {g : Gb} {I : Hp} : ∀ {ns : List Int} {vs : List V}, Paired (fun a v => (Py.r g a).p I v) ns vs → vs = ns.map V.int
  | _, _, .nil => rfl
  | _, _, .cons (a := a) h t => by
    have e : _ = V.int a := h
    rw [e, List.map_cons, vals_ints t]
theorem vals_bls {g : Gb} {I : Hp} : ∀ {ns : List Bool} {vs : List V}, Paired (fun a v => (Py.r g a).p I v) ns vs → vs = ns.map V.bl
  | _, _, .nil => rfl
  | _, _, .cons (a := a) h t => by
    have e : _ = V.bl a := h
    rw [e, List.map_cons, vals_bls t]
theorem paired_get {α β : Type} {F : α → β → Prop} : ∀ {l₁ : List α} {l₂ : List β}, Paired F l₁ l₂ → ∀ {i : Nat} {a : α}, l₁[i]? = some a → ∃ b, l₂[i]? = some b ∧ F a b
  | _, _, .nil, i, a, h => by simp at h
  | _, _, .cons h t, 0, a, e => by
    cases e
    exact ⟨_, rfl, h⟩
  | _, _, .cons h t, i + 1, a, e => paired_get t (i := i) (by simpa using e)
theorem paired_get' {α β : Type} {F : α → β → Prop} : ∀ {l₁ : List α} {l₂ : List β}, Paired F l₁ l₂ → ∀ {i : Nat} {b : β}, l₂[i]? = some b → ∃ a, l₁[i]? = some a ∧ F a b
  | _, _, .nil, i, a, h => by simp at h
  | _, _, .cons h t, 0, a, e => by
    cases e
    exact ⟨_, rfl, h⟩
  | _, _, .cons h t, i + 1, a, e => paired_get' t (i := i) (by simpa using e)
theorem paired_app {α β : Type} {F : α → β → Prop} : ∀ {a : List α} {b : List β} {c : List α} {d : List β}, Paired F a b → Paired F c d → Paired F (a ++ c) (b ++ d)
  | _, _, _, _, .nil, h => h
  | _, _, _, _, .cons x t, h => .cons x (paired_app t h)
theorem paired_take {α β : Type} {F : α → β → Prop} : ∀ {a : List α} {b : List β} (n : Nat), Paired F a b → Paired F (a.take n) (b.take n)
  | _, _, 0, _ => .nil
  | _, _, _ + 1, .nil => .nil
  | _, _, n + 1, .cons x t => .cons x (paired_take n t)
theorem paired_drop {α β : Type} {F : α → β → Prop} : ∀ {a : List α} {b : List β} (n : Nat), Paired F a b → Paired F (a.drop n) (b.drop n)
  | _, _, 0, h => h
  | _, _, _ + 1, .nil => .nil
  | _, _, n + 1, .cons x t => paired_drop n t
theorem paired_set {α β : Type} {F : α → β → Prop} {x : α} {y : β} (h : F x y) : ∀ {a : List α} {b : List β} (n : Nat), Paired F a b → Paired F (a.set n x) (b.set n y)
  | _, _, _, .nil => .nil
  | _, _, 0, .cons _ t => .cons h t
  | _, _, n + 1, .cons z t => .cons z (paired_set h n t)
theorem paired_rev {α β : Type} {F : α → β → Prop} : ∀ {a : List α} {b : List β}, Paired F a b → Paired F a.reverse b.reverse
  | _, _, .nil => .nil
  | _, _, .cons x t => by
    rw [List.reverse_cons, List.reverse_cons]
    exact paired_app (paired_rev t) (.cons x .nil)
theorem paired_rep {α β : Type} {F : α → β → Prop} {a : List α} {b : List β} (h : Paired F a b) : ∀ n : Nat, Paired F (List.replicate n a).flatten (List.replicate n b).flatten
  | 0 => .nil
  | n + 1 => by
    rw [List.replicate_succ, List.replicate_succ, List.flatten_cons, List.flatten_cons]
    exact paired_app h (paired_rep h n)
theorem atI_ix {α : Type} {xs : List α} {i : Int} {v : α} (h : atI xs i = some v) : ∃ j, ixN xs.length i = some j ∧ xs[j]? = some v := by
  unfold atI at h
  cases e : ixN xs.length i with
  | none => rw [e] at h; cases h
  | some j => rw [e] at h; exact ⟨j, rfl, h⟩
theorem paired_at {α β : Type} {F : α → β → Prop} {l₁ : List α} {l₂ : List β} (h : Paired F l₁ l₂) {i : Int} {a : α} (e : atI l₁ i = some a) : ∃ b, atI l₂ i = some b ∧ F a b := by
  obtain ⟨j, e1, e2⟩ := atI_ix e
  obtain ⟨b, e3, q⟩ := paired_get h e2
  refine ⟨b, ?_, q⟩
  unfold atI
  rw [← Paired.length h, e1]
  exact e3

/-- the item at a place, counted from the end below 0 -/
@[irreducible] def atO {α : Type} (xs : List α) (i : Int) : Option α := atI xs i
theorem atO_eq {α : Type} (xs : List α) (i : Int) : atO xs i = atI xs i := by unfold atO; rfl

section
variable {X : Cx} {g : Gb} {B : Bs} {S : SL} {e e1 e2 e3 : Expr} {pos pos' : Pos} {α β γ δ : Type} [Py α] [Py β] [Py γ] [Py δ]

/-! names, constants -/
theorem me_var (i : Nat) {x : Str} {a : α} (hS : S[i]? = some (some (.im (Py.r g a))) := by rfl) (hN : X.N[i]? = some x := by rfl) (hv : Vis X.env.scope x := by first | exact Or.inl rfl | exact Or.inr (Or.inl rfl) | exact Or.inr (Or.inr rfl))
    (hd : (x == ("__debug__" : Str)) = false := by decide) (hcd : (x == ("__classdict__" : Str)) = false := by decide) : ME X g B S (.Name x pos) (some a) (fun a => .im (Py.r g a)) := by
  refine ⟨fun a' e => ?_⟩
  cases e
  refine pe_imp (pe_var hN hv hd hcd) fun σ H Q ⟨I, h, q⟩ => ?_
  obtain ⟨v, e1, h1⟩ := h.at_ i _ hS
  exact ⟨v, e1, q v I H (Ext.refl h.sub) h1⟩
/-- an owned list, seen -/
theorem me_own (i : Nat) {x : Str} {as : List α} (hS : S[i]? = some (some (.fr (rl g as))) := by rfl) (hN : X.N[i]? = some x := by rfl) (hv : Vis X.env.scope x := by first | exact Or.inl rfl | exact Or.inr (Or.inl rfl) | exact Or.inr (Or.inr rfl))
    (hd : (x == ("__debug__" : Str)) = false := by decide) (hcd : (x == ("__classdict__" : Str)) = false := by decide) : ME X g B S (.Name x pos) (some as) (fun as => .rd (rl g as)) := by
  refine ⟨fun a' e => ?_⟩
  cases e
  refine pe_imp (pe_var hN hv hd hcd) fun σ H Q ⟨I, h, q⟩ => ?_
  obtain ⟨v, e1, l, vs, e2, _, _, h3, h4⟩ := h.at_ i _ hS
  exact ⟨v, e1, q v I H (Ext.refl h.sub) ⟨l, vs, e2, SqL.of h3, h4⟩⟩
/-- a borrowed list, seen -/
theorem me_bor (i : Nat) {x : Str} {as : List α} (hS : S[i]? = some (some (.bw (rl g as))) := by rfl) (hN : X.N[i]? = some x := by rfl) (hv : Vis X.env.scope x := by first | exact Or.inl rfl | exact Or.inr (Or.inl rfl) | exact Or.inr (Or.inr rfl))
    (hd : (x == ("__debug__" : Str)) = false := by decide) (hcd : (x == ("__classdict__" : Str)) = false := by decide) : ME X g B S (.Name x pos) (some as) (fun as => .rd (rl g as)) := by
  refine ⟨fun a' e => ?_⟩
  cases e
  refine pe_imp (pe_var hN hv hd hcd) fun σ H Q ⟨I, h, q⟩ => ?_
  obtain ⟨v, e1, l, vs, e2, h3, h4⟩ := h.at_ i _ hS
  exact ⟨v, e1, q v I H (Ext.refl h.sub) ⟨l, vs, e2, h.base.seq h3, h4⟩⟩
theorem me_c {v : V} {a : α} (h : PE X e (tC v)) (hv : ∀ I, (Py.r g a).p I v) : ME X g B S e (some a) (fun a => .im (Py.r g a)) := by
  refine ⟨fun a' e => ?_⟩
  cases e
  exact pe_imp h fun σ H Q ⟨I, h, q⟩ => q v I H (Ext.refl h.sub) (hv I)
theorem me_int {i j} : ME X g B S (.Constant (.int i) j pos) (some i) (fun a => .im (Py.r g a)) := me_c pe_int fun _ => rfl
theorem me_bl {b j} : ME X g B S (.Constant (.bool b) j pos) (some b) (fun a => .im (Py.r g a)) := me_c pe_bl fun _ => rfl
theorem me_str {x j} : ME X g B S (.Constant (.str x) j pos) (some x) (fun a => .im (Py.r g a)) := me_c pe_str fun _ => rfl
theorem me_non {j} : ME X g B S (.Constant .none j pos) (some (none : Option α)) (fun a => .im (Py.r g a)) := me_c pe_non fun _ => rfl
theorem me_unit {j} : ME X g B S (.Constant .none j pos) (some ()) (fun a => .im (Py.r g a)) := me_c pe_non fun _ => rfl
/-- a thing as one that may be None; one that is not -/
theorem me_some {m : Option α} (h : ME X g B S e m (fun a => .im (Py.r g a))) : ME X g B S e (m >>= fun a => some (some a)) (fun a => .im (Py.r g a)) := by
  refine ⟨fun a q => ?_⟩
  obtain ⟨b, e1, e2⟩ := bind_some q
  cases e2
  exact h.run b e1
theorem me_get {m : Option (Option α)} (h : ME X g B S e m (fun a => .im (Py.r g a))) : ME X g B S e (m >>= fun a => a) (fun a => .im (Py.r g a)) := by
  refine ⟨fun a q => ?_⟩
  obtain ⟨b, e1, e2⟩ := bind_some q
  subst e2
  exact h.run _ e1
/-- a new list is let go: it stays as it is from here on -/
theorem me_frz {m : Option (List α)} (h : ME X g B S e m (fun a => .fr (rl g a))) : ME X g B S e m (fun a => .im (Py.r g a)) := by
  refine ⟨fun a q => pe_imp (h.run a q) fun σ H Q ⟨I, hh, k⟩ => ⟨I, hh, fun v I' H' x hv => ?_⟩⟩
  obtain ⟨l, vs, rfl, h1, h2, h3, h4⟩ := hv
  refine k _ (upd I' l (.lst vs)) H' ⟨x.i.trans (same_new h2), x.h, fun b o e => ?_, fun b n1 n2 => ?_⟩ ⟨l, vs, rfl, SqL.of upd_same, (rl g a).mono (same_new h2) h4⟩
  · by_cases hb : b = l
    · subst hb
      rw [upd_same] at e
      cases e
      exact h3
    · rw [upd_ne hb] at e
      exact x.s _ _ e
  · have hb : b ≠ l := fun z => n1 (z ▸ h1)
    rw [upd_ne hb]
    exact x.n b n1 n2

/-! two operands -/
theorem me_bin {op : Operator} {r : R2} {a' b' c' : Type} {m1 : Option a'} {m2 : Option b'} {f : a' → b' → Option c'} {k1 : a' → RK} {k2 : b' → RK} {k : c' → RK} (ho : OpR X (binaryOp op) r) (h1 : ME X g B S e1 m1 k1) (h2 : ME X g B S e2 m2 k2)
    (hr : ∀ a b c, f a b = some c → ∀ v w I H H0 H1 Q, Same I H → RK.holds g (k1 a) H0 v I H → RK.holds g (k2 b) H1 w I H → (∀ u I' H', Ext I H I' H' → RK.holds g (k c) H u I' H' → Q u H') → r v w H Q)
    (hb : ∀ c, (k c).isB = false := by intro _; rfl) : ME X g B S (.BinOp e1 op e2 pos) (m1 >>= fun a => m2 >>= fun b => f a b) k := by
  refine ⟨fun c q => ?_⟩
  obtain ⟨a, q1, q⟩ := bind_some q
  obtain ⟨b, q2, q⟩ := bind_some q
  refine pe_imp (pe_op ho (h1.run a q1) (h2.run b q2)) fun σ H Q ⟨I, hh, kk⟩ => ⟨I, hh, fun v I1 H1 x1 v1 => ⟨I1, hh.ext x1, fun w I2 H2 x2 v2 => ?_⟩⟩
  exact hr a b c q v w I2 H2 _ _ Q x2.s (RK.ext v1 x2) v2 fun u I3 H3 x3 v3 => kk u I3 H3 ((x1.trans x2).trans x3) (RK.back (hb c) (x1.trans x2).h v3)
/-- a comparison: as a value and as a test -/
structure MC (X : Cx) (g : Gb) (B : Bs) (S : SL) (e : Expr) (m : Option Bool) : Prop where
  run : ∀ c, m = some c → ∃ t : TE, PE X e t ∧ PT X e (tTest t) ∧ ∀ σ H Q, rdE g B S (.im (Py.r g c)) σ H Q → t σ H Q
theorem me_cm {m : Option Bool} (h : MC X g B S e m) : ME X g B S e m (fun c => .im (Py.r g c)) := ⟨fun c q => by
  obtain ⟨t, h1, _, h3⟩ := h.run c q
  exact pe_imp h1 h3⟩
theorem mt_cm {m : Option Bool} (h : MC X g B S e m) : MT X g B S e m := ⟨fun c q => by
  obtain ⟨t, _, h2, h3⟩ := h.run c q
  exact pt_imp h2 fun σ H Q ⟨I, hh, k⟩ => h3 σ H _ ⟨I, hh, fun v I' H' x hv => ⟨c, hv, k I' H' x⟩⟩⟩
theorem MC.eq {m m' : Option Bool} (h : MC X g B S e m) (q : m = m') : MC X g B S e m' := q ▸ h
theorem mc_cmp {op : CmpOp} {r : R2} {a' b' : Type} {m1 : Option a'} {m2 : Option b'} {f : a' → b' → Option Bool} {k1 : a' → RK} {k2 : b' → RK} (ho : OpR X (compareOp op) r) (h1 : ME X g B S e1 m1 k1) (h2 : ME X g B S e2 m2 k2)
    (hr : ∀ a b c, f a b = some c → ∀ v w I H H0 H1 Q, Same I H → RK.holds g (k1 a) H0 v I H → RK.holds g (k2 b) H1 w I H → (∀ u I' H', Ext I H I' H' → RK.holds g (.im (Py.r g c)) H u I' H' → Q u H') → r v w H Q)
    (hm : behindInMarks op e2 = false := by first | exact nomark _ | rfl) : MC X g B S (.Compare e1 [op] [e2] pos) (m1 >>= fun a => m2 >>= fun b => f a b) := by
  refine ⟨fun c q => ?_⟩
  obtain ⟨a, q1, q⟩ := bind_some q
  obtain ⟨b, q2, q⟩ := bind_some q
  refine ⟨_, pe_cmpR ho (h1.run a q1) (h2.run b q2) hm, pt_cmpR ho (h1.run a q1) (h2.run b q2) hm, fun σ H Q ⟨I, hh, kk⟩ => ⟨I, hh, fun v I1 H1 x1 v1 => ⟨I1, hh.ext x1, fun w I2 H2 x2 v2 => ?_⟩⟩⟩
  exact hr a b c q v w I2 H2 _ _ Q x2.s (RK.ext v1 x2) v2 fun u I3 H3 x3 v3 => kk u I3 H3 ((x1.trans x2).trans x3) v3
variable {m m1 : Option Int} {m2 : Option Int}
abbrev KI (g : Gb) {α : Type} [Py α] : α → RK := fun a => .im (Py.r g a)
/-- ints -/
theorem me_i0 {op : Operator} {f : Int → Int → Int} (ho : OpR X (binaryOp op) (rI0 fun i j => .int (f i j))) (h1 : ME X g B S e1 m1 (KI g)) (h2 : ME X g B S e2 m2 (KI g)) :
    ME X g B S (.BinOp e1 op e2 pos) (m1 >>= fun a => m2 >>= fun b => some (f a b)) (KI g) :=
  me_bin ho h1 h2 fun a b c q v w I H H0 H1 Q s v1 v2 k => by
    cases q
    exact ⟨a, b, v1, v2, k _ _ _ (Ext.refl s) rfl⟩
theorem me_i1 {op : Operator} {f : Int → Int → Int} {C : Int → Int → Prop} {D : Int → Int → Bool} (ho : OpR X (binaryOp op) (rI C fun i j => .int (f i j))) (hD : ∀ i j, D i j = true → C i j) (h1 : ME X g B S e1 m1 (KI g)) (h2 : ME X g B S e2 m2 (KI g)) :
    ME X g B S (.BinOp e1 op e2 pos) (m1 >>= fun a => m2 >>= fun b => if D a b = true then some (f a b) else none) (KI g) :=
  me_bin ho h1 h2 fun a b c q v w I H H0 H1 Q s v1 v2 k => by
    by_cases hd : D a b = true
    · rw [if_pos hd] at q
      cases q
      exact ⟨a, b, v1, v2, hD _ _ hd, k _ _ _ (Ext.refl s) rfl⟩
    · rw [if_neg hd] at q
      cases q
theorem me_add (h1 : ME X g B S e1 m1 (KI g)) (h2 : ME X g B S e2 m2 (KI g)) : ME X g B S (.BinOp e1 .Add e2 pos) (m1 >>= fun a => m2 >>= fun b => some (a + b)) (KI g) := me_i0 op_add h1 h2
theorem me_sub (h1 : ME X g B S e1 m1 (KI g)) (h2 : ME X g B S e2 m2 (KI g)) : ME X g B S (.BinOp e1 .Sub e2 pos) (m1 >>= fun a => m2 >>= fun b => some (a - b)) (KI g) := me_i0 op_sub h1 h2
end
/-- a product that can be reckoned -/
def mulOk (i j : Int) : Bool := decide (-(2 ^ 64) < i ∧ i < 2 ^ 64) || decide (-(2 ^ 64) < j ∧ j < 2 ^ 64) || decide (i.natAbs.log2 + j.natAbs.log2 < 1000000)
def divOk (_ j : Int) : Bool := decide (0 < j ∧ j.natAbs.log2 < 9000)
def modOk (_ j : Int) : Bool := decide (0 < j)
@[irreducible] def mulO (i j : Int) : Option Int := if mulOk i j = true then some (i * j) else none
theorem mulO_eq (i j : Int) : mulO i j = if mulOk i j = true then some (i * j) else none := by unfold mulO; rfl
@[irreducible] def divO (i j : Int) : Option Int := if divOk i j = true then some (i / j) else none
theorem divO_eq (i j : Int) : divO i j = if divOk i j = true then some (i / j) else none := by unfold divO; rfl
@[irreducible] def modO (i j : Int) : Option Int := if modOk i j = true then some (i % j) else none
theorem modO_eq (i j : Int) : modO i j = if modOk i j = true then some (i % j) else none := by unfold modO; rfl
section
variable {X : Cx} {g : Gb} {B : Bs} {S : SL} {e e1 e2 e3 : Expr} {pos pos' : Pos} {α β γ δ : Type} [Py α] [Py β] [Py γ] [Py δ] {m m1 m2 : Option Int}
theorem op_mulT : OpR X (binaryOp .Mult) (rI (fun i j => mulOk i j = true) fun i j => .int (i * j)) := opI fun i j _ _ _ _ _ hc q => mul_int q (by
  unfold mulOk at hc
  rw [Bool.or_eq_true, Bool.or_eq_true, decide_eq_true_eq, decide_eq_true_eq, decide_eq_true_eq] at hc
  rcases hc with (h | h) | h
  · exact CMul.ok (.inl h)
  · exact CMul.ok (.inr h)
  · exact CMulW.ok h)
theorem me_mul (h1 : ME X g B S e1 m1 (KI g)) (h2 : ME X g B S e2 m2 (KI g)) : ME X g B S (.BinOp e1 .Mult e2 pos) (m1 >>= fun a => m2 >>= fun b => mulO a b) (KI g) := (me_i1 op_mulT (fun _ _ h => h) h1 h2).eq (by simp only [mulO_eq])
theorem me_div (h1 : ME X g B S e1 m1 (KI g)) (h2 : ME X g B S e2 m2 (KI g)) : ME X g B S (.BinOp e1 .FloorDiv e2 pos) (m1 >>= fun a => m2 >>= fun b => divO a b) (KI g) := (me_i1 op_fdivW (fun i j h => by have q : 0 < j ∧ j.natAbs.log2 < 9000 := of_decide_eq_true h; exact q) h1 h2 (D := divOk)).eq (by simp only [divO_eq])
theorem me_mod (h1 : ME X g B S e1 m1 (KI g)) (h2 : ME X g B S e2 m2 (KI g)) : ME X g B S (.BinOp e1 .Mod e2 pos) (m1 >>= fun a => m2 >>= fun b => modO a b) (KI g) := (me_i1 op_mod (fun _ _ h => of_decide_eq_true h) h1 h2 (D := modOk)).eq (by simp only [modO_eq])
/-- by a written number -/
theorem me_mulC {n : Int} (hn : decide (-(2 ^ 64) < n ∧ n < 2 ^ 64) = true) (h1 : ME X g B S e1 m1 (KI g)) (h2 : ME X g B S e2 (some n) (KI g)) : ME X g B S (.BinOp e1 .Mult e2 pos) (m1 >>= fun a => some (a * n)) (KI g) := by
  refine (me_mul h1 h2).eq ?_
  cases m1 with
  | none => rfl
  | some a =>
    show mulO a n = some (a * n)
    rw [mulO_eq, if_pos (by unfold mulOk; rw [hn]; simp)]
theorem me_mulD {n : Int} (hn : decide (-(2 ^ 64) < n ∧ n < 2 ^ 64) = true) (h1 : ME X g B S e1 (some n) (KI g)) (h2 : ME X g B S e2 m2 (KI g)) : ME X g B S (.BinOp e1 .Mult e2 pos) (m2 >>= fun a => some (n * a)) (KI g) := by
  refine (me_mul h1 h2).eq ?_
  cases m2 with
  | none => rfl
  | some a =>
    show mulO n a = some (n * a)
    rw [mulO_eq, if_pos (by unfold mulOk; rw [hn]; simp)]
theorem me_divC {n : Int} (hn : divOk 0 n = true) (h1 : ME X g B S e1 m1 (KI g)) (h2 : ME X g B S e2 (some n) (KI g)) : ME X g B S (.BinOp e1 .FloorDiv e2 pos) (m1 >>= fun a => some (a / n)) (KI g) := by
  refine (me_div h1 h2).eq ?_
  cases m1 with
  | none => rfl
  | some a =>
    show divO a n = some (a / n)
    rw [divO_eq, if_pos (show divOk a n = true from hn)]
theorem me_modC {n : Int} (hn : modOk 0 n = true) (h1 : ME X g B S e1 m1 (KI g)) (h2 : ME X g B S e2 (some n) (KI g)) : ME X g B S (.BinOp e1 .Mod e2 pos) (m1 >>= fun a => some (a % n)) (KI g) := by
  refine (me_mod h1 h2).eq ?_
  cases m1 with
  | none => rfl
  | some a =>
    show modO a n = some (a % n)
    rw [modO_eq, if_pos (show modOk a n = true from hn)]
theorem me_neg (h1 : ME X g B S e1 m1 (KI g)) : ME X g B S (.UnaryOp .USub e1 pos) (m1 >>= fun a => some (-a)) (KI g) := by
  refine ⟨fun c q => ?_⟩
  obtain ⟨a, q1, q⟩ := bind_some q
  cases q
  refine pe_imp (pe_un un_neg (h1.run a q1)) fun σ H Q ⟨I, hh, kk⟩ => ⟨I, hh, fun v I1 H1 x1 v1 => ⟨a, v1, kk _ I1 H1 x1 rfl⟩⟩
/-- comparisons of ints -/
theorem mc_ci {op : CmpOp} {f : Int → Int → Bool} (ho : OpR X (compareOp op) (rI0 fun i j => .bl (f i j))) (h1 : ME X g B S e1 m1 (KI g)) (h2 : ME X g B S e2 m2 (KI g)) (hm : behindInMarks op e2 = false) :
    MC X g B S (.Compare e1 [op] [e2] pos) (m1 >>= fun a => m2 >>= fun b => some (f a b)) :=
  mc_cmp ho h1 h2 (fun a b c q v w I H H0 H1 Q s v1 v2 k => by
    cases q
    exact ⟨a, b, v1, v2, k _ _ _ (Ext.refl s) rfl⟩) hm
theorem mc_lt (h1 : ME X g B S e1 m1 (KI g)) (h2 : ME X g B S e2 m2 (KI g)) : MC X g B S (.Compare e1 [.Lt] [e2] pos) (m1 >>= fun a => m2 >>= fun b => some (decide (a < b))) := mc_ci op_lt h1 h2 (nomark _)
theorem mc_le (h1 : ME X g B S e1 m1 (KI g)) (h2 : ME X g B S e2 m2 (KI g)) : MC X g B S (.Compare e1 [.LtE] [e2] pos) (m1 >>= fun a => m2 >>= fun b => some (decide (a ≤ b))) := mc_ci op_le h1 h2 (nomark _)
theorem mc_gt (h1 : ME X g B S e1 m1 (KI g)) (h2 : ME X g B S e2 m2 (KI g)) : MC X g B S (.Compare e1 [.Gt] [e2] pos) (m1 >>= fun a => m2 >>= fun b => some (decide (b < a))) := mc_ci op_gt h1 h2 (nomark _)
theorem mc_ge (h1 : ME X g B S e1 m1 (KI g)) (h2 : ME X g B S e2 m2 (KI g)) : MC X g B S (.Compare e1 [.GtE] [e2] pos) (m1 >>= fun a => m2 >>= fun b => some (decide (b ≤ a))) := mc_ci op_ge h1 h2 (nomark _)
end
end T
set_option Elab.async false
set_option linter.all false
set_option maxRecDepth 100000
namespace T
open PySem PySem.Spec PyProof.Rows L2

/-! data that == reads: PySem.W.Datum, and how it stands in the abstract heap -/
class Pd (α : Type) [Py α] [DecidableEq α] extends PySem.W.Datum α where
  dp : ∀ {g : Gb} {a : α} {I : Hp} {v : V}, (Py.r g a).p I v → Dp g.K I v (toD a)
instance : Pd Int where
  dp := fun h => by cases h; exact .int _
instance : Pd Bool where
  dp := fun h => by cases h; exact .bl _
instance : Pd Str where
  dp := fun h => by cases h; exact .str _
instance : Pd Unit where
  dp := fun h => by cases h; exact .non
theorem dp_mono {K : PySem.W.Frag} {H H' : Hp} (s : Same H H') : ∀ {d : PyData} {v : V}, Dp K H v d → Dp K H' v d := by
  intro d
  refine PyData.rec (motive_1 := fun d => ∀ {v : V}, Dp K H v d → Dp K H' v d) (motive_2 := fun ds => ∀ {vs : List V}, DpAll K H vs ds → DpAll K H' vs ds) (motive_3 := fun _ => True) (motive_4 := fun _ => True)
    ?_ ?_ ?_ ?_ ?_ ?_ ?_ ?_ ?_ ?_ ?_ ?_ d
  · intro v h; cases h; exact .non
  · intro b v h; cases h; exact .bl _
  · intro b v h; cases h; exact .int _
  · intro b v h; cases h; exact .str _
  · intro xs ih v h
    cases h with
    | lst h1 h2 => exact .lst (s.seq h1) (ih h2)
  · intro xs ih v h
    cases h with
    | tup h1 h2 => exact .tup (seqT s h1) (ih h2)
  · intro kvs _ v h; cases h
  · intro vs h; cases h; exact .nil
  · intro x xs i1 i2 vs h
    cases h with
    | cons h1 h2 => exact .cons (i1 h1) (i2 h2)
  · trivial
  · intros; trivial
  · intros; trivial
section
variable {α β γ δ : Type} [Py α] [Py β] [Py γ] [Py δ] [DecidableEq α] [DecidableEq β] [DecidableEq γ] [DecidableEq δ] [Pd α] [Pd β] [Pd γ] [Pd δ]
open PySem.W
theorem dp_all {g : Gb} {I : Hp} : ∀ {as : List α} {vs : List V}, Paired (fun a v => (Py.r g a).p I v) as vs → DpAll g.K I vs (as.map Datum.toD)
  | _, _, .nil => .nil
  | _, _, .cons h t => .cons (Pd.dp h) (dp_all t)
theorem plain_all : ∀ as : List α, PyData.plainAll (as.map Datum.toD) = true
  | [] => rfl
  | a :: as => by
    show (PyData.plain (Datum.toD a) && PyData.plainAll (as.map Datum.toD)) = true
    rw [Datum.plain a, plain_all as]; rfl
theorem depth_all : ∀ as : List α, PyData.depthAll (as.map Datum.toD) ≤ Datum.depth α
  | [] => Nat.zero_le _
  | a :: as => by
    show max (PyData.depth (Datum.toD a)) (PyData.depthAll (as.map Datum.toD)) ≤ _
    exact Nat.max_le.mpr ⟨Datum.depth_le a, depth_all as⟩
theorem eqv_all : ∀ as bs : List α, PyData.eqvAll (as.map Datum.toD) (bs.map Datum.toD) = decide (as = bs)
  | [], [] => rfl
  | [], b :: bs => by
    rw [decide_eq_false (by intro z; cases z)]; rfl
  | a :: as, [] => by
    rw [decide_eq_false (by intro z; cases z)]; rfl
  | a :: as, b :: bs => by
    show (PyData.eqv (Datum.toD a) (Datum.toD b) && PyData.eqvAll (as.map Datum.toD) (bs.map Datum.toD)) = _
    rw [Datum.eqv, eqv_all as bs, Bool.eq_iff_iff]
    simp
instance : Pd (List α) where
  dp := fun {g a I v} h => by
    obtain ⟨l, vs, rfl, h1, h2⟩ := h
    exact .lst h1 (dp_all h2.2)
instance : Datum (T2 α β) where
  toD := fun t => .tuple [Datum.toD t.x0, Datum.toD t.x1]
  plain := fun t => by simp [PyData.plain, PyData.plainAll, Datum.plain]
  eqv := fun a b => by
    obtain ⟨a0, a1⟩ := a
    obtain ⟨b0, b1⟩ := b
    rw [Bool.eq_iff_iff]
    simp [PyData.eqv, PyData.eqvAll, Datum.eqv]
  depth := max (Datum.depth α) (Datum.depth β) + 1
  depth_le := fun t => by
    have h0 := Datum.depth_le t.x0
    have h1 := Datum.depth_le t.x1
    simp only [PyData.depth, PyData.depthAll]
    omega
instance : Pd (T2 α β) where
  dp := fun {g a I v} h => by
    obtain ⟨p, x, y, rfl, h0, h1, h2⟩ := h
    exact .tup h0 (.cons (Pd.dp h1) (.cons (Pd.dp h2) .nil))
instance : Datum (T3 α β γ) where
  toD := fun t => .tuple [Datum.toD t.x0, Datum.toD t.x1, Datum.toD t.x2]
  plain := fun t => by simp [PyData.plain, PyData.plainAll, Datum.plain]
  eqv := fun a b => by
    obtain ⟨a0, a1, a2⟩ := a
    obtain ⟨b0, b1, b2⟩ := b
    rw [Bool.eq_iff_iff]
    simp [PyData.eqv, PyData.eqvAll, Datum.eqv]
  depth := max (Datum.depth α) (max (Datum.depth β) (Datum.depth γ)) + 1
  depth_le := fun t => by
    have h0 := Datum.depth_le t.x0
    have h1 := Datum.depth_le t.x1
    have h2 := Datum.depth_le t.x2
    simp only [PyData.depth, PyData.depthAll]
    omega
instance : Pd (T3 α β γ) where
  dp := fun {g a I v} h => by
    obtain ⟨p, x, y, z, rfl, h0, h1, h2, h3⟩ := h
    exact .tup h0 (.cons (Pd.dp h1) (.cons (Pd.dp h2) (.cons (Pd.dp h3) .nil)))
instance : Datum (T4 α β γ δ) where
  toD := fun t => .tuple [Datum.toD t.x0, Datum.toD t.x1, Datum.toD t.x2, Datum.toD t.x3]
  plain := fun t => by simp [PyData.plain, PyData.plainAll, Datum.plain]
  eqv := fun a b => by
    obtain ⟨a0, a1, a2, a3⟩ := a
    obtain ⟨b0, b1, b2, b3⟩ := b
    rw [Bool.eq_iff_iff]
    simp [PyData.eqv, PyData.eqvAll, Datum.eqv]
  depth := max (Datum.depth α) (max (Datum.depth β) (max (Datum.depth γ) (Datum.depth δ))) + 1
  depth_le := fun t => by
    have h0 := Datum.depth_le t.x0
    have h1 := Datum.depth_le t.x1
    have h2 := Datum.depth_le t.x2
    have h3 := Datum.depth_le t.x3
    simp only [PyData.depth, PyData.depthAll]
    omega
instance : Pd (T4 α β γ δ) where
  dp := fun {g a I v} h => by
    obtain ⟨p, x, y, z, w, rfl, h0, h1, h2, h3, h4⟩ := h
    exact .tup h0 (.cons (Pd.dp h1) (.cons (Pd.dp h2) (.cons (Pd.dp h3) (.cons (Pd.dp h4) .nil))))
end
/-- what is never None -/
class NN (α : Type) [Py α] [DecidableEq α] [Pd α] : Prop where
  nn : ∀ a : α, PyData.eqv .none (PySem.W.Datum.toD a) = false ∧ PyData.eqv (PySem.W.Datum.toD a) .none = false
instance : NN Int := ⟨fun _ => ⟨rfl, rfl⟩⟩
instance : NN Bool := ⟨fun _ => ⟨rfl, rfl⟩⟩
instance : NN Str := ⟨fun _ => ⟨rfl, rfl⟩⟩
section
variable {α β γ δ : Type} [Py α] [Py β] [Py γ] [Py δ] [DecidableEq α] [DecidableEq β] [DecidableEq γ] [DecidableEq δ] [Pd α] [Pd β] [Pd γ] [Pd δ]
open PySem.W
instance : NN (List α) := ⟨fun _ => ⟨rfl, rfl⟩⟩
instance : NN (T2 α β) := ⟨fun _ => ⟨rfl, rfl⟩⟩
instance : NN (T3 α β γ) := ⟨fun _ => ⟨rfl, rfl⟩⟩
instance : NN (T4 α β γ δ) := ⟨fun _ => ⟨rfl, rfl⟩⟩
instance [NN α] : Datum (Option α) where
  toD := fun o => match o with | none => .none | some a => Datum.toD a
  plain := fun o => by
    cases o with
    | none => rfl
    | some a => exact Datum.plain a
  eqv := fun a b => by
    cases a with
    | none =>
      cases b with
      | none => rfl
      | some b =>
        rw [decide_eq_false (by intro z; cases z)]
        exact (NN.nn b).1
    | some a =>
      cases b with
      | none =>
        rw [decide_eq_false (by intro z; cases z)]
        exact (NN.nn a).2
      | some b =>
        show PyData.eqv (Datum.toD a) (Datum.toD b) = _
        rw [Datum.eqv, Bool.eq_iff_iff]
        simp
  depth := Datum.depth α
  depth_le := fun o => by
    cases o with
    | none => exact Nat.zero_le _
    | some a => exact Datum.depth_le a
instance [NN α] : Pd (Option α) where
  dp := fun {g a I v} h => by
    cases a with
    | none => cases h; exact .non
    | some a => exact Pd.dp (α := α) h
end
section
variable {X : Cx}
open PySem.W PySem.SeqAt
def rEqP (K : PySem.W.Frag) : R2 := fun x y H Q => ∃ d e, Dp K H x d ∧ Dp K H y e ∧ d.plain = true ∧ e.plain = true ∧ d.depth ≤ 64 ∧ Q (.bl (PyData.eqv d e)) H
def rNeP (K : PySem.W.Frag) : R2 := fun x y H Q => ∃ d e, Dp K H x d ∧ Dp K H y e ∧ d.plain = true ∧ e.plain = true ∧ d.depth ≤ 64 ∧ Q (.bl (!PyData.eqv d e)) H
theorem op_eqP (hu : X.A.units + 64 < cLine) : OpR X (compareOp .Eq) (rEqP X.K) := by
  intro pins s σ H x y v u Q I rx ry h
  obtain ⟨d, e, hd, he, sd, se, dd, q⟩ := h
  obtain ⟨as, r1⟩ := Dp.reads I d x v hd rx
  obtain ⟨bs, r2⟩ := Dp.reads I e y u he ry
  exact eq_plain r1 r2 sd se (by have := Nat.min_le_left d.depth e.depth; omega) ⟨.bl _, H, I, rfl, q⟩
theorem op_neP (hu : X.A.units + 64 < cLine) : OpR X (compareOp .NotEq) (rNeP X.K) := by
  intro pins s σ H x y v u Q I rx ry h
  obtain ⟨d, e, hd, he, sd, se, dd, q⟩ := h
  obtain ⟨as, r1⟩ := Dp.reads I d x v hd rx
  obtain ⟨bs, r2⟩ := Dp.reads I e y u he ry
  exact ne_plain r1 r2 sd se (by have := Nat.min_le_left d.depth e.depth; omega) ⟨.bl _, H, I, rfl, q⟩
def rInP (K : PySem.W.Frag) (neg : Bool) : R2 := fun x y H Q => ∃ d ds, Dp K H x d ∧ (Dp K H y (.list ds) ∨ Dp K H y (.tuple ds)) ∧ d.plain = true ∧ PyData.plainAll ds = true ∧ d.depth ≤ 62 ∧ Q (.bl (if neg then !(ds.any fun y => PyData.eqv y d) else ds.any fun y => PyData.eqv y d)) H
theorem op_inP (hu : X.A.units + 64 < cLine) : OpR X (compareOp .In) (rInP X.K false) := by
  intro pins s σ H x y v u Q I rx ry h
  obtain ⟨d, ds, hd, he, sd, se, dd, q⟩ := h
  obtain ⟨as, r1⟩ := Dp.reads I d x v hd rx
  rcases he with he | he
  · obtain ⟨bs, r2⟩ := Dp.reads I _ y u he ry
    exact in_list_data r2 r1 se sd (by have := Nat.min_le_right (PyData.depthAll ds) d.depth; omega) ⟨.bl _, H, I, rfl, q⟩
  · obtain ⟨bs, r2⟩ := Dp.reads I _ y u he ry
    exact in_tuple_data r2 r1 se sd (by have := Nat.min_le_right (PyData.depthAll ds) d.depth; omega) ⟨.bl _, H, I, rfl, q⟩
theorem op_niP (hu : X.A.units + 64 < cLine) : OpR X (compareOp .NotIn) (rInP X.K true) := by
  intro pins s σ H x y v u Q I rx ry h
  obtain ⟨d, ds, hd, he, sd, se, dd, q⟩ := h
  obtain ⟨as, r1⟩ := Dp.reads I d x v hd rx
  rcases he with he | he
  · obtain ⟨bs, r2⟩ := Dp.reads I _ y u he ry
    exact notIn_list_data r2 r1 se sd (by have := Nat.min_le_right (PyData.depthAll ds) d.depth; omega) ⟨.bl _, H, I, rfl, q⟩
  · obtain ⟨bs, r2⟩ := Dp.reads I _ y u he ry
    exact notIn_tuple_data r2 r1 se sd (by have := Nat.min_le_right (PyData.depthAll ds) d.depth; omega) ⟨.bl _, H, I, rfl, q⟩
end
/-- the left and the right operand of == read as data: kinds im and lists -/
def DR {α : Type} [Py α] [DecidableEq α] [Pd α] (g : Gb) (k : α → RK) : Prop := ∀ a H v I' H', Same I' H' → RK.holds g (k a) H v I' H' → Dp g.K H' v (PySem.W.Datum.toD a)
section
variable {α β : Type} [Py α] [DecidableEq α] [Pd α] [Py β] [DecidableEq β] [Pd β] {g : Gb}
open PySem.W
theorem dr_im : DR (α := α) g (fun a => .im (Py.r g a)) := fun a H v I' H' s h => dp_mono s (Pd.dp h)
theorem dr_lr {k : List α → RK} (h : LR g k) : DR g k := fun a H v I' H' s q => by
  obtain ⟨l, vs, rfl, h1, h2⟩ := h a H v I' H' s q
  exact .lst h1 (dp_all ((rl g a).mono s h2).2)
variable {X : Cx} {B : Bs} {S : SL} {e e1 e2 e3 : Expr} {pos pos' : Pos} {m1 m2 : Option α} {k1 k2 : α → RK}
theorem mc_eq (hu : X.A.units + 64 < cLine) (hd : Datum.depth α ≤ 64) (h1 : ME X g B S e1 m1 k1) (h2 : ME X g B S e2 m2 k2) (r1 : DR g k1 := by first | exact dr_im | exact dr_lr lr_fr | exact dr_lr lr_rd) (r2 : DR g k2 := by first | exact dr_im | exact dr_lr lr_fr | exact dr_lr lr_rd)
    (hg : X.K = g.K := by rfl) : MC X g B S (.Compare e1 [.Eq] [e2] pos) (m1 >>= fun a => m2 >>= fun b => some (decide (a = b))) :=
  mc_cmp (op_eqP hu) h1 h2 (fun a b c q v w I H H0 H1 Q s v1 v2 k => by
    cases q
    refine ⟨_, _, by rw [hg]; exact r1 a _ _ _ _ s v1, by rw [hg]; exact r2 b _ _ _ _ s v2, Datum.plain a, Datum.plain b, Nat.le_trans (Datum.depth_le a) hd, ?_⟩
    rw [Datum.eqv]
    exact k _ _ _ (Ext.refl s) rfl) (nomark _)
theorem mc_ne (hu : X.A.units + 64 < cLine) (hd : Datum.depth α ≤ 64) (h1 : ME X g B S e1 m1 k1) (h2 : ME X g B S e2 m2 k2) (r1 : DR g k1 := by first | exact dr_im | exact dr_lr lr_fr | exact dr_lr lr_rd) (r2 : DR g k2 := by first | exact dr_im | exact dr_lr lr_fr | exact dr_lr lr_rd)
    (hg : X.K = g.K := by rfl) : MC X g B S (.Compare e1 [.NotEq] [e2] pos) (m1 >>= fun a => m2 >>= fun b => some (!decide (a = b))) :=
  mc_cmp (op_neP hu) h1 h2 (fun a b c q v w I H H0 H1 Q s v1 v2 k => by
    cases q
    refine ⟨_, _, by rw [hg]; exact r1 a _ _ _ _ s v1, by rw [hg]; exact r2 b _ _ _ _ s v2, Datum.plain a, Datum.plain b, Nat.le_trans (Datum.depth_le a) hd, ?_⟩
    rw [Datum.eqv]
    exact k _ _ _ (Ext.refl s) rfl) (nomark _)
theorem any_dec (a : α) : ∀ xs : List α, ((xs.map Datum.toD).any fun y => PyData.eqv y (Datum.toD a)) = decide (a ∈ xs)
  | [] => by simp
  | x :: xs => by
    rw [List.map_cons, List.any_cons, any_dec a xs, Datum.eqv, Bool.eq_iff_iff, Bool.or_eq_true, decide_eq_true_eq, decide_eq_true_eq, decide_eq_true_eq, List.mem_cons]
    exact ⟨fun h => h.imp (fun z => z.symm) id, fun h => h.imp (fun z => z.symm) id⟩
theorem mc_in {m2 : Option (List α)} {k2 : List α → RK} (hu : X.A.units + 64 < cLine) (hd : Datum.depth α ≤ 62) (h1 : ME X g B S e1 m1 k1) (h2 : ME X g B S e2 m2 k2) (r1 : DR g k1 := by first | exact dr_im | exact dr_lr lr_fr | exact dr_lr lr_rd) (r2 : LR g k2 := by first | exact lr_im | exact lr_fr | exact lr_rd)
    (hm : behindInMarks .In e2 = false := by rfl) (hg : X.K = g.K := by rfl) : MC X g B S (.Compare e1 [.In] [e2] pos) (m1 >>= fun a => m2 >>= fun b => some (decide (a ∈ b))) :=
  mc_cmp (op_inP hu) h1 h2 (fun a b c q v w I H H0 H1 Q s v1 v2 k => by
    cases q
    obtain ⟨l, vs, rfl, h1, h2⟩ := r2 b _ _ _ _ s v2
    refine ⟨_, b.map Datum.toD, by rw [hg]; exact r1 a _ _ _ _ s v1, .inl (by rw [hg]; exact .lst h1 (dp_all ((rl g b).mono s h2).2)), Datum.plain a, plain_all b, Nat.le_trans (Datum.depth_le a) hd, ?_⟩
    show Q (.bl _) H
    rw [if_neg Bool.false_ne_true, any_dec]
    exact k _ _ _ (Ext.refl s) rfl) hm
theorem mc_ni {m2 : Option (List α)} {k2 : List α → RK} (hu : X.A.units + 64 < cLine) (hd : Datum.depth α ≤ 62) (h1 : ME X g B S e1 m1 k1) (h2 : ME X g B S e2 m2 k2) (r1 : DR g k1 := by first | exact dr_im | exact dr_lr lr_fr | exact dr_lr lr_rd) (r2 : LR g k2 := by first | exact lr_im | exact lr_fr | exact lr_rd)
    (hm : behindInMarks .NotIn e2 = false := by rfl) (hg : X.K = g.K := by rfl) : MC X g B S (.Compare e1 [.NotIn] [e2] pos) (m1 >>= fun a => m2 >>= fun b => some (!decide (a ∈ b))) :=
  mc_cmp (op_niP hu) h1 h2 (fun a b c q v w I H H0 H1 Q s v1 v2 k => by
    cases q
    obtain ⟨l, vs, rfl, h1, h2⟩ := r2 b _ _ _ _ s v2
    refine ⟨_, b.map Datum.toD, by rw [hg]; exact r1 a _ _ _ _ s v1, .inl (by rw [hg]; exact .lst h1 (dp_all ((rl g b).mono s h2).2)), Datum.plain a, plain_all b, Nat.le_trans (Datum.depth_le a) hd, ?_⟩
    show Q (.bl (!_)) H
    rw [any_dec]
    exact k _ _ _ (Ext.refl s) rfl) hm
end
end T
set_option Elab.async false
set_option linter.all false
set_option maxRecDepth 100000
namespace T
open PySem PySem.Spec PyProof.Rows L2

/-- never None -/
class Nz (α : Type) [Py α] : Prop where
  nz : ∀ {g : Gb} {a : α} {I : Hp} {v : V}, (Py.r g a).p I v → v ≠ .non
instance : Nz Int := ⟨fun h z => by cases h; cases z⟩
instance : Nz Bool := ⟨fun h z => by cases h; cases z⟩
instance : Nz Str := ⟨fun h z => by cases h; cases z⟩
instance {α : Type} [Py α] : Nz (List α) := ⟨fun h z => by obtain ⟨_, _, rfl, _⟩ := h; cases z⟩
instance {α β : Type} [Py α] [Py β] : Nz (T2 α β) := ⟨fun h z => by obtain ⟨_, _, _, rfl, _⟩ := h; cases z⟩
instance {α β γ : Type} [Py α] [Py β] [Py γ] : Nz (T3 α β γ) := ⟨fun h z => by obtain ⟨_, _, _, _, rfl, _⟩ := h; cases z⟩
instance {α β γ δ : Type} [Py α] [Py β] [Py γ] [Py δ] : Nz (T4 α β γ δ) := ⟨fun h z => by obtain ⟨_, _, _, _, _, rfl, _⟩ := h; cases z⟩

section
variable {X : Cx} {g : Gb} {B : Bs} {S : SL} {e e1 e2 e3 : Expr} {es : List Expr} {pos pos' : Pos} {α β γ δ : Type} [Py α] [Py β] [Py γ] [Py δ]
/-! tests -/
theorem mt_val {m : Option Bool} (h : ME X g B S e m (KI g)) (he : ∀ whole, isTrue e X.env whole = (do let v ← whole; standAt e.pos; holding [v] (truthy v)) := by intro _; rfl) : MT X g B S e m :=
  ⟨fun b q => pt_imp (pt_val (h.run b q) he) fun σ H Q ⟨I, hh, k⟩ => ⟨I, hh, fun v I' H' x hv => ⟨b, hv, k I' H' x⟩⟩⟩
theorem mt_not {m : Option Bool} (h : MT X g B S e m) : MT X g B S (.UnaryOp .Not e pos) (m >>= fun b => some (!b)) := by
  refine ⟨fun b q => ?_⟩
  obtain ⟨c, q1, q2⟩ := bind_some q
  cases q2
  exact pt_imp (pt_not (h.run c q1)) fun σ H Q ⟨I, hh, k⟩ => ⟨I, hh, fun I' H' x => k I' H' x⟩
theorem mw_and1 {m : Option Bool} (h : MT X g B S e m) : MW X g B S (.BoolOp .And [e] pos) m := ⟨fun b q => pw_and1 (h.run b q)⟩
theorem mw_or1 {m : Option Bool} (h : MT X g B S e m) : MW X g B S (.BoolOp .Or [e] pos) m := ⟨fun b q => pw_or1 (h.run b q)⟩
theorem mw_and {m1 m2 : Option Bool} (h1 : MT X g B S e1 m1) (h2 : MW X g B S (.BoolOp .And (e2 :: es) pos) m2) : MW X g B S (.BoolOp .And (e1 :: e2 :: es) pos) (m1 >>= fun c => if c = true then m2 else some false) := by
  refine ⟨fun b q => ?_⟩
  obtain ⟨c, q1, q2⟩ := bind_some q
  cases c with
  | true =>
    rw [if_pos rfl] at q2
    refine pw_imp (pw_and (h1.run _ q1) (h2.run _ q2)) fun σ H Q ⟨I, hh, k⟩ => ⟨I, hh, fun I1 H1 x1 => ?_⟩
    exact iteT ⟨I1, hh.ext x1, fun I2 H2 x2 => k I2 H2 (x1.trans x2)⟩
  | false =>
    rw [if_neg Bool.false_ne_true] at q2
    cases q2
    refine pw_imp (pw_and (tB' := fun _ _ _ => False) (h1.run _ q1) ⟨fun _ _ _ _ _ _ _ z => z.elim⟩) fun σ H Q ⟨I, hh, k⟩ => ⟨I, hh, fun I1 H1 x1 => ?_⟩
    exact iteF (k I1 H1 x1)
theorem mw_or {m1 m2 : Option Bool} (h1 : MT X g B S e1 m1) (h2 : MW X g B S (.BoolOp .Or (e2 :: es) pos) m2) : MW X g B S (.BoolOp .Or (e1 :: e2 :: es) pos) (m1 >>= fun c => if c = true then some true else m2) := by
  refine ⟨fun b q => ?_⟩
  obtain ⟨c, q1, q2⟩ := bind_some q
  cases c with
  | false =>
    rw [if_neg Bool.false_ne_true] at q2
    refine pw_imp (pw_or (h1.run _ q1) (h2.run _ q2)) fun σ H Q ⟨I, hh, k⟩ => ⟨I, hh, fun I1 H1 x1 => ?_⟩
    exact iteF ⟨I1, hh.ext x1, fun I2 H2 x2 => k I2 H2 (x1.trans x2)⟩
  | true =>
    rw [if_pos rfl] at q2
    cases q2
    refine pw_imp (pw_or (tB' := fun _ _ _ => False) (h1.run _ q1) ⟨fun _ _ _ _ _ _ _ z => z.elim⟩) fun σ H Q ⟨I, hh, k⟩ => ⟨I, hh, fun I1 H1 x1 => ?_⟩
    exact iteT (k I1 H1 x1)
theorem MW.eq {m m' : Option Bool} (h : MW X g B S e m) (q : m = m') : MW X g B S e m' := q ▸ h
theorem mw_andP {a b : Bool} (h1 : MT X g B S e1 (some a)) (h2 : MW X g B S (.BoolOp .And (e2 :: es) pos) (some b)) : MW X g B S (.BoolOp .And (e1 :: e2 :: es) pos) (some (a && b)) := (mw_and h1 h2).eq (by cases a <;> rfl)
theorem mw_orP {a b : Bool} (h1 : MT X g B S e1 (some a)) (h2 : MW X g B S (.BoolOp .Or (e2 :: es) pos) (some b)) : MW X g B S (.BoolOp .Or (e1 :: e2 :: es) pos) (some (a || b)) := (mw_or h1 h2).eq (by cases a <;> rfl)
theorem mt_w {m : Option Bool} (h : MW X g B S e m) : MT X g B S e m := ⟨fun b q => (h.run b q).pt⟩
/-- and, or, not as values -/
theorem me_one {op} {m : Option Bool} (h : ME X g B S e m (KI g)) : ME X g B S (.BoolOp op [e] pos) m (KI g) := ⟨fun b q => pe_one (h.run b q)⟩
theorem me_and {m1 m2 : Option Bool} (h1 : ME X g B S e1 m1 (KI g)) (h2 : ME X g B S (.BoolOp .And (e2 :: es) pos) m2 (KI g)) : ME X g B S (.BoolOp .And (e1 :: e2 :: es) pos) (m1 >>= fun c => if c = true then m2 else some false) (KI g) := by
  refine ⟨fun b q => ?_⟩
  obtain ⟨c, q1, q2⟩ := bind_some q
  cases c with
  | true =>
    rw [if_pos rfl] at q2
    refine pe_imp (pe_and (h1.run _ q1) (h2.run _ q2)) fun σ H Q ⟨I, hh, k⟩ => ⟨I, hh, fun v I1 H1 x1 hv => ⟨true, hv, ?_⟩⟩
    exact iteT ⟨I1, hh.ext x1, fun w I2 H2 x2 hw => k w I2 H2 (x1.trans x2) hw⟩
  | false =>
    rw [if_neg Bool.false_ne_true] at q2
    cases q2
    refine pe_imp (pe_and (tb := fun _ _ _ => False) (h1.run _ q1) ⟨fun _ _ _ _ _ _ z => z.elim⟩) fun σ H Q ⟨I, hh, k⟩ => ⟨I, hh, fun v I1 H1 x1 hv => ⟨false, hv, ?_⟩⟩
    exact iteF (k _ I1 H1 x1 rfl)
theorem me_or {m1 m2 : Option Bool} (h1 : ME X g B S e1 m1 (KI g)) (h2 : ME X g B S (.BoolOp .Or (e2 :: es) pos) m2 (KI g)) : ME X g B S (.BoolOp .Or (e1 :: e2 :: es) pos) (m1 >>= fun c => if c = true then some true else m2) (KI g) := by
  refine ⟨fun b q => ?_⟩
  obtain ⟨c, q1, q2⟩ := bind_some q
  cases c with
  | false =>
    rw [if_neg Bool.false_ne_true] at q2
    refine pe_imp (pe_or (h1.run _ q1) (h2.run _ q2)) fun σ H Q ⟨I, hh, k⟩ => ⟨I, hh, fun v I1 H1 x1 hv => ⟨false, hv, ?_⟩⟩
    exact iteF ⟨I1, hh.ext x1, fun w I2 H2 x2 hw => k w I2 H2 (x1.trans x2) hw⟩
  | true =>
    rw [if_pos rfl] at q2
    cases q2
    refine pe_imp (pe_or (tb := fun _ _ _ => False) (h1.run _ q1) ⟨fun _ _ _ _ _ _ z => z.elim⟩) fun σ H Q ⟨I, hh, k⟩ => ⟨I, hh, fun v I1 H1 x1 hv => ⟨true, hv, ?_⟩⟩
    exact iteT (k _ I1 H1 x1 rfl)
theorem me_andP {a b : Bool} (h1 : ME X g B S e1 (some a) (KI g)) (h2 : ME X g B S (.BoolOp .And (e2 :: es) pos) (some b) (KI g)) : ME X g B S (.BoolOp .And (e1 :: e2 :: es) pos) (some (a && b)) (KI g) := (me_and h1 h2).eq (by cases a <;> rfl)
theorem me_orP {a b : Bool} (h1 : ME X g B S e1 (some a) (KI g)) (h2 : ME X g B S (.BoolOp .Or (e2 :: es) pos) (some b) (KI g)) : ME X g B S (.BoolOp .Or (e1 :: e2 :: es) pos) (some (a || b)) (KI g) := (me_or h1 h2).eq (by cases a <;> rfl)
theorem me_not {m : Option Bool} (h : ME X g B S e m (KI g)) : ME X g B S (.UnaryOp .Not e pos) (m >>= fun b => some (!b)) (KI g) := by
  refine ⟨fun b q => ?_⟩
  obtain ⟨c, q1, q2⟩ := bind_some q
  cases q2
  exact pe_imp (pe_not (h.run c q1)) fun σ H Q ⟨I, hh, k⟩ => ⟨I, hh, fun v I' H' x hv => ⟨c, hv, k _ I' H' x rfl⟩⟩
/-- a < b < c, of ints -/
theorem mc_chn {op op' : CmpOp} {f f' : Int → Int → Bool} {m1 m2 m3 : Option Int} (ho : OpR X (compareOp op) (rI0 fun i j => .bl (f i j))) (ho' : OpR X (compareOp op') (rI0 fun i j => .bl (f' i j)))
    (h1 : ME X g B S e1 m1 (KI g)) (h2 : ME X g B S e2 m2 (KI g)) (h3 : ME X g B S e3 m3 (KI g)) (hm : lastMarks [op, op'] [e2, e3] = false := by with_unfolding_all rfl) :
    MC X g B S (.Compare e1 [op, op'] [e2, e3] pos) (m1 >>= fun a => m2 >>= fun b => if f a b = true then m3 >>= fun c => some (f' b c) else some false) := by
  refine ⟨fun r q => ?_⟩
  obtain ⟨a, q1, q⟩ := bind_some q
  obtain ⟨b, q2, q⟩ := bind_some q
  by_cases hf : f a b = true
  · rw [if_pos hf] at q
    obtain ⟨c, q3, q⟩ := bind_some q
    cases q
    refine ⟨_, pe_chain ho ho' (h1.run a q1) (h2.run b q2) (h3.run c q3) hm, pt_chain ho ho' (h1.run a q1) (h2.run b q2) (h3.run c q3) hm, fun σ H Q ⟨I, hh, k⟩ => ⟨I, hh, fun v I1 H1 x1 v1 => ⟨I1, hh.ext x1, fun w I2 H2 x2 v2 => ?_⟩⟩⟩
    refine ⟨a, b, v1, v2, _, rfl, ?_⟩
    rw [if_pos hf]
    exact ⟨I2, hh.ext (x1.trans x2), fun u I3 H3 x3 v3 => ⟨b, c, v2, v3, k _ I3 H3 ((x1.trans x2).trans x3) rfl⟩⟩
  · rw [if_neg hf] at q
    cases q
    refine ⟨_, pe_chain (tc := fun _ _ _ => False) ho ho' (h1.run a q1) (h2.run b q2) ⟨fun _ _ _ _ _ _ z => z.elim⟩ hm, pt_chain (tc := fun _ _ _ => False) ho ho' (h1.run a q1) (h2.run b q2) ⟨fun _ _ _ _ _ _ z => z.elim⟩ hm, fun σ H Q ⟨I, hh, k⟩ => ⟨I, hh, fun v I1 H1 x1 v1 => ⟨I1, hh.ext x1, fun w I2 H2 x2 v2 => ?_⟩⟩⟩
    refine ⟨a, b, v1, v2, _, rfl, ?_⟩
    rw [if_neg hf]
    exact k _ I2 H2 (x1.trans x2) rfl
/-- is None, is not None -/
theorem mc_isN [Nz α] {j} {m : Option (Option α)} (h : ME X g B S e m (KI g)) : MC X g B S (.Compare e [.Is] [.Constant .none j pos'] pos) (m >>= fun o => some o.isNone) :=
  (mc_cmp op_isN h (me_unit (j := j) (pos := pos')) (f := fun o _ => some o.isNone) fun o _ c q v w I H H0 H1 Q s hv hw k => by
    cases q
    refine ⟨hw, ?_⟩
    cases o with
    | none =>
      cases hv
      exact k _ _ _ (Ext.refl s) rfl
    | some a =>
      rw [decide_eq_false (Nz.nz (α := α) hv)]
      exact k _ _ _ (Ext.refl s) rfl).eq (by cases m <;> rfl)
theorem mc_ntN [Nz α] {j} {m : Option (Option α)} (h : ME X g B S e m (KI g)) : MC X g B S (.Compare e [.IsNot] [.Constant .none j pos'] pos) (m >>= fun o => some o.isSome) :=
  (mc_cmp op_notN h (me_unit (j := j) (pos := pos')) (f := fun o _ => some o.isSome) fun o _ c q v w I H H0 H1 Q s hv hw k => by
    cases q
    refine ⟨hw, ?_⟩
    cases o with
    | none =>
      cases hv
      exact k _ _ _ (Ext.refl s) rfl
    | some a =>
      rw [decide_eq_false (Nz.nz (α := α) hv)]
      exact k _ _ _ (Ext.refl s) rfl).eq (by cases m <;> rfl)
theorem me_if {a' : Type} {mc : Option Bool} {m1 m2 : Option a'} {k : a' → RK} (hc : MT X g B S e mc) (h1 : ME X g B S e1 m1 k) (h2 : ME X g B S e2 m2 k) (hb : ∀ c, (k c).isB = false := by intro _; rfl) : ME X g B S (.IfExp e e1 e2 pos) (mc >>= fun b => if b = true then m1 else m2) k := by
  refine ⟨fun r q => ?_⟩
  obtain ⟨c, q1, q2⟩ := bind_some q
  cases c with
  | true =>
    rw [if_pos rfl] at q2
    refine pe_imp (pe_ifExp (tb := fun _ _ _ => False) (hc.run _ q1) (h1.run _ q2) ⟨fun _ _ _ _ _ _ z => z.elim⟩) fun σ H Q ⟨I, hh, k⟩ => ⟨I, hh, fun I1 H1 x1 => ?_⟩
    exact iteT ⟨I1, hh.ext x1, fun w I2 H2 x2 hw => k w I2 H2 (x1.trans x2) (RK.back (hb r) x1.h hw)⟩
  | false =>
    rw [if_neg Bool.false_ne_true] at q2
    refine pe_imp (pe_ifExp (ta := fun _ _ _ => False) (hc.run _ q1) ⟨fun _ _ _ _ _ _ z => z.elim⟩ (h2.run _ q2)) fun σ H Q ⟨I, hh, k⟩ => ⟨I, hh, fun I1 H1 x1 => ?_⟩
    exact iteF ⟨I1, hh.ext x1, fun w I2 H2 x2 hw => k w I2 H2 (x1.trans x2) (RK.back (hb r) x1.h hw)⟩
end

/-! arguments -/
def Args (g : Gb) (ks : List RK) (vs : List V) (I H : Hp) : Prop := Paired (fun k v => RK.holds g k H v I H) ks vs
def rdA {ι o : Type} (g : Gb) (B : Bs) (S : SL) (dvs : List V) (args : ι → List RK) (M : ι → Option o) (r : o) : TA := fun σ H Q => ∃ I, Hold g B S σ I H ∧ ∀ a vs I' H', M a = some r → Ext I H I' H' → Args g (args a) (vs ++ dvs) I' H' → Q vs H'
structure MA {ι o : Type} (X : Cx) (g : Gb) (B : Bs) (S : SL) (es : List Expr) (dvs : List V) (args : ι → List RK) (m : Option o) (M : ι → Option o) : Prop where
  run : ∀ r, m = some r → PA X es (rdA g B S dvs args M r)
def Coe {α : Type} (g : Gb) (k k' : α → RK) : Prop := ∀ a H0 v I H, Same I H → RK.holds g (k a) H0 v I H → RK.holds g (k' a) H v I H
section
variable {X : Cx} {g : Gb} {B : Bs} {S : SL} {e e1 e2 e3 : Expr} {es : List Expr} {pos pos' : Pos} {α β γ δ : Type} [Py α] [Py β] [Py γ] [Py δ]
theorem co_im : Coe (α := α) g (KI g) (KI g) := fun _ _ _ _ _ _ h => h
theorem co_bw {k : List α → RK} (h : LR g k) : Coe g k (fun a => .bw (rl g a)) := fun a H0 v I H s q => h a H0 v I H s q
theorem pa_imp {t t' : TA} (h : PA X es t) (f : ∀ σ H Q, t' σ H Q → t σ H Q) : PA X es t' := ⟨fun pos pins s σ H Q I hw => h.run pos pins s σ H Q I (f σ H Q hw)⟩
theorem ma_nil {o : Type} {M : Unit → Option o} : MA X g B S [] [] (fun _ : Unit => []) (M ()) M :=
  ⟨fun r q => pa_imp pa_nil fun σ H Q ⟨I, hh, k⟩ => k () [] I H q (Ext.refl hh.sub) .nil⟩
/-- the rest by defaults -/
theorem ma_dfl {ι o : Type} {dvs : List V} {args : ι → List RK} {M : ι → Option o} (a : ι) (h : ∀ I H, Args g (args a) dvs I H) : MA X g B S [] dvs args (M a) M :=
  ⟨fun r q => pa_imp pa_nil fun σ H Q ⟨I, hh, k⟩ => k a [] I H q (Ext.refl hh.sub) (h I H)⟩
theorem ma_cons {ι o α' : Type} {dvs : List V} {args : ι → List RK} {m1 : Option α'} {m2 : α' → Option o} {M : α' × ι → Option o} {k k' : α' → RK} (h : ME X g B S e m1 k) (c : Coe g k k') (t : ∀ a, MA X g B S es dvs args (m2 a) (fun b => M (a, b)))
    (hs : starEach (e :: es) X.env = (false, eval e X.env) :: starEach es X.env := by rfl) : MA X g B S (e :: es) dvs (fun p : α' × ι => k' p.1 :: args p.2) (m1 >>= m2) M := by
  refine ⟨fun r q => ?_⟩
  obtain ⟨a, q1, q2⟩ := bind_some q
  refine pa_imp (pa_cons (h.run a q1) ((t a).run r q2) hs) fun σ H Q ⟨I, hh, kk⟩ => ⟨I, hh, fun v I1 H1 x1 v1 => ⟨I1, hh.ext x1, fun b vs I2 H2 hM x2 hA => ?_⟩⟩
  exact kk (a, b) (v :: vs) I2 H2 hM (x1.trans x2) (.cons (c a _ _ _ _ x2.s (RK.ext v1 x2)) hA)
end
/-! the promise of a def: a typed one -/
def spT {ι β : Type} (g : Gb) (args : ι → List RK) (M : ι → Option β) (k : β → RK) : Sp := fun vs H Q _ => ∃ I a r, Same I H ∧ Args g (args a) vs I H ∧ M a = some r ∧ ∀ v I' H', Ext I H I' H' → RK.holds g (k r) H v I' H' → Q v H'
section
variable {X : Cx} {g : Gb} {B : Bs} {S : SL} {e e1 e2 e3 : Expr} {es : List Expr} {pos pos' p : Pos} {ι β : Type} {args : ι → List RK} {M : ι → Option β} {k : β → RK} {m : Option β} {j kk : Nat} {f : Addr} {fd : FuncData} {ps : List Str} {x : Str} {dvs : List V} {ds : List Value}
theorem sp_use {H : Hp} {I : Hp} {Q : VK} {a : ι} {r : β} {vs : List V} (s : Same I H) (hA : Args g (args a) vs I H) (hM : M a = some r) (q : ∀ v I' H', Ext I H I' H' → RK.holds g (k r) H v I' H' → Q v H') {E : XK} : spT g args M k vs H Q E := ⟨I, a, r, s, hA, hM, q⟩
theorem me_call (F : FnOk X.prog X.w X.K X.mg X.base CX0 j f fd ps (spT g args M k)) (hr : Room kk X.A) (hj : j ≤ kk) (hm : X.mg x = some (.ref f)) (hk : PySem.W.keepIn X.K (.ref f) = true) (hb : Binds X.K fd ps ds) (hd : Vals dvs ds)
    (ha : MA X g B S (e :: es) dvs args m M) (hg : Gl X x := by rfl) (hdb : (x == ("__debug__" : Str)) = false := by decide) (he : starEach (e :: es) X.env = (false, eval e X.env) :: starEach es X.env := by rfl) (hpl : (backTo pos (starEach es X.env)).any (·.1) = false := by rfl)
    (hbw : ∀ c, (k c).isB = false := by intro _; rfl) :
    ME X g B S (.Call (.Name x p) (e :: es) [] pos) m k := by
  refine ⟨fun r q => ?_⟩
  refine pe_imp (pe_call F (hr.mono hj) hg hm hk hb hd pass0 (ha.run r q) hdb he hpl) fun σ H Q ⟨I, hh, kc⟩ => ⟨I, hh, fun a vs I1 H1 hM x1 hA => ?_⟩
  exact sp_use x1.s hA hM fun v I2 H2 x2 hv => kc v I2 H2 (x1.trans x2) (RK.back (hbw r) x1.h hv)
theorem me_call0 {M : Unit → Option β} (F : FnOk X.prog X.w X.K X.mg X.base CX0 j f fd [] (spT g (fun _ : Unit => []) M k)) (hr : Room kk X.A) (hj : j ≤ kk) (hm : X.mg x = some (.ref f)) (hk : PySem.W.keepIn X.K (.ref f) = true) (hb : Binds X.K fd [] [])
    (hg : Gl X x := by rfl) (hdb : (x == ("__debug__" : Str)) = false := by decide) : ME X g B S (.Call (.Name x p) [] [] pos) (M ()) k := by
  refine ⟨fun r q => ?_⟩
  refine pe_imp (pe_call0 F (hr.mono hj) hg hm hk hb .nil pass0 hdb) fun σ H Q ⟨I, hh, kc⟩ => ?_
  exact ⟨I, (), r, hh.sub, Paired.nil, q, fun v I2 H2 x2 hv => kc v I2 H2 x2 hv⟩
end
end T
set_option Elab.async false
set_option linter.all false
set_option maxRecDepth 100000
namespace T
open PySem PySem.Spec PyProof.Rows L2

/-! blocks -/
/-- a base whose part that stays is known to hold J too -/
structure Ok (g : Gb) (B : Bs) (J : Hp) (S : SL) (σ : L2.St) (I H : Hp) : Prop where
  x : Ext B.I B.H I H
  j : Same J I
  h : Hold g B S σ I H
theorem Ok.ext {g : Gb} {B : Bs} {J : Hp} {S : SL} {σ : L2.St} {I H I' H' : Hp} (o : Ok g B J S σ I H) (x : Ext I H I' H') : Ok g B J S σ I' H' := ⟨o.x.trans x, o.j.trans x.i, o.h.ext x⟩
theorem Ok.put {g : Gb} {B : Bs} {J : Hp} {S : SL} {σ : L2.St} {I H I' H' : Hp} {i : Nat} {k : RK} {v : V} (o : Ok g B J S σ I H) (x : Ext I H I' H') (hk : k.slotty = true) (hv : RK.holds g k H v I' H') : Ok g B J (S.set i (some k)) (σ.set i (some v)) I' H' :=
  ⟨o.x.trans x, o.j.trans x.i, o.h.put x hk hv⟩
/-- less is known -/
inductive Wk : SL → SL → Prop
  | nil : Wk [] []
  | keep {k : Option RK} {S T : SL} : Wk S T → Wk (k :: S) (k :: T)
  | drop {k : Option RK} {S T : SL} : Wk S T → Wk (k :: S) (none :: T)
theorem Wk.len : ∀ {S T : SL}, Wk S T → S.length = T.length
  | _, _, .nil => rfl
  | _, _, .keep h => congrArg (· + 1) h.len
  | _, _, .drop h => congrArg (· + 1) h.len
theorem Wk.get : ∀ {S T : SL}, Wk S T → ∀ {i : Nat} {k : RK}, T[i]? = some (some k) → S[i]? = some (some k)
  | _, _, .nil, i, k, e => e
  | _, _, .keep h, 0, k, e => e
  | _, _, .keep h, i + 1, k, e => h.get (i := i) (by simpa using e)
  | _, _, .drop h, 0, k, e => by simp at e
  | _, _, .drop h, i + 1, k, e => h.get (i := i) (by simpa using e)
theorem Hold.wk {g : Gb} {B : Bs} {S T : SL} {σ : L2.St} {I H : Hp} (w : Wk S T) (h : Hold g B S σ I H) : Hold g B T σ I H :=
  h.elim fun Φ h => ⟨Φ, h.len.trans w.len, h.sub, h.base, fun i k e => h.at_ i k (w.get e), h.fr, h.dj⟩
theorem Ok.wk {g : Gb} {B : Bs} {J : Hp} {S T : SL} {σ : L2.St} {I H : Hp} (w : Wk S T) (o : Ok g B J S σ I H) : Ok g B J T σ I H := ⟨o.x, o.j, o.h.wk w⟩
/-- what is to follow an outcome -/
abbrev KT (o : Type) := o → Ends → Prop
structure MB {o : Type} (X : Cx) (g : Gb) (B : Bs) (J : Hp) (S : SL) (sts : List Stmt) (m : Option o) (K : KT o) : Prop where
  run : ∀ r, m = some r → PSs X sts (fun D σ H => ∃ I, Ok g B J S σ I H ∧ K r D)
theorem MB.eq {o : Type} {X : Cx} {g : Gb} {B : Bs} {J : Hp} {S : SL} {sts : List Stmt} {m m' : Option o} {K : KT o} (h : MB X g B J S sts m K) (e : m = m') : MB X g B J S sts m' K := e ▸ h
theorem pss_imp {X : Cx} {sts : List Stmt} {t t' : TS} (h : PSs X sts t) (f : ∀ D σ H, t' D σ H → t D σ H) : PSs X sts t' := ⟨fun pins s σ H D I hw => h.run pins s σ H D I (f D σ H hw)⟩
/-- the def hands back a value; a block goes on; a turn of a loop -/
def Kt {β : Type} (g : Gb) (B : Bs) (k : β → RK) : KT β := fun r D => ∀ v I' H', Ext B.I B.H I' H' → RK.holds g (k r) B.H v I' H' → D.rt v H'
def Kn {β : Type} (g : Gb) (B : Bs) (J : Hp) (S' : β → SL) : KT β := fun b D => ∀ σ I H, Ok g B J (S' b) σ I H → D.nx σ H
inductive Ctl (β γ ρ : Type) where
  | nx (b : β) | rt (r : ρ) | ct (c : γ) | bk (c : γ)
def Kc {β γ ρ : Type} (g : Gb) (B : Bs) (J : Hp) (S' : β → SL) (T' : γ → SL) (k : ρ → RK) : KT (Ctl β γ ρ) := fun c D => match c with
  | .nx b => ∀ σ I H, Ok g B J (S' b) σ I H → D.nx σ H
  | .rt r => ∀ v I' H', Ext B.I B.H I' H' → RK.holds g (k r) B.H v I' H' → D.rt v H'
  | .ct b => ∀ σ I H, Ok g B J (T' b) σ I H → D.ct σ H
  | .bk b => ∀ σ I H, Ok g B J (T' b) σ I H → D.bk σ H
/-- what follows a statement that may leave: within a loop's turn; in a def -/
def Ctl.seq {β β2 γ ρ : Type} (f : β → Option (Ctl β2 γ ρ)) : Ctl β γ ρ → Option (Ctl β2 γ ρ)
  | .nx b => f b
  | .rt r => some (.rt r)
  | .ct c => some (.ct c)
  | .bk c => some (.bk c)
def Ctl.seqT {β γ ρ : Type} (f : β → Option ρ) : Ctl β γ ρ → Option ρ
  | .nx b => f b
  | .rt r => some r
  | .ct _ => none
  | .bk _ => none
def Ctl.isNx {β γ ρ : Type} : Ctl β γ ρ → Bool
  | .nx _ => true
  | _ => false
/-- K hands back r's value at (inj r) -/
def KR {ρ o : Type} (g : Gb) (B : Bs) (K : KT o) (inj : ρ → o) (k : ρ → RK) : Prop := ∀ r D, K (inj r) D → ∀ v I' H', Ext B.I B.H I' H' → RK.holds g (k r) B.H v I' H' → D.rt v H'
/-- K goes on in S' at (inj b) -/
def KX {β o : Type} (g : Gb) (B : Bs) (J : Hp) (K : KT o) (inj : β → o) (S' : β → SL) : Prop := ∀ b D, K (inj b) D → ∀ σ I H, Ok g B J (S' b) σ I H → D.nx σ H
section
variable {X : Cx} {g : Gb} {B : Bs} {J : Hp} {S : SL} {e e1 e2 e3 : Expr} {es : List Expr} {pos pos' p : Pos} {o α' β γ ρ : Type} {K : KT o} {rest : List Stmt}
theorem kr_t {k : ρ → RK} : KR g B (Kt g B k) (fun r => r) k := fun _ _ h => h
theorem kr_c {k : ρ → RK} {S' : β → SL} {T' : γ → SL} : KR g B (Kc g B J S' T' k) (fun r => Ctl.rt r) k := fun _ _ h => h
theorem kx_n {S' : β → SL} : KX g B J (Kn g B J S') (fun b => b) S' := fun _ _ h => h
theorem kx_c {k : ρ → RK} {S' : β → SL} {T' : γ → SL} : KX g B J (Kc g B J S' T' k) (fun b => Ctl.nx b) S' := fun _ _ h => h
/-- K looks at D through its four ends alone -/
theorem ps_imp {st : Stmt} {t t' : TS} (h : PS X st t) (f : ∀ D σ H, t' D σ H → t D σ H) : PS X st t' := ⟨fun pins s σ H D I hw => h.run pins s σ H D I (f D σ H hw)⟩

/-- the end of a block -/
theorem mb_nil {b : β} {S' : β → SL} {inj : β → o} (kx : KX g B J K inj S') (w : Wk S (S' b)) : MB X g B J S [] (some (inj b)) K := by
  refine ⟨fun r q => ?_⟩
  cases q
  exact pss_imp pss_nil fun D σ H ⟨I, ok, k⟩ => kx b D k σ I H (ok.wk w)
/-- a def's end -/
theorem mb_end {inj : Unit → o} (kr : ∀ r D, K (inj r) D → ∀ σ I H, Ok g B J S σ I H → D.nx σ H) : MB X g B J S [] (some (inj ())) K := by
  refine ⟨fun r q => ?_⟩
  cases q
  exact pss_imp pss_nil fun D σ H ⟨I, ok, k⟩ => kr () D k σ I H ok
/-- name = e -/
theorem mb_set (i : Nat) {x : Str} {m : Option α'} {k : α' → RK} {f : α' → Option o} (hN : X.N.Nodup) (he : ME X g B S e m k) (hb : ∀ a, MB X g B J (S.set i (some (k a))) rest (f a) K) (hk : ∀ a, (k a).slotty = true := by intro _; rfl)
    (hi : X.N[i]? = some x := by rfl) (hx : Loc X.env.scope x := by first | exact Or.inl rfl | exact Or.inr rfl) (hs : swapsWith e (some (.Name x pos')) pos.line X.env = pure false := by rfl)
    (hf : X.fn x = true ∨ X.env.scope.names.lookup x = some .local := by first | exact .inl rfl | exact .inr rfl) : MB X g B J S (.Assign [.Name x pos'] e pos :: rest) (m >>= f) K := by
  refine ⟨fun r q => ?_⟩
  obtain ⟨a, q1, q2⟩ := bind_some q
  refine pss_imp (pss_cons (ps_set hN hi hx (he.run a q1) hs hf) ((hb a).run r q2)) fun D σ H ⟨I, ok, kk⟩ => ?_
  exact ⟨I, ok.h, fun v I' H' x1 hv => ⟨I', ok.put x1 (hk a) hv, kk⟩⟩
/-- an expression alone -/
theorem mb_expr {m : Option α'} {k : α' → RK} {f : α' → Option o} (he : ME X g B S e m k) (hb : ∀ a, MB X g B J S rest (f a) K) (hs : swapsWith e none pos.line X.env = pure false := by rfl) : MB X g B J S (.Expr e pos :: rest) (m >>= f) K := by
  refine ⟨fun r q => ?_⟩
  obtain ⟨a, q1, q2⟩ := bind_some q
  refine pss_imp (pss_cons (ps_expr (he.run a q1) hs) ((hb a).run r q2)) fun D σ H ⟨I, ok, kk⟩ => ?_
  exact ⟨I, ok.h, fun v I' H' x1 hv => ⟨I', ok.ext x1, kk⟩⟩
/-- return e -/
theorem mb_ret {m : Option ρ} {k : ρ → RK} {inj : ρ → o} (kr : KR g B K inj k) (he : ME X g B S e m k) (hb : ∀ c, (k c).isB = false := by intro _; rfl) : MB X g B J S [.Return (some e) pos] (m >>= fun r => some (inj r)) K := by
  refine ⟨fun r q => ?_⟩
  obtain ⟨a, q1, q2⟩ := bind_some q
  cases q2
  refine pss_imp (pss_one (ps_ret (he.run a q1))) fun D σ H ⟨I, ok, kk⟩ => ?_
  exact ⟨I, ok.h, fun v I' H' x1 hv => kr a D kk v I' H' (ok.x.trans x1) (RK.back (hb a) ok.x.h hv)⟩
theorem mb_retT {m : Option ρ} {k : ρ → RK} (he : ME X g B S e m k) (hb : ∀ c, (k c).isB = false := by intro _; rfl) : MB X g B J S [.Return (some e) pos] m (Kt g B k) :=
  (mb_ret kr_t he hb).eq (by cases m <;> rfl)
/-- return an owned list -/
theorem mb_retO {α : Type} [Py α] (i : Nat) {x : Str} {as : List α} {inj : List α → o} (kr : KR g B K inj (fun as => .fr (rl g as))) (hS : S[i]? = some (some (.fr (rl g as))) := by rfl) (hN : X.N[i]? = some x := by rfl) (hv : Vis X.env.scope x := by first | exact Or.inl rfl | exact Or.inr (Or.inl rfl) | exact Or.inr (Or.inr rfl))
    (hd : (x == ("__debug__" : Str)) = false := by decide) (hcd : (x == ("__classdict__" : Str)) = false := by decide) : MB X g B J S [.Return (some (.Name x p)) pos] (some (inj as)) K := by
  refine ⟨fun r q => ?_⟩
  cases q
  refine pss_imp (pss_one (ps_ret (pe_var hN hv hd hcd))) fun D σ H ⟨I, ok, kk⟩ => ?_
  obtain ⟨v, e1, h1⟩ := ok.h.at_ i _ hS
  exact ⟨v, e1, kr as D kk v I H ok.x h1⟩
theorem mb_retN {inj : Unit → o} (kr : KR g B K inj (KI g)) : MB X g B J S [.Return none pos] (some (inj ())) K := by
  refine ⟨fun r q => ?_⟩
  cases q
  refine pss_imp (pss_one ps_retN) fun D σ H ⟨I, ok, kk⟩ => ?_
  exact kr () D kk .non I H ok.x rfl
theorem mb_brk {b : γ} {k : ρ → RK} {S' : β → SL} {T' : γ → SL} (w : Wk S (T' b)) : MB X g B J S [.Break pos] (some (Ctl.bk b)) (Kc g B J S' T' k) := by
  refine ⟨fun r q => ?_⟩
  cases q
  exact pss_imp (pss_one ps_break) fun D σ H ⟨I, ok, kk⟩ => kk σ I H (ok.wk w)
theorem mb_cnt {b : γ} {k : ρ → RK} {S' : β → SL} {T' : γ → SL} (w : Wk S (T' b)) : MB X g B J S [.Continue pos] (some (Ctl.ct b)) (Kc g B J S' T' k) := by
  refine ⟨fun r q => ?_⟩
  cases q
  exact pss_imp (pss_one ps_continue) fun D σ H ⟨I, ok, kk⟩ => kk σ I H (ok.wk w)
theorem mb_pass {m : Option o} (hb : MB X g B J S rest m K) : MB X g B J S (.Pass pos :: rest) m K := by
  refine ⟨fun r q => ?_⟩
  exact pss_imp (pss_cons ps_pass (hb.run r q)) fun D σ H ⟨I, ok, kk⟩ => ⟨I, ok, kk⟩
/-- how an owned thing is let go: a thing that stays -/
def Frz (o : OR) (p : PR) : Prop := ∀ I F v, (∀ a, F a ≠ none → I a = none) → o.p I F v → p.p (Un I F) v
/-- the heap of both -/
theorem frz_ok {i : Nat} {o : OR} {r : PR} {σ : L2.St} {I H : Hp} (z : Frz o r) (ok : Ok g B J S σ I H) (hS : ∀ v F, ∃ k, S[i]? = some (some k) ∧ (RK.inS g k B.H v I F → o.p I F v)) : ∃ I', Ok g B J (S.set i (some (.im r))) σ I' H := by
  obtain ⟨x, oj, Φ, h⟩ := ok
  obtain ⟨k, hk, _⟩ := hS .non (Φ i)
  obtain ⟨v, e1, q⟩ := h.at_ i k hk
  obtain ⟨k', hk', c⟩ := hS v (Φ i)
  rw [hk] at hk'
  cases hk'
  have q2 := c q
  have hd : ∀ a, Φ i a ≠ none → I a = none := fun a ha => (h.ne ha).2.1
  have sI : Same I (Un I (Φ i)) := un_l hd
  have x2 : Ext B.I B.H (Un I (Φ i)) H := ⟨x.i.trans sI, x.h, fun b ob eb => (un_some eb).elim (fun e => (h.fr i b ob e).1) fun e => x.s _ _ e.2, fun b n1 n2 => by
    cases e : Φ i b with
    | none => rw [un_none e]; exact x.n b n1 n2
    | some ob => exact absurd (h.fr i b ob e).2.2 n1⟩
  refine ⟨Un I (Φ i), x2, oj.trans sI, putF Φ i (fun _ => none), ?_⟩
  have hσ : σ.set i (some v) = σ := by
    apply List.ext_getElem?
    intro j
    by_cases hj : i = j
    · subst hj
      rw [List.getElem?_set_self (List.getElem?_eq_some_iff.mp e1).1, e1]
    · rw [List.getElem?_set_ne hj]
  have h2 : HoldF g B (S.set i (some (.im r))) (σ.set i (some v)) (Un I (Φ i)) H (putF Φ i (fun _ => none)) := by
    refine ⟨by rw [List.length_set, List.length_set, h.len], x2.s, h.base, fun j k' e => ?_, fun j a ob e => ?_, fun j l a hj hl => ?_⟩
    · rcases set_some e with ⟨a, b, c⟩ | ⟨a, b⟩
      · subst a
        cases b
        exact ⟨v, List.getElem?_set_self (by rw [h.len]; exact c), z I (Φ i) v hd q2⟩
      · obtain ⟨u, e2, q⟩ := h.at_ j k' b
        exact ⟨u, by rw [List.getElem?_set_ne a]; exact e2, by rw [putF_ne (fun z => a z.symm)]; exact RK.inS_mono sI q⟩
    · by_cases hji : j = i
      · rw [hji, putF_same] at e; cases e
      · rw [putF_ne hji] at e
        obtain ⟨f1, f2, f3⟩ := h.fr j a ob e
        refine ⟨f1, ?_, f3⟩
        rw [un_none]
        · exact f2
        · cases e4 : Φ i a with
          | none => rfl
          | some ou => exact absurd (h.dj j i a (ne_of_some e) (ne_of_some e4)) hji
    · by_cases hji : j = i
      · rw [hji, putF_same] at hj; exact absurd rfl hj
      · by_cases hli : l = i
        · rw [hli, putF_same] at hl; exact absurd rfl hl
        · rw [putF_ne hji] at hj
          rw [putF_ne hli] at hl
          exact h.dj j l a hj hl
  rw [hσ] at h2
  exact h2
theorem frz_list {α : Type} [Py α] {as : List α} {I F : Hp} {l : Addr} {vs : List V} (hd : ∀ a, F a ≠ none → I a = none) (h1 : F l = some (.lst vs)) (h2 : (rl g as).p I vs) : (Py.r g as).p (Un I F) (.ref l) :=
  ⟨l, vs, rfl, SqL.of (un_r h1), (rl g as).mono (un_l hd) h2⟩
theorem mb_frz {α : Type} [Py α] (i : Nat) {as : List α} {sts : List Stmt} {m : Option o} (hS : S[i]? = some (some (.fr (rl g as)))) (hb : MB X g B J (S.set i (some (.im (Py.r g as)))) sts m K) : MB X g B J S sts m K := by
  refine ⟨fun r q => ?_⟩
  refine pss_imp (hb.run r q) fun D σ H ⟨I, ok, kk⟩ => ?_
  obtain ⟨I', ok'⟩ := frz_ok (i := i) (o := ⟨fun I F v => ∃ l vs, v = .ref l ∧ F l = some (.lst vs) ∧ (rl g as).p I vs, fun s ⟨l, vs, e, h3, h4⟩ => ⟨l, vs, e, h3, (rl g as).mono s h4⟩⟩) (r := Py.r g as)
    (fun I F v hd ⟨l, vs, e, h1, h2⟩ => by subst e; exact frz_list hd h1 h2) ok fun v F => ⟨_, hS, fun q => q⟩
  exact ⟨I', ok', kk⟩
/-- what is known less -/
theorem mb_wk {S1 : SL} {sts : List Stmt} {m : Option o} (w : Wk S S1) (hb : MB X g B J S1 sts m K) : MB X g B J S sts m K :=
  ⟨fun r q => pss_imp (hb.run r q) fun D σ H ⟨I, ok, kk⟩ => ⟨I, ok.wk w, kk⟩⟩

/-! if -/
/-- both ways end the block -/
theorem mb_if2 {mc : Option Bool} {m1 m2 : Option o} {b1 b2 : List Stmt} (hc : MT X g B S e mc) (h1 : MB X g B J S b1 m1 K) (h2 : MB X g B J S b2 m2 K) : MB X g B J S [.If e b1 b2 pos] (mc >>= fun b => if b = true then m1 else m2) K := by
  refine ⟨fun r q => ?_⟩
  obtain ⟨c, q1, q2⟩ := bind_some q
  cases c with
  | true =>
    rw [if_pos rfl] at q2
    exact pss_imp (pss_one (ps_if (hc.run _ q1) (h1.run r q2) (pss_never (sts := b2)))) fun D σ H ⟨I, ok, kk⟩ => ⟨I, ok.h, fun I1 H1 x1 => iteT ⟨I1, ok.ext x1, kk⟩⟩
  | false =>
    rw [if_neg Bool.false_ne_true] at q2
    exact pss_imp (pss_one (ps_if (hc.run _ q1) (pss_never (sts := b1)) (h2.run r q2))) fun D σ H ⟨I, ok, kk⟩ => ⟨I, ok.h, fun I1 H1 x1 => iteF ⟨I1, ok.ext x1, kk⟩⟩
/-- if c: (ends) ; rest -/
theorem mb_ift {mc : Option Bool} {m1 m2 : Option o} {b1 : List Stmt} (hc : MT X g B S e mc) (h1 : MB X g B J S b1 m1 K) (h2 : MB X g B J S rest m2 K) (hK : ∀ r D nx, m1 = some r → K r D → K r { D with nx := nx }) : MB X g B J S (.If e b1 [] pos :: rest) (mc >>= fun b => if b = true then m1 else m2) K := by
  refine ⟨fun r q => ?_⟩
  obtain ⟨c, q1, q2⟩ := bind_some q
  cases c with
  | true =>
    rw [if_pos rfl] at q2
    exact pss_imp (pss_cons (ps_if (hc.run _ q1) (h1.run r q2) (pss_never (sts := []))) (pss_never (sts := rest))) fun D σ H ⟨I, ok, kk⟩ => ⟨I, ok.h, fun I1 H1 x1 => iteT ⟨I1, ok.ext x1, hK r D _ q2 kk⟩⟩
  | false =>
    rw [if_neg Bool.false_ne_true] at q2
    exact pss_imp (pss_cons (ps_if (hc.run _ q1) (pss_never (sts := b1)) pss_nil) (h2.run r q2)) fun D σ H ⟨I, ok, kk⟩ => ⟨I, ok.h, fun I1 H1 x1 => iteF ⟨I1, ok.ext x1, kk⟩⟩
theorem hk_t {k : ρ → RK} {m1 : Option ρ} : ∀ r D nx, m1 = some r → Kt g B k r D → Kt g B k r { D with nx := nx } := fun _ _ _ _ h => h
/-- a block that never ends by itself -/
def NoNx {β γ ρ : Type} (m : Option (Ctl β γ ρ)) : Prop := ∀ r, m = some r → r.isNx = false
theorem nn_rt {r : ρ} : NoNx (some (Ctl.rt r : Ctl β γ ρ)) := fun _ q => by cases q; rfl
theorem nn_ct {r : γ} : NoNx (some (Ctl.ct r : Ctl β γ ρ)) := fun _ q => by cases q; rfl
theorem nn_bk {r : γ} : NoNx (some (Ctl.bk r : Ctl β γ ρ)) := fun _ q => by cases q; rfl
theorem nn_bind {m : Option α'} {f : α' → Option (Ctl β γ ρ)} (h : ∀ a, NoNx (f a)) : NoNx (m >>= f) := fun r q => by
  obtain ⟨a, _, q2⟩ := bind_some q
  exact h a r q2
theorem nn_ite {c : Prop} [Decidable c] {m1 m2 : Option (Ctl β γ ρ)} (h1 : NoNx m1) (h2 : NoNx m2) : NoNx (if c then m1 else m2) := by
  split
  · exact h1
  · exact h2
theorem hk_c {k : ρ → RK} {S' : β → SL} {T' : γ → SL} {m1 : Option (Ctl β γ ρ)} (h : NoNx m1) : ∀ r D nx, m1 = some r → Kc g B J S' T' k r D → Kc g B J S' T' k r { D with nx := nx } := fun r D nx e q => by
  have z := h r e
  cases r with
  | nx b => cases z
  | rt r => exact q
  | ct c => exact q
  | bk c => exact q
/-- if c: b1 else: b2 ; rest: a way may leave -/
theorem mb_ifc {β2 : Type} {mc : Option Bool} {m1 m2 : Option (Ctl β γ ρ)} {b1 b2 : List Stmt} {S' : β → SL} {S2 : β2 → SL} {T' : γ → SL} {k : ρ → RK} {f : β → Option (Ctl β2 γ ρ)} (hc : MT X g B S e mc) (h1 : MB X g B J S b1 m1 (Kc g B J S' T' k)) (h2 : MB X g B J S b2 m2 (Kc g B J S' T' k))
    (hb : ∀ b, MB X g B J (S' b) rest (f b) (Kc g B J S2 T' k)) : MB X g B J S (.If e b1 b2 pos :: rest) (mc >>= fun b => (if b = true then m1 else m2) >>= Ctl.seq f) (Kc g B J S2 T' k) := by
  refine ⟨fun r q => ?_⟩
  obtain ⟨c, q1, q2⟩ := bind_some q
  obtain ⟨b, q2, q3⟩ := bind_some q2
  have fin : ∀ {sts : List Stmt} {m : Option (Ctl β γ ρ)}, MB X g B J S sts m (Kc g B J S' T' k) → m = some b → ∃ u : TS, PSs X rest u ∧ PSs X sts (fun D σ H => ∃ I, Ok g B J S σ I H ∧ Kc g B J S' T' k b D) ∧ ∀ D, Kc g B J S2 T' k r D → Kc g B J S' T' k b { D with nx := u D } := fun {sts m} h e => by
    cases b with
    | nx b => exact ⟨_, (hb b).run r q3, h.run _ e, fun D kk σ I H ok => ⟨I, ok, kk⟩⟩
    | rt r' => cases q3; exact ⟨_, pss_never, h.run _ e, fun D kk => kk⟩
    | ct c => cases q3; exact ⟨_, pss_never, h.run _ e, fun D kk => kk⟩
    | bk c => cases q3; exact ⟨_, pss_never, h.run _ e, fun D kk => kk⟩
  cases c with
  | true =>
    rw [if_pos rfl] at q2
    obtain ⟨u, hu, hh, hk⟩ := fin h1 q2
    exact pss_imp (pss_cons (ps_if (hc.run _ q1) hh (pss_never (sts := b2))) hu) fun D σ H ⟨I, ok, kk⟩ => ⟨I, ok.h, fun I1 H1 x1 => iteT ⟨I1, ok.ext x1, hk D kk⟩⟩
  | false =>
    rw [if_neg Bool.false_ne_true] at q2
    obtain ⟨u, hu, hh, hk⟩ := fin h2 q2
    exact pss_imp (pss_cons (ps_if (hc.run _ q1) (pss_never (sts := b1)) hh) hu) fun D σ H ⟨I, ok, kk⟩ => ⟨I, ok.h, fun I1 H1 x1 => iteF ⟨I1, ok.ext x1, hk D kk⟩⟩
theorem mb_ifcT {mc : Option Bool} {m1 m2 : Option (Ctl β Empty ρ)} {b1 b2 : List Stmt} {S' : β → SL} {k : ρ → RK} {f : β → Option ρ} (hc : MT X g B S e mc) (h1 : MB X g B J S b1 m1 (Kc g B J S' (fun z => z.elim) k)) (h2 : MB X g B J S b2 m2 (Kc g B J S' (fun z => z.elim) k))
    (hb : ∀ b, MB X g B J (S' b) rest (f b) (Kt g B k)) : MB X g B J S (.If e b1 b2 pos :: rest) (mc >>= fun b => (if b = true then m1 else m2) >>= Ctl.seqT f) (Kt g B k) := by
  refine ⟨fun r q => ?_⟩
  obtain ⟨c, q1, q2⟩ := bind_some q
  obtain ⟨b, q2, q3⟩ := bind_some q2
  have fin : ∀ {sts : List Stmt} {m : Option (Ctl β Empty ρ)}, MB X g B J S sts m (Kc g B J S' (fun z => z.elim) k) → m = some b → ∃ u : TS, PSs X rest u ∧ PSs X sts (fun D σ H => ∃ I, Ok g B J S σ I H ∧ Kc g B J S' (fun z => z.elim) k b D) ∧ ∀ D, Kt g B k r D → Kc g B J S' (fun z => z.elim) k b { D with nx := u D } := fun {sts m} h e => by
    cases b with
    | nx b => exact ⟨_, (hb b).run r q3, h.run _ e, fun D kk σ I H ok => ⟨I, ok, kk⟩⟩
    | rt r' => cases q3; exact ⟨_, pss_never, h.run _ e, fun D kk => kk⟩
    | ct c => exact c.elim
    | bk c => exact c.elim
  cases c with
  | true =>
    rw [if_pos rfl] at q2
    obtain ⟨u, hu, hh, hk⟩ := fin h1 q2
    exact pss_imp (pss_cons (ps_if (hc.run _ q1) hh (pss_never (sts := b2))) hu) fun D σ H ⟨I, ok, kk⟩ => ⟨I, ok.h, fun I1 H1 x1 => iteT ⟨I1, ok.ext x1, hk D kk⟩⟩
  | false =>
    rw [if_neg Bool.false_ne_true] at q2
    obtain ⟨u, hu, hh, hk⟩ := fin h2 q2
    exact pss_imp (pss_cons (ps_if (hc.run _ q1) (pss_never (sts := b1)) hh) hu) fun D σ H ⟨I, ok, kk⟩ => ⟨I, ok.h, fun I1 H1 x1 => iteF ⟨I1, ok.ext x1, hk D kk⟩⟩
/-- if c: b1 else: b2 ; rest: both ways go on -/
theorem mb_if {mc : Option Bool} {m1 m2 : Option β} {b1 b2 : List Stmt} {S' : β → SL} {f : β → Option o} (hc : MT X g B S e mc) (h1 : MB X g B J S b1 m1 (Kn g B J S')) (h2 : MB X g B J S b2 m2 (Kn g B J S')) (hb : ∀ b, MB X g B J (S' b) rest (f b) K) :
    MB X g B J S (.If e b1 b2 pos :: rest) (mc >>= fun b => (if b = true then m1 else m2) >>= f) K := by
  refine ⟨fun r q => ?_⟩
  obtain ⟨c, q1, q2⟩ := bind_some q
  obtain ⟨b, q2, q3⟩ := bind_some q2
  cases c with
  | true =>
    rw [if_pos rfl] at q2
    exact pss_imp (pss_cons (ps_if (hc.run _ q1) (h1.run b q2) (pss_never (sts := b2))) ((hb b).run r q3)) fun D σ H ⟨I, ok, kk⟩ => ⟨I, ok.h, fun I1 H1 x1 => iteT ⟨I1, ok.ext x1, fun σ2 I2 H2 ok2 => ⟨I2, ok2, kk⟩⟩⟩
  | false =>
    rw [if_neg Bool.false_ne_true] at q2
    exact pss_imp (pss_cons (ps_if (hc.run _ q1) (pss_never (sts := b1)) (h2.run b q2)) ((hb b).run r q3)) fun D σ H ⟨I, ok, kk⟩ => ⟨I, ok.h, fun I1 H1 x1 => iteF ⟨I1, ok.ext x1, fun σ2 I2 H2 ok2 => ⟨I2, ok2, kk⟩⟩⟩
end
end T
set_option Elab.async false
set_option linter.all false
set_option maxRecDepth 100000
namespace T
open PySem PySem.Spec PyProof.Rows L2

/-! loops -/
def loopC {α γ ρ : Type} (f : γ → α → Option (Ctl γ γ ρ)) : List α → γ → Option (Ctl γ Empty ρ)
  | [], s => some (.nx s)
  | x :: xs, s => f s x >>= fun c => match c with
    | .nx s' => loopC f xs s'
    | .ct s' => loopC f xs s'
    | .rt r => some (.rt r)
    | .bk s' => some (.nx s')
def loopN {α γ : Type} (f : γ → α → Option γ) : List α → γ → Option γ
  | [], s => some s
  | x :: xs, s => f s x >>= fun s' => loopN f xs s'
/-- lo, lo + 1, .. -/
def rng (lo : Int) (n : Nat) : List Int := (List.range n).map fun (i : Nat) => lo + (i : Int)
theorem rng_get {lo : Int} {n i : Nat} (h : i < n) : (rng lo n)[i]? = some (lo + (i : Int)) := by
  unfold rng
  rw [List.getElem?_map, List.getElem?_range h]
  rfl
theorem rng_len {lo : Int} {n : Nat} : (rng lo n).length = n := by
  unfold rng
  rw [List.length_map, List.length_range]
def rngOk (i j : Int) : Bool := decide (-(2 ^ 62) ≤ i ∧ i < 2 ^ 62 ∧ -(2 ^ 62) ≤ j ∧ j < 2 ^ 62) && decide ((j - i).toNat ≤ sizeLine)
@[irreducible] def rng1O (n : Int) : Option (List Int) := if rngOk 0 n = true then some (rng 0 n.toNat) else none
@[irreducible] def rng2O (a b : Int) : Option (List Int) := if rngOk a b = true then some (rng a (b - a).toNat) else none
theorem rngOk_1 {i j : Int} (h : rngOk i j = true) : -(2 ^ 62) ≤ i ∧ i < 2 ^ 62 ∧ -(2 ^ 62) ≤ j ∧ j < 2 ^ 62 := of_decide_eq_true (Bool.and_eq_true _ _ ▸ h).1
theorem rngOk_2 {i j : Int} (h : rngOk i j = true) : (j - i).toNat ≤ sizeLine := of_decide_eq_true (Bool.and_eq_true _ _ ▸ h).2
/-- what an iterator J walks: the typed items as, one after another, in every heap that goes on from I1 -/
structure WalkI {α : Type} [Py α] (g : Gb) (B : Bs) (J : It) (as : List α) (I1 : Hp) : Prop where
  go : ∀ i a I2 H2, as[i]? = some a → Same I1 I2 → Same I2 H2 → Same B.H H2 → J.go i H2
  yl : ∀ i a I2 H2 x H', as[i]? = some a → Same I1 I2 → Same I2 H2 → Same B.H H2 → J.yld i H2 x H' → ∃ I', Ext I2 H2 I' H' ∧ (Py.r g a).p I' x
  st : ∀ I2 H2, Same I1 I2 → Same I2 H2 → Same B.H H2 → J.stop as.length H2
  len : as.length ≤ sizeLine
def rdI {α : Type} [Py α] (g : Gb) (B : Bs) (S : SL) (as : List α) : TI := fun σ H R => ∃ I, Hold g B S σ I H ∧ ∀ (J : It) I' H', Ext I H I' H' → WalkI g B J as I' → R J H'
structure MI {α : Type} [Py α] (X : Cx) (g : Gb) (B : Bs) (S : SL) (tg e : Expr) (m : Option (List α)) : Prop where
  run : ∀ as, m = some as → PI X tg e (rdI g B S as)
theorem pi_imp {X : Cx} {tg e : Expr} {t t' : TI} (h : PI X tg e t) (f : ∀ σ H R, t' σ H R → t σ H R) : PI X tg e t' := ⟨fun pins s σ H R I hw => h.run pins s σ H R I (f σ H R hw)⟩
theorem walk_list {α : Type} [Py α] {g : Gb} {B : Bs} {as : List α} {a : Addr} {vs : List V} {I1 : Hp} (hL : SqL g.K I1 a vs ∨ SqL g.K B.H a vs) (hR : (rl g as).p I1 vs) : WalkI g B (Itl g.K a) as I1 where
  go := fun i x I2 H2 e s1 s2 s3 => by
    obtain ⟨v, e2, _⟩ := paired_get hR.2 e
    exact ⟨vs, v, hL.elim (fun z => s2.seq (s1.seq z)) fun z => s3.seq z, e2⟩
  yl := fun i x I2 H2 v H' e s1 s2 s3 y => by
    obtain ⟨u, e2, q⟩ := paired_get hR.2 e
    obtain ⟨rfl, y⟩ := y
    have e3 := y vs (hL.elim (fun z => s2.seq (s1.seq z)) fun z => s3.seq z)
    rw [e2] at e3
    cases e3
    exact ⟨I2, Ext.refl s2, (Py.r g x).mono s1 q⟩
  st := fun I2 H2 s1 s2 s3 => ⟨vs, hL.elim (fun z => s2.seq (s1.seq z)) fun z => s3.seq z, Nat.le_of_eq (rl_len hR)⟩
  len := hR.1
theorem walk_rng {g : Gb} {B : Bs} {lo : Int} {n : Nat} {I1 : Hp} (hn : n ≤ sizeLine) : WalkI g B (Itr lo n) (rng lo n) I1 where
  go := fun i x I2 H2 e _ _ _ => by
    have := (List.getElem?_eq_some_iff.mp e).1
    rw [rng_len] at this
    exact this
  yl := fun i x I2 H2 v H' e s1 s2 s3 y => by
    have hi := (List.getElem?_eq_some_iff.mp e).1
    rw [rng_len] at hi
    rw [rng_get hi] at e
    cases e
    obtain ⟨rfl, rfl⟩ := y
    exact ⟨I2, Ext.refl s2, rfl⟩
  st := fun I2 H2 _ _ _ => by
    rw [rng_len]
    exact Nat.le_refl _
  len := by
    rw [rng_len]
    exact hn
section
variable {X : Cx} {g : Gb} {B : Bs} {J : Hp} {S : SL} {e e1 e2 e3 tg : Expr} {es : List Expr} {pos pos' p : Pos} {o α' β γ ρ : Type} {K : KT o} {rest body : List Stmt} {α : Type} [Py α]
/-- a list that stays -/
theorem mi_im {m : Option (List α)} (h : ME X g B S e m (KI g)) (hg : X.K = g.K := by rfl) : MI X g B S tg e m := by
  refine ⟨fun as q => ?_⟩
  refine pi_imp (pi_list (h.run as q)) fun σ H R ⟨I, hh, k⟩ => ⟨I, hh, fun v I' H' x hv => ?_⟩
  obtain ⟨l, vs, rfl, h1, h2⟩ := hv
  rw [hg]
  exact ⟨l, rfl, ⟨vs, x.s.seq h1⟩, k _ I' H' x (walk_list (.inl h1) h2)⟩
/-- a borrowed list -/
theorem mi_bw (i : Nat) {x : Str} {as : List α} (hS : S[i]? = some (some (.bw (rl g as))) := by rfl) (hN : X.N[i]? = some x := by rfl) (hv : Vis X.env.scope x := by first | exact Or.inl rfl | exact Or.inr (Or.inl rfl) | exact Or.inr (Or.inr rfl))
    (hd : (x == ("__debug__" : Str)) = false := by decide) (hcd : (x == ("__classdict__" : Str)) = false := by decide) (hg : X.K = g.K := by rfl) : MI X g B S tg (.Name x pos) (some as) := by
  refine ⟨fun as' q => ?_⟩
  cases q
  refine pi_imp (pi_list (pe_var hN hv hd hcd)) fun σ H R ⟨I, hh, k⟩ => ?_
  obtain ⟨v, e1, l, vs, rfl, h3, h4⟩ := hh.at_ i _ hS
  rw [hg]
  exact ⟨_, e1, l, rfl, ⟨vs, hh.base.seq h3⟩, k _ I H (Ext.refl hh.sub) (walk_list (.inr h3) h4)⟩
theorem mi_rng1 {m : Option Int} (hm : X.mg "range" = none) (h : ME X g B S e m (KI g)) (hg : Gl X "range" := by rfl) (hs : starEach [e] X.env = [(false, eval e X.env)] := by rfl) : MI X g B S tg (.Call (.Name "range" p) [e] [] pos) (m >>= fun n => rng1O n) := by
  refine ⟨fun as q => ?_⟩
  obtain ⟨n, q1, q2⟩ := bind_some q
  unfold rng1O at q2
  by_cases hn : rngOk 0 n = true
  · rw [if_pos hn] at q2
    cases q2
    have hb := rngOk_1 hn
    have hz := rngOk_2 hn
    refine pi_imp (pi_range1 hg hm (pa_cons (h.run n q1) pa_nil hs) hs) fun σ H R ⟨I, hh, k⟩ => ⟨I, hh, fun v I' H' x hv => ⟨n, by cases hv; rfl, hb.2.2.1, hb.2.2.2, k _ I' H' x (walk_rng (by rw [Int.sub_zero] at hz; exact hz))⟩⟩
  · rw [if_neg hn] at q2
    cases q2
theorem mi_rng2 {m m2 : Option Int} (hm : X.mg "range" = none) (h : ME X g B S e m (KI g)) (h2 : ME X g B S e2 m2 (KI g)) (hg : Gl X "range" := by rfl) (hs : starEach [e, e2] X.env = [(false, eval e X.env), (false, eval e2 X.env)] := by rfl) (hs2 : starEach [e2] X.env = [(false, eval e2 X.env)] := by rfl) :
    MI X g B S tg (.Call (.Name "range" p) [e, e2] [] pos) (m >>= fun a => m2 >>= fun b => rng2O a b) := by
  refine ⟨fun as q => ?_⟩
  obtain ⟨a, q1, q⟩ := bind_some q
  obtain ⟨b, q2, q⟩ := bind_some q
  unfold rng2O at q
  by_cases hn : rngOk a b = true
  · rw [if_pos hn] at q
    cases q
    have hb := rngOk_1 hn
    have hz := rngOk_2 hn
    refine pi_imp (pi_range2 hg hm (pa_cons (h.run a q1) (pa_cons (h2.run b q2) pa_nil hs2) (by rw [hs, hs2])) hs hs2) fun σ H R ⟨I, hh, k⟩ => ⟨I, hh, fun v I' H' x hv => ⟨I', hh.ext x, fun w I2 H2 x2 hw => ⟨a, b, by cases hv; cases hw; rfl, hb, k _ I2 H2 (x.trans x2) (walk_rng hz)⟩⟩⟩
  · rw [if_neg hn] at q
    cases q
theorem wipe_get : ∀ (vs : List Nat) (σ : L2.St) (j : Nat), (wipe σ vs)[j]? = if j ∈ vs ∧ j < σ.length then some none else σ[j]?
  | [], σ, j => by rw [if_neg (by simp)]; rfl
  | v :: vs, σ, j => by
    show ((wipe σ vs).set v none)[j]? = _
    rw [List.getElem?_set, wipe_get vs σ j, wipe_length]
    by_cases hv : v = j
    · subst hv
      rw [if_pos rfl]
      by_cases hl : v < σ.length
      · rw [if_pos hl, if_pos ⟨List.mem_cons_self, hl⟩]
      · rw [if_neg hl, if_neg (fun z => hl z.2), List.getElem?_eq_none_iff.mpr (by omega)]
    · rw [if_neg hv]
      by_cases hj : j ∈ vs ∧ j < σ.length
      · rw [if_pos hj, if_pos ⟨List.mem_cons_of_mem _ hj.1, hj.2⟩]
      · rw [if_neg hj, if_neg (fun z => hj ⟨(List.mem_cons.mp z.1).resolve_left (fun q => hv q.symm), z.2⟩)]
theorem wipe_set {σ : L2.St} {i : Nat} {x : Option V} {vs : List Nat} (h : i ∈ vs) : wipe (σ.set i x) vs = wipe σ vs := by
  apply List.ext_getElem?
  intro j
  rw [wipe_get, wipe_get, List.length_set]
  by_cases hj : j ∈ vs ∧ j < σ.length
  · rw [if_pos hj, if_pos hj]
  · rw [if_neg hj, if_neg hj]
    by_cases hij : i = j
    · subst hij
      have hl : ¬ i < σ.length := fun z => hj ⟨h, z⟩
      rw [List.getElem?_eq_none_iff.mpr (by rw [List.length_set]; omega), List.getElem?_eq_none_iff.mpr (by omega)]
    · rw [List.getElem?_set_ne hij]
theorem wipe_wipe {σ : L2.St} {vs : List Nat} : wipe (wipe σ vs) vs = wipe σ vs := by
  apply List.ext_getElem?
  intro j
  rw [wipe_get vs (wipe σ vs) j, wipe_length, wipe_get vs σ j]
  by_cases hj : j ∈ vs ∧ j < σ.length
  · rw [if_pos hj, if_pos hj]
  · rw [if_neg hj]
/-- the target of a for, a typed item put into its slots ts -/
structure MG {α : Type} [Py α] (X : Cx) (g : Gb) (tg : Expr) (gt : TG) (put : α → SL → SL) (ts : List Nat) : Prop where
  pg : PG X tg gt
  ok : ∀ (B : Bs) (S : SL) (a : α) (v : V) σ I H Q, Hold g B S σ I H → (Py.r g a).p I v → (∀ σ', Hold g B (put a S) σ' I H → (∀ vs, (∀ t ∈ ts, t ∈ vs) → wipe σ' vs = wipe σ vs) → Q σ' H) → gt v σ H Q
theorem hold_put {a : α} {v : V} {i : Nat} {σ : L2.St} {I H : Hp} (h : Hold g B S σ I H) (hv : (Py.r g a).p I v) : Hold g B (S.set i (some (.im (Py.r g a)))) (σ.set i (some v)) I H := h.put (Ext.refl h.sub) rfl hv
theorem MG.oks {gt : TG} {put : α → SL → SL} {ts : List Nat} (h : MG X g tg gt put ts) {a : α} {v : V} {σ : L2.St} {I H : Hp} {Q : L2.St → Hp → Prop} (ok : Ok g B J S σ I H) (hv : (Py.r g a).p I v) (k : ∀ σ', Ok g B J (put a S) σ' I H → Q σ' H) : gt v σ H Q :=
  h.ok B S a v σ I H Q ok.h hv fun σ' h' _ => k σ' ⟨ok.x, ok.j, h'⟩
theorem mg_name (i : Nat) {x : Str} (hN : X.N.Nodup) (hi : X.N[i]? = some x := by rfl) (hx : Loc X.env.scope x := by first | exact Or.inl rfl | exact Or.inr rfl) (hf : X.fn x = true ∨ X.env.scope.names.lookup x = some .local := by first | exact .inl rfl | exact .inr rfl) :
    MG (α := α) X g (.Name x pos) (gName i) (fun a S => S.set i (some (.im (Py.r g a)))) [i] :=
  ⟨pg_name hN hi hx hf, fun B S a v σ I H Q h hv k => k _ (hold_put h hv) fun vs ht => wipe_set (ht i List.mem_cons_self)⟩
/-- a turn's reading, at all states and items at once -/
def turnN {α β : Type} [Py α] (g : Gb) (B : Bs) (put : α → SL → SL) (S' : β → SL) (fb : β → α → Option β) : TS := fun D σ H => ∃ J I s a s', Ok g B J (put a (S' s)) σ I H ∧ fb s a = some s' ∧ ∀ σ I H, Ok g B J (S' s') σ I H → D.nx σ H
def turnC {α γ ρ : Type} [Py α] (g : Gb) (B : Bs) (put : α → SL → SL) (S' : γ → SL) (k : ρ → RK) (fb : γ → α → Option (Ctl γ γ ρ)) : TS := fun D σ H => ∃ J I s a c, Ok g B J (put a (S' s)) σ I H ∧ fb s a = some c ∧ Kc g B J S' S' k c D
/-- for over a walk: Pv by the turn -/
theorem for_walk {J : It} {as : List α} {I1 : Hp} {gt : TG} {tb : TS} {D : Ends} {σ : L2.St} {H : Hp} (W : WalkI g B J as I1) (Pv : Nat → L2.St → Hp → Prop) (h0 : Pv 0 σ H)
    (hl : ∀ i σ H, Pv i σ H → ∃ I2, Same I1 I2 ∧ Same I2 H ∧ Same B.H H)
    (hs : ∀ i a σ H x H', as[i]? = some a → Pv i σ H → J.yld i H x H' → gt x σ H' fun σ2 H2 => tb { D with nx := Pv (i + 1), ct := Pv (i + 1), bk := D.nx } σ2 H2) (hd : ∀ σ H, Pv as.length σ H → D.nx σ H) :
    ∃ W : Nat → Nat → L2.St → Hp → Prop, (∃ m, W 0 m σ H) ∧ ∀ i m σ H, W i m σ H →
      (J.stop i H ∧ D.nx σ H) ∨ (J.go i H ∧ ∃ N : L2.St → Hp → Prop, (∀ σ' H', N σ' H' → ∃ m', m' < m ∧ W (i + 1) m' σ' H') ∧ ∀ x H', J.yld i H x H' → gt x σ H' fun σ2 H2 => tb { D with nx := N, ct := N, bk := D.nx } σ2 H2) := by
  refine ⟨fun i m σ H => m = as.length - i ∧ i ≤ as.length ∧ Pv i σ H, ⟨as.length, by simp, Nat.zero_le _, h0⟩, ?_⟩
  rintro i m σ H ⟨rfl, hi, p⟩
  obtain ⟨I2, s1, s2, s3⟩ := hl i σ H p
  by_cases hlt : i < as.length
  · have e : as[i]? = some as[i] := List.getElem?_eq_getElem hlt
    exact .inr ⟨W.go i _ I2 H e s1 s2 s3, Pv (i + 1), fun σ' H' p' => ⟨as.length - (i + 1), by omega, rfl, hlt, p'⟩, fun x H' y => hs i _ σ H x H' e p y⟩
  · have e : i = as.length := by omega
    subst e
    exact .inl ⟨W.st I2 H s1 s2 s3, hd σ H p⟩
theorem drop_at {as : List α} {i : Nat} {it : α} (hit : as[i]? = some it) : as.drop i = it :: as.drop (i + 1) := by
  have hlt : i < as.length := (List.getElem?_eq_some_iff.mp hit).1
  rw [List.drop_eq_getElem_cons hlt]
  rw [List.getElem?_eq_getElem hlt] at hit
  rw [Option.some.inj hit]
/-- for: every turn goes on -/
theorem mb_for {m : Option (List α)} {put : α → SL → SL} {S' : β → SL} {s0 : β} {fb : β → α → Option β} {f : β → Option o} (hp : PassesOwn (model X.prog X.w) X.A X.env X.xe) (hi : MI X g B S tg e m) {gt : TG} {ts : List Nat} (hG : MG X g tg gt put ts) (w : Wk S (S' s0))
    (hb : ∀ J s a, MB X g B J (put a (S' s)) body (fb s a) (Kn g B J S')) (hr : ∀ s, MB X g B J (S' s) rest (f s) K) (hc : X.calm = true := by rfl) (hs : ∀ x, foldedSetIterable e X.env x = pure x := by intro _; rfl) :
    MB X g B J S (.For tg e body [] pos :: rest) (m >>= fun as => loopN fb as s0 >>= f) K := by
  refine ⟨fun r q => ?_⟩
  obtain ⟨as, q1, q⟩ := bind_some q
  obtain ⟨s1, q2, q3⟩ := bind_some q
  have hg1 := hG.pg
  have hbody : PSs X body (turnN g B put S' fb) :=
    ⟨fun pins st σ H D inv ⟨J, I, s, a, s', ok, e1, k⟩ => ((hb J s a).run s' e1).run pins st σ H D inv ⟨I, ok, k⟩⟩
  refine pss_imp (pss_cons (ps_for hp hc (hi.run as q1) hg1 hbody hs) ((hr s1).run r q3)) fun D σ H ⟨I, ok, kk⟩ => ?_
  refine ⟨I, ok.h, fun J1 I1 H1 x1 hW => ?_⟩
  have F := for_walk (gt := gt) (tb := turnN g B put S' fb) (D := { D with nx := fun σ H => ∃ I, Ok g B J (S' s1) σ I H ∧ K r D }) (σ := σ) (H := H1) hW
    (fun i σ H => ∃ s I2, loopN fb (as.drop i) s = some s1 ∧ Same I1 I2 ∧ Ok g B J (S' s) σ I2 H) ⟨s0, I1, q2, Same.refl _, (ok.ext x1).wk w⟩ (fun i σ H ⟨s, I2, _, s2, ok2⟩ => ⟨I2, s2, ok2.h.sub, ok2.h.base⟩) (fun i it σ H x H' hit ⟨s, I2, hl, s2, ok2⟩ hy => ?_) (fun σ H ⟨s, I2, hl, s2, ok2⟩ => ?_)
  · exact F
  · obtain ⟨I3, x3, hv⟩ := hW.yl i it I2 H x H' hit s2 ok2.h.sub ok2.h.base hy
    rw [drop_at hit] at hl
    obtain ⟨s', e1, e2⟩ := bind_some (show (fb s it >>= fun s' => loopN fb (as.drop (i + 1)) s') = some s1 from hl)
    have ok3 : Ok g B I3 (S' s) σ I3 H' := ⟨ok2.x.trans x3, Same.refl _, ok2.h.ext x3⟩
    exact hG.oks ok3 hv fun σ' ok4 => ⟨I3, I3, s, it, s', ok4, e1, fun σ5 I5 H5 ok5 => ⟨s', I5, e2, (s2.trans x3.i).trans ok5.j, ⟨ok5.x, (ok2.j.trans x3.i).trans ok5.j, ok5.h⟩⟩⟩
  · rw [List.drop_of_length_le (Nat.le_refl _)] at hl
    cases hl
    exact ⟨I2, ok2, kk⟩
/-- a way out of the loop, as the block goes on from it -/
structure KL {γ ρ o : Type} (g : Gb) (B : Bs) (K : KT o) (k : ρ → RK) (inj : ρ → o) : Prop where
  rt : ∀ r D, K (inj r) D → ∀ v I' H', Ext B.I B.H I' H' → RK.holds g (k r) B.H v I' H' → D.rt v H'
/-- for: a turn may leave, go on ahead of its end, break -/
theorem mb_forC {m : Option (List α)} {put : α → SL → SL} {S' : γ → SL} {s0 : γ} {k : ρ → RK} {fb : γ → α → Option (Ctl γ γ ρ)} {f : Ctl γ Empty ρ → Option o} {f0 : γ → Option o} {inj : ρ → o} (kr : KR g B K inj k) (hp : PassesOwn (model X.prog X.w) X.A X.env X.xe) (hi : MI X g B S tg e m) {gt : TG} {ts : List Nat} (hG : MG X g tg gt put ts) (w : Wk S (S' s0))
    (hb : ∀ J s a, MB X g B J (put a (S' s)) body (fb s a) (Kc g B J S' S' k)) (hr : ∀ s, MB X g B J (S' s) rest (f0 s) K) (hf : ∀ s, f (.nx s) = f0 s) (hf2 : ∀ r, f (.rt r) = some (inj r)) (hc : X.calm = true := by rfl) (hs : ∀ x, foldedSetIterable e X.env x = pure x := by intro _; rfl) :
    MB X g B J S (.For tg e body [] pos :: rest) (m >>= fun as => loopC fb as s0 >>= f) K := by
  refine ⟨fun r q => ?_⟩
  obtain ⟨as, q1, q⟩ := bind_some q
  obtain ⟨c1, q2, q3⟩ := bind_some q
  have hg1 := hG.pg
  have hbody : PSs X body (turnC g B put S' k fb) :=
    ⟨fun pins st σ H D inv ⟨J, I, s, a, c, ok, e1, k⟩ => ((hb J s a).run c e1).run pins st σ H D inv ⟨I, ok, k⟩⟩
  obtain ⟨u, hu, hk⟩ : ∃ u : TS, PSs X rest u ∧ ∀ D, K r D → (∀ s1, c1 = .nx s1 → ∀ σ I H, Ok g B J (S' s1) σ I H → u D σ H) ∧ (∀ r1, c1 = .rt r1 → ∀ v I' H', Ext B.I B.H I' H' → RK.holds g (k r1) B.H v I' H' → D.rt v H') := by
    cases c1 with
    | nx s1 =>
      rw [hf] at q3
      exact ⟨_, (hr s1).run r q3, fun D kk => ⟨fun s2 e2 σ I H ok => (by cases e2; exact ⟨I, ok, kk⟩), fun r1 e2 => (by cases e2)⟩⟩
    | rt r1 =>
      rw [hf2] at q3
      cases q3
      exact ⟨_, pss_never, fun D kk => ⟨fun s2 e2 => (by cases e2), fun r2 e2 => (by cases e2; exact kr r1 D kk)⟩⟩
    | ct c => exact c.elim
    | bk c => exact c.elim
  refine pss_imp (pss_cons (ps_for hp hc (hi.run as q1) hg1 hbody hs) hu) fun D σ H ⟨I, ok, kk⟩ => ?_
  obtain ⟨hk1, hk2⟩ := hk D kk
  refine ⟨I, ok.h, fun J1 I1 H1 x1 hW => ?_⟩
  have F := for_walk (gt := gt) (tb := turnC g B put S' k fb) (D := { D with nx := u D }) (σ := σ) (H := H1) hW
    (fun i σ H => ∃ s I2, loopC fb (as.drop i) s = some c1 ∧ Same I1 I2 ∧ Ok g B J (S' s) σ I2 H) ⟨s0, I1, q2, Same.refl _, (ok.ext x1).wk w⟩ (fun i σ H ⟨s, I2, _, s2, ok2⟩ => ⟨I2, s2, ok2.h.sub, ok2.h.base⟩) (fun i it σ H x H' hit ⟨s, I2, hl, s2, ok2⟩ hy => ?_) (fun σ H ⟨s, I2, hl, s2, ok2⟩ => ?_)
  · exact F
  · obtain ⟨I3, x3, hv⟩ := hW.yl i it I2 H x H' hit s2 ok2.h.sub ok2.h.base hy
    rw [drop_at hit] at hl
    obtain ⟨c', e1, e2⟩ := bind_some hl
    have ok3 : Ok g B I3 (S' s) σ I3 H' := ⟨ok2.x.trans x3, Same.refl _, ok2.h.ext x3⟩
    refine hG.oks ok3 hv fun σ' ok4 => ⟨I3, I3, s, it, c', ok4, e1, ?_⟩
    cases c' with
    | nx s' => exact fun σ5 I5 H5 ok5 => ⟨s', I5, e2, (s2.trans x3.i).trans ok5.j, ⟨ok5.x, (ok2.j.trans x3.i).trans ok5.j, ok5.h⟩⟩
    | ct s' => exact fun σ5 I5 H5 ok5 => ⟨s', I5, e2, (s2.trans x3.i).trans ok5.j, ⟨ok5.x, (ok2.j.trans x3.i).trans ok5.j, ok5.h⟩⟩
    | rt r1 =>
      cases e2
      exact hk2 r1 rfl
    | bk s' =>
      cases e2
      exact fun σ5 I5 H5 ok5 => hk1 s' rfl σ5 I5 H5 ⟨ok5.x, (ok2.j.trans x3.i).trans ok5.j, ok5.h⟩
  · rw [List.drop_of_length_le (Nat.le_refl _)] at hl
    cases hl
    exact hk1 s rfl σ I2 H ok2
/-! while -/
def whileC {γ ρ : Type} (c : γ → Option Bool) (f : γ → Option (Ctl γ γ ρ)) : Nat → γ → Option (Ctl γ Empty ρ)
  | 0, _ => none
  | n + 1, s => c s >>= fun b => if b = true then (f s >>= fun c' => match c' with
    | .nx s' => whileC c f n s'
    | .ct s' => whileC c f n s'
    | .rt r => some (.rt r)
    | .bk s' => some (.nx s')) else some (.nx s)
def wtest {γ : Type} (g : Gb) (B : Bs) (S' : γ → SL) (cm : γ → Option Bool) : TT := fun σ H Q => ∃ s I b, Hold g B (S' s) σ I H ∧ cm s = some b ∧ ∀ I' H', Ext I H I' H' → Q b H'
def wturn {γ ρ : Type} (g : Gb) (B : Bs) (J : Hp) (S' : γ → SL) (k : ρ → RK) (fb : γ → Option (Ctl γ γ ρ)) : TS := fun D σ H => ∃ I s c, Ok g B J (S' s) σ I H ∧ fb s = some c ∧ Kc g B J S' S' k c D
theorem mb_while {c : Expr} (N : Nat) {S' : γ → SL} {s0 : γ} {k : ρ → RK} {cm : γ → Option Bool} {fb : γ → Option (Ctl γ γ ρ)} {f : Ctl γ Empty ρ → Option o} {f0 : γ → Option o} {inj : ρ → o} (kr : KR g B K inj k) (hp : PassesOwn (model X.prog X.w) X.A X.env X.xe) (w : Wk S (S' s0))
    (hc : ∀ s, MT X g B (S' s) c (cm s)) (hb : ∀ s, MB X g B J (S' s) body (fb s) (Kc g B J S' S' k)) (hr : ∀ s, MB X g B J (S' s) rest (f0 s) K) (hf : ∀ s, f (.nx s) = f0 s) (hf2 : ∀ r, f (.rt r) = some (inj r)) :
    MB X g B J S (.While c body [] pos :: rest) (whileC cm fb N s0 >>= f) K := by
  refine ⟨fun r q => ?_⟩
  obtain ⟨c1, q2, q3⟩ := bind_some q
  have htest : PT X c (wtest g B S' cm) := ⟨fun pins st σ H Q inv ⟨s, I, b, hh, e1, kq⟩ => ((hc s).run b e1).run pins st σ H Q inv ⟨I, hh, kq⟩⟩
  have hbody : PSs X body (wturn g B J S' k fb) := ⟨fun pins st σ H D inv ⟨I, s, c, ok, e1, kq⟩ => ((hb s).run c e1).run pins st σ H D inv ⟨I, ok, kq⟩⟩
  obtain ⟨u, hu, hk⟩ : ∃ u : TS, PSs X rest u ∧ ∀ D, K r D → (∀ s1, c1 = .nx s1 → ∀ σ I H, Ok g B J (S' s1) σ I H → u D σ H) ∧ (∀ r1, c1 = .rt r1 → ∀ v I' H', Ext B.I B.H I' H' → RK.holds g (k r1) B.H v I' H' → D.rt v H') := by
    cases c1 with
    | nx s1 =>
      rw [hf] at q3
      exact ⟨_, (hr s1).run r q3, fun D kk => ⟨fun s2 e2 σ I H ok => (by cases e2; exact ⟨I, ok, kk⟩), fun r1 e2 => (by cases e2)⟩⟩
    | rt r1 =>
      rw [hf2] at q3
      cases q3
      exact ⟨_, pss_never, fun D kk => ⟨fun s2 e2 => (by cases e2), fun r2 e2 => (by cases e2; exact kr r1 D kk)⟩⟩
    | ct c => exact c.elim
    | bk c => exact c.elim
  refine pss_imp (pss_cons (ps_while hp htest hbody) hu) fun D σ H ⟨I, ok, kk⟩ => ?_
  obtain ⟨hk1, hk2⟩ := hk D kk
  refine ⟨fun n σ H => ∃ s I2, whileC cm fb n s = some c1 ∧ Ok g B J (S' s) σ I2 H, ⟨N, s0, I, q2, ok.wk w⟩, ?_⟩
  rintro n σ H ⟨s, I2, hl, ok2⟩
  cases n with
  | zero => cases hl
  | succ n =>
    obtain ⟨b, e1, e2⟩ := bind_some hl
    refine ⟨s, I2, b, ok2.h, e1, fun I3 H3 x3 => ?_⟩
    cases b with
    | false =>
      rw [if_neg Bool.false_ne_true] at e2 ⊢
      cases e2
      exact hk1 s rfl σ I3 H3 (ok2.ext x3)
    | true =>
      rw [if_pos rfl] at e2 ⊢
      obtain ⟨c', e3, e4⟩ := bind_some e2
      refine ⟨fun σ' H' => ∃ s I2, whileC cm fb n s = some c1 ∧ Ok g B J (S' s) σ' I2 H', fun σ' H' h => ⟨n, Nat.lt_succ_self n, h⟩, I3, s, c', ok2.ext x3, e3, ?_⟩
      cases c' with
      | nx s' => exact fun σ5 I5 H5 ok5 => ⟨s', I5, e4, ok5⟩
      | ct s' => exact fun σ5 I5 H5 ok5 => ⟨s', I5, e4, ok5⟩
      | rt r1 =>
        cases e4
        exact hk2 r1 rfl
      | bk s' =>
        cases e4
        exact fun σ5 I5 H5 ok5 => hk1 s' rfl σ5 I5 H5 ok5
end
end T
set_option Elab.async false
set_option linter.all false
set_option maxRecDepth 100000
namespace T
open PySem PySem.Spec PyProof.Rows L2

/-! a def -/
def S0 (N : List Str) (ks : List RK) : SL := ks.map some ++ List.replicate (N.length - ks.length) none
def RK.argy : RK → Bool
  | .im _ => true
  | .bw _ => true
  | .bo _ => true
  | _ => false
theorem hold_start {g : Gb} {N : List Str} {ks : List RK} {vs : List V} {I H : Hp} (hl : ks.length ≤ N.length) (s : Same I H) (hA : Args g ks vs I H) (hk : ks.all RK.argy = true) : Ok g ⟨I, H⟩ I (S0 N ks) (L2.start N vs) I H := by
  have hlen : ks.length = vs.length := Paired.length hA
  have arg : ∀ {i : Nat} {k : RK}, (S0 N ks)[i]? = some (some k) → ks[i]? = some k := fun {i k} e => by
    unfold S0 at e
    by_cases hi : i < ks.length
    · rw [List.getElem?_append_left (by rw [List.length_map]; exact hi), List.getElem?_map] at e
      cases q : ks[i]? with
      | none => rw [q] at e; cases e
      | some k' => rw [q] at e; cases e; rfl
    · rw [List.getElem?_append_right (by rw [List.length_map]; omega)] at e
      obtain ⟨h1, h2⟩ := List.getElem?_eq_some_iff.mp e
      rw [List.getElem_replicate] at h2
      cases h2
  refine ⟨Ext.refl s, Same.refl _, fun _ _ => none, ?_, s, Same.refl _, fun i k e => ?_, fun i a o z => (by cases z), fun i j a z => absurd rfl z⟩
  · unfold S0 L2.start
    simp only [List.length_append, List.length_map, List.length_replicate]
    omega
  · obtain ⟨v, e2, q⟩ := paired_get hA (arg e)
    refine ⟨v, ?_, ?_⟩
    · unfold L2.start
      rw [List.getElem?_append_left (by rw [List.length_map]; exact (List.getElem?_eq_some_iff.mp e2).1), List.getElem?_map, e2]
      rfl
    · have ha := List.all_eq_true.mp hk _ (List.mem_of_getElem? (arg e))
      cases k with
      | im p => exact q
      | bw p => exact q
      | bo p => exact q
      | fr p => cases ha
      | rd p => cases ha
      | ow p => cases ha
      | ro p => cases ha
section
variable {P : Program} {w : World} {K : PySem.W.Frag} {mg : Str → Option Value} {base : Heap} {ι β : Type} {args : ι → List RK} {M : ι → Option β} {kd : β → RK}
theorem fn_mk {x qual : Str} {st : Stmt} {f : Addr} {fd : FuncData} {N ps : List Str} {k : Nat} (F : Fun K x qual st f fd) (Sc : FnScope N ps (defScope st)) (hn : ∀ a, (args a).length = ps.length) (hk : ∀ a, (args a).all RK.argy = true) (hN : ps.length ≤ N.length)
    (body : ∀ (cdv : Value) (A : Around) (outer : List Env) (s : Shared) (H : Hp) (E : XK) (I : Hp) (a : ι), Room k (A.deeper (envOfC qual (defScope st) s.heap.objs.size f cdv)) →
      MB (cxOf CX0 P w K mg base N qual (defScope st) f cdv A outer s H E).nox ⟨K, mg⟩ ⟨I, H⟩ I (S0 N (args a)) (defBody st) (M a) (Kt ⟨K, mg⟩ ⟨I, H⟩ kd)) :
    FnOk P w K mg base CX0 (k + 1) f fd ps (spT ⟨K, mg⟩ args M kd) := by
  refine F.ok Sc (fun vs H Q E ⟨I, a, r, s, hA, _⟩ => ?_) (fun cdv A outer s H vs Q E hr ⟨I, a, r, si, hA, hM, q⟩ => ?_)
  · rw [← Paired.length hA, hn]
  · exact ⟨_, (body cdv A outer s H E I a hr).run r hM, I, hold_start (by rw [hn]; exact hN) si hA (hk a), fun v I' H' x hv => q v I' H' x hv⟩
end

section
variable {X : Cx} {g : Gb} {B : Bs} {J : Hp} {S : SL} {e e1 e2 e3 tg : Expr} {es : List Expr} {pos pos' p : Pos} {o α' β' γ ρ : Type} {K : KT o} {rest body : List Stmt} {α β : Type} [Py α] [Py β] {m : Option (List α)} {k : List α → RK}
/-! built-ins -/
theorem me_len (hm : X.mg "len" = none) (h : ME X g B S e m k) (r : LR g k := by first | exact lr_im | exact lr_fr | exact lr_rd) (hg : Gl X "len" := by rfl) (hK : X.K = g.K := by rfl) (he : starEach [e] X.env = (false, eval e X.env) :: starEach [] X.env := by rfl) (hpl : (backTo pos (starEach [] X.env)).any (·.1) = false := by rfl) :
    ME X g B S (.Call (.Name "len" p) [e] [] pos) (m >>= fun xs => some (xs.length : Int)) (KI g) := by
  refine ⟨fun n q => ?_⟩
  obtain ⟨xs, q1, q2⟩ := bind_some q
  cases q2
  refine pe_imp (pe_callB call_len_seq hg hm PySem.boot_len (pa_cons (h.run xs q1) pa_nil he) (he := he) (hpl := hpl)) fun σ H Q ⟨I, hh, kk⟩ => ⟨I, hh, fun v I' H' x hv => ?_⟩
  obtain ⟨l, vs, rfl, h1, h2⟩ := r xs _ _ _ _ x.s hv
  refine ⟨l, vs, rfl, .inl (by rw [hK]; exact h1), ?_⟩
  rw [rl_len h2]
  exact kk _ I' H' x rfl
theorem me_sum {m : Option (List Int)} {k : List Int → RK} (hm : X.mg "sum" = none) (h : ME X g B S e m k) (r : LR g k := by first | exact lr_im | exact lr_fr | exact lr_rd) (hg : Gl X "sum" := by rfl) (hK : X.K = g.K := by rfl) (hc : X.calm = true := by rfl) (he : starEach [e] X.env = (false, eval e X.env) :: starEach [] X.env := by rfl) (hpl : (backTo pos (starEach [] X.env)).any (·.1) = false := by rfl) :
    ME X g B S (.Call (.Name "sum" p) [e] [] pos) (m >>= fun xs => some xs.sum) (KI g) := by
  refine ⟨fun n q => ?_⟩
  obtain ⟨xs, q1, q2⟩ := bind_some q
  cases q2
  refine pe_imp (pe_callB (cr_sum hc) hg hm (by decide +kernel) (pa_cons (h.run xs q1) pa_nil he) (he := he) (hpl := hpl)) fun σ H Q ⟨I, hh, kk⟩ => ⟨I, hh, fun v I' H' x hv => ?_⟩
  obtain ⟨l, vs, rfl, h1, h2⟩ := r xs _ _ _ _ x.s hv
  have e1 := vals_ints h2.2
  subst e1
  exact ⟨l, xs, rfl, by rw [hK]; exact h1, kk _ I' H' x rfl⟩
theorem me_call1B {id : String} {f x : Str} {rr : List V → Hp → VK → Prop} {m1 : Option α'} {k1 : α' → RK} {k2 : β' → RK} {fm : α' → Option β'} (hm : X.mg x = none) (hr : CallR X (.builtin id) rr) (hv : bootBuiltins x = some (.builtin id)) (h : ME X g B S e m1 k1)
    (hq : ∀ a b, fm a = some b → ∀ v H0 I H Q, Same I H → RK.holds g (k1 a) H0 v I H → (∀ u I' H', Ext I H I' H' → RK.holds g (k2 b) H u I' H' → Q u H') → rr [v] H Q) (hb : ∀ c, (k2 c).isB = false := by intro _; rfl)
    (hg : Gl X x := by rfl) (hn : x ≠ "__name__" := by decide) (hdb : (x == ("__debug__" : Str)) = false := by decide) (he : starEach [e] X.env = (false, eval e X.env) :: starEach [] X.env := by rfl) (hpl : (backTo pos (starEach [] X.env)).any (·.1) = false := by rfl) :
    ME X g B S (.Call (.Name x p) [e] [] pos) (m1 >>= fm) k2 := by
  refine ⟨fun n q => ?_⟩
  obtain ⟨a, q1, q2⟩ := bind_some q
  refine pe_imp (pe_callB hr hg hm hv (pa_cons (h.run a q1) pa_nil he) hn hdb he hpl) fun σ H Q ⟨I, hh, kk⟩ => ⟨I, hh, fun v I' H' x hv => ?_⟩
  exact hq a n q2 v H I' H' Q x.s hv fun u I2 H2 x2 hu => kk u I2 H2 (x.trans x2) (RK.back (hb n) x.h hu)
theorem me_call2B {id : String} {x : Str} {rr : List V → Hp → VK → Prop} {γ' : Type} {m1 : Option α'} {m2 : Option γ'} {k1 : α' → RK} {k2 : γ' → RK} {k3 : β' → RK} {fm : α' → γ' → Option β'} (hm : X.mg x = none) (hr : CallR X (.builtin id) rr) (hv : bootBuiltins x = some (.builtin id)) (h : ME X g B S e m1 k1) (h2 : ME X g B S e2 m2 k2)
    (hq : ∀ a c b, fm a c = some b → ∀ v w H0 H1 I H Q, Same I H → RK.holds g (k1 a) H0 v I H → RK.holds g (k2 c) H1 w I H → (∀ u I' H', Ext I H I' H' → RK.holds g (k3 b) H u I' H' → Q u H') → rr [v, w] H Q) (hb : ∀ c, (k3 c).isB = false := by intro _; rfl)
    (hg : Gl X x := by rfl) (hn : x ≠ "__name__" := by decide) (hdb : (x == ("__debug__" : Str)) = false := by decide) (he : starEach [e, e2] X.env = (false, eval e X.env) :: starEach [e2] X.env := by rfl) (he2 : starEach [e2] X.env = (false, eval e2 X.env) :: starEach [] X.env := by rfl) (hpl : (backTo pos (starEach [e2] X.env)).any (·.1) = false := by rfl) :
    ME X g B S (.Call (.Name x p) [e, e2] [] pos) (m1 >>= fun a => m2 >>= fun c => fm a c) k3 := by
  refine ⟨fun n q => ?_⟩
  obtain ⟨a, q1, q⟩ := bind_some q
  obtain ⟨c, q2, q3⟩ := bind_some q
  refine pe_imp (pe_callB hr hg hm hv (pa_cons (h.run a q1) (pa_cons (h2.run c q2) pa_nil he2) he) hn hdb he hpl) fun σ H Q ⟨I, hh, kk⟩ => ⟨I, hh, fun v I' H' x hv => ⟨I', hh.ext x, fun w I2 H2 x2 hw => ?_⟩⟩
  exact hq a c n q3 v w H H' I2 H2 Q x2.s (RK.ext hv x2) hw fun u I3 H3 x3 hu => kk u I3 H3 ((x.trans x2).trans x3) (RK.back (hb n) (x.trans x2).h hu)
theorem me_min {m1 m2 : Option Int} (hm : X.mg "min" = none) (h : ME X g B S e m1 (KI g)) (h2 : ME X g B S e2 m2 (KI g)) (hc : X.calm = true := by rfl) (hg : Gl X "min" := by rfl) (he : starEach [e, e2] X.env = (false, eval e X.env) :: starEach [e2] X.env := by rfl) (he2 : starEach [e2] X.env = (false, eval e2 X.env) :: starEach [] X.env := by rfl) (hpl : (backTo pos (starEach [e2] X.env)).any (·.1) = false := by rfl) :
    ME X g B S (.Call (.Name "min" p) [e, e2] [] pos) (m1 >>= fun a => m2 >>= fun c => some (min a c)) (KI g) :=
  me_call2B hm (call_min2 hc) (by decide +kernel) h h2 (fun a c b q v w H0 H1 I H Q s hv hw k => by
    cases q
    refine ⟨a, c, by cases hv; cases hw; rfl, ?_⟩
    have e : (if c < a then c else a) = min a c := by rw [Int.min_def]; split <;> split <;> omega
    rw [e]
    exact k _ _ _ (Ext.refl s) rfl) (hg := hg) (he := he) (he2 := he2) (hpl := hpl)
theorem me_max {m1 m2 : Option Int} (hm : X.mg "max" = none) (h : ME X g B S e m1 (KI g)) (h2 : ME X g B S e2 m2 (KI g)) (hc : X.calm = true := by rfl) (hg : Gl X "max" := by rfl) (he : starEach [e, e2] X.env = (false, eval e X.env) :: starEach [e2] X.env := by rfl) (he2 : starEach [e2] X.env = (false, eval e2 X.env) :: starEach [] X.env := by rfl) (hpl : (backTo pos (starEach [e2] X.env)).any (·.1) = false := by rfl) :
    ME X g B S (.Call (.Name "max" p) [e, e2] [] pos) (m1 >>= fun a => m2 >>= fun c => some (max a c)) (KI g) :=
  me_call2B hm (call_max2 hc) (by decide +kernel) h h2 (fun a c b q v w H0 H1 I H Q s hv hw k => by
    cases q
    refine ⟨a, c, by cases hv; cases hw; rfl, ?_⟩
    have e : (if c > a then c else a) = max a c := by rw [Int.max_def]; split <;> split <;> omega
    rw [e]
    exact k _ _ _ (Ext.refl s) rfl) (hg := hg) (he := he) (he2 := he2) (hpl := hpl)
theorem me_abs {m1 : Option Int} (hm : X.mg "abs" = none) (h : ME X g B S e m1 (KI g)) (hg : Gl X "abs" := by rfl) (he : starEach [e] X.env = (false, eval e X.env) :: starEach [] X.env := by rfl) (hpl : (backTo pos (starEach [] X.env)).any (·.1) = false := by rfl) :
    ME X g B S (.Call (.Name "abs" p) [e] [] pos) (m1 >>= fun a => some (a.natAbs : Int)) (KI g) :=
  me_call1B (f := "") hm call_abs (by decide +kernel) h (fun a b q v H0 I H Q s hv k => by
    cases q
    refine ⟨a, by cases hv; rfl, ?_⟩
    have e : (if a < 0 then -a else a) = (a.natAbs : Int) := by split <;> omega
    rw [e]
    exact k _ _ _ (Ext.refl s) rfl) (hg := hg) (he := he) (hpl := hpl)
theorem me_callTy1 {Ty : String} {x : Str} {rr : List V → Hp → VK → Prop} {m1 : Option α'} {k1 : α' → RK} {k2 : β' → RK} {fm : α' → Option β'} (hm : X.mg x = none) (hr : CallR X (.type Ty) rr) (hv : bootBuiltins x = some (.type Ty)) (h : ME X g B S e m1 k1)
    (hq : ∀ a b, fm a = some b → ∀ v H0 I H Q, Same I H → RK.holds g (k1 a) H0 v I H → (∀ u I' H', Ext I H I' H' → RK.holds g (k2 b) H u I' H' → Q u H') → rr [v] H Q) (hb : ∀ c, (k2 c).isB = false := by intro _; rfl)
    (hg : Gl X x := by rfl) (hn : x ≠ "__name__" := by decide) (hdb : (x == ("__debug__" : Str)) = false := by decide) (he : starEach [e] X.env = (false, eval e X.env) :: starEach [] X.env := by rfl) (hpl : (backTo pos (starEach [] X.env)).any (·.1) = false := by rfl) :
    ME X g B S (.Call (.Name x p) [e] [] pos) (m1 >>= fm) k2 := by
  refine ⟨fun n q => ?_⟩
  obtain ⟨a, q1, q2⟩ := bind_some q
  refine pe_imp (pe_callTy hr hg hm hv (pa_cons (h.run a q1) pa_nil he) hn hdb he hpl) fun σ H Q ⟨I, hh, kk⟩ => ⟨I, hh, fun v I' H' x hv => ?_⟩
  exact hq a n q2 v H I' H' Q x.s hv fun u I2 H2 x2 hu => kk u I2 H2 (x.trans x2) (RK.back (hb n) x.h hu)
/-- int(a truth) -/
def b2z (b : Bool) : Int := if b = true then 1 else 0
theorem me_intB {m1 : Option Bool} (hm : X.mg "int" = none) (h : ME X g B S e m1 (KI g)) (hg : Gl X "int" := by rfl) (he : starEach [e] X.env = (false, eval e X.env) :: starEach [] X.env := by rfl) (hpl : (backTo pos (starEach [] X.env)).any (·.1) = false := by rfl) :
    ME X g B S (.Call (.Name "int" p) [e] [] pos) (m1 >>= fun a => some (b2z a)) (KI g) :=
  me_callTy1 hm call_int1 (by decide +kernel) h (fun a b q v H0 I H Q s hv k => by
    cases q
    exact .inr ⟨a, by cases hv; rfl, k _ _ _ (Ext.refl s) rfl⟩) (hg := hg) (he := he) (hpl := hpl)
/-- a list laid anew -/
theorem new_fr {as : List α} {vs : List V} {I H : Hp} {Q : VK} (s : Same I H) (h : (rl g as).p I vs) (k : ∀ u I' H', Ext I H I' H' → RK.holds g (.fr (rl g as)) H u I' H' → Q u H') {l : Addr} (hl : H l = none) : Q (.ref l) (upd H l (.lst vs)) := by
  have hI : I l = none := s.free hl
  refine k (.ref l) I _ ⟨Same.refl _, same_new hl, s.trans (same_new hl), fun _ _ h => h⟩ ⟨l, vs, rfl, hl, hI, upd_same, h⟩
theorem me_list (hm : X.mg "list" = none) (h : ME X g B S e m k) (r : LR g k := by first | exact lr_im | exact lr_fr | exact lr_rd) (hg : Gl X "list" := by rfl) (hK : X.K = g.K := by rfl) (he : starEach [e] X.env = (false, eval e X.env) :: starEach [] X.env := by rfl) (hpl : (backTo pos (starEach [] X.env)).any (·.1) = false := by rfl) :
    ME X g B S (.Call (.Name "list" p) [e] [] pos) (m >>= fun xs => some xs) (fun xs => .fr (rl g xs)) :=
  me_callTy1 hm call_list_of (by decide +kernel) h (fun a b q v H0 I H Q s hv kk => by
    cases q
    obtain ⟨l, vs, rfl, h1, h2⟩ := r a _ _ _ _ s hv
    exact ⟨l, vs, rfl, .inl (by rw [hK]; exact h1), fun p hp => new_fr s h2 kk hp⟩) (hg := hg) (he := he) (hpl := hpl)

/-! items -/
theorem me_ix {m2 : Option Int} (h1 : ME X g B S e1 m k) (h2 : ME X g B S e2 m2 (KI g)) (r : LR g k := by first | exact lr_im | exact lr_fr | exact lr_rd) (hK : X.K = g.K := by rfl) (hs : PlainIx e2 := by exact fun _ _ => rfl) : ME X g B S (.Subscript e1 e2 pos) (m >>= fun xs => m2 >>= fun i => atO xs i) (KI g) := by
  refine ⟨fun a q => ?_⟩
  obtain ⟨xs, q1, q⟩ := bind_some q
  obtain ⟨i, q2, q3⟩ := bind_some q
  rw [atO_eq] at q3
  refine pe_imp (pe_ix ix_list (h1.run xs q1) (h2.run i q2) hs) fun σ H Q ⟨I, hh, kk⟩ => ⟨I, hh, fun v I' H' x hv => ⟨I', hh.ext x, fun w I2 H2 x2 hw => ?_⟩⟩
  obtain ⟨l, vs, rfl, h3, h4⟩ := r xs _ _ _ _ x2.s (RK.ext hv x2)
  obtain ⟨u, hu, hq⟩ := paired_at h4.2 q3
  exact ⟨l, vs, i, u, rfl, hw, by rw [hK]; exact h3, hu, kk u I2 H2 (x.trans x2) hq⟩
/-- an item of a tuple at a written place -/
theorem me_tix {γ' : Type} [Py γ'] {m : Option γ'} (n : Nat) {j : Nat} {f : γ' → α} (h1 : ME X g B S e1 m (KI g)) (ht : ∀ (t : γ') I v, (Py.r g t).p I v → ∃ p vs u, v = .ref p ∧ SqT g.K I p vs ∧ vs[n]? = some u ∧ (Py.r g (f t)).p I u) (hK : X.K = g.K := by rfl) :
    ME X g B S (.Subscript e1 (.Constant (.int n) j pos') pos) (m >>= fun t => some (f t)) (KI g) := by
  refine ⟨fun a q => ?_⟩
  obtain ⟨t, q1, q⟩ := bind_some q
  cases q
  refine pe_imp (pe_ix ix_tup (h1.run t q1) pe_int (fun _ _ => rfl)) fun σ H Q ⟨I, hh, kk⟩ => ⟨I, hh, fun v I' H' x hv => ?_⟩
  obtain ⟨p, vs, u, rfl, h3, h4, h5⟩ := ht t _ _ hv
  exact ⟨p, vs, n, u, rfl, rfl, by rw [hK]; exact seqT x.s h3, atI_nat h4, kk u I' H' x h5⟩
end
section
variable {g : Gb} {α β γ δ : Type} [Py α] [Py β] [Py γ] [Py δ]
theorem t2_0 (t : T2 α β) (I v) (h : (Py.r g t).p I v) : ∃ p vs u, v = V.ref p ∧ SqT g.K I p vs ∧ vs[0]? = some u ∧ (Py.r g t.x0).p I u := by
  obtain ⟨p, a, b, rfl, h0, h1, h2⟩ := h; exact ⟨p, _, a, rfl, h0, rfl, h1⟩
theorem t2_1 (t : T2 α β) (I v) (h : (Py.r g t).p I v) : ∃ p vs u, v = V.ref p ∧ SqT g.K I p vs ∧ vs[1]? = some u ∧ (Py.r g t.x1).p I u := by
  obtain ⟨p, a, b, rfl, h0, h1, h2⟩ := h; exact ⟨p, _, b, rfl, h0, rfl, h2⟩
theorem t3_0 (t : T3 α β γ) (I v) (h : (Py.r g t).p I v) : ∃ p vs u, v = V.ref p ∧ SqT g.K I p vs ∧ vs[0]? = some u ∧ (Py.r g t.x0).p I u := by
  obtain ⟨p, a, b, c, rfl, h0, h1, h2, h3⟩ := h; exact ⟨p, _, a, rfl, h0, rfl, h1⟩
theorem t3_1 (t : T3 α β γ) (I v) (h : (Py.r g t).p I v) : ∃ p vs u, v = V.ref p ∧ SqT g.K I p vs ∧ vs[1]? = some u ∧ (Py.r g t.x1).p I u := by
  obtain ⟨p, a, b, c, rfl, h0, h1, h2, h3⟩ := h; exact ⟨p, _, b, rfl, h0, rfl, h2⟩
theorem t3_2 (t : T3 α β γ) (I v) (h : (Py.r g t).p I v) : ∃ p vs u, v = V.ref p ∧ SqT g.K I p vs ∧ vs[2]? = some u ∧ (Py.r g t.x2).p I u := by
  obtain ⟨p, a, b, c, rfl, h0, h1, h2, h3⟩ := h; exact ⟨p, _, c, rfl, h0, rfl, h3⟩
theorem t4_0 (t : T4 α β γ δ) (I v) (h : (Py.r g t).p I v) : ∃ p vs u, v = V.ref p ∧ SqT g.K I p vs ∧ vs[0]? = some u ∧ (Py.r g t.x0).p I u := by
  obtain ⟨p, a, b, c, d, rfl, h0, h1, h2, h3, h4⟩ := h; exact ⟨p, _, a, rfl, h0, rfl, h1⟩
theorem t4_1 (t : T4 α β γ δ) (I v) (h : (Py.r g t).p I v) : ∃ p vs u, v = V.ref p ∧ SqT g.K I p vs ∧ vs[1]? = some u ∧ (Py.r g t.x1).p I u := by
  obtain ⟨p, a, b, c, d, rfl, h0, h1, h2, h3, h4⟩ := h; exact ⟨p, _, b, rfl, h0, rfl, h2⟩
theorem t4_2 (t : T4 α β γ δ) (I v) (h : (Py.r g t).p I v) : ∃ p vs u, v = V.ref p ∧ SqT g.K I p vs ∧ vs[2]? = some u ∧ (Py.r g t.x2).p I u := by
  obtain ⟨p, a, b, c, d, rfl, h0, h1, h2, h3, h4⟩ := h; exact ⟨p, _, c, rfl, h0, rfl, h3⟩
theorem t4_3 (t : T4 α β γ δ) (I v) (h : (Py.r g t).p I v) : ∃ p vs u, v = V.ref p ∧ SqT g.K I p vs ∧ vs[3]? = some u ∧ (Py.r g t.x3).p I u := by
  obtain ⟨p, a, b, c, d, rfl, h0, h1, h2, h3, h4⟩ := h; exact ⟨p, _, d, rfl, h0, rfl, h4⟩
end
end T
set_option Elab.async false
set_option linter.all false
set_option maxRecDepth 100000
namespace T
open PySem PySem.Spec PyProof.Rows L2

/-! displays -/
/-- the items of a display, all of one type -/
structure ML {α : Type} [Py α] (X : Cx) (g : Gb) (B : Bs) (S : SL) (es : List Expr) (m : Option (List α)) : Prop where
  run : ∀ as, m = some as → PA X es (fun σ H Q => ∃ I, Hold g B S σ I H ∧ ∀ vs I' H', Ext I H I' H' → Paired (fun a v => (Py.r g a).p I' v) as vs → Q vs H') ∧ as.length = es.length
section
variable {X : Cx} {g : Gb} {B : Bs} {J : Hp} {S : SL} {e e1 e2 e3 tg : Expr} {es : List Expr} {pos pos' p : Pos} {o α' β' γ' ρ : Type} {K : KT o} {rest body : List Stmt} {α β γ δ : Type} [Py α] [Py β] [Py γ] [Py δ] {m : Option (List α)} {k : List α → RK}
theorem ml_nil : ML X g B S [] (some ([] : List α)) := ⟨fun as q => by cases q; exact ⟨pa_imp pa_nil fun σ H Q ⟨I, hh, kk⟩ => kk [] I H (Ext.refl hh.sub) .nil, rfl⟩⟩
theorem ml_cons {m1 : Option α} {m2 : Option (List α)} (h : ME X g B S e m1 (KI g)) (t : ML X g B S es m2) (hs : starEach (e :: es) X.env = (false, eval e X.env) :: starEach es X.env := by rfl) : ML X g B S (e :: es) (m1 >>= fun a => m2 >>= fun as => some (a :: as)) := by
  refine ⟨fun as q => ?_⟩
  obtain ⟨a, q1, q⟩ := bind_some q
  obtain ⟨as', q2, q3⟩ := bind_some q
  cases q3
  obtain ⟨ht, hl⟩ := t.run as' q2
  refine ⟨pa_imp (pa_cons (h.run a q1) ht hs) fun σ H Q ⟨I, hh, kk⟩ => ⟨I, hh, fun v I1 H1 x1 hv => ⟨I1, hh.ext x1, fun vs I2 H2 x2 hvs => ?_⟩⟩, by rw [List.length_cons, List.length_cons, hl]⟩
  exact kk (v :: vs) I2 H2 (x1.trans x2) (.cons ((Py.r g a).mono x2.i hv) hvs)
theorem me_lst (h : ML X g B S es m) (hz : decide (es.length ≤ 1000) = true := by decide) : ME X g B S (.List es pos) m (fun xs => .fr (rl g xs)) := by
  refine ⟨fun as q => ?_⟩
  obtain ⟨ha, hl⟩ := h.run as q
  refine pe_imp (pe_lst ha) fun σ H Q ⟨I, hh, kk⟩ => ⟨I, hh, fun vs I1 H1 x1 hp => ?_⟩
  have hz' : as.length ≤ sizeLine := by rw [hl]; exact Nat.le_trans (of_decide_eq_true hz) (by decide)
  refine ⟨by rw [← Paired.length hp]; exact hz', fun l hl => new_fr (as := as) x1.s ⟨hz', hp⟩ (fun u I2 H2 x2 hu => kk u I2 H2 (x1.trans x2) (RK.back rfl x1.h hu)) hl⟩
theorem me_t2 {m1 : Option α} {m2 : Option β} {n : Nat} (h1 : ME X g B S e1 m1 (KI g)) (h2 : ME X g B S e2 m2 (KI g)) (hs : starEach [e1, e2] X.env = (false, eval e1 X.env) :: starEach [e2] X.env := by rfl) (hs2 : starEach [e2] X.env = (false, eval e2 X.env) :: starEach [] X.env := by rfl) :
    ME X g B S (.Tuple [e1, e2] n pos) (m1 >>= fun a => m2 >>= fun b => some (T2.mk a b)) (KI g) := by
  refine ⟨fun t q => ?_⟩
  obtain ⟨a, q1, q⟩ := bind_some q
  obtain ⟨b, q2, q3⟩ := bind_some q
  cases q3
  refine pe_imp (pe_tup (pa_cons (h1.run a q1) (pa_cons (h2.run b q2) pa_nil hs2) hs)) fun σ H Q ⟨I, hh, kk⟩ => ⟨I, hh, fun v I1 H1 x1 hv => ⟨I1, hh.ext x1, fun w I2 H2 x2 hw => ⟨by show 2 ≤ sizeLine; decide, fun l hl => ?_⟩⟩⟩
  have hI := x2.s.free hl
  refine kk _ (upd I2 l (.tup [v, w])) _ ((x1.trans x2).trans ⟨same_new hI, same_new hl, fun b ob eb => ?_, fun b n1 n2 => ?_⟩) ⟨l, v, w, rfl, SqT.of upd_same, (Py.r g a).mono (x2.i.trans (same_new hI)) hv, (Py.r g b).mono (same_new hI) hw⟩
  · by_cases hb : b = l
    · subst hb; rw [upd_same] at eb ⊢; exact eb
    · rw [upd_ne hb] at eb ⊢; exact x2.s _ _ eb
  · rw [upd_ne (fun z => n1 (by rw [z]; exact hl))]; exact n2
theorem me_t3 {m1 : Option α} {m2 : Option β} {m3 : Option γ} {n : Nat} (h1 : ME X g B S e1 m1 (KI g)) (h2 : ME X g B S e2 m2 (KI g)) (h3 : ME X g B S e3 m3 (KI g)) (hs : starEach [e1, e2, e3] X.env = (false, eval e1 X.env) :: starEach [e2, e3] X.env := by rfl) (hs2 : starEach [e2, e3] X.env = (false, eval e2 X.env) :: starEach [e3] X.env := by rfl) (hs3 : starEach [e3] X.env = (false, eval e3 X.env) :: starEach [] X.env := by rfl) :
    ME X g B S (.Tuple [e1, e2, e3] n pos) (m1 >>= fun a => m2 >>= fun b => m3 >>= fun c => some (T3.mk a b c)) (KI g) := by
  refine ⟨fun t q => ?_⟩
  obtain ⟨a, q1, q⟩ := bind_some q
  obtain ⟨b, q2, q⟩ := bind_some q
  obtain ⟨c, q3, q4⟩ := bind_some q
  cases q4
  refine pe_imp (pe_tup (pa_cons (h1.run a q1) (pa_cons (h2.run b q2) (pa_cons (h3.run c q3) pa_nil hs3) hs2) hs)) fun σ H Q ⟨I, hh, kk⟩ => ⟨I, hh, fun v I1 H1 x1 hv => ⟨I1, hh.ext x1, fun w I2 H2 x2 hw => ⟨I2, (hh.ext x1).ext x2, fun u I3 H3 x3 hu => ⟨by show 3 ≤ sizeLine; decide, fun l hl => ?_⟩⟩⟩⟩
  have hI := x3.s.free hl
  refine kk _ (upd I3 l (.tup [v, w, u])) _ (((x1.trans x2).trans x3).trans ⟨same_new hI, same_new hl, fun b ob eb => ?_, fun b n1 n2 => ?_⟩) ⟨l, v, w, u, rfl, SqT.of upd_same, (Py.r g a).mono ((x2.i.trans x3.i).trans (same_new hI)) hv, (Py.r g b).mono (x3.i.trans (same_new hI)) hw, (Py.r g c).mono (same_new hI) hu⟩
  · by_cases hb : b = l
    · subst hb; rw [upd_same] at eb ⊢; exact eb
    · rw [upd_ne hb] at eb ⊢; exact x3.s _ _ eb
  · rw [upd_ne (fun z => n1 (by rw [z]; exact hl))]; exact n2
theorem me_t4 {e4 : Expr} {m1 : Option α} {m2 : Option β} {m3 : Option γ} {m4 : Option δ} {n : Nat} (h1 : ME X g B S e1 m1 (KI g)) (h2 : ME X g B S e2 m2 (KI g)) (h3 : ME X g B S e3 m3 (KI g)) (h4 : ME X g B S e4 m4 (KI g)) (hs : starEach [e1, e2, e3, e4] X.env = (false, eval e1 X.env) :: starEach [e2, e3, e4] X.env := by rfl) (hs2 : starEach [e2, e3, e4] X.env = (false, eval e2 X.env) :: starEach [e3, e4] X.env := by rfl) (hs3 : starEach [e3, e4] X.env = (false, eval e3 X.env) :: starEach [e4] X.env := by rfl) (hs4 : starEach [e4] X.env = (false, eval e4 X.env) :: starEach [] X.env := by rfl) :
    ME X g B S (.Tuple [e1, e2, e3, e4] n pos) (m1 >>= fun a => m2 >>= fun b => m3 >>= fun c => m4 >>= fun d => some (T4.mk a b c d)) (KI g) := by
  refine ⟨fun t q => ?_⟩
  obtain ⟨a, q1, q⟩ := bind_some q
  obtain ⟨b, q2, q⟩ := bind_some q
  obtain ⟨c, q3, q⟩ := bind_some q
  obtain ⟨d, q4, q5⟩ := bind_some q
  cases q5
  refine pe_imp (pe_tup (pa_cons (h1.run a q1) (pa_cons (h2.run b q2) (pa_cons (h3.run c q3) (pa_cons (h4.run d q4) pa_nil hs4) hs3) hs2) hs)) fun σ H Q ⟨I, hh, kk⟩ => ⟨I, hh, fun v I1 H1 x1 hv => ⟨I1, hh.ext x1, fun w I2 H2 x2 hw => ⟨I2, (hh.ext x1).ext x2, fun u I3 H3 x3 hu => ⟨I3, ((hh.ext x1).ext x2).ext x3, fun y I4 H4 x4 hy => ⟨by show 4 ≤ sizeLine; decide, fun l hl => ?_⟩⟩⟩⟩⟩
  have hI := x4.s.free hl
  refine kk _ (upd I4 l (.tup [v, w, u, y])) _ ((((x1.trans x2).trans x3).trans x4).trans ⟨same_new hI, same_new hl, fun b ob eb => ?_, fun b n1 n2 => ?_⟩) ⟨l, v, w, u, y, rfl, SqT.of upd_same, (Py.r g a).mono (((x2.i.trans x3.i).trans x4.i).trans (same_new hI)) hv, (Py.r g b).mono ((x3.i.trans x4.i).trans (same_new hI)) hw, (Py.r g c).mono (x4.i.trans (same_new hI)) hu, (Py.r g d).mono (same_new hI) hy⟩
  · by_cases hb : b = l
    · subst hb; rw [upd_same] at eb ⊢; exact eb
    · rw [upd_ne hb] at eb ⊢; exact x4.s _ _ eb
  · rw [upd_ne (fun z => n1 (by rw [z]; exact hl))]; exact n2
end

/-! slices, +, * of lists -/
/-- xs[lo:hi] -/
def cutO {α : Type} (xs : List α) (lo hi : Option Int) : List α := (xs.drop (HT.sIx xs.length 0 lo)).take (HT.sIx xs.length xs.length hi - HT.sIx xs.length 0 lo)
structure MO (X : Cx) (g : Gb) (B : Bs) (S : SL) (e : Option Expr) (m : Option (Option Int)) : Prop where
  run : ∀ i, m = some i → PO X e (fun σ H Q => ∃ I, Hold g B S σ I H ∧ ∀ I' H', Ext I H I' H' → Q i H')
def catOk (n k : Nat) : Bool := decide (n + k ≤ sizeLine)
@[irreducible] def catO {α : Type} (xs ys : List α) : Option (List α) := if catOk xs.length ys.length = true then some (xs ++ ys) else none
def repOk (n : Nat) (k : Int) : Bool := decide (-(2 ^ 63) ≤ k ∧ k < 2 ^ 63) && decide (n * k.toNat ≤ sizeLine)
@[irreducible] def repO {α : Type} (xs : List α) (k : Int) : Option (List α) := if repOk xs.length k = true then some (List.replicate k.toNat xs).flatten else none
section
variable {X : Cx} {g : Gb} {B : Bs} {J : Hp} {S : SL} {e e1 e2 e3 tg : Expr} {oe oe2 : Option Expr} {es : List Expr} {pos pos' p p2 : Pos} {o α' β' γ' ρ : Type} {K : KT o} {rest body : List Stmt} {α β γ δ : Type} [Py α] [Py β] [Py γ] [Py δ] {m : Option (List α)} {k k2 : List α → RK}
theorem po_imp {t t' : TO} (h : PO X oe t) (f : ∀ σ H Q, t' σ H Q → t σ H Q) : PO X oe t' := ⟨fun pins s σ H Q I hw => h.run pins s σ H Q I (f σ H Q hw)⟩
theorem mo_none : MO X g B S none (some none) := ⟨fun i q => by cases q; exact po_imp po_none fun σ H Q ⟨I, hh, kk⟩ => kk I H (Ext.refl hh.sub)⟩
theorem mo_some {m : Option Int} (h : ME X g B S e m (KI g)) : MO X g B S (some e) (m >>= fun i => some (some i)) := by
  refine ⟨fun i q => ?_⟩
  obtain ⟨a, q1, q2⟩ := bind_some q
  cases q2
  exact po_imp (po_some (h.run a q1)) fun σ H Q ⟨I, hh, kk⟩ => ⟨I, hh, fun v I' H' x hv => ⟨a, hv, kk I' H' x⟩⟩
theorem me_cut {m1 m2 : Option (Option Int)} (h : ME X g B S e m k) (h1 : MO X g B S oe m1) (h2 : MO X g B S oe2 m2) (r : LR g k := by first | exact lr_im | exact lr_fr | exact lr_rd) (hK : X.K = g.K := by rfl) :
    ME X g B S (.Subscript e (.Slice oe oe2 none p2) pos) (m >>= fun xs => m1 >>= fun lo => m2 >>= fun hi => some (cutO xs lo hi)) (fun xs => .fr (rl g xs)) := by
  refine ⟨fun as q => ?_⟩
  obtain ⟨xs, q1, q⟩ := bind_some q
  obtain ⟨lo, q2, q⟩ := bind_some q
  obtain ⟨hi, q3, q4⟩ := bind_some q
  cases q4
  refine pe_imp (pe_slice sl_list (h.run xs q1) (h1.run lo q2) (h2.run hi q3)) fun σ H Q ⟨I, hh, kk⟩ => ⟨I, hh, fun v I1 H1 x1 hv => ⟨I1, hh.ext x1, fun I2 H2 x2 => ⟨I2, (hh.ext x1).ext x2, fun I3 H3 x3 => ?_⟩⟩⟩
  obtain ⟨l, vs, rfl, h3, h4⟩ := r xs _ _ _ _ x3.s (RK.ext (RK.ext hv x2) x3)
  refine ⟨l, vs, rfl, by rw [hK]; exact h3, fun p hp => ?_⟩
  have hlen := rl_len h4
  refine new_fr (as := cutO xs lo hi) x3.s ?_ (fun u I4 H4 x4 hu => kk u I4 H4 (((x1.trans x2).trans x3).trans x4) (RK.back rfl ((x1.trans x2).trans x3).h hu)) hp
  unfold cutO cutV
  rw [hlen]
  refine ⟨?_, paired_take _ (paired_drop _ h4.2)⟩
  rw [List.length_take, List.length_drop]
  have := h4.1
  omega
theorem op_catS : OpR X (binaryOp .Add) (fun x y H Q => ∃ l b xs zs, x = .ref l ∧ y = .ref b ∧ SqL X.K H l xs ∧ SqL X.K H b zs ∧ xs.length + zs.length ≤ sizeLine ∧ ∀ p, H p = none → Q (.ref p) (upd H p (.lst (xs ++ zs)))) := by
  intro pins s σ H x y v u Q I rx ry h
  obtain ⟨l, b, xs, zs, rfl, rfl, hH, hB, hz, q⟩ := h
  cases rx
  cases ry
  obtain ⟨its, r, pl, z⟩ := I.list hH
  obtain ⟨its2, r2, pl2, z2⟩ := I.list hB
  have hl := r.length
  have hl2 := r2.length
  obtain ⟨⟨cls, dd, data, sl⟩, ho, hc, n, hd⟩ := pl.isList
  obtain ⟨⟨cls2, dd2, data2, sl2⟩, ho2, hc2, n2, hd2⟩ := pl2.isList
  simp only at hc hd hc2 hd2
  subst hc hd hc2 hd2
  have ea : its.toArray ++ its2.toArray = (its ++ its2).toArray := by simp
  refine concat_meets ⟨_, ho, rfl⟩ ⟨_, ho2, rfl⟩ noFill_list_add seq_list_add PySem.F.slot_list_add PySem.F.entry_list_add (PySem.F.args_list_add_2 _ _) (list_addW l b its.toArray its2.toArray n n2 dd dd2 sl sl2 (by rw [List.size_toArray, List.size_toArray]; omega)) ⟨ho, ho2, ?_⟩
  rw [ea]
  exact ⟨.ref _, _, I.lnew (t' := s.toks) (r.append r2) (by rw [List.length_append]; omega), rfl, q _ I.fresh⟩
theorem me_cat {m2 : Option (List α)} (h : ME X g B S e1 m k) (h2 : ME X g B S e2 m2 k2) (r : LR g k := by first | exact lr_im | exact lr_fr | exact lr_rd) (r2 : LR g k2 := by first | exact lr_im | exact lr_fr | exact lr_rd) (hK : X.K = g.K := by rfl) :
    ME X g B S (.BinOp e1 .Add e2 pos) (m >>= fun xs => m2 >>= fun ys => catO xs ys) (fun xs => .fr (rl g xs)) :=
  me_bin op_catS h h2 (fun a b c q v w I H H0 H1 Q s hv hw kk => by
    unfold catO at q
    by_cases hc : catOk a.length b.length = true
    · rw [if_pos hc] at q
      cases q
      obtain ⟨l, vs, rfl, h3, h4⟩ := r a _ _ _ _ s hv
      obtain ⟨l2, ws, rfl, h5, h6⟩ := r2 b _ _ _ _ s hw
      have hz : a.length + b.length ≤ sizeLine := of_decide_eq_true hc
      refine ⟨l, l2, vs, ws, rfl, rfl, by rw [hK]; exact h3, by rw [hK]; exact h5, by rw [rl_len h4, rl_len h6]; exact hz, fun p hp => new_fr (as := a ++ b) s ⟨by rw [List.length_append]; exact hz, paired_app h4.2 h6.2⟩ kk hp⟩
    · rw [if_neg hc] at q
      cases q)
theorem me_rep {m2 : Option Int} (h : ME X g B S e1 m (fun xs => .fr (rl g xs))) (h2 : ME X g B S e2 m2 (KI g)) :
    ME X g B S (.BinOp e1 .Mult e2 pos) (m >>= fun xs => m2 >>= fun n => repO xs n) (fun xs => .fr (rl g xs)) :=
  me_bin op_rep h h2 (fun a b c q v w I H H0 H1 Q s hv hw kk => by
    unfold repO at q
    by_cases hc : repOk a.length b = true
    · rw [if_pos hc] at q
      cases q
      obtain ⟨l, vs, rfl, _, _, h3, h4⟩ := hv
      unfold repOk at hc
      rw [Bool.and_eq_true, decide_eq_true_eq, decide_eq_true_eq] at hc
      have hl := rl_len h4
      refine ⟨l, b, vs, rfl, hw, h3, hc.1.1, hc.1.2, by rw [hl]; exact hc.2, fun p hp => new_fr (as := (List.replicate b.toNat a).flatten) s ⟨?_, paired_rep h4.2 _⟩ kk hp⟩
      rw [List.length_flatten, List.map_replicate, List.sum_replicate_nat, Nat.mul_comm]
      exact hc.2
    · rw [if_neg hc] at q
      cases q)
end
/-- xs.append(x) -/
@[irreducible] def appO {α : Type} (xs : List α) (x : α) : Option (List α) := if decide (xs.length < sizeLine) = true then some (xs ++ [x]) else none
@[irreducible] def setO {α : Type} (xs : List α) (i : Int) (x : α) : Option (List α) := (ixN xs.length i).bind fun j => some (xs.set j x)
section
variable {X : Cx} {g : Gb} {B : Bs} {J : Hp} {S : SL} {e e1 e2 e3 tg : Expr} {es : List Expr} {pos pos' p p2 p3 : Pos} {o α' β' γ' ρ : Type} {K : KT o} {rest body : List Stmt} {α β γ δ : Type} [Py α] [Py β] [Py γ] [Py δ]
/-- an owned fragment written: F becomes F', the heap H becomes H' -/
theorem Ok.wrt {σ : L2.St} {I H I' H' : Hp} {i : Nat} {k : RK} {v : V} {F' : Hp} (ok : Ok g B J S σ I H) (e1 : σ[i]? = some (some v)) (w : ∀ Φ, HoldF g B S σ I H Φ → Same I I' ∧ Same I' H' ∧ (∀ l, H l ≠ none → I l = none → I' l = none) ∧ (∀ a o, H a = some o → Φ i a = none → H' a = some o) ∧ Same F' H' ∧ (∀ a, F' a ≠ none → Φ i a ≠ none ∨ (H a = none ∧ I' a = none)) ∧ RK.inS g k B.H v I' F') :
    Ok g B J (S.set i (some k)) σ I' H' := by
  obtain ⟨x, oj, Φ, h⟩ := ok
  obtain ⟨sI, sH, n, keep, sF, nF, hv⟩ := w Φ h
  have other : ∀ a o, B.H a = some o → Φ i a = none := fun a o e => by
    cases q : Φ i a with
    | none => rfl
    | some u => have := (h.fr i a u q).2.2; rw [e] at this; cases this
  have sB : Same B.H H' := fun a o e => keep a o (h.base a o e) (other a o e)
  have hσ : σ.set i (some v) = σ := by
    apply List.ext_getElem?
    intro j
    by_cases hj : i = j
    · subst hj
      rw [List.getElem?_set_self (List.getElem?_eq_some_iff.mp e1).1, e1]
    · rw [List.getElem?_set_ne hj]
  have h1 : HoldF g B S σ I' H' (putF Φ i (fun _ => none)) → False → False := fun _ z => z
  refine ⟨⟨x.i.trans sI, sB, sH, fun l n1 n2 => ?_⟩, oj.trans sI, putF Φ i F', ?_⟩
  · cases e : B.H l with
    | none => exact absurd e n1
    | some o => exact n l (ne_of_some (h.base l o e)) (x.n l n1 n2)
  · have h2 : HoldF g B (S.set i (some k)) (σ.set i (some v)) I' H' (putF Φ i F') := by
      refine ⟨by rw [List.length_set, List.length_set, h.len], sH, sB, fun j k' e => ?_, fun j a o e => ?_, fun j l a hj hl => ?_⟩
      · rcases set_some e with ⟨a, b, c⟩ | ⟨a, b⟩
        · subst a
          cases b
          exact ⟨v, List.getElem?_set_self (by rw [h.len]; exact c), by rw [putF_same]; exact hv⟩
        · obtain ⟨u, e2, q⟩ := h.at_ j k' b
          exact ⟨u, by rw [List.getElem?_set_ne a]; exact e2, by rw [putF_ne (fun z => a z.symm)]; exact RK.inS_mono sI q⟩
      · by_cases hji : j = i
        · rw [hji, putF_same] at e
          refine ⟨sF a o e, ?_⟩
          rcases nF a (ne_of_some e) with z | ⟨z1, z2⟩
          · obtain ⟨f1, f2, f3⟩ := h.ne z
            exact ⟨n a f1 f2, f3⟩
          · exact ⟨z2, h.base.free z1⟩
        · rw [putF_ne hji] at e
          obtain ⟨f1, f2, f3⟩ := h.fr j a o e
          refine ⟨keep a o f1 ?_, n a (ne_of_some f1) f2, f3⟩
          cases q : Φ i a with
          | none => rfl
          | some u => exact absurd (h.dj j i a (ne_of_some e) (ne_of_some q)) hji
      · have no : ∀ m, m ≠ i → F' a ≠ none → Φ m a ≠ none → False := fun m hm f1 f2 => by
          rcases nF a f1 with z | ⟨z1, _⟩
          · exact hm (h.dj m i a f2 z)
          · exact (h.ne f2).1 z1
        by_cases hji : j = i
        · by_cases hli : l = i
          · rw [hji, hli]
          · rw [hji, putF_same] at hj
            rw [putF_ne hli] at hl
            exact (no l hli hj hl).elim
        · by_cases hli : l = i
          · rw [hli, putF_same] at hl
            rw [putF_ne hji] at hj
            exact (no j hji hl hj).elim
          · rw [putF_ne hji] at hj
            rw [putF_ne hli] at hl
            exact h.dj j l a hj hl
    rw [hσ] at h2
    exact h2
/-- an owned list written -/
theorem Ok.write {σ : L2.St} {I H : Hp} {i : Nat} {l : Addr} {q0 : PL} {bs : List α} {ws : List V} (ok : Ok g B J S σ I H) (hS : S[i]? = some (some (.fr q0))) (e1 : σ[i]? = some (some (.ref l))) (hw : (rl g bs).p I ws) : Ok g B J (S.set i (some (.fr (rl g bs)))) σ I (upd H l (.lst ws)) := by
  have hsub := ok.h.sub
  refine ok.wrt e1 (F' := one1 l (.lst ws)) fun Φ h => ?_
  obtain ⟨v, e2, l', vs, e3, f1, f2⟩ := h.at_ i _ hS
  rw [e1] at e2
  cases e2
  cases e3
  obtain ⟨g1, g2, g3⟩ := h.fr i l _ f1
  refine ⟨Same.refl _, fun a o e => ?_, fun a _ z => z, fun a o e z => ?_, fun a o e => ?_, fun a ha => ?_, l, ws, rfl, one1_same, hw⟩
  · rw [upd_ne (ne_of_none e g2)]
    exact hsub a o e
  · have : a ≠ l := fun y => by rw [y, f1] at z; cases z
    rw [upd_ne this]
    exact e
  · obtain ⟨y1, y2⟩ := one1_some e
    rw [y1, y2, upd_same]
  · rw [one1_ne ha]
    exact .inl (ne_of_some f1)
end
end T
set_option Elab.async false
set_option linter.all false
set_option maxRecDepth 100000
namespace T
open PySem PySem.Spec PyProof.Rows L2

/-! lists that stand still through a loop: those that stay, and the caller's -/
structure MSt {α : Type} [Py α] (X : Cx) (g : Gb) (B : Bs) (S : SL) (e : Expr) (m : Option (List α)) : Prop where
  run : ∀ as, m = some as → PE X e (fun σ H Q => ∃ I, Hold g B S σ I H ∧ ∀ l vs I' H', Ext I H I' H' → (SqL g.K I' l vs ∨ SqL g.K B.H l vs) → (rl g as).p I' vs → Q (.ref l) H')
section
variable {X : Cx} {g : Gb} {B : Bs} {J : Hp} {S : SL} {e e1 e2 e3 tg : Expr} {oe oe2 : Option Expr} {es : List Expr} {pos pos' p p2 p3 apos cpos : Pos} {o α' β' γ' ρ : Type} {K : KT o} {rest body : List Stmt} {α β γ δ : Type} [Py α] [Py β] [Py γ] [Py δ] {m : Option (List α)} {k k2 : List α → RK}
theorem ms_im (h : ME X g B S e m (KI g)) : MSt X g B S e m :=
  ⟨fun as q => pe_imp (h.run as q) fun σ H Q ⟨I, hh, k⟩ => ⟨I, hh, fun v I' H' x ⟨l, vs, e, h1, h2⟩ => e ▸ k l vs I' H' x (.inl h1) h2⟩⟩
theorem ms_bw (i : Nat) {x : Str} {as : List α} (hS : S[i]? = some (some (.bw (rl g as))) := by rfl) (hN : X.N[i]? = some x := by rfl) (hv : Vis X.env.scope x := by first | exact Or.inl rfl | exact Or.inr (Or.inl rfl) | exact Or.inr (Or.inr rfl))
    (hd : (x == ("__debug__" : Str)) = false := by decide) (hcd : (x == ("__classdict__" : Str)) = false := by decide) : MSt X g B S (.Name x pos) (some as) := by
  refine ⟨fun as' q => ?_⟩
  cases q
  refine pe_imp (pe_var hN hv hd hcd) fun σ H Q ⟨I, hh, k⟩ => ?_
  obtain ⟨v, e1, l, vs, rfl, h3, h4⟩ := hh.at_ i _ hS
  exact ⟨_, e1, k l vs I H (Ext.refl hh.sub) (.inr h3) h4⟩
theorem sq_now {I1 I2 H2 BH : Hp} {K : PySem.W.Frag} {l : Addr} {vs : List V} (h : SqL K I1 l vs ∨ SqL K BH l vs) (s1 : Same I1 I2) (s2 : Same I2 H2) (s3 : Same BH H2) : SqL K H2 l vs := h.elim (fun z => s2.seq (s1.seq z)) fun z => s3.seq z
theorem mi_lst (h : MSt X g B S e m) (hg : X.K = g.K := by rfl) : MI X g B S tg e m := by
  refine ⟨fun as q => ?_⟩
  refine pi_imp (pi_list (h.run as q)) fun σ H R ⟨I, hh, k⟩ => ⟨I, hh, fun l vs I' H' x h1 h2 => ?_⟩
  rw [hg]
  exact ⟨l, rfl, ⟨vs, sq_now h1 (Same.refl _) x.s (hh.base.trans x.h)⟩, k _ I' H' x (walk_list h1 h2)⟩
/-- places and items -/
def enumL {α : Type} (as : List α) : List (T2 Int α) := (as.zipIdx).map fun p => T2.mk (p.2 : Int) p.1
theorem enum_get {as : List α} {i : Nat} {t : T2 Int α} (h : (enumL as)[i]? = some t) : ∃ a, as[i]? = some a ∧ t = T2.mk (i : Int) a := by
  unfold enumL at h
  rw [List.getElem?_map, List.getElem?_zipIdx] at h
  cases q : as[i]? with
  | none => rw [q] at h; cases h
  | some a =>
    rw [q] at h
    refine ⟨a, rfl, ?_⟩
    have := Option.some.inj h
    rw [← this]
    simp
theorem enum_len {as : List α} : (enumL as).length = as.length := by
  unfold enumL
  rw [List.length_map, List.length_zipIdx]
theorem new_tup {I H : Hp} {T : Addr} {xs : List V} (s : Same I H) (h : H T = none) : Ext I H (upd I T (.tup xs)) (upd H T (.tup xs)) := by
  have hI := s.free h
  refine ⟨same_new hI, same_new h, fun b ob eb => ?_, fun b n1 n2 => ?_⟩
  · by_cases hb : b = T
    · subst hb; rw [upd_same] at eb ⊢; exact eb
    · rw [upd_ne hb] at eb ⊢; exact s _ _ eb
  · rw [upd_ne (fun z => n1 (by rw [z]; exact h))]; exact n2
theorem walk_enum {as : List α} {a : Addr} {vs : List V} {I1 : Hp} (hL : SqL g.K I1 a vs ∨ SqL g.K B.H a vs) (hR : (rl g as).p I1 vs) : WalkI g B (Ite g.K a) (enumL as) I1 where
  go := fun i x I2 H2 e s1 s2 s3 => by
    obtain ⟨b, e1, _⟩ := enum_get e
    obtain ⟨v, e2, _⟩ := paired_get hR.2 e1
    exact ⟨vs, v, sq_now hL s1 s2 s3, e2⟩
  yl := fun i x I2 H2 v H' e s1 s2 s3 y => by
    obtain ⟨b, e1, rfl⟩ := enum_get e
    obtain ⟨u, e2, q⟩ := paired_get hR.2 e1
    obtain ⟨T, x, rfl, hT, rfl, y⟩ := y
    have e3 := y vs (sq_now hL s1 s2 s3)
    rw [e2] at e3
    cases e3
    refine ⟨_, new_tup s2 hT, T, _, _, rfl, SqT.of upd_same, rfl, (Py.r g b).mono (s1.trans (same_new (s2.free hT))) q⟩
  st := fun I2 H2 s1 s2 s3 => ⟨vs, sq_now hL s1 s2 s3, by rw [enum_len]; exact Nat.le_of_eq (rl_len hR)⟩
  len := by rw [enum_len]; exact hR.1
theorem mi_enum {elts : List Expr} {kk : Nat} {tpos : Pos} (hm : X.mg "enumerate" = none) (h : MSt X g B S e m) (hg : Gl X "enumerate" := by rfl) (hK : X.K = g.K := by rfl) (hs : starEach [e] X.env = [(false, eval e X.env)] := by rfl) : MI X g B S (.Tuple elts kk tpos) (.Call (.Name "enumerate" p) [e] [] pos) (m >>= fun as => some (enumL as)) := by
  refine ⟨fun as q => ?_⟩
  obtain ⟨xs, q1, q2⟩ := bind_some q
  cases q2
  refine pi_imp (pi_enum hg hm (pa_cons (h.run xs q1) pa_nil hs) hs) fun σ H R ⟨I, hh, k⟩ => ⟨I, hh, fun l vs I' H' x h1 h2 => ?_⟩
  rw [hK]
  exact ⟨l, vs, rfl, sq_now h1 (Same.refl _) x.s (hh.base.trans x.h), k _ I' H' x (walk_enum h1 h2)⟩
/-- items in pairs -/
def zipL {α β : Type} (as : List α) (bs : List β) : List (T2 α β) := (as.zip bs).map fun p => T2.mk p.1 p.2
theorem zip_get {as : List α} {bs : List β} {i : Nat} {t : T2 α β} (h : (zipL as bs)[i]? = some t) : ∃ a b, as[i]? = some a ∧ bs[i]? = some b ∧ t = T2.mk a b := by
  unfold zipL at h
  rw [List.getElem?_map, Option.map_eq_some_iff] at h
  obtain ⟨⟨a, b⟩, h1, rfl⟩ := h
  obtain ⟨h2, h3⟩ := List.getElem?_zip_eq_some.mp h1
  exact ⟨a, b, h2, h3, rfl⟩
theorem zip_len {as : List α} {bs : List β} : (zipL as bs).length = min as.length bs.length := by
  unfold zipL
  rw [List.length_map, List.length_zip]
theorem walk_zip {as : List α} {bs : List β} {a b : Addr} {vs ws : List V} {I1 : Hp} (hL : SqL g.K I1 a vs ∨ SqL g.K B.H a vs) (hR : (rl g as).p I1 vs) (hL2 : SqL g.K I1 b ws ∨ SqL g.K B.H b ws) (hR2 : (rl g bs).p I1 ws) : WalkI g B (Itz g.K a b) (zipL as bs) I1 where
  go := fun i x I2 H2 e s1 s2 s3 => by
    obtain ⟨c, d, e1, e2, _⟩ := zip_get e
    obtain ⟨v, e3, _⟩ := paired_get hR.2 e1
    obtain ⟨w, e4, _⟩ := paired_get hR2.2 e2
    exact ⟨vs, ws, v, w, sq_now hL s1 s2 s3, sq_now hL2 s1 s2 s3, e3, e4⟩
  yl := fun i x I2 H2 v H' e s1 s2 s3 y => by
    obtain ⟨c, d, e1, e2, rfl⟩ := zip_get e
    obtain ⟨u, e3, q⟩ := paired_get hR.2 e1
    obtain ⟨u2, e4, q2⟩ := paired_get hR2.2 e2
    obtain ⟨T, x, x2, rfl, hT, rfl, y1, y2⟩ := y
    have e5 := y1 vs (sq_now hL s1 s2 s3)
    have e6 := y2 ws (sq_now hL2 s1 s2 s3)
    rw [e3] at e5
    rw [e4] at e6
    cases e5
    cases e6
    have sT := s1.trans (same_new (o := .tup [u, u2]) (s2.free hT))
    exact ⟨_, new_tup s2 hT, T, _, _, rfl, SqT.of upd_same, (Py.r g c).mono sT q, (Py.r g d).mono sT q2⟩
  st := fun I2 H2 s1 s2 s3 => ⟨vs, ws, sq_now hL s1 s2 s3, sq_now hL2 s1 s2 s3, by
    rw [zip_len, rl_len hR, rl_len hR2]
    omega⟩
  len := by
    rw [zip_len]
    have := hR.1
    omega
theorem mi_zip {elts : List Expr} {kk : Nat} {tpos : Pos} {m2 : Option (List β)} (hm : X.mg "zip" = none) (h : MSt X g B S e m) (h2 : MSt X g B S e2 m2) (hg : Gl X "zip" := by rfl) (hK : X.K = g.K := by rfl) (hs : starEach [e, e2] X.env = (false, eval e X.env) :: starEach [e2] X.env := by rfl) (hs2 : starEach [e2] X.env = (false, eval e2 X.env) :: starEach [] X.env := by rfl) (hpl : (backTo pos (starEach [e2] X.env)).any (·.1) = false := by rfl) :
    MI X g B S (.Tuple elts kk tpos) (.Call (.Name "zip" p) [e, e2] [] pos) (m >>= fun as => m2 >>= fun bs => some (zipL as bs)) := by
  refine ⟨fun as q => ?_⟩
  obtain ⟨xs, q1, q⟩ := bind_some q
  obtain ⟨ys, q2, q3⟩ := bind_some q
  cases q3
  refine pi_imp (pi_zip hg hm (pa_cons (h.run xs q1) (pa_cons (h2.run ys q2) pa_nil hs2) hs) hs hpl) fun σ H R ⟨I, hh, k⟩ => ⟨I, hh, fun l vs I1 H1 x1 h1 hr => ⟨I1, hh.ext x1, fun l2 ws I2 H2 x2 h3 hr2 => ?_⟩⟩
  rw [hK]
  have h1' : SqL g.K I2 l vs ∨ SqL g.K B.H l vs := h1.imp (fun z => x2.i.seq z) id
  have sb := (hh.base.trans x1.h).trans x2.h
  exact ⟨l, l2, vs, ws, rfl, sq_now h1' (Same.refl _) x2.s sb, sq_now h3 (Same.refl _) x2.s sb, k _ I2 H2 (x1.trans x2) (walk_zip h1' ((rl g xs).mono x2.i hr) h3 hr2)⟩

/-! targets -/
theorem mg_t2 (i j : Nat) {x y : Str} {k : Nat} (hN : X.N.Nodup) (hi : X.N[i]? = some x := by rfl) (hj : X.N[j]? = some y := by rfl) (hx : Loc X.env.scope x := by first | exact Or.inl rfl | exact Or.inr rfl) (hy : Loc X.env.scope y := by first | exact Or.inl rfl | exact Or.inr rfl) (hf : X.fn x = true ∨ X.env.scope.names.lookup x = some .local := by first | exact .inl rfl | exact .inr rfl) (hf2 : X.fn y = true ∨ X.env.scope.names.lookup y = some .local := by first | exact .inl rfl | exact .inr rfl)
    (hc : X.calm = true := by rfl) (hK : X.K = g.K := by rfl) (hn : (assignEach [Expr.Name x p, Expr.Name y p2] X.env).length = 2 := by rfl) (hst : (assignEach [Expr.Name x p, Expr.Name y p2] X.env).findIdx? (·.1) = none := by rfl) (hs : (assignEach [Expr.Name x p, Expr.Name y p2] X.env).map (·.2) = assign (.Name x p) X.env :: (assignEach [Expr.Name y p2] X.env).map (·.2) := by rfl) (hs2 : (assignEach [Expr.Name y p2] X.env).map (·.2) = assign (.Name y p2) X.env :: (assignEach [] X.env).map (·.2) := by rfl) :
    MG (α := T2 α β) X g (.Tuple [.Name x p, .Name y p2] k pos) (gTup g.K 2 (gCons (gName i) (gCons (gName j) gNil))) (fun t S => (S.set i (some (.im (Py.r g t.x0)))).set j (some (.im (Py.r g t.x1)))) [i, j] :=
  ⟨by rw [← hK]; exact pg_tup hc (pgs_cons (pg_name hN hi hx hf) (pgs_cons (pg_name hN hj hy hf2) pgs_nil hs2) hs) hn hst, fun B S t v σ I H Q h ⟨q, a, b, e, h0, h1, h2⟩ k => ⟨q, [a, b], e, seqT h.sub h0, rfl, a, [b], rfl, b, [], rfl, rfl, k _ (hold_put (hold_put h h1) h2) fun vs ht => (wipe_set (ht j (by simp))).trans (wipe_set (ht i (by simp)))⟩⟩
theorem mg_t3 (i j l : Nat) {x y z : Str} {k : Nat} (hN : X.N.Nodup) (hi : X.N[i]? = some x := by rfl) (hj : X.N[j]? = some y := by rfl) (hl : X.N[l]? = some z := by rfl) (hx : Loc X.env.scope x := by first | exact Or.inl rfl | exact Or.inr rfl) (hy : Loc X.env.scope y := by first | exact Or.inl rfl | exact Or.inr rfl) (hz : Loc X.env.scope z := by first | exact Or.inl rfl | exact Or.inr rfl) (hf : X.fn x = true ∨ X.env.scope.names.lookup x = some .local := by first | exact .inl rfl | exact .inr rfl) (hf2 : X.fn y = true ∨ X.env.scope.names.lookup y = some .local := by first | exact .inl rfl | exact .inr rfl) (hf3 : X.fn z = true ∨ X.env.scope.names.lookup z = some .local := by first | exact .inl rfl | exact .inr rfl)
    (hc : X.calm = true := by rfl) (hK : X.K = g.K := by rfl) (hn : (assignEach [Expr.Name x p, Expr.Name y p2, Expr.Name z p3] X.env).length = 3 := by rfl) (hst : (assignEach [Expr.Name x p, Expr.Name y p2, Expr.Name z p3] X.env).findIdx? (·.1) = none := by rfl) (hs : (assignEach [Expr.Name x p, Expr.Name y p2, Expr.Name z p3] X.env).map (·.2) = assign (.Name x p) X.env :: (assignEach [Expr.Name y p2, Expr.Name z p3] X.env).map (·.2) := by rfl) (hs2 : (assignEach [Expr.Name y p2, Expr.Name z p3] X.env).map (·.2) = assign (.Name y p2) X.env :: (assignEach [Expr.Name z p3] X.env).map (·.2) := by rfl) (hs3 : (assignEach [Expr.Name z p3] X.env).map (·.2) = assign (.Name z p3) X.env :: (assignEach [] X.env).map (·.2) := by rfl) :
    MG (α := T3 α β γ) X g (.Tuple [.Name x p, .Name y p2, .Name z p3] k pos) (gTup g.K 3 (gCons (gName i) (gCons (gName j) (gCons (gName l) gNil)))) (fun t S => ((S.set i (some (.im (Py.r g t.x0)))).set j (some (.im (Py.r g t.x1)))).set l (some (.im (Py.r g t.x2)))) [i, j, l] :=
  ⟨by rw [← hK]; exact pg_tup hc (pgs_cons (pg_name hN hi hx hf) (pgs_cons (pg_name hN hj hy hf2) (pgs_cons (pg_name hN hl hz hf3) pgs_nil hs3) hs2) hs) hn hst, fun B S t v σ I H Q h ⟨q, a, b, c, e, h0, h1, h2, h3⟩ k => ⟨q, [a, b, c], e, seqT h.sub h0, rfl, a, [b, c], rfl, b, [c], rfl, c, [], rfl, rfl, k _ (hold_put (hold_put (hold_put h h1) h2) h3) fun vs ht => (wipe_set (ht l (by simp))).trans ((wipe_set (ht j (by simp))).trans (wipe_set (ht i (by simp))))⟩⟩
/-- target = e -/
theorem mb_asg {m : Option α} {put : α → SL → SL} {f : α → Option o} {gt : TG} {ts : List Nat} (he : ME X g B S e m (KI g)) (hG : MG X g tg gt put ts) (hb : ∀ a, MB X g B J (put a S) rest (f a) K) (hs : swapsWithSole [tg] e pos.line X.env = pure false := by rfl) (hw : swappedStores [tg] e X.env = pure none := by rfl) (h1 : (assignEach [tg] X.env).map (·.2) = [assign tg X.env] := by rfl) :
    MB X g B J S (.Assign [tg] e pos :: rest) (m >>= f) K := by
  refine ⟨fun r q => ?_⟩
  obtain ⟨a, q1, q2⟩ := bind_some q
  refine pss_imp (pss_cons (ps_asg (he.run a q1) hG.pg hs hw h1) ((hb a).run r q2)) fun D σ H ⟨I, ok, kk⟩ => ?_
  exact ⟨I, ok.h, fun v I' H' x hv => hG.oks (ok.ext x) hv fun σ' ok' => ⟨I', ok', kk⟩⟩
/-- name op= e, of ints -/
theorem mb_aug (i : Nat) {x : Str} {a : Int} {op : Operator} {fi : Int → Int → Int} {m : Option Int} {f : Int → Option o} (hp : PIp X op (ipI fi)) (hN : X.N.Nodup) (he : ME X g B S e m (KI g)) (hb : ∀ b, MB X g B J (S.set i (some (.im (Py.r g b)))) rest (f b) K) (hS : S[i]? = some (some (.im (Py.r g a))) := by rfl)
    (hi : X.N[i]? = some x := by rfl) (hx : Loc X.env.scope x := by first | exact Or.inl rfl | exact Or.inr rfl) (hf : X.fn x = true ∨ X.env.scope.names.lookup x = some .local := by first | exact .inl rfl | exact .inr rfl) : MB X g B J S (.AugAssign (.Name x pos') op e pos :: rest) (m >>= fun b => f (fi a b)) K := by
  refine ⟨fun r q => ?_⟩
  obtain ⟨b, q1, q2⟩ := bind_some q
  refine pss_imp (pss_cons (ps_aug hN hi hx (he.run b q1) hp hf) ((hb (fi a b)).run r q2)) fun D σ H ⟨I, ok, kk⟩ => ?_
  obtain ⟨v, e1, h1⟩ := ok.h.at_ i _ hS
  exact ⟨v, e1, I, ok.h, fun w I' H' x hw => ⟨a, b, h1, hw, I', ok.put (k := .im (Py.r g (fi a b))) x rfl rfl, kk⟩⟩

/-! lists written -/
theorem mb_app (i : Nat) {x : Str} {as : List α} {m : Option α} {f : List α → Option o} (he : ME X g B S e m (KI g)) (hb : ∀ bs, MB X g B J (S.set i (some (.fr (rl g bs)))) rest (f bs) K) (hS : S[i]? = some (some (.fr (rl g as))) := by rfl) (hN : X.N[i]? = some x := by rfl)
    (hv : Vis X.env.scope x := by first | exact Or.inl rfl | exact Or.inr (Or.inl rfl) | exact Or.inr (Or.inr rfl)) (hs : swapsWith (.Call (.Attribute (.Name x p) "append" apos) [e] [] cpos) none pos.line X.env = pure false := by rfl) (hst : starEach [e] X.env = (false, eval e X.env) :: starEach [] X.env := by rfl)
    (hbase : attributeBase (.Name x p) "append" X.env (eval (.Name x p) X.env) = eval (.Name x p) X.env := by rfl)
    (hfew : ((backTo cpos (starEach [e] X.env)).all (fun x => !x.1) && (backToKw cpos (keywordEach [] X.env)).all (fun x => x.1.isSome) && decide ([e].length + ([] : List Keyword).length + (if ([] : List Keyword).isEmpty then 0 else 1) < 30)) = true := by rfl)
    (hline : (apos.endLine == cpos.line) = true := by rfl) (hplain : (backTo cpos (starEach [] X.env)).any (·.1) = false := by rfl)
    (hd : (x == ("__debug__" : Str)) = false := by decide) (hcd : (x == ("__classdict__" : Str)) = false := by decide) :
    MB X g B J S (.Expr (.Call (.Attribute (.Name x p) "append" apos) [e] [] cpos) pos :: rest) (m >>= fun a => appO as a >>= f) K := by
  refine ⟨fun r q => ?_⟩
  obtain ⟨a, q1, q⟩ := bind_some q
  obtain ⟨bs, q2, q3⟩ := bind_some q
  unfold appO at q2
  by_cases hz : decide (as.length < sizeLine) = true
  · rw [if_pos hz] at q2
    cases q2
    have hz' := of_decide_eq_true hz
    refine pss_imp (pss_cons (ps_expr (pe_bm PySem.F.plainAttrs_list PySem.F.slot_list_append PySem.F.type_list_append mt_append (pe_var hN hv hd hcd) (pa_cons (he.run a q1) pa_nil hst) hbase hfew hline hst hplain) hs) ((hb _).run r q3)) fun D σ H ⟨I, ok, kk⟩ => ?_
    obtain ⟨v, e1, l, vs, rfl, h1, h2, h3, h4⟩ := ok.h.at_ i _ hS
    refine ⟨_, e1, .inl ⟨rfl, _, SqL.of h3⟩, I, ok.h, fun w I' H' x hw => ⟨l, vs, w, rfl, rfl, x.h _ _ h3, by rw [rl_len h4]; exact hz', I', (ok.ext x).write hS e1 ⟨?_, paired_app ((rl g as).mono x.i h4).2 (.cons hw .nil)⟩, kk⟩⟩
    rw [List.length_append, List.length_singleton]
    omega
  · rw [if_neg hz] at q2
    cases q2
theorem mb_seti (i : Nat) {x : Str} {as : List α} {m1 : Option Int} {m : Option α} {f : List α → Option o} (he : ME X g B S e m (KI g)) (h1 : ME X g B S e1 m1 (KI g)) (hb : ∀ bs, MB X g B J (S.set i (some (.fr (rl g bs)))) rest (f bs) K) (hS : S[i]? = some (some (.fr (rl g as))) := by rfl) (hN : X.N[i]? = some x := by rfl)
    (hv : Vis X.env.scope x := by first | exact Or.inl rfl | exact Or.inr (Or.inl rfl) | exact Or.inr (Or.inr rfl)) (hs : swapsWithSole [.Subscript (.Name x p) e1 apos] e pos.line X.env = pure false := by rfl) (hw : swappedStores [.Subscript (.Name x p) e1 apos] e X.env = pure none := by rfl)
    (h1' : (assignEach [Expr.Subscript (.Name x p) e1 apos] X.env).map (·.2) = [assign (.Subscript (.Name x p) e1 apos) X.env] := by rfl)
    (ha : ∀ v, assign (.Subscript (.Name x p) e1 apos) X.env v = (do
      let ov ← holding [v] (eval (.Name x p) X.env)
      let iv ← holding [v, ov] (eval e1 X.env)
      standAt apos
      holding [v, ov, iv] (setItem ov iv v)
      release [v, ov, iv] []) := by intro _; rfl)
    (hd : (x == ("__debug__" : Str)) = false := by decide) (hcd : (x == ("__classdict__" : Str)) = false := by decide) :
    MB X g B J S (.Assign [.Subscript (.Name x p) e1 apos] e pos :: rest) (m >>= fun a => m1 >>= fun n => setO as n a >>= f) K := by
  refine ⟨fun r q => ?_⟩
  obtain ⟨a, q1, q⟩ := bind_some q
  obtain ⟨n, q2, q⟩ := bind_some q
  obtain ⟨bs, q3, q4⟩ := bind_some q
  unfold setO at q3
  cases hj : ixN as.length n with
  | none => rw [hj] at q3; cases q3
  | some j =>
    rw [hj] at q3
    cases q3
    refine pss_imp (pss_cons (ps_asg (he.run a q1) (pg_sub (pe_var hN hv hd hcd) (h1.run n q2) set_list ha) hs hw h1') ((hb _).run r q4)) fun D σ H ⟨I, ok, kk⟩ => ?_
    obtain ⟨v, e1, l, vs, rfl, h1, h2, h3, h4⟩ := ok.h.at_ i _ hS
    refine ⟨I, ok.h, fun w I1 H1 x1 hw => ⟨_, e1, I1, ok.h.ext x1, fun y I2 H2 x2 hy => ⟨l, vs, n, j, rfl, hy, x2.h _ _ (x1.h _ _ h3), by rw [rl_len h4]; exact hj, I2, ((ok.ext x1).ext x2).write hS e1 ⟨?_, paired_set (F := fun a v => (Py.r g a).p I2 v) ((Py.r g a).mono x2.i hw) _ ((rl g as).mono (x1.i.trans x2.i) h4).2⟩, kk⟩⟩⟩
    rw [List.length_set]
    exact h4.1
end
end T
set_option Elab.async false
set_option linter.all false
set_option maxRecDepth 100000
namespace T
open PySem PySem.Spec PyProof.Rows L2

/-! comprehensions -/
def lcM {α β : Type} (f : α → Option β) : List α → Option (List β)
  | [] => some []
  | a :: as => f a >>= fun b => lcM f as >>= fun bs => some (b :: bs)
def lcF {α β : Type} (t : α → Option Bool) (f : α → Option β) : List α → Option (List β)
  | [] => some []
  | a :: as => t a >>= fun b => if b = true then (f a >>= fun y => lcF t f as >>= fun ys => some (y :: ys)) else lcF t f as
theorem lcF_all {α β : Type} (f : α → Option β) : ∀ as : List α, lcF (fun _ => some true) f as = lcM f as
  | [] => rfl
  | a :: as => by
    have e : lcF (fun _ => some true) f (a :: as) = (f a >>= fun y => lcF (fun _ => some true) f as >>= fun ys => some (y :: ys)) := rfl
    rw [e, lcF_all f as]
    rfl
/-- the tests of a comprehension -/
structure MTs (X : Cx) (g : Gb) (B : Bs) (S : SL) (ifs : List Expr) (m : Option Bool) : Prop where
  run : ∀ b, m = some b → PTs X ifs (rdT g B S b)
def wipeS (S : SL) : List Nat → SL
  | [] => S
  | v :: vs => (wipeS S vs).set v none
theorem wipeS_length (S : SL) : ∀ vs, (wipeS S vs).length = S.length
  | [] => rfl
  | v :: vs => by
    show ((wipeS S vs).set v none).length = _
    rw [List.length_set, wipeS_length S vs]
theorem wipeS_some {S : SL} {i : Nat} {k : RK} : ∀ {vs : List Nat}, (wipeS S vs)[i]? = some (some k) → S[i]? = some (some k) ∧ i ∉ vs
  | [], h => ⟨h, by simp⟩
  | v :: vs, h => by
    rcases set_some h with ⟨_, z, _⟩ | ⟨h1, h2⟩
    · cases z
    · obtain ⟨h3, h4⟩ := wipeS_some h2
      exact ⟨h3, fun z => (List.mem_cons.mp z).elim (fun q => h1 q.symm) h4⟩
theorem Hold.wipe {g : Gb} {B : Bs} {S : SL} {σ : L2.St} {I H : Hp} (h : Hold g B S σ I H) (vs : List Nat) : Hold g B (wipeS S vs) (wipe σ vs) I H := by
  have at' : ∀ {i : Nat} {x : V}, (L2.wipe σ vs)[i]? = some (some x) → σ[i]? = some (some x) := fun e => (wipe_some e).1
  obtain ⟨Φ, h⟩ := h
  refine ⟨Φ, by rw [wipe_length, wipeS_length, h.len], h.sub, h.base, fun i k e => ?_, h.fr, h.dj⟩
  obtain ⟨e1, e2⟩ := wipeS_some e
  obtain ⟨v, e3, q⟩ := h.at_ i k e1
  exact ⟨v, by rw [wipe_out e2]; exact e3, q⟩
section
variable {X : Cx} {g : Gb} {B : Bs} {J : Hp} {S : SL} {e e1 e2 e3 tg elt iter : Expr} {es ifs : List Expr} {pos pos' p p2 p3 apos cpos : Pos} {o α' β' γ' ρ : Type} {K : KT o} {rest body : List Stmt} {α β γ δ : Type} [Py α] [Py β] [Py γ] [Py δ]
theorem mts_nil : MTs X g B S [] (some true) := ⟨fun b q => by
  cases q
  exact ⟨fun pins s σ H Q I ⟨I', hh, k⟩ => pts_nil.run pins s σ H Q I (k I' H (Ext.refl hh.sub))⟩⟩
theorem mts_one {m : Option Bool} (h : MT X g B S e m) : MTs X g B S [e] m := ⟨fun b q => pts_one (h.run b q)⟩
def rdTs {α : Type} [Py α] (g : Gb) (B : Bs) (Sp : α → SL) (t : α → Option Bool) : TT := fun σ H Q => ∃ a b I, t a = some b ∧ Hold g B (Sp a) σ I H ∧ ∀ I' H', Ext I H I' H' → Q b H'
def rdEs {α β : Type} [Py α] [Py β] (g : Gb) (B : Bs) (Sp : α → SL) (f : α → Option β) : TE := fun σ H Q => ∃ a b I, f a = some b ∧ Hold g B (Sp a) σ I H ∧ ∀ v I' H', Ext I H I' H' → (Py.r g b).p I' v → Q v H'
/-- the heart of a comprehension's reading -/
theorem lc_use {gt : TG} {put : α → SL → SL} {ts vs : List Nat} {t : α → Option Bool} {f : α → Option β} {as : List α} {bs : List β} {σ : L2.St} {H : Hp} {Q : VK} (hts : ∀ i ∈ ts, i ∈ vs)
    (hG : ∀ (B : Bs) (S : SL) (a : α) (v : V) σ I H Q, Hold g B S σ I H → (Py.r g a).p I v → (∀ σ', Hold g B (put a S) σ' I H → (∀ vs, (∀ t ∈ ts, t ∈ vs) → wipe σ' vs = wipe σ vs) → Q σ' H) → gt v σ H Q)
    (hbs : lcF t f as = some bs) (hq : ∃ I, Hold g B S σ I H ∧ ∀ v I' H', Ext I H I' H' → RK.holds g (.fr (rl g bs)) H v I' H' → Q v H') :
    tLc (rdI g B S as) gt (rdTs g B (fun a => put a (wipeS S vs)) t) (rdEs g B (fun a => put a (wipeS S vs)) f) vs σ H Q := by
  obtain ⟨I, hh, kk⟩ := hq
  refine ⟨I, hh, fun J1 I1 H1 x1 hW => ?_⟩
  intro D hD
  have hI1 : I1 D = none := x1.s.free hD
  refine ⟨fun i m H => m = as.length - i ∧ i ≤ as.length ∧ ∃ I2 ds ws rs, lcF t f (as.drop i) = some rs ∧ ds ++ rs = bs ∧ Ext I1 H1 I2 H ∧ I2 D = none ∧ H D = some (.lst ws) ∧ Paired (fun b v => (Py.r g b).p I2 v) ds ws ∧ ds.length ≤ i,
    ⟨as.length, by simp, Nat.zero_le _, I1, [], [], bs, hbs, rfl, ⟨Same.refl _, same_new hD, x1.s.trans (same_new hD), fun _ _ h => h⟩, hI1, upd_same, .nil, Nat.le_refl _⟩, ?_⟩
  rintro i m H2 ⟨rfl, hi, I2, ds, ws, rs, hrs, hds, x2, hI2, hH2, hp, hdl⟩
  have hh2 : Hold g B S σ I2 H2 := (hh.ext x1).ext x2
  by_cases hlt : i < as.length
  · have hit : as[i]? = some as[i] := List.getElem?_eq_getElem hlt
    refine .inr ⟨hW.go i _ I2 H2 hit x2.i x2.s hh2.base, fun H => i + 1 ≤ as.length ∧ ∃ I2 ds ws rs, lcF t f (as.drop (i + 1)) = some rs ∧ ds ++ rs = bs ∧ Ext I1 H1 I2 H ∧ I2 D = none ∧ H D = some (.lst ws) ∧ Paired (fun b v => (Py.r g b).p I2 v) ds ws ∧ ds.length ≤ i + 1, fun H' h => ⟨as.length - (i + 1), by omega, rfl, h.1, h.2⟩, fun x H3 hy => ?_⟩
    obtain ⟨I3, x3, hv⟩ := hW.yl i _ I2 H2 x H3 hit x2.i x2.s hh2.base hy
    have hI3 : I3 D = none := x3.n D (by rw [hH2]; simp) hI2
    rw [drop_at hit] at hrs
    obtain ⟨b, e1, e2⟩ := bind_some (show (t as[i] >>= fun b => if b = true then (f as[i] >>= fun y => lcF t f (as.drop (i + 1)) >>= fun ys => some (y :: ys)) else lcF t f (as.drop (i + 1))) = some rs from hrs)
    refine hG B (wipeS S vs) as[i] x (wipe σ vs) I3 H3 _ ((hh2.ext x3).wipe vs) hv fun σ4 h4 hw => ⟨(hw vs hts).trans wipe_wipe, as[i], b, I3, e1, h4, fun I5 H5 x5 => ?_⟩
    have hI5 : I5 D = none := x5.n D (by rw [x3.h _ _ hH2]; simp) hI3
    have hH5 : H5 D = some (.lst ws) := x5.h _ _ (x3.h _ _ hH2)
    cases b with
    | true =>
      rw [if_pos rfl] at e2
      refine iteT ?_
      obtain ⟨y, e3, e4⟩ := bind_some e2
      obtain ⟨ys, e5, e6⟩ := bind_some e4
      cases e6
      refine ⟨as[i], y, I5, e3, h4.ext x5, fun u I6 H6 x6 hu => ⟨ws, x6.h _ _ hH5, ?_, hlt, I6, ds ++ [y], ws ++ [u], ys, e5, by rw [List.append_assoc]; exact hds, ?_, x6.n D (by rw [hH5]; simp) hI5, upd_same, ?_, ?_⟩⟩
      · have := hW.len
        rw [← Paired.length hp]
        omega
      · have x16 := ((x2.trans x3).trans x5).trans x6
        refine ⟨x16.i, fun c ob ec => ?_, fun c ob ec => ?_, x16.n⟩
        · rw [upd_ne (ne_of_none ec hD)]
          exact x16.h _ _ ec
        · rw [upd_ne (ne_of_none ec (x6.n D (by rw [hH5]; simp) hI5))]
          exact x16.s _ _ ec
      · exact paired_app (L2.Paired.mapP hp fun c d q => (Py.r g c).mono ((x3.i.trans x5.i).trans x6.i) q) (.cons hu .nil)
      · rw [List.length_append, List.length_singleton]
        omega
    | false =>
      rw [if_neg Bool.false_ne_true] at e2
      refine iteF ?_
      exact ⟨hlt, I5, ds, ws, rs, e2, hds, (x2.trans x3).trans x5, hI5, hH5, L2.Paired.mapP hp fun c d q => (Py.r g c).mono (x3.i.trans x5.i) q, by omega⟩
  · have e : i = as.length := by omega
    subst e
    rw [List.drop_of_length_le (Nat.le_refl _)] at hrs
    cases hrs
    rw [List.append_nil] at hds
    subst hds
    refine .inl ⟨hW.st I2 H2 x2.i x2.s hh2.base, kk _ I2 H2 (x1.trans x2) ⟨D, ws, rfl, x1.h.free hD, hI2, hH2, ?_, hp⟩⟩
    have := hW.len
    omega
/-- [elt for tg in iter if ..] -/
theorem me_lcF {scope : Scope} {own : List (Str × Nat)} {m : Option (List α)} {gt : TG} {put : α → SL → SL} {ts : List Nat} {t : α → Option Bool} {f : α → Option β} (hN : X.N.Nodup) (hi : MI X g B S tg iter m) (hb : blkC X.N X.env.scope scope own = true) (hts : ∀ i ∈ ts, i ∈ own.map (·.2))
    (hG : ∀ (s : Shared) (H : Hp) (C : Addr) (cl : List (Str × Addr)) (fp : List Addr), MG (X.blk s H scope (compEnvC scope cl C X.env) fp) g tg gt put ts)
    (ht : ∀ (s : Shared) (H : Hp) (C : Addr) (cl : List (Str × Addr)) (fp : List Addr) (a : α), MTs (X.blk s H scope (compEnvC scope cl C X.env) fp) g B (put a (wipeS S (own.map (·.2)))) ifs (t a))
    (he : ∀ (s : Shared) (H : Hp) (C : Addr) (cl : List (Str × Addr)) (fp : List Addr) (a : α), ME (X.blk s H scope (compEnvC scope cl C X.env) fp) g B (put a (wipeS S (own.map (·.2)))) elt (f a) (KI g)) (hc : X.calm = true := by rfl) (hs : ∀ x, foldedSetIterable iter X.env x = pure x := by intro _; rfl) :
    ME X g B S (.ListComp elt [⟨tg, iter, ifs, 0⟩] scope pos) (m >>= fun as => lcF t f as) (fun bs => .fr (rl g bs)) := by
  refine ⟨fun bs q => ?_⟩
  obtain ⟨as, q1, q2⟩ := bind_some q
  refine pe_imp (pe_lc (g := gt) (tt := rdTs g B (fun a => put a (wipeS S (own.map (·.2)))) t) (te := rdEs g B (fun a => put a (wipeS S (own.map (·.2)))) f) hc hN (hi.run as q1) (blkOk_by hb) (fun s H C cl fp => (hG s H C cl fp).pg)
    (fun s H C cl fp => ⟨fun pins st σ H Q I ⟨a, b, I2, e1, h, k⟩ => ((ht _ _ C cl fp a).run b e1).run pins st σ H Q I ⟨I2, h, k⟩⟩)
    (fun s H C cl fp => ⟨fun pins st σ H Q I ⟨a, b, I2, e1, h, k⟩ => ((he _ _ C cl fp a).run b e1).run pins st σ H Q I ⟨I2, h, k⟩⟩) hs) fun σ H Q hq => ?_
  exact lc_use hts (hG X.s_0 X.H_0 0 [] []).ok q2 hq
theorem me_lc {scope : Scope} {own : List (Str × Nat)} {m : Option (List α)} {gt : TG} {put : α → SL → SL} {ts : List Nat} {f : α → Option β} (hN : X.N.Nodup) (hi : MI X g B S tg iter m) (hb : blkC X.N X.env.scope scope own = true) (hts : ∀ i ∈ ts, i ∈ own.map (·.2))
    (hG : ∀ (s : Shared) (H : Hp) (C : Addr) (cl : List (Str × Addr)) (fp : List Addr), MG (X.blk s H scope (compEnvC scope cl C X.env) fp) g tg gt put ts)
    (he : ∀ (s : Shared) (H : Hp) (C : Addr) (cl : List (Str × Addr)) (fp : List Addr) (a : α), ME (X.blk s H scope (compEnvC scope cl C X.env) fp) g B (put a (wipeS S (own.map (·.2)))) elt (f a) (KI g)) (hc : X.calm = true := by rfl) (hs : ∀ x, foldedSetIterable iter X.env x = pure x := by intro _; rfl) :
    ME X g B S (.ListComp elt [⟨tg, iter, [], 0⟩] scope pos) (m >>= fun as => lcM f as) (fun bs => .fr (rl g bs)) :=
  (me_lcF (t := fun _ => some true) hN hi hb hts hG (fun _ _ _ _ _ _ => mts_nil) he hc hs).eq (by cases m with
    | none => rfl
    | some as => exact lcF_all f as)
/-- name = [..] on one line -/
theorem mb_setLcF (i : Nat) {x : Str} {scope : Scope} {own : List (Str × Nat)} {m : Option (List α)} {gt : TG} {put : α → SL → SL} {ts : List Nat} {t : α → Option Bool} {f : α → Option β} {fr : List β → Option o} (hN : X.N.Nodup) (hx : X.env.scope.names.lookup x = some .local) (hsw : swapsWith (.ListComp elt [⟨tg, iter, ifs, 0⟩] scope pos) (some (.Name x p)) pos'.line X.env = pure true) (hi : MI X g B S tg iter m) (hb : blkC X.N X.env.scope scope own = true) (hts : ∀ i ∈ ts, i ∈ own.map (·.2))
    (hG : ∀ (s : Shared) (H : Hp) (C : Addr) (cl : List (Str × Addr)) (fp : List Addr), MG (X.blk s H scope (compEnvC scope cl C X.env) fp) g tg gt put ts)
    (ht : ∀ (s : Shared) (H : Hp) (C : Addr) (cl : List (Str × Addr)) (fp : List Addr) (a : α), MTs (X.blk s H scope (compEnvC scope cl C X.env) fp) g B (put a (wipeS S (own.map (·.2)))) ifs (t a))
    (he : ∀ (s : Shared) (H : Hp) (C : Addr) (cl : List (Str × Addr)) (fp : List Addr) (a : α), ME (X.blk s H scope (compEnvC scope cl C X.env) fp) g B (put a (wipeS S (own.map (·.2)))) elt (f a) (KI g))
    (hr : ∀ bs, MB X g B J (S.set i (some (.fr (rl g bs)))) rest (fr bs) K) (hy : X.N[i]? = some x := by rfl) (hc : X.calm = true := by rfl) (hs : ∀ x, foldedSetIterable iter X.env x = pure x := by intro _; rfl) :
    MB X g B J S (.Assign [.Name x p] (.ListComp elt [⟨tg, iter, ifs, 0⟩] scope pos) pos' :: rest) (m >>= fun as => lcF t f as >>= fr) K := by
  refine ⟨fun r q => ?_⟩
  obtain ⟨as, q1, q⟩ := bind_some q
  obtain ⟨bs, q2, q3⟩ := bind_some q
  refine pss_imp (pss_cons (ps_setLc (i := i) (g := gt) (tt := rdTs g B (fun a => put a (wipeS S (own.map (·.2)))) t) (te := rdEs g B (fun a => put a (wipeS S (own.map (·.2)))) f) hc hN hy hx hsw (hi.run as q1) (blkOk_by hb) (fun s H C cl fp => (hG s H C cl fp).pg)
    (fun s H C cl fp => ⟨fun pins st σ H Q I ⟨a, b, I2, e1, h, k⟩ => ((ht _ _ C cl fp a).run b e1).run pins st σ H Q I ⟨I2, h, k⟩⟩)
    (fun s H C cl fp => ⟨fun pins st σ H Q I ⟨a, b, I2, e1, h, k⟩ => ((he _ _ C cl fp a).run b e1).run pins st σ H Q I ⟨I2, h, k⟩⟩) hs) ((hr bs).run r q3)) fun D σ H ⟨I, ok, kk⟩ => ?_
  exact lc_use (Q := fun x H1 => gName i x σ H1 (fun σ H => ∃ I, Ok g B J (List.set S i (some (RK.fr (rl g bs)))) σ I H ∧ K r D)) hts (hG X.s_0 X.H_0 0 [] []).ok q2 ⟨I, ok.h, fun v I' H' x hv => ⟨I', ok.put x rfl hv, kk⟩⟩
theorem mb_setLc (i : Nat) {x : Str} {scope : Scope} {own : List (Str × Nat)} {m : Option (List α)} {gt : TG} {put : α → SL → SL} {ts : List Nat} {f : α → Option β} {fr : List β → Option o} (hN : X.N.Nodup) (hx : X.env.scope.names.lookup x = some .local) (hsw : swapsWith (.ListComp elt [⟨tg, iter, [], 0⟩] scope pos) (some (.Name x p)) pos'.line X.env = pure true) (hi : MI X g B S tg iter m) (hb : blkC X.N X.env.scope scope own = true) (hts : ∀ i ∈ ts, i ∈ own.map (·.2))
    (hG : ∀ (s : Shared) (H : Hp) (C : Addr) (cl : List (Str × Addr)) (fp : List Addr), MG (X.blk s H scope (compEnvC scope cl C X.env) fp) g tg gt put ts)
    (he : ∀ (s : Shared) (H : Hp) (C : Addr) (cl : List (Str × Addr)) (fp : List Addr) (a : α), ME (X.blk s H scope (compEnvC scope cl C X.env) fp) g B (put a (wipeS S (own.map (·.2)))) elt (f a) (KI g))
    (hr : ∀ bs, MB X g B J (S.set i (some (.fr (rl g bs)))) rest (fr bs) K) (hy : X.N[i]? = some x := by rfl) (hc : X.calm = true := by rfl) (hs : ∀ x, foldedSetIterable iter X.env x = pure x := by intro _; rfl) :
    MB X g B J S (.Assign [.Name x p] (.ListComp elt [⟨tg, iter, [], 0⟩] scope pos) pos' :: rest) (m >>= fun as => lcM f as >>= fr) K :=
  (mb_setLcF (t := fun _ => some true) i hN hx hsw hi hb hts hG (fun _ _ _ _ _ _ => mts_nil) he hr hy hc hs).eq (by cases m with
    | none => rfl
    | some as => exact congrArg (fun z => z >>= fr) (lcF_all f as))
end
end T
set_option Elab.async false
set_option linter.all false
set_option maxRecDepth 100000
namespace T
open PySem PySem.Spec PyProof.Rows L2

/-- behind a loop that may leave, within a turn of another -/
def Ctl.up {β β2 γ ρ : Type} (f : β → Option (Ctl β2 γ ρ)) : Ctl β Empty ρ → Option (Ctl β2 γ ρ)
  | .nx b => f b
  | .rt r => some (.rt r)
  | .ct c => c.elim
  | .bk c => c.elim
theorem loopN_pure {α γ : Type} (f : γ → α → γ) : ∀ (as : List α) (s : γ), loopN (fun s a => some (f s a)) as s = some (as.foldl f s)
  | [], s => rfl
  | a :: as, s => loopN_pure f as (f s a)
theorem lcM_pure {α β : Type} (f : α → β) : ∀ as : List α, lcM (fun a => some (f a)) as = some (as.map f)
  | [] => rfl
  | a :: as => by
    show (lcM (fun a => some (f a)) as >>= fun bs => some (f a :: bs)) = _
    rw [lcM_pure f as]; rfl
theorem lcF_pure {α β : Type} (t : α → Bool) (f : α → β) : ∀ as : List α, lcF (fun a => some (t a)) (fun a => some (f a)) as = some ((as.filter t).map f)
  | [] => rfl
  | a :: as => by
    show (if t a = true then (lcF (fun a => some (t a)) (fun a => some (f a)) as >>= fun ys => some (f a :: ys)) else lcF (fun a => some (t a)) (fun a => some (f a)) as) = _
    rw [lcF_pure t f as, List.filter_cons]
    cases h : t a with
    | true => rw [if_pos rfl, if_pos rfl]; rfl
    | false => rw [if_neg Bool.false_ne_true, if_neg Bool.false_ne_true]
/-- lo, lo + c, .. -/
def rng3 (lo c : Int) (n : Nat) : List Int := (List.range n).map fun (i : Nat) => lo + (i : Int) * c
def rng3Ok (i j c : Int) : Bool := decide (0 < c ∧ c < 1073741824) && Builtin.Range.small i j c && decide ((Builtin.Range.rangeSize i j c).toNat ≤ sizeLine)
@[irreducible] def rng3O (i j c : Int) : Option (List Int) := if rng3Ok i j c = true then some (rng3 i c (Builtin.Range.rangeSize i j c).toNat) else none
theorem rng3_get {lo c : Int} {n i : Nat} (h : i < n) : (rng3 lo c n)[i]? = some (lo + (i : Int) * c) := by
  unfold rng3
  rw [List.getElem?_map, List.getElem?_range h]
  rfl
theorem rng3_len {lo c : Int} {n : Nat} : (rng3 lo c n).length = n := by
  unfold rng3
  rw [List.length_map, List.length_range]
theorem walk_rng3 {g : Gb} {B : Bs} {lo c : Int} {n : Nat} {I1 : Hp} (hn : n ≤ sizeLine) : WalkI g B (Itc lo c n) (rng3 lo c n) I1 where
  go := fun i x I2 H2 e _ _ _ => by
    have := (List.getElem?_eq_some_iff.mp e).1
    rw [rng3_len] at this
    exact this
  yl := fun i x I2 H2 v H' e s1 s2 s3 y => by
    have hi := (List.getElem?_eq_some_iff.mp e).1
    rw [rng3_len] at hi
    rw [rng3_get hi] at e
    cases e
    obtain ⟨rfl, rfl⟩ := y
    exact ⟨I2, Ext.refl s2, rfl⟩
  st := fun I2 H2 _ _ _ => by
    rw [rng3_len]
    exact Nat.le_refl _
  len := by
    rw [rng3_len]
    exact hn
/-! isinstance: known by the kind of thing -/
/-- things of one built-in type -/
class IsT (α : Type) [Py α] where
  ty : String
  ok : ∀ {g : Gb} {a : α} {I : Hp} {v : V}, (Py.r g a).p I v → TyX g.K I v (.type ty)
theorem tyx_sq {K : PySem.W.Frag} {H : Hp} {l : Addr} {vs : List V} (h : SqL K H l vs) : TyX K H (.ref l) (.type "list") := by
  rcases h with (h | ⟨o, h⟩) | ⟨o, its, n, h1, h2, _⟩
  · exact .base (.lst h)
  · exact .base (.frz h)
  · exact .kList h1 h2
theorem tyx_tq {K : PySem.W.Frag} {H : Hp} {l : Addr} {vs : List V} (h : SqT K H l vs) : TyX K H (.ref l) (.type "tuple") := by
  rcases h with (h | ⟨o, h⟩) | ⟨o, its, n, h1, h2, _⟩
  · exact .base (.tup h)
  · exact .fTuple h
  · exact .kTuple h1 h2
instance : IsT Int := ⟨"int", fun h => by cases h; exact .base (.int _)⟩
instance : IsT Bool := ⟨"bool", fun h => by cases h; exact .base (.bl _)⟩
instance : IsT Str := ⟨"str", fun h => by cases h; exact .base (.str _)⟩
section
variable {α β γ δ : Type} [Py α] [Py β] [Py γ] [Py δ]
instance : IsT (T2 α β) := ⟨"tuple", fun h => by obtain ⟨_, _, _, rfl, h, _⟩ := h; exact tyx_tq h⟩
instance : IsT (T3 α β γ) := ⟨"tuple", fun h => by obtain ⟨_, _, _, _, rfl, h, _⟩ := h; exact tyx_tq h⟩
instance : IsT (T4 α β γ δ) := ⟨"tuple", fun h => by obtain ⟨_, _, _, _, _, rfl, h, _⟩ := h; exact tyx_tq h⟩
theorem tyx_mono {K : PySem.W.Frag} {H H' : Hp} {v : V} {t : Value} (s : Same H H') (h : TyX K H v t) : TyX K H' v t := by
  cases h with
  | base h =>
    cases h with
    | non => exact .base .non
    | bl x => exact .base (.bl x)
    | int x => exact .base (.int x)
    | str x => exact .base (.str x)
    | flt x => exact .base (.flt x)
    | lst e => exact .base (.lst (s _ _ e))
    | frz e => exact .base (.frz (s _ _ e))
    | tup e => exact .base (.tup (s _ _ e))
    | dK e => exact .base (.dK (s _ _ e))
    | dT e => exact .base (.dT (s _ _ e))
    | ins e cl ha hn htk hm => exact .base (.ins (s _ _ e) cl ha hn htk hm)
  | byt b => exact .byt b
  | set e => exact .set (s _ _ e)
  | kList e c => exact .kList e c
  | kTuple e c => exact .kTuple e c
  | kDict e c => exact .kDict e c
  | fTuple e => exact .fTuple (s _ _ e)
  | fDict e => exact .fDict (s _ _ e)
end
/-- a thing of kind k is of the type t -/
def TR {α' : Type} (g : Gb) (k : α' → RK) (t : Value) : Prop := ∀ a H0 v I H, Same I H → RK.holds g (k a) H0 v I H → TyX g.K H v t
section
variable {X : Cx} {g : Gb} {B : Bs} {J : Hp} {S : SL} {e e1 e2 e3 tg : Expr} {es : List Expr} {pos pos' p p2 : Pos} {o α' β' γ' ρ : Type} {K : KT o} {rest body : List Stmt} {α β : Type} [Py α] [Py β] {m : Option (List α)} {k : List α → RK}
theorem tr_im [i : IsT α] : TR (α' := α) g (KI g) (.type i.ty) := fun a H0 v I H s h => tyx_mono s (IsT.ok h)
theorem tr_lr {k : List α → RK} (h : LR g k) : TR g k (.type "list") := fun a H0 v I H s q => by
  obtain ⟨l, vs, rfl, h1, _⟩ := h a H0 v I H s q
  exact tyx_sq h1
theorem me_isi {m1 : Option α'} {k1 : α' → RK} {x : Str} {t Ty : String} {b : Bool} (hm : X.mg "isinstance" = none) (hm2 : X.mg x = none) (h : ME X g B S e m1 k1) (hT : TR g k1 (.type t)) (hk : kitB t Ty = some b) (hv : bootBuiltins x = some (.type Ty)) (hg : Gl X "isinstance" := by rfl) (hg2 : Gl X x := by rfl) (hK : X.K = g.K := by rfl) (hn : x ≠ "__name__" := by decide) (hd : (x == ("__debug__" : Str)) = false := by decide)
    (he : starEach [e, .Name x p2] X.env = (false, eval e X.env) :: starEach [.Name x p2] X.env := by rfl) (he2 : starEach [.Name x p2] X.env = (false, eval (.Name x p2) X.env) :: starEach [] X.env := by rfl) (hpl : (backTo pos (starEach [.Name x p2] X.env)).any (·.1) = false := by rfl) :
    ME X g B S (.Call (.Name "isinstance" p) [e, .Name x p2] [] pos) (m1 >>= fun _ => some b) (KI g) := by
  refine ⟨fun n q => ?_⟩
  obtain ⟨a, q1, q2⟩ := bind_some q
  cases q2
  refine pe_imp (pe_callB call_isi hg hm (by decide +kernel) (pa_cons (h.run a q1) (pa_cons (pe_bltn (v := .ty Ty) hg2 hm2 hv rfl hn hd) pa_nil he2) he) (he := he) (hpl := hpl)) fun σ H Q ⟨I, hh, kk⟩ => ⟨I, hh, fun v I' H' xx hv => ?_⟩
  exact ⟨v, .ty Ty, .type t, .type Ty, b, rfl, .ty Ty, by rw [hK]; exact hT a _ _ _ _ xx.s hv, by rw [hK]; exact kit_ty hk, kk _ I' H' xx rfl⟩
theorem mi_rng3 {m1 m2 m3 : Option Int} (hm : X.mg "range" = none) (h1 : ME X g B S e1 m1 (KI g)) (h2 : ME X g B S e2 m2 (KI g)) (h3 : ME X g B S e3 m3 (KI g)) (hg : Gl X "range" := by rfl) (hs : starEach [e1, e2, e3] X.env = (false, eval e1 X.env) :: starEach [e2, e3] X.env := by rfl) (hs2 : starEach [e2, e3] X.env = (false, eval e2 X.env) :: starEach [e3] X.env := by rfl) (hs3 : starEach [e3] X.env = (false, eval e3 X.env) :: starEach [] X.env := by rfl) (hpl : (backTo pos (starEach [e2, e3] X.env)).any (·.1) = false := by rfl) :
    MI X g B S tg (.Call (.Name "range" p) [e1, e2, e3] [] pos) (m1 >>= fun a => m2 >>= fun b => m3 >>= fun c => rng3O a b c) := by
  refine ⟨fun as q => ?_⟩
  obtain ⟨a, q1, q⟩ := bind_some q
  obtain ⟨b, q2, q⟩ := bind_some q
  obtain ⟨c, q3, q⟩ := bind_some q
  unfold rng3O at q
  by_cases hn : rng3Ok a b c = true
  · rw [if_pos hn] at q
    cases q
    unfold rng3Ok at hn
    rw [Bool.and_eq_true, Bool.and_eq_true, decide_eq_true_eq, decide_eq_true_eq] at hn
    obtain ⟨⟨hc, hs'⟩, hz⟩ := hn
    refine pi_imp (pi_range3 hg hm (pa_cons (h1.run a q1) (pa_cons (h2.run b q2) (pa_cons (h3.run c q3) pa_nil hs3) hs2) hs) hs hpl) fun σ H R ⟨I, hh, k⟩ => ⟨I, hh, fun v I1 H1 x1 hv => ⟨I1, hh.ext x1, fun w I2 H2 x2 hw => ⟨I2, (hh.ext x1).ext x2, fun u I3 H3 x3 hu => ⟨a, b, c, (Builtin.Range.rangeSize a b c).toNat, by cases hv; cases hw; cases hu; rfl, ⟨by omega, by omega, hs', ?_⟩, k _ I3 H3 ((x1.trans x2).trans x3) (walk_rng3 hz)⟩⟩⟩⟩
    have : 0 ≤ Builtin.Range.rangeSize a b c := by
      unfold Builtin.Range.rangeSize
      split
      · split
        · have := Int.ediv_nonneg (a := b - a - 1) (b := c) (by omega) (by omega)
          omega
        · omega
      · first | omega | (split <;> omega)
    omega
  · rw [if_neg hn] at q
    cases q
/-- is, is not a written truth -/
theorem mc_isB {j : Nat} {c : Bool} {m1 : Option Bool} (h : ME X g B S e m1 (KI g)) : MC X g B S (.Compare e [.Is] [.Constant (.bool c) j pos'] pos) (m1 >>= fun a => some (a == c)) :=
  (mc_cmp (m2 := some c) op_isBl h (me_bl (b := c)) (f := fun a b => some (a == b)) (fun a b c q v w I H H0 H1 Q s hv hw kk => by
    cases q
    cases hv
    cases hw
    refine ⟨a, b, rfl, rfl, ?_⟩
    have e : decide (a = b) = (a == b) := by cases a <;> cases b <;> rfl
    rw [e]
    exact kk _ _ _ (Ext.refl s) rfl)).eq (by cases m1 <;> rfl)
theorem mc_ntB {j : Nat} {c : Bool} {m1 : Option Bool} (h : ME X g B S e m1 (KI g)) : MC X g B S (.Compare e [.IsNot] [.Constant (.bool c) j pos'] pos) (m1 >>= fun a => some (!(a == c))) :=
  (mc_cmp (m2 := some c) op_notBl h (me_bl (b := c)) (f := fun a b => some (!(a == b))) (fun a b c q v w I H H0 H1 Q s hv hw kk => by
    cases q
    cases hv
    cases hw
    refine ⟨a, b, rfl, rfl, ?_⟩
    have e : decide (a = b) = (a == b) := by cases a <;> cases b <;> rfl
    rw [e]
    exact kk _ _ _ (Ext.refl s) rfl)).eq (by cases m1 <;> rfl)
theorem me_any {m : Option (List Bool)} {k : List Bool → RK} (hm : X.mg "any" = none) (h : ME X g B S e m k) (r : LR g k := by first | exact lr_im | exact lr_fr | exact lr_rd) (hg : Gl X "any" := by rfl) (hK : X.K = g.K := by rfl) (hc : X.calm = true := by rfl) (he : starEach [e] X.env = (false, eval e X.env) :: starEach [] X.env := by rfl) (hpl : (backTo pos (starEach [] X.env)).any (·.1) = false := by rfl) :
    ME X g B S (.Call (.Name "any" p) [e] [] pos) (m >>= fun xs => some (xs.any id)) (KI g) := by
  refine ⟨fun n q => ?_⟩
  obtain ⟨xs, q1, q2⟩ := bind_some q
  cases q2
  refine pe_imp (pe_callB (cr_any hc) hg hm (by decide +kernel) (pa_cons (h.run xs q1) pa_nil he) (he := he) (hpl := hpl)) fun σ H Q ⟨I, hh, kk⟩ => ⟨I, hh, fun v I' H' x hv => ?_⟩
  obtain ⟨l, vs, rfl, h1, h2⟩ := r xs _ _ _ _ x.s hv
  have e1 := vals_bls h2.2
  subst e1
  exact ⟨l, xs, rfl, by rw [hK]; exact h1, kk _ I' H' x rfl⟩
theorem me_all {m : Option (List Bool)} {k : List Bool → RK} (hm : X.mg "all" = none) (h : ME X g B S e m k) (r : LR g k := by first | exact lr_im | exact lr_fr | exact lr_rd) (hg : Gl X "all" := by rfl) (hK : X.K = g.K := by rfl) (hc : X.calm = true := by rfl) (he : starEach [e] X.env = (false, eval e X.env) :: starEach [] X.env := by rfl) (hpl : (backTo pos (starEach [] X.env)).any (·.1) = false := by rfl) :
    ME X g B S (.Call (.Name "all" p) [e] [] pos) (m >>= fun xs => some (xs.all id)) (KI g) := by
  refine ⟨fun n q => ?_⟩
  obtain ⟨xs, q1, q2⟩ := bind_some q
  cases q2
  refine pe_imp (pe_callB (cr_all hc) hg hm (by decide +kernel) (pa_cons (h.run xs q1) pa_nil he) (he := he) (hpl := hpl)) fun σ H Q ⟨I, hh, kk⟩ => ⟨I, hh, fun v I' H' x hv => ?_⟩
  obtain ⟨l, vs, rfl, h1, h2⟩ := r xs _ _ _ _ x.s hv
  have e1 := vals_bls h2.2
  subst e1
  exact ⟨l, xs, rfl, by rw [hK]; exact h1, kk _ I' H' x rfl⟩
end
end T
set_option Elab.async false
set_option linter.all false
set_option maxRecDepth 100000
namespace T
open PySem PySem.Spec PyProof.Rows L2
/-! the same rules where nothing can fail -/
section
variable {X : Cx} {g : Gb} {B : Bs} {J : Hp} {S : SL} {e e1 e2 e3 tg elt iter : Expr} {es ifs : List Expr} {pos pos' p p2 p3 apos cpos : Pos} {o α' β' γ' ρ : Type} {K : KT o} {rest body : List Stmt} {α β γ δ : Type} [Py α] [Py β] [Py γ] [Py δ]
theorem me_ifP {a' : Type} {c : Bool} {a b : a'} {k : a' → RK} (hc : MT X g B S e (some c)) (h1 : ME X g B S e1 (some a) k) (h2 : ME X g B S e2 (some b) k) (hb : ∀ c, (k c).isB = false := by intro _; rfl) : ME X g B S (.IfExp e e1 e2 pos) (some (if c = true then a else b)) k :=
  (me_if hc h1 h2 hb).eq (by cases c <;> rfl)
theorem mc_chnP {op op' : CmpOp} {f f' : Int → Int → Bool} {a b c : Int} (ho : OpR X (compareOp op) (rI0 fun i j => .bl (f i j))) (ho' : OpR X (compareOp op') (rI0 fun i j => .bl (f' i j)))
    (h1 : ME X g B S e1 (some a) (KI g)) (h2 : ME X g B S e2 (some b) (KI g)) (h3 : ME X g B S e3 (some c) (KI g)) (hm : lastMarks [op, op'] [e2, e3] = false := by with_unfolding_all rfl) :
    MC X g B S (.Compare e1 [op, op'] [e2, e3] pos) (some (f a b && f' b c)) :=
  (mc_chn ho ho' h1 h2 h3 hm).eq (by
    show (if f a b = true then some (f' b c) else some false) = _
    cases f a b <;> rfl)
theorem mb_if2P {c : Bool} {a b : o} {b1 b2 : List Stmt} (hc : MT X g B S e (some c)) (h1 : MB X g B J S b1 (some a) K) (h2 : MB X g B J S b2 (some b) K) : MB X g B J S [.If e b1 b2 pos] (some (if c = true then a else b)) K :=
  (mb_if2 hc h1 h2).eq (by cases c <;> rfl)
theorem mb_iftP {c : Bool} {a b : o} {b1 : List Stmt} (hc : MT X g B S e (some c)) (h1 : MB X g B J S b1 (some a) K) (h2 : MB X g B J S rest (some b) K) (hK : ∀ r D nx, some a = some r → K r D → K r { D with nx := nx }) : MB X g B J S (.If e b1 [] pos :: rest) (some (if c = true then a else b)) K :=
  (mb_ift hc h1 h2 hK).eq (by cases c <;> rfl)
theorem mb_ifP {c : Bool} {a1 a2 : β'} {b1 b2 : List Stmt} {S' : β' → SL} {f : β' → Option o} (hc : MT X g B S e (some c)) (h1 : MB X g B J S b1 (some a1) (Kn g B J S')) (h2 : MB X g B J S b2 (some a2) (Kn g B J S')) (hb : ∀ b, MB X g B J (S' b) rest (f b) K) :
    MB X g B J S (.If e b1 b2 pos :: rest) (f (if c = true then a1 else a2)) K :=
  (mb_if hc h1 h2 hb).eq (by cases c <;> rfl)
theorem mb_forP {m : Option (List α)} {put : α → SL → SL} {S' : β' → SL} {s0 : β'} {fb : β' → α → β'} {f : β' → Option o} (hp : PassesOwn (model X.prog X.w) X.A X.env X.xe) (hi : MI X g B S tg e m) {gt : TG} {ts : List Nat} (hG : MG X g tg gt put ts) (w : Wk S (S' s0))
    (hb : ∀ J s a, MB X g B J (put a (S' s)) body (some (fb s a)) (Kn g B J S')) (hr : ∀ s, MB X g B J (S' s) rest (f s) K) (hc : X.calm = true := by rfl) (hs : ∀ x, foldedSetIterable e X.env x = pure x := by intro _; rfl) :
    MB X g B J S (.For tg e body [] pos :: rest) (m >>= fun as => f (as.foldl fb s0)) K :=
  (mb_for hp hi hG w hb hr hc hs).eq (by
    cases m with
    | none => rfl
    | some as =>
      show (loopN (fun s a => some (fb s a)) as s0 >>= f) = f (as.foldl fb s0)
      rw [loopN_pure]; rfl)
theorem me_lcFP {scope : Scope} {own : List (Str × Nat)} {m : Option (List α)} {gt : TG} {put : α → SL → SL} {ts : List Nat} {t : α → Bool} {f : α → β} (hN : X.N.Nodup) (hi : MI X g B S tg iter m) (hb : blkC X.N X.env.scope scope own = true) (hts : ∀ i ∈ ts, i ∈ own.map (·.2))
    (hG : ∀ (s : Shared) (H : Hp) (C : Addr) (cl : List (Str × Addr)) (fp : List Addr), MG (X.blk s H scope (compEnvC scope cl C X.env) fp) g tg gt put ts)
    (ht : ∀ (s : Shared) (H : Hp) (C : Addr) (cl : List (Str × Addr)) (fp : List Addr) (a : α), MTs (X.blk s H scope (compEnvC scope cl C X.env) fp) g B (put a (wipeS S (own.map (·.2)))) ifs (some (t a)))
    (he : ∀ (s : Shared) (H : Hp) (C : Addr) (cl : List (Str × Addr)) (fp : List Addr) (a : α), ME (X.blk s H scope (compEnvC scope cl C X.env) fp) g B (put a (wipeS S (own.map (·.2)))) elt (some (f a)) (KI g)) (hc : X.calm = true := by rfl) (hs : ∀ x, foldedSetIterable iter X.env x = pure x := by intro _; rfl) :
    ME X g B S (.ListComp elt [⟨tg, iter, ifs, 0⟩] scope pos) (m >>= fun as => some ((as.filter t).map f)) (fun bs => .fr (rl g bs)) :=
  (me_lcF hN hi hb hts hG ht he hc hs).eq (by cases m with
    | none => rfl
    | some as => exact lcF_pure t f as)
theorem me_lcP {scope : Scope} {own : List (Str × Nat)} {m : Option (List α)} {gt : TG} {put : α → SL → SL} {ts : List Nat} {f : α → β} (hN : X.N.Nodup) (hi : MI X g B S tg iter m) (hb : blkC X.N X.env.scope scope own = true) (hts : ∀ i ∈ ts, i ∈ own.map (·.2))
    (hG : ∀ (s : Shared) (H : Hp) (C : Addr) (cl : List (Str × Addr)) (fp : List Addr), MG (X.blk s H scope (compEnvC scope cl C X.env) fp) g tg gt put ts)
    (he : ∀ (s : Shared) (H : Hp) (C : Addr) (cl : List (Str × Addr)) (fp : List Addr) (a : α), ME (X.blk s H scope (compEnvC scope cl C X.env) fp) g B (put a (wipeS S (own.map (·.2)))) elt (some (f a)) (KI g)) (hc : X.calm = true := by rfl) (hs : ∀ x, foldedSetIterable iter X.env x = pure x := by intro _; rfl) :
    ME X g B S (.ListComp elt [⟨tg, iter, [], 0⟩] scope pos) (m >>= fun as => some (as.map f)) (fun bs => .fr (rl g bs)) :=
  (me_lc hN hi hb hts hG he hc hs).eq (by cases m with
    | none => rfl
    | some as => exact lcM_pure f as)
theorem mb_setLcFP (i : Nat) {x : Str} {scope : Scope} {own : List (Str × Nat)} {m : Option (List α)} {gt : TG} {put : α → SL → SL} {ts : List Nat} {t : α → Bool} {f : α → β} {fr : List β → Option o} (hN : X.N.Nodup) (hx : X.env.scope.names.lookup x = some .local) (hsw : swapsWith (.ListComp elt [⟨tg, iter, ifs, 0⟩] scope pos) (some (.Name x p)) pos'.line X.env = pure true) (hi : MI X g B S tg iter m) (hb : blkC X.N X.env.scope scope own = true) (hts : ∀ i ∈ ts, i ∈ own.map (·.2))
    (hG : ∀ (s : Shared) (H : Hp) (C : Addr) (cl : List (Str × Addr)) (fp : List Addr), MG (X.blk s H scope (compEnvC scope cl C X.env) fp) g tg gt put ts)
    (ht : ∀ (s : Shared) (H : Hp) (C : Addr) (cl : List (Str × Addr)) (fp : List Addr) (a : α), MTs (X.blk s H scope (compEnvC scope cl C X.env) fp) g B (put a (wipeS S (own.map (·.2)))) ifs (some (t a)))
    (he : ∀ (s : Shared) (H : Hp) (C : Addr) (cl : List (Str × Addr)) (fp : List Addr) (a : α), ME (X.blk s H scope (compEnvC scope cl C X.env) fp) g B (put a (wipeS S (own.map (·.2)))) elt (some (f a)) (KI g))
    (hr : ∀ bs, MB X g B J (S.set i (some (.fr (rl g bs)))) rest (fr bs) K) (hy : X.N[i]? = some x := by rfl) (hc : X.calm = true := by rfl) (hs : ∀ x, foldedSetIterable iter X.env x = pure x := by intro _; rfl) :
    MB X g B J S (.Assign [.Name x p] (.ListComp elt [⟨tg, iter, ifs, 0⟩] scope pos) pos' :: rest) (m >>= fun as => fr ((as.filter t).map f)) K :=
  (mb_setLcF i hN hx hsw hi hb hts hG ht he hr hy hc hs).eq (by cases m with
    | none => rfl
    | some as =>
      show (lcF (fun a => some (t a)) (fun a => some (f a)) as >>= fr) = _
      rw [lcF_pure]; rfl)
theorem mb_setLcP (i : Nat) {x : Str} {scope : Scope} {own : List (Str × Nat)} {m : Option (List α)} {gt : TG} {put : α → SL → SL} {ts : List Nat} {f : α → β} {fr : List β → Option o} (hN : X.N.Nodup) (hx : X.env.scope.names.lookup x = some .local) (hsw : swapsWith (.ListComp elt [⟨tg, iter, [], 0⟩] scope pos) (some (.Name x p)) pos'.line X.env = pure true) (hi : MI X g B S tg iter m) (hb : blkC X.N X.env.scope scope own = true) (hts : ∀ i ∈ ts, i ∈ own.map (·.2))
    (hG : ∀ (s : Shared) (H : Hp) (C : Addr) (cl : List (Str × Addr)) (fp : List Addr), MG (X.blk s H scope (compEnvC scope cl C X.env) fp) g tg gt put ts)
    (he : ∀ (s : Shared) (H : Hp) (C : Addr) (cl : List (Str × Addr)) (fp : List Addr) (a : α), ME (X.blk s H scope (compEnvC scope cl C X.env) fp) g B (put a (wipeS S (own.map (·.2)))) elt (some (f a)) (KI g))
    (hr : ∀ bs, MB X g B J (S.set i (some (.fr (rl g bs)))) rest (fr bs) K) (hy : X.N[i]? = some x := by rfl) (hc : X.calm = true := by rfl) (hs : ∀ x, foldedSetIterable iter X.env x = pure x := by intro _; rfl) :
    MB X g B J S (.Assign [.Name x p] (.ListComp elt [⟨tg, iter, [], 0⟩] scope pos) pos' :: rest) (m >>= fun as => fr (as.map f)) K :=
  (mb_setLc i hN hx hsw hi hb hts hG he hr hy hc hs).eq (by cases m with
    | none => rfl
    | some as =>
      show (lcM (fun a => some (f a)) as >>= fr) = _
      rw [lcM_pure]; rfl)
end
end T
set_option Elab.async false
set_option linter.all false
set_option maxRecDepth 100000
namespace T
open PySem PySem.Spec PyProof.Rows L2
/-- behind a loop that no value leaves -/
def Ctl.upN {β β2 : Type} (f : β → Option β2) : Ctl β Empty Empty → Option β2
  | .nx b => f b
  | .rt r => r.elim
  | .ct c => c.elim
  | .bk c => c.elim
theorem kr_n {g : Gb} {B : Bs} {o : Type} {K : KT o} {k : Empty → RK} : KR g B K (fun r : Empty => r.elim) k := fun r => r.elim
theorem bindP {α β : Type} (a : α) (f : α → Option β) : ((some a : Option α) >>= f) = f a := rfl
section
variable {X : Cx} {g : Gb} {B : Bs} {J : Hp} {S : SL} {e tg c : Expr} {pos : Pos} {o α β β2 γ γ2 ρ : Type} {K : KT o} {rest body : List Stmt} [Py α]
/-- loops that may be left: at a def's level; within a turn or a part that may leave; where only their own turns are left -/
theorem mb_forT {m : Option (List α)} {put : α → SL → SL} {S' : γ → SL} {s0 : γ} {k : ρ → RK} {fb : γ → α → Option (Ctl γ γ ρ)} {f : γ → Option ρ} (hi : MI X g B S tg e m) {gt : TG} {ts : List Nat} (hG : MG X g tg gt put ts) (w : Wk S (S' s0))
    (hb : ∀ J s a, MB X g B J (put a (S' s)) body (fb s a) (Kc g B J S' S' k)) (hr : ∀ s, MB X g B J (S' s) rest (f s) (Kt g B k)) (hp : PassesOwn (model X.prog X.w) X.A X.env X.xe := by exact PassesOwn.never) (hc : X.calm = true := by rfl) (hs : ∀ x, foldedSetIterable e X.env x = pure x := by intro _; rfl) :
    MB X g B J S (.For tg e body [] pos :: rest) (m >>= fun as => loopC fb as s0 >>= Ctl.seqT f) (Kt g B k) :=
  mb_forC kr_t hp hi hG w hb hr (fun _ => rfl) (fun _ => rfl) hc hs
theorem mb_forU {m : Option (List α)} {put : α → SL → SL} {S' : γ → SL} {S2 : β2 → SL} {T2 : γ2 → SL} {s0 : γ} {k : ρ → RK} {fb : γ → α → Option (Ctl γ γ ρ)} {f : γ → Option (Ctl β2 γ2 ρ)} (hi : MI X g B S tg e m) {gt : TG} {ts : List Nat} (hG : MG X g tg gt put ts) (w : Wk S (S' s0))
    (hb : ∀ J s a, MB X g B J (put a (S' s)) body (fb s a) (Kc g B J S' S' k)) (hr : ∀ s, MB X g B J (S' s) rest (f s) (Kc g B J S2 T2 k)) (hp : PassesOwn (model X.prog X.w) X.A X.env X.xe := by exact PassesOwn.never) (hc : X.calm = true := by rfl) (hs : ∀ x, foldedSetIterable e X.env x = pure x := by intro _; rfl) :
    MB X g B J S (.For tg e body [] pos :: rest) (m >>= fun as => loopC fb as s0 >>= Ctl.up f) (Kc g B J S2 T2 k) :=
  mb_forC kr_c hp hi hG w hb hr (fun _ => rfl) (fun _ => rfl) hc hs
theorem mb_forN {m : Option (List α)} {put : α → SL → SL} {S' : γ → SL} {s0 : γ} {fb : γ → α → Option (Ctl γ γ Empty)} {f : γ → Option o} (hi : MI X g B S tg e m) {gt : TG} {ts : List Nat} (hG : MG X g tg gt put ts) (w : Wk S (S' s0))
    (hb : ∀ J s a, MB X g B J (put a (S' s)) body (fb s a) (Kc g B J S' S' (fun z : Empty => z.elim))) (hr : ∀ s, MB X g B J (S' s) rest (f s) K) (hp : PassesOwn (model X.prog X.w) X.A X.env X.xe := by exact PassesOwn.never) (hc : X.calm = true := by rfl) (hs : ∀ x, foldedSetIterable e X.env x = pure x := by intro _; rfl) :
    MB X g B J S (.For tg e body [] pos :: rest) (m >>= fun as => loopC fb as s0 >>= Ctl.upN f) K :=
  mb_forC (inj := fun r : Empty => r.elim) kr_n hp hi hG w hb hr (fun _ => rfl) (fun r => r.elim) hc hs
theorem mb_whileT (N : Nat) {S' : γ → SL} {s0 : γ} {k : ρ → RK} {cm : γ → Option Bool} {fb : γ → Option (Ctl γ γ ρ)} {f : γ → Option ρ} (w : Wk S (S' s0)) (hc : ∀ s, MT X g B (S' s) c (cm s)) (hb : ∀ s, MB X g B J (S' s) body (fb s) (Kc g B J S' S' k)) (hr : ∀ s, MB X g B J (S' s) rest (f s) (Kt g B k))
    (hp : PassesOwn (model X.prog X.w) X.A X.env X.xe := by exact PassesOwn.never) : MB X g B J S (.While c body [] pos :: rest) (whileC cm fb N s0 >>= Ctl.seqT f) (Kt g B k) :=
  mb_while N kr_t hp w hc hb hr (fun _ => rfl) (fun _ => rfl)
theorem mb_whileU (N : Nat) {S' : γ → SL} {S2 : β2 → SL} {T2 : γ2 → SL} {s0 : γ} {k : ρ → RK} {cm : γ → Option Bool} {fb : γ → Option (Ctl γ γ ρ)} {f : γ → Option (Ctl β2 γ2 ρ)} (w : Wk S (S' s0)) (hc : ∀ s, MT X g B (S' s) c (cm s)) (hb : ∀ s, MB X g B J (S' s) body (fb s) (Kc g B J S' S' k)) (hr : ∀ s, MB X g B J (S' s) rest (f s) (Kc g B J S2 T2 k))
    (hp : PassesOwn (model X.prog X.w) X.A X.env X.xe := by exact PassesOwn.never) : MB X g B J S (.While c body [] pos :: rest) (whileC cm fb N s0 >>= Ctl.up f) (Kc g B J S2 T2 k) :=
  mb_while N kr_c hp w hc hb hr (fun _ => rfl) (fun _ => rfl)
theorem mb_whileN (N : Nat) {S' : γ → SL} {s0 : γ} {cm : γ → Option Bool} {fb : γ → Option (Ctl γ γ Empty)} {f : γ → Option o} (w : Wk S (S' s0)) (hc : ∀ s, MT X g B (S' s) c (cm s)) (hb : ∀ s, MB X g B J (S' s) body (fb s) (Kc g B J S' S' (fun z : Empty => z.elim))) (hr : ∀ s, MB X g B J (S' s) rest (f s) K)
    (hp : PassesOwn (model X.prog X.w) X.A X.env X.xe := by exact PassesOwn.never) : MB X g B J S (.While c body [] pos :: rest) (whileC cm fb N s0 >>= Ctl.upN f) K :=
  mb_while (inj := fun r : Empty => r.elim) N kr_n hp w hc hb hr (fun _ => rfl) (fun r => r.elim)
end
end T
set_option Elab.async false
set_option linter.all false
set_option maxRecDepth 100000
namespace T
open PySem PySem.Spec PyProof.Rows L2
/-! what is known ahead of a step is put in -/
section
variable {X : Cx} {g : Gb} {B : Bs} {J : Hp} {S : SL} {e tg : Expr} {oe : Option Expr} {es ifs : List Expr} {sts : List Stmt} {α β γ δ ε : Type}
theorem ME.p1 {a : α} {f : α → Option δ} {r : Option δ} {k : δ → RK} (h : ME X g B S e (some a >>= f) k) (q : f a = r := by exact rfl) : ME X g B S e r k := q ▸ h
theorem ME.p2 {m : Option α} {b : β} {f : α → β → Option δ} {r : Option δ} {k : δ → RK} (h : ME X g B S e (m >>= fun a => some b >>= f a) k) (q : (m >>= fun a => f a b) = r := by exact rfl) : ME X g B S e r k := q ▸ h
theorem ME.p3 {m : Option α} {m2 : α → Option β} {c : γ} {f : α → β → γ → Option δ} {r : Option δ} {k : δ → RK} (h : ME X g B S e (m >>= fun a => m2 a >>= fun b => some c >>= f a b) k) (q : (m >>= fun a => m2 a >>= fun b => f a b c) = r := by exact rfl) : ME X g B S e r k := q ▸ h
theorem MT.p1 {a : α} {f : α → Option Bool} {r : Option Bool} (h : MT X g B S e (some a >>= f)) (q : f a = r := by exact rfl) : MT X g B S e r := q ▸ h
theorem MT.p2 {m : Option α} {b : β} {f : α → β → Option Bool} {r : Option Bool} (h : MT X g B S e (m >>= fun a => some b >>= f a)) (q : (m >>= fun a => f a b) = r := by exact rfl) : MT X g B S e r := q ▸ h
theorem MT.p3 {m : Option α} {m2 : α → Option β} {c : γ} {f : α → β → γ → Option Bool} {r : Option Bool} (h : MT X g B S e (m >>= fun a => m2 a >>= fun b => some c >>= f a b)) (q : (m >>= fun a => m2 a >>= fun b => f a b c) = r := by exact rfl) : MT X g B S e r := q ▸ h
theorem MC.p1 {a : α} {f : α → Option Bool} {r : Option Bool} (h : MC X g B S e (some a >>= f)) (q : f a = r := by exact rfl) : MC X g B S e r := q ▸ h
theorem MC.p2 {m : Option α} {b : β} {f : α → β → Option Bool} {r : Option Bool} (h : MC X g B S e (m >>= fun a => some b >>= f a)) (q : (m >>= fun a => f a b) = r := by exact rfl) : MC X g B S e r := q ▸ h
theorem MC.p3 {m : Option α} {m2 : α → Option β} {c : γ} {f : α → β → γ → Option Bool} {r : Option Bool} (h : MC X g B S e (m >>= fun a => m2 a >>= fun b => some c >>= f a b)) (q : (m >>= fun a => m2 a >>= fun b => f a b c) = r := by exact rfl) : MC X g B S e r := q ▸ h
theorem MW.p1 {a : α} {f : α → Option Bool} {r : Option Bool} (h : MW X g B S e (some a >>= f)) (q : f a = r := by exact rfl) : MW X g B S e r := q ▸ h
theorem MW.p2 {m : Option α} {b : β} {f : α → β → Option Bool} {r : Option Bool} (h : MW X g B S e (m >>= fun a => some b >>= f a)) (q : (m >>= fun a => f a b) = r := by exact rfl) : MW X g B S e r := q ▸ h
theorem MW.p3 {m : Option α} {m2 : α → Option β} {c : γ} {f : α → β → γ → Option Bool} {r : Option Bool} (h : MW X g B S e (m >>= fun a => m2 a >>= fun b => some c >>= f a b)) (q : (m >>= fun a => m2 a >>= fun b => f a b c) = r := by exact rfl) : MW X g B S e r := q ▸ h
theorem MTs.p1 {a : α} {f : α → Option Bool} {r : Option Bool} (h : MTs X g B S ifs (some a >>= f)) (q : f a = r := by exact rfl) : MTs X g B S ifs r := q ▸ h
theorem MTs.p2 {m : Option α} {b : β} {f : α → β → Option Bool} {r : Option Bool} (h : MTs X g B S ifs (m >>= fun a => some b >>= f a)) (q : (m >>= fun a => f a b) = r := by exact rfl) : MTs X g B S ifs r := q ▸ h
theorem MTs.p3 {m : Option α} {m2 : α → Option β} {c : γ} {f : α → β → γ → Option Bool} {r : Option Bool} (h : MTs X g B S ifs (m >>= fun a => m2 a >>= fun b => some c >>= f a b)) (q : (m >>= fun a => m2 a >>= fun b => f a b c) = r := by exact rfl) : MTs X g B S ifs r := q ▸ h
theorem MI.p1 [Py δ] {a : α} {f : α → Option (List δ)} {r : Option (List δ)} (h : MI X g B S tg e (some a >>= f)) (q : f a = r := by exact rfl) : MI X g B S tg e r := q ▸ h
theorem MI.p2 [Py δ] {m : Option α} {b : β} {f : α → β → Option (List δ)} {r : Option (List δ)} (h : MI X g B S tg e (m >>= fun a => some b >>= f a)) (q : (m >>= fun a => f a b) = r := by exact rfl) : MI X g B S tg e r := q ▸ h
theorem MI.p3 [Py δ] {m : Option α} {m2 : α → Option β} {c : γ} {f : α → β → γ → Option (List δ)} {r : Option (List δ)} (h : MI X g B S tg e (m >>= fun a => m2 a >>= fun b => some c >>= f a b)) (q : (m >>= fun a => m2 a >>= fun b => f a b c) = r := by exact rfl) : MI X g B S tg e r := q ▸ h
theorem MSt.p1 [Py δ] {a : α} {f : α → Option (List δ)} {r : Option (List δ)} (h : MSt X g B S e (some a >>= f)) (q : f a = r := by exact rfl) : MSt X g B S e r := q ▸ h
theorem MSt.p2 [Py δ] {m : Option α} {b : β} {f : α → β → Option (List δ)} {r : Option (List δ)} (h : MSt X g B S e (m >>= fun a => some b >>= f a)) (q : (m >>= fun a => f a b) = r := by exact rfl) : MSt X g B S e r := q ▸ h
theorem MSt.p3 [Py δ] {m : Option α} {m2 : α → Option β} {c : γ} {f : α → β → γ → Option (List δ)} {r : Option (List δ)} (h : MSt X g B S e (m >>= fun a => m2 a >>= fun b => some c >>= f a b)) (q : (m >>= fun a => m2 a >>= fun b => f a b c) = r := by exact rfl) : MSt X g B S e r := q ▸ h
theorem ML.p1 [Py δ] {a : α} {f : α → Option (List δ)} {r : Option (List δ)} (h : ML X g B S es (some a >>= f)) (q : f a = r := by exact rfl) : ML X g B S es r := q ▸ h
theorem ML.p2 [Py δ] {m : Option α} {b : β} {f : α → β → Option (List δ)} {r : Option (List δ)} (h : ML X g B S es (m >>= fun a => some b >>= f a)) (q : (m >>= fun a => f a b) = r := by exact rfl) : ML X g B S es r := q ▸ h
theorem ML.p3 [Py δ] {m : Option α} {m2 : α → Option β} {c : γ} {f : α → β → γ → Option (List δ)} {r : Option (List δ)} (h : ML X g B S es (m >>= fun a => m2 a >>= fun b => some c >>= f a b)) (q : (m >>= fun a => m2 a >>= fun b => f a b c) = r := by exact rfl) : ML X g B S es r := q ▸ h
theorem MO.p1 {a : α} {f : α → Option (Option Int)} {r : Option (Option Int)} (h : MO X g B S oe (some a >>= f)) (q : f a = r := by exact rfl) : MO X g B S oe r := q ▸ h
theorem MO.p2 {m : Option α} {b : β} {f : α → β → Option (Option Int)} {r : Option (Option Int)} (h : MO X g B S oe (m >>= fun a => some b >>= f a)) (q : (m >>= fun a => f a b) = r := by exact rfl) : MO X g B S oe r := q ▸ h
theorem MO.p3 {m : Option α} {m2 : α → Option β} {c : γ} {f : α → β → γ → Option (Option Int)} {r : Option (Option Int)} (h : MO X g B S oe (m >>= fun a => m2 a >>= fun b => some c >>= f a b)) (q : (m >>= fun a => m2 a >>= fun b => f a b c) = r := by exact rfl) : MO X g B S oe r := q ▸ h
theorem MB.p1 {a : α} {f : α → Option δ} {r : Option δ} {K : KT δ} (h : MB X g B J S sts (some a >>= f) K) (q : f a = r := by exact rfl) : MB X g B J S sts r K := q ▸ h
theorem MB.p2 {m : Option α} {b : β} {f : α → β → Option δ} {r : Option δ} {K : KT δ} (h : MB X g B J S sts (m >>= fun a => some b >>= f a) K) (q : (m >>= fun a => f a b) = r := by exact rfl) : MB X g B J S sts r K := q ▸ h
theorem MB.p3 {m : Option α} {m2 : α → Option β} {c : γ} {f : α → β → γ → Option δ} {r : Option δ} {K : KT δ} (h : MB X g B J S sts (m >>= fun a => m2 a >>= fun b => some c >>= f a b) K) (q : (m >>= fun a => m2 a >>= fun b => f a b c) = r := by exact rfl) : MB X g B J S sts r K := q ▸ h
theorem MA.p1 {ι : Type} {dvs : List V} {args : ι → List RK} {a : α} {f : α → Option δ} {r : Option δ} {M : ι → Option δ} (h : MA X g B S es dvs args (some a >>= f) M) (q : f a = r := by exact rfl) : MA X g B S es dvs args r M := q ▸ h
theorem ma_nl {o : Type} {M : Unit → Option o} {r : Option o} (q : M () = r := by exact rfl) : MA X g B S [] [] (fun _ : Unit => []) r M := q ▸ ma_nil
end
theorem paired_ints {g : Gb} {I : Hp} : ∀ ns : List Int, Paired (fun a v => (Py.r g a).p I v) ns (ns.map V.int)
  | [] => .nil
  | _ :: ns => .cons rfl (paired_ints ns)
/-- a law's own promise -/
def spL (K : PySem.W.Frag) : Sp := fun vs H Q _ => ∃ (a : Addr) (ns : List Int), vs = [.ref a] ∧ SqL K H a (ns.map V.int) ∧ ns.length ≤ 63 ∧ ∀ H', Q (.bl true) H'
theorem fin_bw {P : Program} {w : World} {K : PySem.W.Frag} {mg : Str → Option Value} {base : Heap} {k : Nat} {f : Addr} {fd : FuncData} {ps : List Str} {M : List Int → Option Bool} (hM : ∀ ns : List Int, ns.length ≤ 63 → M ns = some true)
    (F : FnOk P w K mg base CX0 k f fd ps (spT (Gb.mk K mg) (fun p : List Int × Unit => [.bw (rl (Gb.mk K mg) p.1)]) (fun p => M p.1) (fun r => .im (Py.r (Gb.mk K mg) (r : Bool))))) : FnOk P w K mg base CX0 k f fd ps (spL K) :=
  F.imp fun vs H Q E ⟨a, ns, e, hS, hl, q⟩ => by
    subst e
    exact ⟨H, (ns, ()), true, Same.refl H, .cons ⟨a, _, rfl, hS, Nat.le_trans hl (by decide), paired_ints ns⟩ .nil, hM ns hl, fun v I' H' _ hv => by cases hv; exact q H'⟩
theorem fin_im {P : Program} {w : World} {K : PySem.W.Frag} {mg : Str → Option Value} {base : Heap} {k : Nat} {f : Addr} {fd : FuncData} {ps : List Str} {M : List Int → Option Bool} (hM : ∀ ns : List Int, ns.length ≤ 63 → M ns = some true)
    (F : FnOk P w K mg base CX0 k f fd ps (spT (Gb.mk K mg) (fun p : List Int × Unit => [.im (Py.r (Gb.mk K mg) p.1)]) (fun p => M p.1) (fun r => .im (Py.r (Gb.mk K mg) (r : Bool))))) : FnOk P w K mg base CX0 k f fd ps (spL K) :=
  F.imp fun vs H Q E ⟨a, ns, e, hS, hl, q⟩ => by
    subst e
    exact ⟨H, (ns, ()), true, Same.refl H, .cons ⟨a, _, rfl, hS, Nat.le_trans hl (by decide), paired_ints ns⟩ .nil, hM ns hl, fun v I' H' _ hv => by cases hv; exact q H'⟩
end T
set_option Elab.async false
set_option linter.all false
set_option maxRecDepth 100000
namespace T
open PySem PySem.Spec PyProof.Rows L2
/-! owned trees -/
def oI (r : PR) : OR := ⟨fun I _ v => r.p I v, fun s h => r.mono s h⟩
def oF (q : PL) : OR := ⟨fun I F v => ∃ l vs, v = .ref l ∧ F l = some (.lst vs) ∧ q.p I vs, fun s ⟨l, vs, e, h, q'⟩ => ⟨l, vs, e, h, q.mono s q'⟩⟩
/-- children side by side in F, none at the root -/
structure Kids (os : List OR) (I F : Hp) (vs : List V) (l : Addr) : Prop where
  len : os.length = vs.length
  ex : ∃ Ψ : Nat → Hp, (∀ (j : Nat) (o : OR) (v : V), os[j]? = some o → vs[j]? = some v → o.p I (Ψ j) v) ∧ (∀ j, Same (Ψ j) F) ∧ (∀ j, Ψ j l = none) ∧ (∀ i j a, Ψ i a ≠ none → Ψ j a ≠ none → i = j)
theorem Kids.mono {os : List OR} {I I' F : Hp} {vs : List V} {l : Addr} (s : Same I I') (h : Kids os I F vs l) : Kids os I' F vs l := by
  obtain ⟨h1, Ψ, a, b⟩ := h
  exact ⟨h1, Ψ, fun j o v e1 e2 => o.mono s (a j o v e1 e2), b⟩
def oC (W : List V → HO → Prop) (os : List OR) : OR := ⟨fun I F v => ∃ l ob vs, v = .ref l ∧ F l = some ob ∧ W vs ob ∧ Kids os I F vs l, fun s ⟨l, ob, vs, e, h, w, k⟩ => ⟨l, ob, vs, e, h, w, k.mono s⟩⟩
def wL : List V → HO → Prop := fun vs ob => ob = .lst vs ∧ vs.length ≤ sizeLine
def wT : List V → HO → Prop := fun vs ob => ob = .tup vs
def wI (g : Gb) (c : Str) (names : List Str) : List V → HO → Prop := fun vs ob => ∃ C dx, g.mg c = some (.ref C) ∧ ob = .ins C dx (names.zip vs) ∧ names.length = vs.length
/-- an instance that stays -/
def rIns (g : Gb) (c : Str) (names : List Str) (rs : List PR) : PR where
  p := fun I v => ∃ l C dx vs, v = .ref l ∧ g.mg c = some (.ref C) ∧ I l = some (.ins C dx (names.zip vs)) ∧ names.length = vs.length ∧ Paired (fun (r : PR) v => r.p I v) rs vs
  mono := fun s ⟨l, C, dx, vs, e, h1, h2, h3, h4⟩ => ⟨l, C, dx, vs, e, h1, s _ _ h2, h3, L2.Paired.mapP h4 fun r _ q => r.mono s q⟩
/-! let go -/
theorem frz_I {r : PR} : Frz (oI r) r := fun I F v hd h => r.mono (un_l hd) h
theorem frz_F {g : Gb} {α : Type} [Py α] {as : List α} : Frz (oF (rl g as)) (Py.r g as) := fun I F v hd ⟨l, vs, e, h1, h2⟩ => by subst e; exact frz_list hd h1 h2
theorem un_same {I F Ψ : Hp} (hd : ∀ a, F a ≠ none → I a = none) (s : Same Ψ F) : Same (Un I Ψ) (Un I F) := fun a o e => by
  rcases un_some e with e | ⟨e1, e2⟩
  · exact un_r (s a o e)
  · cases q : F a with
    | none => rw [un_none q]; exact e2
    | some u => have := hd a (ne_of_some q); rw [this] at e2; cases e2
theorem kids_frz {g : Gb} {os : List OR} {rs : List PR} {I F : Hp} {vs : List V} {l : Addr} (hd : ∀ a, F a ≠ none → I a = none) (z : Paired Frz os rs) (h : Kids os I F vs l) : Paired (fun (r : PR) v => r.p (Un I F) v) rs vs := by
  obtain ⟨hl, Ψ, h1, h2, _, _⟩ := h
  have key : ∀ (os : List OR) (rs : List PR) (vs : List V) (Ψ : Nat → Hp), Paired Frz os rs → os.length = vs.length → (∀ (j : Nat) (o : OR) (v : V), os[j]? = some o → vs[j]? = some v → o.p I (Ψ j) v) → (∀ j, Same (Ψ j) F) → Paired (fun (r : PR) v => r.p (Un I F) v) rs vs := by
    intro os rs vs Ψ z
    induction z generalizing vs Ψ with
    | nil =>
      intro hl _ _
      cases vs with
      | nil => exact .nil
      | cons _ _ => cases hl
    | cons zf _ ih =>
      intro hl h1 h2
      cases vs with
      | nil => cases hl
      | cons v vs =>
        refine .cons ?_ (ih vs (fun j => Ψ (j + 1)) (by simpa using hl) (fun j o v e1 e2 => h1 (j + 1) o v (by simpa using e1) (by simpa using e2)) fun j => h2 (j + 1))
        have hp := h1 0 _ v rfl rfl
        have hd0 : ∀ a, Ψ 0 a ≠ none → I a = none := fun a ha => hd a (same_ne (h2 0) ha)
        exact PR.mono _ (un_same hd (h2 0)) (zf I (Ψ 0) v hd0 hp)
  exact key os rs vs Ψ z hl h1 h2
theorem frz_C {g : Gb} {c : Str} {names : List Str} {os : List OR} {rs : List PR} (z : Paired Frz os rs) : Frz (oC (wI g c names) os) (rIns g c names rs) := fun I F v hd ⟨l, ob, vs, e, h, ⟨C, dx, h1, h2, h3⟩, k⟩ => by
  subst e h2
  exact ⟨l, C, dx, vs, rfl, h1, un_r h, h3, kids_frz (g := g) hd z k⟩
theorem paired_map {α : Type} {g : Gb} [Py α] {k : α → OR} (z : ∀ a, Frz (k a) (Py.r g a)) : ∀ as : List α, Paired Frz (as.map k) (as.map (Py.r g))
  | [] => .nil
  | a :: as => .cons (z a) (paired_map z as)
theorem paired_unmap {α β γ : Type} {F : β → γ → Prop} {f : α → β} : ∀ {as : List α} {vs : List γ}, Paired F (as.map f) vs → Paired (fun a v => F (f a) v) as vs
  | [], _, .nil => .nil
  | _ :: _, _, .cons h t => .cons h (paired_unmap t)
theorem frz_L {α : Type} {g : Gb} [Py α] {k : α → OR} (z : ∀ a, Frz (k a) (Py.r g a)) {as : List α} : Frz (oC wL (as.map k)) (Py.r g as) := fun I F v hd ⟨l, ob, vs, e, h, ⟨h2, h3⟩, kd⟩ => by
  subst e h2
  have hl : as.length = vs.length := by have := kd.len; rwa [List.length_map] at this
  exact ⟨l, vs, rfl, SqL.of (un_r h), by omega, paired_unmap (kids_frz (g := g) hd (paired_map z as) kd)⟩
section
variable {g : Gb} {α β γ δ : Type} [Py α] [Py β] [Py γ] [Py δ] {o0 o1 o2 o3 : OR}
theorem frz_T2 {t : T2 α β} (z0 : Frz o0 (Py.r g t.x0)) (z1 : Frz o1 (Py.r g t.x1)) : Frz (oC wT [o0, o1]) (Py.r g t) := fun I F v hd ⟨l, ob, vs, e, h, h2, kd⟩ => by
  subst e h2
  have hp := kids_frz (g := g) hd (.cons z0 (.cons z1 .nil)) kd
  cases hp with
  | cons p0 hp =>
    cases hp with
    | cons p1 hp =>
      cases hp
      exact ⟨l, _, _, rfl, SqT.of (un_r h), p0, p1⟩
theorem frz_T3 {t : T3 α β γ} (z0 : Frz o0 (Py.r g t.x0)) (z1 : Frz o1 (Py.r g t.x1)) (z2 : Frz o2 (Py.r g t.x2)) : Frz (oC wT [o0, o1, o2]) (Py.r g t) := fun I F v hd ⟨l, ob, vs, e, h, h2, kd⟩ => by
  subst e h2
  have hp := kids_frz (g := g) hd (.cons z0 (.cons z1 (.cons z2 .nil))) kd
  cases hp with
  | cons p0 hp =>
    cases hp with
    | cons p1 hp =>
      cases hp with
      | cons p2 hp =>
        cases hp
        exact ⟨l, _, _, _, rfl, SqT.of (un_r h), p0, p1, p2⟩
end
/-- a kind as an owned one -/
def RK.orOf : RK → OR
  | .im p => oI p
  | .fr q => oF q
  | .ow o => o
  | .bw q => oF q
  | .rd q => oF q
  | .bo o => o
  | .ro o => o
theorem RK.fragO {g : Gb} {k : RK} {H : Hp} {v : V} {I' H' : Hp} (hk : k.slotty = true) (h : RK.holds g k H v I' H') : ∃ F : Hp, (∀ a, F a ≠ none → H a = none ∧ I' a = none) ∧ Same F H' ∧ k.orOf.p I' F v := by
  obtain ⟨F, f1, f2, f3⟩ := RK.frag hk h
  refine ⟨F, f1, f2, ?_⟩
  have f4 := f3 H
  cases k with
  | im p => exact f4
  | fr q => exact f4
  | ow o => exact f4
  | bw q => cases hk
  | rd q => cases hk
  | bo q => cases hk
  | ro q => cases hk
/-! a part of an owned tree -/
def Rp (F F1 F1' : Hp) : Hp := fun a => match F1' a with
  | some o => some o
  | none => match F1 a with
    | some _ => none
    | none => F a
theorem rp_new {F F1 F1' : Hp} {a : Addr} {o : HO} (h : F1' a = some o) : Rp F F1 F1' a = some o := by unfold Rp; rw [h]
theorem rp_gone {F F1 F1' : Hp} {a : Addr} (h : F1' a = none) (h2 : F1 a ≠ none) : Rp F F1 F1' a = none := by
  unfold Rp
  rw [h]
  cases q : F1 a with
  | none => exact absurd q h2
  | some o => rfl
theorem rp_old {F F1 F1' : Hp} {a : Addr} (h : F1' a = none) (h2 : F1 a = none) : Rp F F1 F1' a = F a := by unfold Rp; rw [h, h2]
theorem rp_self {F F' : Hp} : Rp F F F' = F' := by
  funext a
  cases q : F' a with
  | some o => exact rp_new q
  | none =>
    cases r : F a with
    | none => rw [rp_old q r, r]
    | some o => exact rp_gone q (ne_of_some r)
theorem rp_ne {F F1 F1' : Hp} {a : Addr} (h : Rp F F1 F1' a ≠ none) : F1' a ≠ none ∨ F a ≠ none := by
  cases q : F1' a with
  | some o => exact .inl (by simp)
  | none =>
    cases r : F1 a with
    | none => rw [rp_old q r] at h; exact .inr h
    | some o => rw [rp_gone q (ne_of_some r)] at h; exact absurd rfl h
/-- v1 is the part of v that o1 tells; mk says what the whole is with another part -/
def FocAt (o1 : OR) (mk : OR → OR) (I F : Hp) (v v1 : V) : Prop := ∃ F1, Same F1 F ∧ o1.p I F1 v1 ∧ ∀ (o' : OR) (I' F1' : Hp), Same I I' → (∀ a, F1' a ≠ none → F1 a ≠ none ∨ F a = none) → o'.p I' F1' v1 → (mk o').p I' (Rp F F1 F1') v
theorem FocAt.mono {o1 : OR} {mk : OR → OR} {I I' F : Hp} {v v1 : V} (s : Same I I') (h : FocAt o1 mk I F v v1) : FocAt o1 mk I' F v v1 := by
  obtain ⟨F1, h1, h2, h3⟩ := h
  exact ⟨F1, h1, o1.mono s h2, fun o' I2 F1' s2 => h3 o' I2 F1' (s.trans s2)⟩
theorem foc_self {o : OR} {I F : Hp} {v : V} (h : o.p I F v) : FocAt o (fun o => o) I F v v := ⟨F, Same.refl _, h, fun o' I' F1' _ _ h' => by rw [rp_self]; exact h'⟩
theorem set_get {α : Type} {xs : List α} {j i : Nat} {x y : α} (h : (xs.set j x)[i]? = some y) : (i = j ∧ y = x) ∨ (i ≠ j ∧ xs[i]? = some y) := by
  rcases set_some h with ⟨a, b, _⟩ | ⟨a, b⟩
  · exact .inl ⟨a.symm, b.symm⟩
  · exact .inr ⟨fun z => a z.symm, b⟩
theorem foc_kid {W : List V → HO → Prop} {os : List OR} {mk : OR → OR} {I F : Hp} {v v1 : V} {j : Nat} {oj : OR} (hj : os[j]? = some oj) (h : FocAt (oC W os) mk I F v v1) : ∃ l ob vs uj, v1 = .ref l ∧ F l = some ob ∧ W vs ob ∧ os.length = vs.length ∧ vs[j]? = some uj ∧ FocAt oj (fun o' => mk (oC W (os.set j o'))) I F v uj := by
  obtain ⟨F1, s1, ⟨l, ob, vs, e, hl, w, hlen, Ψ, k1, k2, k3, k4⟩, h3⟩ := h
  have hjl : j < vs.length := by rw [← hlen]; exact (List.getElem?_eq_some_iff.mp hj).1
  have hu : vs[j]? = some vs[j] := List.getElem?_eq_getElem hjl
  refine ⟨l, ob, vs, vs[j], e, s1 _ _ hl, w, hlen, hu, Ψ j, (k2 j).trans s1, k1 j oj _ hj hu, fun o' I' F2 sI nF ho => ?_⟩
  have F2l : F2 l = none := by
    cases q : F2 l with
    | none => rfl
    | some u =>
      rcases nF l (ne_of_some q) with z | z
      · exact absurd (k3 j) z
      · rw [s1 _ _ hl] at z; cases z
  have apart : ∀ i a, i ≠ j → Ψ i a ≠ none → F2 a = none := fun i a hi ha => by
    cases q : F2 a with
    | none => rfl
    | some u =>
      rcases nF a (ne_of_some q) with z | z
      · exact absurd (k4 i j a ha z) hi
      · exact absurd z (same_ne ((k2 i).trans s1) ha)
  have hp : (oC W (os.set j o')).p I' (Rp F1 (Ψ j) F2) v1 := by
    refine ⟨l, ob, vs, e, ?_, w, ?_, putF Ψ j F2, fun i o u e1 e2 => ?_, fun i a o e => ?_, fun i => ?_, fun i m a e1 e2 => ?_⟩
    · rw [rp_old F2l (k3 j)]; exact hl
    · rw [List.length_set]; exact hlen
    · rcases set_get e1 with ⟨a, b⟩ | ⟨a, b⟩
      · subst a b
        rw [hu] at e2
        cases e2
        rw [putF_same]; exact ho
      · rw [putF_ne a]; exact o.mono sI (k1 i o u b e2)
    · by_cases hi : i = j
      · rw [hi, putF_same] at e
        exact rp_new e
      · rw [putF_ne hi] at e
        have hn := ne_of_some e
        have hj0 : Ψ j a = none := by
          cases q : Ψ j a with
          | none => rfl
          | some u => exact absurd (k4 i j a hn (ne_of_some q)) hi
        rw [rp_old (apart i a hi hn) hj0]
        exact k2 i a o e
    · by_cases hi : i = j
      · rw [hi, putF_same]; exact F2l
      · rw [putF_ne hi]; exact k3 i
    · by_cases hi : i = j
      · by_cases hm : m = j
        · rw [hi, hm]
        · rw [hi, putF_same] at e1
          rw [putF_ne hm] at e2
          exact absurd (apart m a hm e2) e1
      · by_cases hm : m = j
        · rw [hm, putF_same] at e2
          rw [putF_ne hi] at e1
          exact absurd (apart i a hi e1) e2
        · rw [putF_ne hi] at e1
          rw [putF_ne hm] at e2
          exact k4 i m a e1 e2
  have h4 := h3 (oC W (os.set j o')) I' (Rp F1 (Ψ j) F2) sI (fun a ha => by
    rcases rp_ne ha with z | z
    · rcases nF a z with y | y
      · exact .inl (same_ne (k2 j) y)
      · exact .inr y
    · exact .inl z) hp
  have e5 : Rp F F1 (Rp F1 (Ψ j) F2) = Rp F (Ψ j) F2 := by
    funext a
    cases q : F2 a with
    | some o => rw [rp_new (rp_new q), rp_new q]
    | none =>
      cases r : Ψ j a with
      | some o =>
        rw [rp_gone (F := F) q (ne_of_some r), rp_gone (rp_gone q (ne_of_some r)) (same_ne (k2 j) (ne_of_some r))]
      | none =>
        rw [rp_old (F := F) q r]
        cases t : F1 a with
        | some o => rw [rp_new (by rw [rp_old q r]; exact t), s1 _ _ t]
        | none => rw [rp_old (by rw [rp_old q r]; exact t) t]
  rw [e5] at h4
  exact h4
end T
set_option Elab.async false
set_option linter.all false
set_option maxRecDepth 100000
namespace T
open PySem PySem.Spec PyProof.Rows L2
/-! writing into an owned tree -/
def NewF (F : Hp) (l : Addr) (ob : HO) (F' : Hp) : Hp := fun a => if a = l then some ob else match F' a with
  | some o => some o
  | none => F a
theorem newF_root {F F' : Hp} {l : Addr} {ob : HO} : NewF F l ob F' l = some ob := by unfold NewF; rw [if_pos rfl]
theorem newF_new {F F' : Hp} {l a : Addr} {ob o : HO} (h : a ≠ l) (e : F' a = some o) : NewF F l ob F' a = some o := by unfold NewF; rw [if_neg h, e]
theorem newF_old {F F' : Hp} {l a : Addr} {ob : HO} (h : a ≠ l) (e : F' a = none) : NewF F l ob F' a = F a := by unfold NewF; rw [if_neg h, e]
theorem newF_ne {F F' : Hp} {l a : Addr} {ob : HO} (h : NewF F l ob F' a ≠ none) : a = l ∨ F' a ≠ none ∨ F a ≠ none := by
  by_cases e : a = l
  · exact .inl e
  · cases q : F' a with
    | some o => exact .inr (.inl (by simp))
    | none => rw [newF_old e q] at h; exact .inr (.inr h)
theorem rp_newF {F F1 F' : Hp} {l : Addr} {ob ob0 : HO} (s : Same F1 F) (hl : F1 l = some ob0) : Rp F F1 (NewF F1 l ob F') = NewF F l ob F' := by
  funext a
  by_cases e : a = l
  · subst e; rw [rp_new newF_root, newF_root]
  · cases q : F' a with
    | some o => rw [rp_new (newF_new e q), newF_new e q]
    | none =>
      rw [newF_old e q]
      cases r : F1 a with
      | some o => rw [rp_new (by rw [newF_old e q]; exact r), s _ _ r]
      | none => rw [rp_old (by rw [newF_old e q]; exact r) r]
theorem foc_root {W : List V → HO → Prop} {os : List OR} {mk : OR → OR} {I F : Hp} {v v1 : V} (h : FocAt (oC W os) mk I F v v1) : ∃ l ob vs, v1 = .ref l ∧ F l = some ob ∧ W vs ob ∧ os.length = vs.length ∧
    ∀ (W' : List V → HO → Prop) (os' : List OR) (vs' : List V) (ob' : HO) (j : Nat) (I' F' : Hp), Same I I' → (∀ a, F' a ≠ none → F a = none) → W' vs' ob' → os'.length = vs'.length →
      (∀ i o u, os'[i]? = some o → vs'[i]? = some u → if i = j then o.p I' F' u else os[i]? = some o ∧ vs[i]? = some u) → (mk (oC W' os')).p I' (NewF F l ob' F') v := by
  obtain ⟨F1, s1, ⟨l, ob, vs, e, hl, w, hlen, Ψ, k1, k2, k3, k4⟩, h3⟩ := h
  refine ⟨l, ob, vs, e, s1 _ _ hl, w, hlen, fun W' os' vs' ob' j I' F' sI nF w' hlen' hk => ?_⟩
  have F'l : F' l = none := by
    cases q : F' l with
    | none => rfl
    | some u => have := nF l (ne_of_some q); rw [s1 _ _ hl] at this; cases this
  have apart : ∀ i a, Ψ i a ≠ none → F' a = none := fun i a ha => by
    cases q : F' a with
    | none => rfl
    | some u => exact absurd (nF a (ne_of_some q)) (same_ne ((k2 i).trans s1) ha)
  rw [← rp_newF (F' := F') (ob := ob') s1 hl]
  refine h3 (oC W' os') I' _ sI (fun a ha => ?_) ⟨l, ob', vs', e, newF_root, w', hlen', putF Ψ j F', fun i o u e1 e2 => ?_, fun i a o ea => ?_, fun i => ?_, fun i m a e1 e2 => ?_⟩
  · rcases newF_ne ha with z | z | z
    · subst z; exact .inl (ne_of_some hl)
    · exact .inr (nF a z)
    · exact .inl z
  · have := hk i o u e1 e2
    by_cases hi : i = j
    · rw [if_pos hi] at this
      rw [hi, putF_same]; exact this
    · rw [if_neg hi] at this
      rw [putF_ne hi]
      exact o.mono sI (k1 i o u this.1 this.2)
  · by_cases hi : i = j
    · rw [hi, putF_same] at ea
      exact newF_new (fun z => by rw [z, F'l] at ea; cases ea) ea
    · rw [putF_ne hi] at ea
      have hn := ne_of_some ea
      rw [newF_old (fun z => by rw [z, k3 i] at ea; cases ea) (apart i a hn)]
      exact k2 i a o ea
  · by_cases hi : i = j
    · rw [hi, putF_same]; exact F'l
    · rw [putF_ne hi]; exact k3 i
  · by_cases hi : i = j
    · by_cases hm : m = j
      · rw [hi, hm]
      · rw [hi, putF_same] at e1
        rw [putF_ne hm] at e2
        exact absurd (apart m a e2) e1
    · by_cases hm : m = j
      · rw [hm, putF_same] at e2
        rw [putF_ne hi] at e1
        exact absurd (apart i a e1) e2
      · rw [putF_ne hi] at e1
        rw [putF_ne hm] at e2
        exact k4 i m a e1 e2
theorem foc_leaf {q : PL} {mk : OR → OR} {I F : Hp} {v v1 : V} (h : FocAt (oF q) mk I F v v1) : ∃ l vs, v1 = .ref l ∧ F l = some (.lst vs) ∧ q.p I vs ∧ ∀ (q' : PL) (vs' : List V) (I' : Hp), Same I I' → q'.p I' vs' → (mk (oF q')).p I' (NewF F l (.lst vs') fun _ => none) v := by
  obtain ⟨F1, s1, ⟨l, vs, e, hl, hq⟩, h3⟩ := h
  refine ⟨l, vs, e, s1 _ _ hl, hq, fun q' vs' I' sI hq' => ?_⟩
  rw [← rp_newF (F' := fun _ => none) (ob := .lst vs') s1 hl]
  refine h3 (oF q') I' _ sI (fun a ha => ?_) ⟨l, vs', e, newF_root, hq'⟩
  rcases newF_ne ha with z | z | z
  · subst z; exact .inl (ne_of_some hl)
  · exact absurd rfl z
  · exact .inl z
section
variable {X : Cx} {g : Gb} {B : Bs} {J : Hp} {S : SL} {σ : L2.St} {I H : Hp} {Φ : Nat → Hp} {i : Nat} {k : RK} {v : V}
/-- the heap is written within slot i's fragment -/
theorem HoldF.okw {H' F' : Hp} (x : Ext B.I B.H I H) (oj : Same J I) (h : HoldF g B S σ I H Φ) (e1 : σ[i]? = some (some v)) (sH : Same I H') (keep : ∀ a o, H a = some o → Φ i a = none → H' a = some o) (sF : Same F' H') (nF : ∀ a, F' a ≠ none → Φ i a ≠ none ∨ (I a = none ∧ B.H a = none ∧ ∀ j, Φ j a = none)) (hv : RK.inS g k B.H v I F') :
    Ok g B J (S.set i (some k)) σ I H' := by
  have other : ∀ a o, B.H a = some o → Φ i a = none := fun a o e => by
    cases q : Φ i a with
    | none => rfl
    | some u => have := (h.fr i a u q).2.2; rw [e] at this; cases this
  have sB : Same B.H H' := fun a o e => keep a o (h.base a o e) (other a o e)
  have hσ : σ.set i (some v) = σ := by
    apply List.ext_getElem?
    intro j
    by_cases hj : i = j
    · subst hj
      rw [List.getElem?_set_self (List.getElem?_eq_some_iff.mp e1).1, e1]
    · rw [List.getElem?_set_ne hj]
  refine ⟨⟨x.i, sB, sH, x.n⟩, oj, putF Φ i F', ?_⟩
  have h2 : HoldF g B (S.set i (some k)) (σ.set i (some v)) I H' (putF Φ i F') := by
    refine ⟨by rw [List.length_set, List.length_set, h.len], sH, sB, fun j k' e => ?_, fun j a o e => ?_, fun j l a hj hl => ?_⟩
    · rcases set_some e with ⟨a, b, c⟩ | ⟨a, b⟩
      · subst a
        cases b
        exact ⟨v, List.getElem?_set_self (by rw [h.len]; exact c), by rw [putF_same]; exact hv⟩
      · obtain ⟨u, e2, q⟩ := h.at_ j k' b
        exact ⟨u, by rw [List.getElem?_set_ne a]; exact e2, by rw [putF_ne (fun z => a z.symm)]; exact q⟩
    · by_cases hji : j = i
      · rw [hji, putF_same] at e
        refine ⟨sF a o e, ?_⟩
        rcases nF a (ne_of_some e) with z | ⟨z1, z2, _⟩
        · exact (h.ne z).2
        · exact ⟨z1, z2⟩
      · rw [putF_ne hji] at e
        obtain ⟨f1, f2, f3⟩ := h.fr j a o e
        refine ⟨keep a o f1 ?_, f2, f3⟩
        cases q : Φ i a with
        | none => rfl
        | some u => exact absurd (h.dj j i a (ne_of_some e) (ne_of_some q)) hji
    · have no : ∀ m, m ≠ i → F' a ≠ none → Φ m a ≠ none → False := fun m hm f1 f2 => by
        rcases nF a f1 with z | ⟨_, _, z3⟩
        · exact hm (h.dj m i a f2 z)
        · exact f2 (z3 m)
      by_cases hji : j = i
      · by_cases hli : l = i
        · rw [hji, hli]
        · rw [hji, putF_same] at hj
          rw [putF_ne hli] at hl
          exact (no l hli hj hl).elim
      · by_cases hli : l = i
        · rw [hli, putF_same] at hl
          rw [putF_ne hji] at hj
          exact (no j hji hl hj).elim
        · rw [putF_ne hji] at hj
          rw [putF_ne hli] at hl
          exact h.dj j l a hj hl
  rw [hσ] at h2
  exact h2
/-- one object of slot i's fragment gets new contents; F' comes along -/
theorem HoldF.store {l : Addr} {ob ob0 : HO} {F' : Hp} {o : OR} (x : Ext B.I B.H I H) (oj : Same J I) (h : HoldF g B S σ I H Φ) (e1 : σ[i]? = some (some v)) (hl : Φ i l = some ob0) (sF : Same F' H) (nF : ∀ a, F' a ≠ none → I a = none ∧ B.H a = none ∧ ∀ j, Φ j a = none) (hv : o.p I (NewF (Φ i) l ob F') v) :
    Ok g B J (S.set i (some (.ow o))) σ I (upd H l ob) := by
  obtain ⟨f1, f2, f3⟩ := h.fr i l _ hl
  refine h.okw x oj e1 (F' := NewF (Φ i) l ob F') (fun a o e => ?_) (fun a o e z => ?_) (fun a o e => ?_) (fun a ha => ?_) hv
  · rw [upd_ne (ne_of_none e f2)]
    exact h.sub a o e
  · rw [upd_ne (fun y => by rw [y, hl] at z; cases z)]
    exact e
  · by_cases hal : a = l
    · subst hal
      rw [newF_root] at e
      rw [upd_same]; exact e
    · rw [upd_ne hal]
      cases q : F' a with
      | some u =>
        rw [newF_new hal q] at e
        cases e
        exact sF a _ q
      | none =>
        rw [newF_old hal q] at e
        exact (h.fr i a o e).1
  · rcases newF_ne ha with z | z | z
    · subst z; exact .inl (ne_of_some hl)
    · exact .inr (nF a z)
    · exact .inl z
end
/-- e is a place in the tree of slot i -/
structure MP {ι : Type} (X : Cx) (g : Gb) (B : Bs) (S : SL) (i : Nat) (e : Expr) (m : Option ι) (o1 : ι → OR) (mk : ι → OR → OR) : Prop where
  run : ∀ x, m = some x → PE X e (fun σ H Q => ∃ I Φ, HoldF g B S σ I H Φ ∧ ∀ v1 I' H', Ext I H I' H' → (∃ v, σ[i]? = some (some v) ∧ FocAt (o1 x) (mk x) I' (Φ i) v v1) → Q v1 H')
def fidx : List Str → Str → Option Nat
  | [], _ => none
  | n :: ns, f => if (f == n) = true then some 0 else (fidx ns f).map (· + 1)
theorem lookup_zip {f : Str} : ∀ {names : List Str} {vs : List V} {j : Nat}, fidx names f = some j → names.length = vs.length → (names.zip vs).lookup f = vs[j]?
  | [], _, j, h, _ => by cases h
  | n :: ns, [], j, _, hl => by cases hl
  | n :: ns, v :: vs, j, h, hl => by
    unfold fidx at h
    show List.lookup f ((n, v) :: ns.zip vs) = _
    cases hb : f == n with
    | true =>
      rw [hb, if_pos rfl] at h
      cases h
      simp only [List.lookup, hb]; rfl
    | false =>
      rw [hb, if_neg Bool.false_ne_true] at h
      obtain ⟨j', e1, e2⟩ := Option.map_eq_some_iff.mp h
      subst e2
      simp only [List.lookup, hb]
      rw [lookup_zip e1 (by simpa using hl)]; rfl
theorem lookup_zip_no {f : Str} : ∀ {names : List Str} {vs : List V}, fidx names f = none → (names.zip vs).lookup f = none
  | [], _, _ => rfl
  | n :: ns, [], _ => rfl
  | n :: ns, v :: vs, h => by
    unfold fidx at h
    show List.lookup f ((n, v) :: ns.zip vs) = _
    cases hb : f == n with
    | true => rw [hb, if_pos rfl] at h; cases h
    | false =>
      rw [hb, if_neg Bool.false_ne_true] at h
      simp only [List.lookup, hb]
      exact lookup_zip_no (Option.map_eq_none_iff.mp h)
theorem putF_zip {f : Str} {w : V} : ∀ {names : List Str} {vs : List V} {j : Nat}, fidx names f = some j → names.length = vs.length → L2.putF f w (names.zip vs) = names.zip (vs.set j w)
  | [], _, j, h, _ => by cases h
  | n :: ns, [], j, _, hl => by cases hl
  | n :: ns, v :: vs, j, h, hl => by
    unfold fidx at h
    show L2.putF f w ((n, v) :: ns.zip vs) = _
    unfold L2.putF
    by_cases hb : n = f
    · subst hb
      rw [if_pos (beq_self_eq_true n)] at h
      cases h
      rw [if_pos rfl]; rfl
    · have hb2 : (f == n) = false := beq_eq_false_iff_ne.mpr fun z => hb z.symm
      rw [hb2, if_neg Bool.false_ne_true] at h
      obtain ⟨j', e1, e2⟩ := Option.map_eq_some_iff.mp h
      subst e2
      rw [if_neg hb, putF_zip e1 (by simpa using hl)]; rfl
theorem putF_zip_no {f : Str} {w : V} : ∀ {names : List Str} {vs : List V}, fidx names f = none → names.length = vs.length → L2.putF f w (names.zip vs) = (names ++ [f]).zip (vs ++ [w])
  | [], [], _, _ => rfl
  | [], _ :: _, _, hl => by cases hl
  | n :: ns, [], _, hl => by cases hl
  | n :: ns, v :: vs, h, hl => by
    unfold fidx at h
    show L2.putF f w ((n, v) :: ns.zip vs) = _
    unfold L2.putF
    by_cases hb : n = f
    · subst hb
      rw [if_pos (beq_self_eq_true n)] at h
      cases h
    · have hb2 : (f == n) = false := beq_eq_false_iff_ne.mpr fun z => hb z.symm
      rw [hb2, if_neg Bool.false_ne_true] at h
      rw [if_neg hb, putF_zip_no (Option.map_eq_none_iff.mp h) (by simpa using hl)]; rfl
/-- a class of the program's own, plain, which has not the name f -/
def Cf (X : Cx) (g : Gb) (c f : Str) : Prop := ∃ C, g.mg c = some (.ref C) ∧ Cls X.K C ∧ NoAttr X.K C f
/-- the place of an item, and the item -/
@[irreducible] def plO {α : Type} (xs : List α) (n : Int) : Option (Nat × α) := (ixN xs.length n).bind fun j => xs[j]?.map fun a => (j, a)
theorem plO_some {α : Type} {xs : List α} {n : Int} {r : Nat × α} (h : plO xs n = some r) : ixN xs.length n = some r.1 ∧ xs[r.1]? = some r.2 := by
  unfold plO at h
  obtain ⟨j, e1, e2⟩ := Option.bind_eq_some_iff.mp h
  obtain ⟨a, e3, e4⟩ := Option.map_eq_some_iff.mp e2
  subst e4
  exact ⟨e1, e3⟩
section
variable {X : Cx} {g : Gb} {B : Bs} {J : Hp} {S : SL} {e e1 e2 e3 : Expr} {pos pos' p p2 p3 apos cpos : Pos} {i : Nat} {o ι : Type} {K : KT o} {rest : List Stmt} {α β : Type} [Py α] [Py β] {m : Option ι} {mk : ι → OR → OR}
theorem mp_ow (i : Nat) {x : Str} {o1 : OR} (hS : S[i]? = some (some (.ow o1)) := by rfl) (hN : X.N[i]? = some x := by rfl) (hv : Vis X.env.scope x := by first | exact Or.inl rfl | exact Or.inr (Or.inl rfl) | exact Or.inr (Or.inr rfl))
    (hd : (x == ("__debug__" : Str)) = false := by decide) (hcd : (x == ("__classdict__" : Str)) = false := by decide) : MP X g B S i (.Name x pos) (some ()) (fun _ => o1) (fun _ o' => o') := by
  refine ⟨fun _ _ => pe_imp (pe_var hN hv hd hcd) fun σ H Q ⟨I, Φ, h, q⟩ => ?_⟩
  obtain ⟨v, e1, h1⟩ := h.at_ i _ hS
  exact ⟨v, e1, q v I H (Ext.refl h.sub) ⟨v, e1, foc_self h1⟩⟩
theorem mp_fr (i : Nat) {x : Str} {as : List α} (hS : S[i]? = some (some (.fr (rl g as))) := by rfl) (hN : X.N[i]? = some x := by rfl) (hv : Vis X.env.scope x := by first | exact Or.inl rfl | exact Or.inr (Or.inl rfl) | exact Or.inr (Or.inr rfl))
    (hd : (x == ("__debug__" : Str)) = false := by decide) (hcd : (x == ("__classdict__" : Str)) = false := by decide) : MP X g B S i (.Name x pos) (some ()) (fun _ => oF (rl g as)) (fun _ o' => o') := by
  refine ⟨fun _ _ => pe_imp (pe_var hN hv hd hcd) fun σ H Q ⟨I, Φ, h, q⟩ => ?_⟩
  obtain ⟨v, e1, h1⟩ := h.at_ i _ hS
  exact ⟨v, e1, q v I H (Ext.refl h.sub) ⟨v, e1, foc_self h1⟩⟩
theorem mp_fld {c f : Str} {names : List Str} {os : ι → List OR} {oj : ι → OR} (j : Nat) (h : MP X g B S i e m (fun x => oC (wI g c names) (os x)) mk) (hC : Cf X g c f) (hj : fidx names f = some j := by decide +kernel) (ho : ∀ x, (os x)[j]? = some (oj x) := by intro _; rfl) (hb : attributeBase e f X.env (eval e X.env) = eval e X.env := by rfl) :
    MP X g B S i (.Attribute e f pos) m oj (fun x o' => mk x (oC (wI g c names) ((os x).set j o'))) := by
  refine ⟨fun x q => pe_imp (pe_fld (h.run x q) hb) fun σ H Q ⟨I, Φ, hh, kk⟩ => ⟨I, Φ, hh, fun v1 I' H' x1 ⟨v, e1, fc⟩ => ?_⟩⟩
  obtain ⟨l, ob, vs, uj, rfl, hl, ⟨C, dx, c1, c2, c3⟩, c4, hu, fc'⟩ := foc_kid (ho x) fc
  subst c2
  obtain ⟨C', d1, d2, d3⟩ := hC
  rw [c1] at d1
  cases d1
  exact ⟨l, _, dx, _, uj, rfl, x1.h _ _ (hh.fr i l _ hl).1, d2, d3, by rw [lookup_zip hj c3]; exact hu, kk uj I' H' x1 ⟨v, e1, fc'⟩⟩
theorem mp_tix {os : ι → List OR} {oj : ι → OR} (n : Nat) {z : Nat} (h : MP X g B S i e m (fun x => oC wT (os x)) mk) (ho : ∀ x, (os x)[n]? = some (oj x) := by intro _; rfl) (hK : X.K = g.K := by rfl) :
    MP X g B S i (.Subscript e (.Constant (.int (n : Int)) z pos') pos) m oj (fun x o' => mk x (oC wT ((os x).set n o'))) := by
  refine ⟨fun x q => pe_imp (pe_ix ix_tup (h.run x q) pe_int (fun _ _ => rfl)) fun σ H Q ⟨I, Φ, hh, kk⟩ => ⟨I, Φ, hh, fun v1 I' H' x1 ⟨v, e1, fc⟩ => ?_⟩⟩
  obtain ⟨l, ob, vs, uj, rfl, hl, c2, c4, hu, fc'⟩ := foc_kid (ho x) fc
  have c2' : ob = .tup vs := c2
  subst c2'
  exact ⟨l, vs, (n : Int), uj, rfl, rfl, SqT.of (x1.h _ _ (hh.fr i l _ hl).1), atI_nat hu, kk uj I' H' x1 ⟨v, e1, fc'⟩⟩
theorem mp_lix {as : ι → List α} {k : α → OR} {m2 : Option Int} (h : MP X g B S i e m (fun x => oC wL ((as x).map k)) mk) (h2 : ME X g B S e2 m2 (KI g)) (hs : PlainIx e2 := by exact fun _ _ => rfl) :
    MP X g B S i (.Subscript e e2 pos) (m >>= fun x => m2 >>= fun n => plO (as x) n >>= fun r => some (x, r)) (fun z => k z.2.2) (fun z o' => mk z.1 (oC wL (((as z.1).map k).set z.2.1 o'))) := by
  refine ⟨fun z q => ?_⟩
  obtain ⟨x, q1, q⟩ := bind_some q
  obtain ⟨n, q2, q⟩ := bind_some q
  obtain ⟨r, q3, q4⟩ := bind_some q
  cases q4
  obtain ⟨p1, p2⟩ := plO_some q3
  refine pe_imp (pe_ix ix_list (h.run x q1) (h2.run n q2) hs) fun σ H Q ⟨I, Φ, hh, kk⟩ => ⟨I, Φ, hh, fun v1 I' H' x1 ⟨v, e1, fc⟩ => ⟨I', ⟨Φ, hh.ext x1⟩, fun w I2 H2 x2 hw => ?_⟩⟩
  obtain ⟨l, ob, vs, uj, rfl, hl, ⟨c2, c3⟩, c4, hu, fc'⟩ := foc_kid (j := r.1) (oj := k r.2) (by rw [List.getElem?_map, p2]; rfl) fc
  subst c2
  rw [List.length_map] at c4
  refine ⟨l, vs, n, uj, rfl, hw, SqL.of (x2.h _ _ (x1.h _ _ (hh.fr i l _ hl).1)), ?_, kk uj I2 H2 (x1.trans x2) ⟨v, e1, fc'.mono x2.i⟩⟩
  unfold atI
  rw [← c4, p1]; exact hu
/-! statements at a place -/
/-- place.append(e2) -/
theorem mb_appP {as : ι → List α} {m2 : Option α} {f : ι → List α → Option o} (h : MP X g B S i e m (fun x => oF (rl g (as x))) mk) (he : ME X g B S e2 m2 (KI g)) (hb : ∀ x bs, MB X g B J (S.set i (some (.ow (mk x (oF (rl g bs)))))) rest (f x bs) K)
    (hs : swapsWith (.Call (.Attribute e "append" apos) [e2] [] cpos) none pos.line X.env = pure false := by rfl) (hst : starEach [e2] X.env = (false, eval e2 X.env) :: starEach [] X.env := by rfl)
    (hbase : attributeBase e "append" X.env (eval e X.env) = eval e X.env := by rfl)
    (hfew : ((backTo cpos (starEach [e2] X.env)).all (fun x => !x.1) && (backToKw cpos (keywordEach [] X.env)).all (fun x => x.1.isSome) && decide ([e2].length + ([] : List Keyword).length + (if ([] : List Keyword).isEmpty then 0 else 1) < 30)) = true := by rfl)
    (hline : (apos.endLine == cpos.line) = true := by rfl) (hplain : (backTo cpos (starEach [] X.env)).any (·.1) = false := by rfl) :
    MB X g B J S (.Expr (.Call (.Attribute e "append" apos) [e2] [] cpos) pos :: rest) (m >>= fun x => m2 >>= fun a => appO (as x) a >>= fun bs => f x bs) K := by
  refine ⟨fun r q => ?_⟩
  obtain ⟨x, q1, q⟩ := bind_some q
  obtain ⟨a, q2, q⟩ := bind_some q
  obtain ⟨bs, q3, q4⟩ := bind_some q
  unfold appO at q3
  by_cases hz : decide ((as x).length < sizeLine) = true
  · rw [if_pos hz] at q3
    cases q3
    have hz' := of_decide_eq_true hz
    refine pss_imp (pss_cons (ps_expr (pe_bm PySem.F.plainAttrs_list PySem.F.slot_list_append PySem.F.type_list_append mt_append (h.run x q1) (pa_cons (he.run a q2) pa_nil hst) hbase hfew hline hst hplain) hs) ((hb x _).run r q4)) fun D σ H ⟨I, ok, kk⟩ => ?_
    obtain ⟨x0, oj, Φ, hh⟩ := ok
    refine ⟨I, Φ, hh, fun v1 I1 H1 x1 ⟨v, e1, fc⟩ => ?_⟩
    obtain ⟨l, vs, rfl, hl, hq, put⟩ := foc_leaf fc
    have h1 := x1.h _ _ (hh.fr i l _ hl).1
    refine ⟨.inl ⟨rfl, _, SqL.of h1⟩, I1, ⟨Φ, hh.ext x1⟩, fun w I2 H2 x2 hw => ⟨l, vs, w, rfl, rfl, x2.h _ _ h1, by rw [rl_len hq]; exact hz', I2, ?_, kk⟩⟩
    have x12 := x1.trans x2
    refine HoldF.store (x0.trans x12) (oj.trans x12.i) (hh.ext x12) e1 hl (F' := fun _ => none) (fun _ _ z => by cases z) (fun a z => absurd rfl z) (put (rl g _) _ I2 x2.i ⟨?_, paired_app ((rl g (as x)).mono x2.i hq).2 (.cons hw .nil)⟩)
    rw [List.length_append, List.length_singleton]
    omega
  · rw [if_neg hz] at q3
    cases q3
/-- place[e1] = e2 -/
theorem mb_setiP {as : ι → List α} {m1 : Option Int} {m2 : Option α} {f : ι → List α → Option o} (he : ME X g B S e2 m2 (KI g)) (h : MP X g B S i e m (fun x => oF (rl g (as x))) mk) (h1 : ME X g B S e1 m1 (KI g)) (hb : ∀ x bs, MB X g B J (S.set i (some (.ow (mk x (oF (rl g bs)))))) rest (f x bs) K)
    (hs : swapsWithSole [.Subscript e e1 apos] e2 pos.line X.env = pure false := by rfl) (hw : swappedStores [.Subscript e e1 apos] e2 X.env = pure none := by rfl)
    (h1' : (assignEach [Expr.Subscript e e1 apos] X.env).map (·.2) = [assign (.Subscript e e1 apos) X.env] := by rfl)
    (ha : ∀ v, assign (.Subscript e e1 apos) X.env v = (do
      let ov ← holding [v] (eval e X.env)
      let iv ← holding [v, ov] (eval e1 X.env)
      standAt apos
      holding [v, ov, iv] (setItem ov iv v)
      release [v, ov, iv] []) := by intro _; rfl) :
    MB X g B J S (.Assign [.Subscript e e1 apos] e2 pos :: rest) (m2 >>= fun a => m >>= fun x => m1 >>= fun n => setO (as x) n a >>= fun bs => f x bs) K := by
  refine ⟨fun r q => ?_⟩
  obtain ⟨a, q2, q⟩ := bind_some q
  obtain ⟨x, q1, q⟩ := bind_some q
  obtain ⟨n, qn, q⟩ := bind_some q
  obtain ⟨bs, q3, q4⟩ := bind_some q
  unfold setO at q3
  cases hj : ixN (as x).length n with
  | none => rw [hj] at q3; cases q3
  | some j =>
    rw [hj] at q3
    cases q3
    refine pss_imp (pss_cons (ps_asg (he.run a q2) (pg_sub (h.run x q1) (h1.run n qn) set_list ha) hs hw h1') ((hb x _).run r q4)) fun D σ H ⟨I, ok, kk⟩ => ?_
    obtain ⟨x0, oj, Φ, hh⟩ := ok
    refine ⟨I, ⟨Φ, hh⟩, fun w I1 H1 x1 hw => ⟨I1, Φ, hh.ext x1, fun v1 I2 H2 x2 ⟨v, e1, fc⟩ => ⟨I2, ⟨Φ, (hh.ext x1).ext x2⟩, fun y I3 H3 x3 hy => ?_⟩⟩⟩
    obtain ⟨l, vs, rfl, hl, hq, put⟩ := foc_leaf fc
    have x13 := (x1.trans x2).trans x3
    have hl3 := x13.h _ _ (hh.fr i l _ hl).1
    refine ⟨l, vs, n, j, rfl, hy, hl3, by rw [rl_len hq]; exact hj, I3, ?_, kk⟩
    refine HoldF.store (x0.trans x13) (oj.trans x13.i) (hh.ext x13) e1 hl (F' := fun _ => none) (fun _ _ z => by cases z) (fun a z => absurd rfl z) (put (rl g _) _ I3 x3.i ⟨?_, paired_set (F := fun a v => (Py.r g a).p I3 v) ((Py.r g a).mono (x2.i.trans x3.i) hw) _ ((rl g (as x)).mono x3.i hq).2⟩)
    rw [List.length_set]
    exact hq.1
/-- place.f = value: a field that is there -/
theorem mb_fldP {a' : Type} {c f : Str} {names : List Str} {os : ι → List OR} {m2 : Option a'} {k : a' → RK} {fn : ι → a' → Option o} (j : Nat) (hv : ME X g B S e2 m2 k) (h : MP X g B S i e m (fun x => oC (wI g c names) (os x)) mk) (hC : Cf X g c f)
    (hb : ∀ x a, MB X g B J (S.set i (some (.ow (mk x (oC (wI g c names) ((os x).set j (k a).orOf)))))) rest (fn x a) K) (hj : fidx names f = some j := by decide +kernel) (hk : ∀ a, (k a).slotty = true := by intro _; rfl) (hn : names.length < 1000 := by decide)
    (hs : swapsWith e2 (some (.Attribute e f apos)) pos.line X.env = pure false := by rfl) : MB X g B J S (.Assign [.Attribute e f apos] e2 pos :: rest) (m2 >>= fun a => m >>= fun x => fn x a) K := by
  refine ⟨fun r q => ?_⟩
  obtain ⟨a, q2, q⟩ := bind_some q
  obtain ⟨x, q1, q3⟩ := bind_some q
  refine pss_imp (pss_cons (ps_fld (h.run x q1) (hv.run a q2) hs) ((hb x a).run r q3)) fun D σ H ⟨I, ok, kk⟩ => ?_
  obtain ⟨x0, oj, Φ, hh⟩ := ok
  refine ⟨I, ⟨Φ, hh⟩, fun w I1 H1 x1 hw => ⟨I1, Φ, hh.ext x1, fun v1 I2 H2 x2 ⟨v, e1, fc⟩ => ?_⟩⟩
  obtain ⟨F', f1, f2, f3⟩ := RK.fragO (hk a) (RK.ext hw x2)
  obtain ⟨l, ob, vs, rfl, hl, ⟨C, dx, c1, c2, c3⟩, c4, put⟩ := foc_root fc
  subst c2
  obtain ⟨C', d1, d2, d3⟩ := hC
  rw [c1] at d1
  cases d1
  have x12 := x1.trans x2
  have hl2 := x12.h _ _ (hh.fr i l _ hl).1
  have none_of : ∀ a, F' a ≠ none → ∀ j, Φ j a = none := fun a ha j => by
    cases q : Φ j a with
    | none => rfl
    | some u => exact absurd (f1 a ha).1 (ne_of_some (hh.fr j a u q).1)
  refine ⟨l, _, dx, _, rfl, hl2, d2, d3, ?_, I2, ?_, kk⟩
  · rw [List.length_zip, c3, Nat.min_self, ← c3]; exact hn
  · rw [putF_zip hj c3]
    refine HoldF.store (x0.trans x12) (oj.trans x12.i) (hh.ext x12) e1 hl (F' := F') f2 (fun a ha => ⟨(f1 a ha).2, hh.base.free (f1 a ha).1, none_of a ha⟩) ?_
    refine put (wI g c names) ((os x).set j (k a).orOf) (vs.set j w) _ j I2 F' (Same.refl _) (fun a ha => none_of a ha i) ⟨_, dx, c1, rfl, by rw [List.length_set]; exact c3⟩ (by rw [List.length_set, List.length_set]; exact c4) fun i' o' u e1 e2 => ?_
    rcases set_get e1 with ⟨y1, y2⟩ | ⟨y1, y2⟩
    · subst y1 y2
      rcases set_get e2 with ⟨_, z⟩ | ⟨z, _⟩
      · rw [if_pos rfl, z]; exact f3
      · exact absurd rfl z
    · rcases set_get e2 with ⟨z, _⟩ | ⟨_, z⟩
      · exact absurd z y1
      · rw [if_neg y1]; exact ⟨y2, z⟩
/-- place.f = value: a new field -/
theorem mb_fldN {a' : Type} {c f : Str} {names : List Str} {os : ι → List OR} {m2 : Option a'} {k : a' → RK} {fn : ι → a' → Option o} (hv : ME X g B S e2 m2 k) (h : MP X g B S i e m (fun x => oC (wI g c names) (os x)) mk) (hC : Cf X g c f)
    (hb : ∀ x a, MB X g B J (S.set i (some (.ow (mk x (oC (wI g c (names ++ [f])) (os x ++ [(k a).orOf])))))) rest (fn x a) K) (hj : fidx names f = none := by decide +kernel) (hk : ∀ a, (k a).slotty = true := by intro _; rfl) (hn : names.length < 1000 := by decide)
    (hs : swapsWith e2 (some (.Attribute e f apos)) pos.line X.env = pure false := by rfl) : MB X g B J S (.Assign [.Attribute e f apos] e2 pos :: rest) (m2 >>= fun a => m >>= fun x => fn x a) K := by
  refine ⟨fun r q => ?_⟩
  obtain ⟨a, q2, q⟩ := bind_some q
  obtain ⟨x, q1, q3⟩ := bind_some q
  refine pss_imp (pss_cons (ps_fld (h.run x q1) (hv.run a q2) hs) ((hb x a).run r q3)) fun D σ H ⟨I, ok, kk⟩ => ?_
  obtain ⟨x0, oj, Φ, hh⟩ := ok
  refine ⟨I, ⟨Φ, hh⟩, fun w I1 H1 x1 hw => ⟨I1, Φ, hh.ext x1, fun v1 I2 H2 x2 ⟨v, e1, fc⟩ => ?_⟩⟩
  obtain ⟨F', f1, f2, f3⟩ := RK.fragO (hk a) (RK.ext hw x2)
  obtain ⟨l, ob, vs, rfl, hl, ⟨C, dx, c1, c2, c3⟩, c4, put⟩ := foc_root fc
  subst c2
  obtain ⟨C', d1, d2, d3⟩ := hC
  rw [c1] at d1
  cases d1
  have x12 := x1.trans x2
  have hl2 := x12.h _ _ (hh.fr i l _ hl).1
  have none_of : ∀ a, F' a ≠ none → ∀ j, Φ j a = none := fun a ha j => by
    cases q : Φ j a with
    | none => rfl
    | some u => exact absurd (f1 a ha).1 (ne_of_some (hh.fr j a u q).1)
  refine ⟨l, _, dx, _, rfl, hl2, d2, d3, ?_, I2, ?_, kk⟩
  · rw [List.length_zip, c3, Nat.min_self, ← c3]; exact hn
  · rw [putF_zip_no hj c3]
    refine HoldF.store (x0.trans x12) (oj.trans x12.i) (hh.ext x12) e1 hl (F' := F') f2 (fun a ha => ⟨(f1 a ha).2, hh.base.free (f1 a ha).1, none_of a ha⟩) ?_
    refine put (wI g c (names ++ [f])) (os x ++ [(k a).orOf]) (vs ++ [w]) _ (os x).length I2 F' (Same.refl _) (fun a ha => none_of a ha i) ⟨_, dx, c1, rfl, by simp [c3]⟩ (by simp [c4]) fun i' o' u e1 e2 => ?_
    by_cases hi : i' < (os x).length
    · rw [List.getElem?_append_left hi] at e1
      rw [List.getElem?_append_left (by omega)] at e2
      rw [if_neg (by omega)]
      exact ⟨e1, e2⟩
    · have hlt := (List.getElem?_eq_some_iff.mp e1).1
      rw [List.length_append, List.length_singleton] at hlt
      have hi2 : i' = (os x).length := by omega
      subst hi2
      rw [List.getElem?_append_right (Nat.le_refl _), Nat.sub_self] at e1
      rw [c4, List.getElem?_append_right (Nat.le_refl _), Nat.sub_self] at e2
      cases e1
      cases e2
      rw [if_pos rfl]; exact f3
end
end T
set_option Elab.async false
set_option linter.all false
set_option maxRecDepth 100000
namespace T
open PySem PySem.Spec PyProof.Rows L2
/-! defs that change what they are handed -/
/-- an owned thing that is the value v0 -/
def oP (v0 : V) (o : OR) : OR := ⟨fun I F v => v = v0 ∧ o.p I F v, fun s h => ⟨h.1, o.mono s h.2⟩⟩
def RK.pin (v0 : V) : RK → RK
  | .ow o => .ow (oP v0 o)
  | k => k
def pinL (u : Nat → V) : List RK → Nat → List RK
  | [], _ => []
  | k :: ks, n => k.pin (u n) :: pinL u ks (n + 1)
structure ArgsF (g : Gb) (ks : List RK) (vs : List V) (I R H : Hp) (Φ : Nat → Hp) : Prop where
  len : ks.length = vs.length
  at_ : ∀ (i : Nat) (k : RK) (v : V), ks[i]? = some k → vs[i]? = some v → RK.inS g k R v I (Φ i)
  fr : ∀ (i : Nat) (a : Addr) (o : HO), Φ i a = some o → H a = some o ∧ I a = none ∧ R a = none
  dj : ∀ (i j : Nat) (a : Addr), Φ i a ≠ none → Φ j a ≠ none → i = j
/-- what holds behind the call: the value v with its fragment F, what was handed in with the fragments Φ' -/
structure Post (g : Gb) (I R : Hp) (k : RK) (outs : List (Nat × OR)) (vs : Nat → Option V) (v : V) (I' H' F : Hp) (Φ' : Nat → Hp) : Prop where
  i : Same I I'
  s : Same I' H'
  h : Same R H'
  n : ∀ l, R l ≠ none → I l = none → I' l = none
  fF : ∀ b, F b ≠ none → R b = none ∧ I' b = none
  sF : Same F H'
  val : RK.inS g k R v I' F
  out : ∀ p ∈ outs, ∃ u, vs p.1 = some u ∧ p.2.p I' (Φ' p.1) u
  fr : ∀ (i : Nat) (a : Addr) (o : HO), Φ' i a = some o → H' a = some o ∧ I' a = none ∧ R a = none
  dj : ∀ (i j : Nat) (a : Addr), Φ' i a ≠ none → Φ' j a ≠ none → i = j
  dv : ∀ (i : Nat) (a : Addr), Φ' i a ≠ none → F a = none
def spIO {ι β : Type} (g : Gb) (args : ι → List RK) (M : ι → Option β) (k : β → RK) (outs : β → List (Nat × OR)) : Sp := fun vs H Q _ => ∃ I R Φ a r, Same I H ∧ Same R H ∧ ArgsF g (args a) vs I R H Φ ∧ M a = some r ∧
  ∀ v I' H' F Φ', Post g I R (k r) (outs r) (fun i => vs[i]?) v I' H' F Φ' → Q v H'
/-- the ends of such a def: it hands back a value; it falls off its end -/
def Kio {β : Type} (g : Gb) (B : Bs) (u : Nat → V) (k : β → RK) (outs : β → List (Nat × OR)) : KT β := fun r D => (∀ v I' H' F Φ', Post g B.I B.H (k r) (outs r) (fun i => some (u i)) v I' H' F Φ' → D.rt v H')
def KioU {β : Type} (g : Gb) (B : Bs) (u : Nat → V) (outs : β → List (Nat × OR)) : KT β := fun r D => (∀ I' H' F Φ' σ, Post g B.I B.H (.im (Py.r g ())) (outs r) (fun i => some (u i)) .non I' H' F Φ' → D.nx σ H' ∧ D.rt .non H')
section
variable {P : Program} {w : World} {K : PySem.W.Frag} {mg : Str → Option Value} {base : Heap} {ι β : Type} {args : ι → List RK} {M : ι → Option β} {kd : β → RK} {outs : β → List (Nat × OR)}
def RK.argio : RK → Bool
  | .im _ => true
  | .bw _ => true
  | .bo _ => true
  | .ow _ => true
  | _ => false
theorem pinL_get {u : Nat → V} : ∀ {ks : List RK} {n i : Nat} {k : RK}, (pinL u ks n)[i]? = some k → ∃ k0, ks[i]? = some k0 ∧ k = k0.pin (u (n + i))
  | [], _, _, _, h => by simp [pinL] at h
  | k0 :: ks, n, 0, k, h => by
    cases h
    exact ⟨k0, rfl, rfl⟩
  | k0 :: ks, n, i + 1, k, h => by
    obtain ⟨k1, e1, e2⟩ := pinL_get (ks := ks) (n := n + 1) (i := i) (by simpa [pinL] using h)
    exact ⟨k1, by simpa using e1, by rw [e2]; congr 2; omega⟩
theorem pinL_len {u : Nat → V} : ∀ {ks : List RK} {n : Nat}, (pinL u ks n).length = ks.length
  | [], _ => rfl
  | _ :: ks, n => by
    show (pinL u ks (n + 1)).length + 1 = ks.length + 1
    rw [pinL_len]
theorem holdF_start {g : Gb} {N : List Str} {ks : List RK} {vs : List V} {I R H : Hp} {Φ : Nat → Hp} (hl : ks.length ≤ N.length) (s : Same I H) (sR : Same R H) (hA : ArgsF g ks vs I R H Φ) (hI : ∀ a o, I a = some o → H a = some o) :
    Hold g ⟨I, R⟩ (S0 N (pinL (fun i => vs.getD i .non) ks 0)) (L2.start N vs) I H := by
  have arg : ∀ {i : Nat} {k : RK}, (S0 N (pinL (fun i => vs.getD i .non) ks 0))[i]? = some (some k) → (pinL (fun i => vs.getD i .non) ks 0)[i]? = some k := fun {i k} e => by
    unfold S0 at e
    by_cases hi : i < (pinL (fun i => vs.getD i .non) ks 0).length
    · rw [List.getElem?_append_left (by rw [List.length_map]; exact hi), List.getElem?_map] at e
      cases q : (pinL (fun i => vs.getD i .non) ks 0)[i]? with
      | none => rw [q] at e; cases e
      | some k' => rw [q] at e; cases e; rfl
    · rw [List.getElem?_append_right (by rw [List.length_map]; omega)] at e
      obtain ⟨h1, h2⟩ := List.getElem?_eq_some_iff.mp e
      rw [List.getElem_replicate] at h2
      cases h2
  have hlen := hA.len
  refine ⟨Φ, ?_, s, sR, fun i k e => ?_, hA.fr, hA.dj⟩
  · unfold S0 L2.start
    simp only [List.length_append, List.length_map, List.length_replicate, pinL_len]
    omega
  · obtain ⟨k0, e1, e2⟩ := pinL_get (arg e)
    have hi : i < vs.length := by rw [← hlen]; exact (List.getElem?_eq_some_iff.mp e1).1
    have e3 : vs[i]? = some vs[i] := List.getElem?_eq_getElem hi
    refine ⟨vs[i], ?_, ?_⟩
    · unfold L2.start
      rw [List.getElem?_append_left (by rw [List.length_map]; exact hi), List.getElem?_map, e3]
      rfl
    · have q := hA.at_ i k0 _ e1 e3
      subst e2
      cases k0 with
      | ow o =>
        refine ⟨?_, q⟩
        show _ = vs.getD (0 + i) .non
        rw [Nat.zero_add, List.getD_eq_getElem?_getD, e3]; rfl
      | im p => exact q
      | bw p => exact q
      | bo p => exact q
      | fr p => exact q
      | rd p => exact q
      | ro p => exact q
theorem post_u {g : Gb} {I R : Hp} {k : RK} {outs : List (Nat × OR)} {vs : List V} {v : V} {I' H' F : Hp} {Φ' : Nat → Hp} (ho : ∀ p ∈ outs, p.1 < vs.length) (h : Post g I R k outs (fun i => some (vs.getD i .non)) v I' H' F Φ') : Post g I R k outs (fun i => vs[i]?) v I' H' F Φ' :=
  ⟨h.i, h.s, h.h, h.n, h.fF, h.sF, h.val, fun p hp => by
    obtain ⟨u, e1, e2⟩ := h.out p hp
    have hl := ho p hp
    have e3 : vs[p.1]? = some vs[p.1] := List.getElem?_eq_getElem hl
    refine ⟨u, ?_, e2⟩
    show vs[p.1]? = some u
    rw [← e1, e3, List.getD_eq_getElem?_getD, e3]; rfl, h.fr, h.dj, h.dv⟩
/-- what a def's facts are: with or without defaults -/
structure FunX (K : PySem.W.Frag) (x qual : Str) (st : Stmt) (f : Addr) (fd : FuncData) : Prop where
  ex : ∃ (oc : Value) (od : Option Addr) (dV kV doc pm : Value) (an : Option Addr) (cdv ct : Value) (osl : Array (Option Value)),
    fd = PySem.W.fnOf x qual (defArgs st) (defBody st) (defScope st) dV kV doc pm an cdv ct ∧ K.lookup f = some ⟨oc, od, .func fd, osl⟩ ∧ PySem.W.codeIn K cdv qual = true
  kp : PySem.W.keepIn K (.ref f) = true
theorem FunX.ok {x qual : Str} {st : Stmt} {f : Addr} {fd : FuncData} {N ps : List Str} {k : Nat} {sp : Sp} (F : FunX K x qual st f fd) (S : FnScope N ps (defScope st)) (len : ∀ vs H Q E, sp vs H Q E → vs.length = ps.length)
    (hbody : ∀ (cdv : Value) (A : Around) (outer : List Env) (s : Shared) (H : Hp) (vs : List V) (Q : VK) (E : XK), Room k (A.deeper (envOfC qual (defScope st) s.heap.objs.size f cdv)) → sp vs H Q E →
      ∃ t, PSs (cxOf CX0 P w K mg base N qual (defScope st) f cdv A outer s H E).nox (defBody st) t ∧ t { nx := fun _ H' => Q .non H', rt := Q } (start N vs) H) : FnOk P w K mg base CX0 (k + 1) f fd ps sp := by
  obtain ⟨oc, od, dV, kV, doc, pm, an, cdv, ct, osl, rfl, lk, hcd⟩ := F.ex
  refine fn_of lk hcd S len fun A outer s H vs Q E hr hsp => ?_
  obtain ⟨t, h, q⟩ := hbody cdv A outer s H vs Q E hr hsp
  exact ⟨t, h.nox, q⟩
theorem fnx_mk {x qual : Str} {st : Stmt} {f : Addr} {fd : FuncData} {N ps : List Str} {k : Nat} (F : FunX K x qual st f fd) (Sc : FnScope N ps (defScope st)) (hn : ∀ a, (args a).length = ps.length) (hk : ∀ a, (args a).all RK.argy = true) (hN : ps.length ≤ N.length)
    (body : ∀ (cdv : Value) (A : Around) (outer : List Env) (s : Shared) (H : Hp) (E : XK) (I : Hp) (a : ι), Room k (A.deeper (envOfC qual (defScope st) s.heap.objs.size f cdv)) →
      MB (cxOf CX0 P w K mg base N qual (defScope st) f cdv A outer s H E).nox ⟨K, mg⟩ ⟨I, H⟩ I (S0 N (args a)) (defBody st) (M a) (Kt ⟨K, mg⟩ ⟨I, H⟩ kd)) :
    FnOk P w K mg base CX0 (k + 1) f fd ps (spT ⟨K, mg⟩ args M kd) := by
  refine F.ok Sc (fun vs H Q E ⟨I, a, r, s, hA, _⟩ => ?_) (fun cdv A outer s H vs Q E hr ⟨I, a, r, si, hA, hM, q⟩ => ?_)
  · rw [← Paired.length hA, hn]
  · exact ⟨_, (body cdv A outer s H E I a hr).run r hM, I, hold_start (by rw [hn]; exact hN) si hA (hk a), fun v I' H' x hv => q v I' H' x hv⟩
/-- a def that hands back a value -/
theorem fio_mk {x qual : Str} {st : Stmt} {f : Addr} {fd : FuncData} {N ps : List Str} {k : Nat} (F : FunX K x qual st f fd) (Sc : FnScope N ps (defScope st)) (hn : ∀ a, (args a).length = ps.length) (hN : ps.length ≤ N.length) (ho : ∀ r, ∀ p ∈ outs r, p.1 < ps.length)
    (body : ∀ (cdv : Value) (A : Around) (outer : List Env) (s : Shared) (H : Hp) (E : XK) (I R : Hp) (u : Nat → V) (a : ι), Room k (A.deeper (envOfC qual (defScope st) s.heap.objs.size f cdv)) →
      MB (cxOf CX0 P w K mg base N qual (defScope st) f cdv A outer s H E).nox ⟨K, mg⟩ ⟨I, R⟩ I (S0 N (pinL u (args a) 0)) (defBody st) (M a) (Kio ⟨K, mg⟩ ⟨I, R⟩ u kd outs)) :
    FnOk P w K mg base CX0 (k + 1) f fd ps (spIO ⟨K, mg⟩ args M kd outs) := by
  refine F.ok Sc (fun vs H Q E ⟨I, R, Φ, a, r, s, _, hA, _⟩ => ?_) (fun cdv A outer s H vs Q E hr ⟨I, R, Φ, a, r, si, sR, hA, hM, q⟩ => ?_)
  · rw [← hA.len, hn]
  · have hl : vs.length = ps.length := by rw [← hA.len, hn]
    refine ⟨_, (body cdv A outer s H E I R (fun i => vs.getD i .non) a hr).run r hM, I, ⟨⟨Same.refl _, sR, si, fun _ _ z => z⟩, Same.refl _, holdF_start (by rw [hn]; exact hN) si sR hA si⟩, fun v I' H' F Φ' h => q v I' H' F Φ' (post_u (fun p hp => by rw [hl]; exact ho r p hp) h)⟩
/-- a def that hands back nothing -/
theorem fiu_mk {x qual : Str} {st : Stmt} {f : Addr} {fd : FuncData} {N ps : List Str} {k : Nat} (F : FunX K x qual st f fd) (Sc : FnScope N ps (defScope st)) (hn : ∀ a, (args a).length = ps.length) (hN : ps.length ≤ N.length) (ho : ∀ r, ∀ p ∈ outs r, p.1 < ps.length)
    (body : ∀ (cdv : Value) (A : Around) (outer : List Env) (s : Shared) (H : Hp) (E : XK) (I R : Hp) (u : Nat → V) (a : ι), Room k (A.deeper (envOfC qual (defScope st) s.heap.objs.size f cdv)) →
      MB (cxOf CX0 P w K mg base N qual (defScope st) f cdv A outer s H E).nox ⟨K, mg⟩ ⟨I, R⟩ I (S0 N (pinL u (args a) 0)) (defBody st) (M a) (KioU ⟨K, mg⟩ ⟨I, R⟩ u outs)) :
    FnOk P w K mg base CX0 (k + 1) f fd ps (spIO ⟨K, mg⟩ args M (fun _ => .im (Py.r ⟨K, mg⟩ ())) outs) := by
  refine F.ok Sc (fun vs H Q E ⟨I, R, Φ, a, r, s, _, hA, _⟩ => ?_) (fun cdv A outer s H vs Q E hr ⟨I, R, Φ, a, r, si, sR, hA, hM, q⟩ => ?_)
  · rw [← hA.len, hn]
  · have hl : vs.length = ps.length := by rw [← hA.len, hn]
    refine ⟨_, (body cdv A outer s H E I R (fun i => vs.getD i .non) a hr).run r hM, I, ⟨⟨Same.refl _, sR, si, fun _ _ z => z⟩, Same.refl _, holdF_start (by rw [hn]; exact hN) si sR hA si⟩, fun I' H' F Φ' σ h => ⟨q .non I' H' F Φ' (post_u (fun p hp => by rw [hl]; exact ho r p hp) h), q .non I' H' F Φ' (post_u (fun p hp => by rw [hl]; exact ho r p hp) h)⟩⟩
end
/-- the slots of what was handed in, at an end -/
inductive Outs (u : Nat → V) (S : SL) : List (Nat × OR) → Prop
  | nil : Outs u S []
  | cons {i : Nat} {o : OR} {l : List (Nat × OR)} (h : S[i]? = some (some (.ow (oP (u i) o)))) (t : Outs u S l) : Outs u S ((i, o) :: l)
theorem Outs.get {u : Nat → V} {S : SL} : ∀ {l : List (Nat × OR)}, Outs u S l → ∀ p ∈ l, S[p.1]? = some (some (.ow (oP (u p.1) p.2)))
  | _, .nil, p, h => by cases h
  | _, .cons h t, p, hp => by
    rcases List.mem_cons.mp hp with z | z
    · subst z; exact h
    · exact t.get p z
section
variable {X : Cx} {g : Gb} {B : Bs} {J : Hp} {S : SL} {e e1 e2 e3 : Expr} {es : List Expr} {pos pos' p apos cpos : Pos} {i : Nat} {o ι ρ β : Type} {K : KT o} {rest : List Stmt} {u : Nat → V} {outs : β → List (Nat × OR)} {k : β → RK}
theorem post_at {I I' H H' F : Hp} {v : V} {l : List (Nat × OR)} {r : RK} {σ : L2.St} (x : Ext B.I B.H I H) (h : Hold g B S σ I H) (ho : Outs u S l) (x2 : Ext I H I' H') (f1 : ∀ a, F a ≠ none → H a = none ∧ I' a = none) (f2 : Same F H') (hv : RK.inS g r B.H v I' F) : ∃ Φ', Post g B.I B.H r l (fun i => some (u i)) v I' H' F Φ' := by
  obtain ⟨Φ, h⟩ := h
  have h2 := h.ext x2
  have x02 := x.trans x2
  refine ⟨Φ, x02.i, x02.s, x02.h, x02.n, fun b hb => ⟨h.base.free (f1 b hb).1, (f1 b hb).2⟩, f2, hv, fun p hp => ?_, h2.fr, h2.dj, fun i a ha => ?_⟩
  · obtain ⟨v, e1, q⟩ := h2.at_ p.1 _ (ho.get p hp)
    obtain ⟨q1, q2⟩ := q
    exact ⟨u p.1, rfl, q1 ▸ q2⟩
  · cases q : F a with
    | none => rfl
    | some y => exact absurd (f1 a (ne_of_some q)).1 ((h.ne ha).1)
/-- the end of a def that hands back nothing -/
theorem mb_endU {b : β} (ho : Outs u S (outs b)) : MB X g B J S [] (some b) (KioU g B u outs) := by
  refine ⟨fun r q => ?_⟩
  cases q
  refine pss_imp pss_nil fun D σ H ⟨I, ok, kk⟩ => ?_
  obtain ⟨Φ', hp⟩ := post_at (F := fun _ => none) (r := .im (Py.r g ())) (v := .non) ok.x ok.h ho (Ext.refl ok.h.sub) (fun a z => absurd rfl z) (fun _ _ z => by cases z) rfl
  exact (kk I H (fun _ => none) Φ' σ hp).1
/-- return e, of a def that changes what it is handed -/
theorem mb_retIO {m : Option ρ} {kv : ρ → RK} {f : ρ → β} (he : ME X g B S e m kv) (ho : ∀ a, Outs u S (outs (f a))) (hk : ∀ a, kv a = k (f a) := by intro _; rfl) (hs : ∀ a, (kv a).slotty = true := by intro _; rfl) : MB X g B J S [.Return (some e) pos] (m >>= fun a => some (f a)) (Kio g B u k outs) := by
  refine ⟨fun r q => ?_⟩
  obtain ⟨a, q1, q2⟩ := bind_some q
  cases q2
  refine pss_imp (pss_one (ps_ret (he.run a q1))) fun D σ H ⟨I, ok, kk⟩ => ?_
  refine ⟨I, ok.h, fun v I' H' x1 hv => ?_⟩
  obtain ⟨F, f1, f2, f3⟩ := RK.frag (hs a) hv
  obtain ⟨Φ', hp⟩ := post_at ok.x ok.h (ho a) x1 f1 f2 (f3 B.H)
  rw [hk a] at hp
  exact kk v I' H' F Φ' hp
end
/-! a place in what was handed in -/
section
variable {X : Cx} {g : Gb} {B : Bs} {J : Hp} {S : SL} {e e1 e2 e3 : Expr} {es : List Expr} {pos pos' p apos cpos : Pos} {i : Nat} {o ι ρ β : Type} {K : KT o} {rest : List Stmt}
theorem foc_pin {v0 : V} {o1 : OR} {I F : Hp} {v : V} (h : (oP v0 o1).p I F v) : FocAt o1 (fun o' => oP v0 o') I F v v := ⟨F, Same.refl _, h.2, fun o' I' F1' _ _ h' => ⟨h.1, by rw [rp_self]; exact h'⟩⟩
theorem mp_pin (i : Nat) {x : Str} {v0 : V} {o1 : OR} (hS : S[i]? = some (some (.ow (oP v0 o1))) := by rfl) (hN : X.N[i]? = some x := by rfl) (hv : Vis X.env.scope x := by first | exact Or.inl rfl | exact Or.inr (Or.inl rfl) | exact Or.inr (Or.inr rfl))
    (hd : (x == ("__debug__" : Str)) = false := by decide) (hcd : (x == ("__classdict__" : Str)) = false := by decide) : MP X g B S i (.Name x pos) (some ()) (fun _ => o1) (fun _ o' => oP v0 o') := by
  refine ⟨fun _ _ => pe_imp (pe_var hN hv hd hcd) fun σ H Q ⟨I, Φ, h, q⟩ => ?_⟩
  obtain ⟨v, e1, h1⟩ := h.at_ i _ hS
  exact ⟨v, e1, q v I H (Ext.refl h.sub) ⟨v, e1, foc_pin h1⟩⟩
end
/-! an instance made -/
section
variable {X : Cx} {g : Gb} {B : Bs} {J : Hp} {S : SL} {e : Expr} {es : List Expr} {pos p : Pos} {ι β : Type} {args : ι → List RK} {M : ι → Option β} {outs : β → List (Nat × OR)} {m : Option β} {j kk : Nat} {f C : Addr} {fd : FuncData} {ps : List Str} {x : Str} {dvs : List V} {ds : List Value}
theorem make_use {I1 H1 : Hp} {vs : List V} {x dx C : Addr} {cn : Str} {outs : β → List (Nat × OR)} {or : β → OR} {a : ι} {r : β} {Q : V → Hp → Prop} {E : XK} (hC : g.mg cn = some (.ref C)) (s1 : Same I1 H1) (hA : Args g (args a) vs I1 H1) (hM : M a = some r) (hx : H1 x = none) (hdx : H1 dx = none) (hne : dx ≠ x)
    (hout : outs r = [(0, or r)]) (harg : (args a).all RK.argy = true) (q : ∀ v I' H', Ext I1 H1 I' H' → RK.holds g (.ow (or r)) H1 v I' H' → Q v H') :
    spIO g (fun a => .ow (oC (wI g cn []) []) :: args a) M (fun _ => .im (Py.r g ())) outs (.ref x :: vs) (upd (upd H1 dx (.own x)) x (.ins C dx [])) (fun v H2 => v = .non ∧ Q (.ref x) H2) E := by
  have Rx : (upd H1 dx (.own x)) x = none := by rw [upd_ne (fun z => hne z.symm)]; exact hx
  have sR : Same H1 (upd H1 dx (.own x)) := same_new hdx
  have i_ne : ∀ a, I1 a ≠ none → a ≠ x ∧ a ≠ dx := fun a ha => by
    have h1 := same_ne s1 ha
    exact ⟨fun z => h1 (z ▸ hx), fun z => h1 (z ▸ hdx)⟩
  refine ⟨I1, upd H1 dx (.own x), fun n => if n = 0 then one1 x (.ins C dx []) else fun _ => none, a, r, fun b o e => ?_, same_new Rx, ⟨by rw [List.length_cons, List.length_cons, Paired.length hA], fun n k v e1 e2 => ?_, fun n b o e => ?_, fun n1 n2 b e1 e2 => ?_⟩, hM, fun v I' H' F Φ' hp => ?_⟩
  · have := i_ne b (ne_of_some e)
    rw [upd_ne this.1, upd_ne this.2]
    exact s1 b o e
  · cases n with
    | zero =>
      cases e1
      cases e2
      rw [if_pos rfl]
      refine ⟨x, _, [], rfl, one1_same, ⟨C, dx, hC, rfl, rfl⟩, rfl, fun _ _ => none, fun j o v z => by simp at z, fun _ _ _ z => (by cases z), fun _ => rfl, fun _ _ _ z => absurd rfl z⟩
    | succ n =>
      rw [if_neg (by omega)]
      obtain ⟨v', e3, q'⟩ := paired_get hA (i := n) (by simpa using e1)
      have e4 : vs[n]? = some v := by simpa using e2
      rw [e4] at e3
      cases e3
      have ha := List.all_eq_true.mp harg _ (List.mem_of_getElem? (show (args a)[n]? = some k by simpa using e1))
      cases k with
      | im p => exact q'
      | bw p =>
        obtain ⟨l, ws, z1, z2, z3⟩ := q'
        exact ⟨l, ws, z1, sR.seq z2, z3⟩
      | bo p =>
        obtain ⟨F, z2, z3⟩ := q'
        exact ⟨F, z2.trans sR, z3⟩
      | fr p => cases ha
      | rd p => cases ha
      | ow p => cases ha
      | ro p => cases ha
  · by_cases hn : n = 0
    · rw [if_pos hn] at e
      obtain ⟨z1, z2⟩ := one1_some e
      subst z1 z2
      exact ⟨upd_same, s1.free hx, Rx⟩
    · rw [if_neg hn] at e; cases e
  · by_cases h1 : n1 = 0
    · by_cases h2 : n2 = 0
      · rw [h1, h2]
      · rw [if_neg h2] at e2; exact absurd rfl e2
    · rw [if_neg h1] at e1; exact absurd rfl e1
  · have hv : v = .non := hp.val
    refine ⟨hv, q (.ref x) I' H' ⟨hp.i, sR.trans hp.h, hp.s, fun l n1 n2 => hp.n l (same_ne sR n1) n2⟩ ?_⟩
    obtain ⟨u, e1, e2⟩ := hp.out (0, or r) (by rw [hout]; exact List.mem_singleton.mpr rfl)
    cases e1
    exact ⟨Φ' 0, fun b hb => by
      cases z : Φ' 0 b with
      | none => exact absurd z hb
      | some o =>
        obtain ⟨_, z2, z3⟩ := hp.fr 0 b o z
        exact ⟨sR.free z3, z2⟩, fun b o z => (hp.fr 0 b o z).1, e2⟩
theorem me_make {or : β → OR} (F : FnOk X.prog X.w X.K X.mg X.base CX0 j f fd ps (spIO g (fun a => .ow (oC (wI g x []) []) :: args a) M (fun _ => .im (Py.r g ())) outs)) (hr : Room kk X.A) (hj : j + 1 ≤ kk) (Mk : Mk X.K C f) (hm : X.mg x = some (.ref C)) (hb : Binds X.K fd ps ds) (hd : Vals dvs ds)
    (ha : MA X g B S (e :: es) dvs args m M) (hout : ∀ r, outs r = [(0, or r)] := by intro _; rfl) (harg : ∀ a, (args a).all RK.argy = true := by intro _; rfl) (hmg : X.mg = g.mg := by rfl) (hg : Gl X x := by rfl) (hdb : (x == ("__debug__" : Str)) = false := by decide) (he : starEach (e :: es) X.env = (false, eval e X.env) :: starEach es X.env := by rfl) (hpl : (backTo pos (starEach es X.env)).any (·.1) = false := by rfl) :
    ME X g B S (.Call (.Name x p) (e :: es) [] pos) m (fun r => .ow (or r)) := by
  refine ⟨fun r q => ?_⟩
  refine pe_imp (pe_make Mk F (hr.mono hj) hg hm hb hd pass0 (ha.run r q) hdb he hpl) fun σ H Q ⟨I, hh, kc⟩ => ⟨I, hh, fun a vs I1 H1 hM x1 hA y dy hy hdy hne => ?_⟩
  exact make_use (by rw [← hmg]; exact hm) x1.s hA hM hy hdy hne (hout r) (harg a) fun v I' H' x2 hv => kc v I' H' (x1.trans x2) (RK.back rfl x1.h hv)
theorem me_make0 {or : β → OR} (a : ι) (F : FnOk X.prog X.w X.K X.mg X.base CX0 j f fd ps (spIO g (fun a => .ow (oC (wI g x []) []) :: args a) M (fun _ => .im (Py.r g ())) outs)) (hr : Room kk X.A) (hj : j + 1 ≤ kk) (Mk : Mk X.K C f) (hm : X.mg x = some (.ref C)) (hb : Binds X.K fd ps ds) (hd : Vals dvs ds)
    (ha : ∀ I H, Args g (args a) dvs I H) (hout : ∀ r, outs r = [(0, or r)] := by intro _; rfl) (harg : ∀ a, (args a).all RK.argy = true := by intro _; rfl) (hmg : X.mg = g.mg := by rfl) (hg : Gl X x := by rfl) (hdb : (x == ("__debug__" : Str)) = false := by decide) :
    ME X g B S (.Call (.Name x p) [] [] pos) (M a) (fun r => .ow (or r)) := by
  refine ⟨fun r q => ?_⟩
  refine pe_imp (pe_make0 Mk F (hr.mono hj) hg hm hb hd pass0 hdb) fun σ H Q ⟨I, hh, kc⟩ => fun y dy hy hdy hne => ?_
  exact make_use (by rw [← hmg]; exact hm) hh.sub (ha I H) q hy hdy hne (hout r) (harg a) fun v I' H' x2 hv => kc v I' H' x2 hv
/-- let go, of an expression -/
theorem me_frzO {α : Type} [Py α] {or : α → OR} {m : Option α} (z : ∀ a, Frz (or a) (Py.r g a)) (h : ME X g B S e m (fun a => .ow (or a))) : ME X g B S e m (KI g) := by
  refine ⟨fun a q => pe_imp (h.run a q) fun σ H Q ⟨I, hh, k⟩ => ⟨I, hh, fun v I' H' x hv => ?_⟩⟩
  obtain ⟨F, h1, h2, h3⟩ := hv
  have hd : ∀ b, F b ≠ none → I' b = none := fun b hb => (h1 b hb).2
  refine k v (Un I' F) H' ⟨x.i.trans (un_l hd), x.h, fun b ob eb => (un_some eb).elim (fun e => h2 _ _ e) fun e => x.s _ _ e.2, fun b n1 n2 => ?_⟩ (z a I' F v hd h3)
  cases e4 : F b with
  | none => rw [un_none e4]; exact x.n b n1 n2
  | some ob => exact absurd (h1 b (ne_of_some e4)).1 n1
theorem mb_frzO {α o : Type} [Py α] {K : KT o} (i : Nat) {a : α} {or : OR} {sts : List Stmt} {m : Option o} (z : Frz or (Py.r g a)) (hS : S[i]? = some (some (.ow or))) (hb : MB X g B J (S.set i (some (.im (Py.r g a)))) sts m K) : MB X g B J S sts m K := by
  refine ⟨fun r q => ?_⟩
  refine pss_imp (hb.run r q) fun D σ H ⟨I, ok, kk⟩ => ?_
  obtain ⟨I', ok'⟩ := frz_ok (i := i) z ok fun v F => ⟨_, hS, fun q => q⟩
  exact ⟨I', ok', kk⟩
end
end T
set_option Elab.async false
set_option linter.all false
set_option maxRecDepth 100000
namespace T
open PySem PySem.Spec PyProof.Rows L2
/-! fields and methods of instances that stay -/
def FldR {δ β : Type} [Py δ] [Py β] (X : Cx) (g : Gb) (f : Str) (pr : δ → β) : Prop := ∀ d I v, (Py.r g d).p I v → ∃ a C dx fs u, v = .ref a ∧ I a = some (.ins C dx fs) ∧ Cls X.K C ∧ NoAttr X.K C f ∧ fs.lookup f = some u ∧ (Py.r g (pr d)).p I u
theorem rIns_fld {X : Cx} {g : Gb} {c f : Str} {names : List Str} {rs : List PR} {r : PR} {I : Hp} {v : V} (j : Nat) (hC : Cf X g c f) (h : (rIns g c names rs).p I v) (hr : rs[j]? = some r := by rfl) (hj : fidx names f = some j := by decide +kernel) :
    ∃ a C dx fs u, v = .ref a ∧ I a = some (.ins C dx fs) ∧ Cls X.K C ∧ NoAttr X.K C f ∧ fs.lookup f = some u ∧ r.p I u := by
  obtain ⟨l, C, dx, vs, rfl, h1, h2, h3, h4⟩ := h
  obtain ⟨C', d1, d2, d3⟩ := hC
  rw [h1] at d1
  cases d1
  obtain ⟨u, e1, e2⟩ := paired_get h4 hr
  exact ⟨l, _, dx, _, u, rfl, h2, d2, d3, by rw [lookup_zip hj h3]; exact e1, e2⟩
/-- the method name of the thing d -/
def MethR {δ ι β : Type} [Py δ] (X : Cx) (g : Gb) (name : Str) (kk : Nat) (d : δ) (args : ι → List RK) (M : ι → Option β) (k : β → RK) : Prop :=
  ∃ C f fd ps j, Cls X.K C ∧ Meth X.K C name f ∧ j ≤ kk ∧ FnOk X.prog X.w X.K X.mg X.base CX0 j f fd ps (spT g (fun p : ι => .im (Py.r g d) :: args p) M k) ∧ Binds X.K fd ps [] ∧ ∀ I v, (Py.r g d).p I v → ∃ a dx fs, v = .ref a ∧ I a = some (.ins C dx fs) ∧ fs.lookup name = none
theorem rIns_no {g : Gb} {c name : Str} {names : List Str} {rs : List PR} {C : Addr} (hC : g.mg c = some (.ref C)) (hn : fidx names name = none) (I : Hp) (v : V) (h : (rIns g c names rs).p I v) : ∃ a dx fs, v = .ref a ∧ I a = some (.ins C dx fs) ∧ fs.lookup name = none := by
  obtain ⟨l, C', dx, vs, rfl, h1, h2, h3, h4⟩ := h
  rw [h1] at hC
  cases hC
  exact ⟨l, dx, _, rfl, h2, lookup_zip_no hn⟩
theorem sp_self {P : Program} {w : World} {K : PySem.W.Frag} {mg : Str → Option Value} {base : Heap} {g : Gb} {j : Nat} {f : Addr} {fd : FuncData} {ps : List Str} {δ ι β : Type} [Py δ] {args : ι → List RK} {M : δ × ι → Option β} {k : β → RK} (d : δ)
    (F : FnOk P w K mg base CX0 j f fd ps (spT g (fun p : δ × ι => .im (Py.r g p.1) :: args p.2) M k)) : FnOk P w K mg base CX0 j f fd ps (spT g (fun p : ι => .im (Py.r g d) :: args p) (fun p => M (d, p)) k) :=
  F.imp fun vs H Q E ⟨I, a, r, s, hA, hM, q⟩ => ⟨I, (d, a), r, s, hA, hM, q⟩
section
variable {X : Cx} {g : Gb} {B : Bs} {J : Hp} {S : SL} {e e1 e2 e3 : Expr} {es : List Expr} {pos p apos : Pos} {α β γ δ ι β' : Type} [Py α] [Py β] [Py γ] [Py δ] {args : ι → List RK} {k : β' → RK} {kk : Nat} {name : Str}
theorem me_fld {m : Option δ} {f : Str} {pr : δ → β} (h : ME X g B S e m (KI g)) (hf : FldR X g f pr) (hb : attributeBase e f X.env (eval e X.env) = eval e X.env := by rfl) : ME X g B S (.Attribute e f pos) (m >>= fun d => some (pr d)) (KI g) := by
  refine ⟨fun r q => ?_⟩
  obtain ⟨d, q1, q2⟩ := bind_some q
  cases q2
  refine pe_imp (pe_fld (h.run d q1) hb) fun σ H Q ⟨I, hh, kk⟩ => ⟨I, hh, fun v I' H' x hv => ?_⟩
  obtain ⟨a, C, dx, fs, u, rfl, h1, h2, h3, h4, h5⟩ := hf d I' v hv
  exact ⟨a, C, dx, fs, u, rfl, x.s _ _ h1, h2, h3, h4, kk u I' H' x h5⟩
theorem me_meth {pl : Sem Bool} {m0 : Option δ} {m1 : δ → Option β'} {M : δ → ι → Option β'} (h0 : ME X g B S e1 m0 (KI g)) (hm : ∀ d, MethR X g name kk d args (M d) k) (hr : Room kk X.A) (ha : ∀ d, MA X g B S (e :: es) [] args (m1 d) (M d))
    (hbw : ∀ c, (k c).isB = false := by intro _; rfl) (hst : starEach (e :: es) X.env = (false, eval e X.env) :: starEach es X.env := by rfl) (hpl : (backTo pos (starEach es X.env)).any (·.1) = false := by rfl)
    (ht : eval (.Call (.Attribute e1 name apos) (e :: es) [] pos) X.env = (do
      let ov ← eval e1 X.env
      standAt apos.atName
      let (f, first) ← holding [ov] (getMethod ov name pl)
      callWith pos f first (backTo pos (starEach (e :: es) X.env)) (backToKw pos (keywordEach [] X.env))) := by rfl) :
    ME X g B S (.Call (.Attribute e1 name apos) (e :: es) [] pos) (m0 >>= m1) k := by
  refine ⟨fun r q => ?_⟩
  obtain ⟨d, q1, q2⟩ := bind_some q
  obtain ⟨C, f, fd, ps, j, c1, c2, c3, F, hb, hi⟩ := hm d
  refine pe_imp (pe_meth (pl := pl) (h0.run d q1) c1 c2 F (hr.mono c3) hb .nil pass0 ((ha d).run r q2) hst hpl ht) fun σ H Q ⟨I, hh, kc⟩ => ⟨I, hh, fun v I1 H1 x1 hv => ?_⟩
  obtain ⟨a, dx, fs, rfl, h1, h2⟩ := hi I1 v hv
  refine ⟨a, dx, fs, rfl, x1.s _ _ h1, h2, I1, hh.ext x1, fun b vs I2 H2 hM x2 hA => ?_⟩
  have hA' : Args g (RK.im (Py.r g d) :: args b) (.ref a :: (vs ++ [])) I2 H2 := .cons ((Py.r g d).mono x2.i hv) hA
  exact sp_use (args := fun p => RK.im (Py.r g d) :: args p) (a := b) x2.s hA' hM fun u I3 H3 x3 hu => kc u I3 H3 ((x1.trans x2).trans x3) (RK.back (hbw r) (x1.trans x2).h hu)
theorem me_meth0 {pl : Sem Bool} {m0 : Option δ} {M : δ → Unit → Option β'} (h0 : ME X g B S e1 m0 (KI g)) (hm : ∀ d, MethR X g name kk d (fun _ : Unit => []) (M d) k) (hr : Room kk X.A)
    (hbw : ∀ c, (k c).isB = false := by intro _; rfl)
    (ht : eval (.Call (.Attribute e1 name apos) [] [] pos) X.env = (do
      let ov ← eval e1 X.env
      standAt apos.atName
      let (f, first) ← holding [ov] (getMethod ov name pl)
      callWith pos f first (backTo pos (starEach [] X.env)) (backToKw pos (keywordEach [] X.env))) := by rfl) :
    ME X g B S (.Call (.Attribute e1 name apos) [] [] pos) (m0 >>= fun d => M d ()) k := by
  refine ⟨fun r q => ?_⟩
  obtain ⟨d, q1, q2⟩ := bind_some q
  obtain ⟨C, f, fd, ps, j, c1, c2, c3, F, hb, hi⟩ := hm d
  refine pe_imp (pe_meth0 (pl := pl) (h0.run d q1) c1 c2 F (hr.mono c3) hb .nil pass0 ht) fun σ H Q ⟨I, hh, kc⟩ => ⟨I, hh, fun v I1 H1 x1 hv => ?_⟩
  obtain ⟨a, dx, fs, rfl, h1, h2⟩ := hi I1 v hv
  refine ⟨a, dx, fs, rfl, x1.s _ _ h1, h2, ?_⟩
  have hA' : Args g [RK.im (Py.r g d)] (.ref a :: ([] ++ [])) I1 H1 := .cons hv .nil
  exact ⟨I1, (), r, x1.s, hA', q2, fun u I3 H3 x3 hu => kc u I3 H3 (x1.trans x3) (RK.back (hbw r) x1.h hu)⟩
/-- a thing seen as one of a wider kind -/
theorem me_up {m : Option α} {f : α → β} (h : ME X g B S e m (KI g)) (hf : ∀ a, Py.r g (f a) = Py.r g a := by intro _; rfl) : ME X g B S e (m >>= fun a => some (f a)) (KI g) := by
  refine ⟨fun r q => ?_⟩
  obtain ⟨a, q1, q2⟩ := bind_some q
  cases q2
  refine pe_imp (h.run a q1) fun σ H Q ⟨I, hh, kk⟩ => ⟨I, hh, fun v I' H' x hv => kk v I' H' x ?_⟩
  show (Py.r g (f a)).p I' v
  rw [hf a]; exact hv
/-! owned tuples -/
theorem kids_nil {I F : Hp} {l : Addr} : Kids [] I F [] l := ⟨rfl, fun _ _ => none, fun j o v h => by simp at h, fun _ _ _ z => (by cases z), fun _ => rfl, fun _ _ _ z => absurd rfl z⟩
def pk2 (F1 F2 : Hp) : Nat → Hp
  | 0 => F1
  | 1 => F2
  | _ => fun _ => none
theorem me_t2O {α' β'' : Type} {m1 : Option α'} {m2 : Option β''} {k1 : α' → RK} {k2 : β'' → RK} {n : Nat} (h1 : ME X g B S e1 m1 k1) (h2 : ME X g B S e2 m2 k2) (s1 : ∀ a, (k1 a).slotty = true := by intro _; rfl) (s2 : ∀ a, (k2 a).slotty = true := by intro _; rfl)
    (hs : starEach [e1, e2] X.env = (false, eval e1 X.env) :: starEach [e2] X.env := by rfl) (hs2 : starEach [e2] X.env = (false, eval e2 X.env) :: starEach [] X.env := by rfl) :
    ME X g B S (.Tuple [e1, e2] n pos) (m1 >>= fun a => m2 >>= fun b => some (T2.mk a b)) (fun t => .ow (oC wT [(k1 t.x0).orOf, (k2 t.x1).orOf])) := by
  refine ⟨fun t q => ?_⟩
  obtain ⟨a, q1, q⟩ := bind_some q
  obtain ⟨b, q2, q3⟩ := bind_some q
  cases q3
  refine pe_imp (pe_tup (pa_cons (h1.run a q1) (pa_cons (h2.run b q2) pa_nil hs2) hs)) fun σ H Q ⟨I, hh, kk⟩ => ⟨I, hh, fun v I1 H1 x1 hv => ⟨I1, hh.ext x1, fun w I2 H2 x2 hw => ⟨by show 2 ≤ sizeLine; decide, fun l hl => ?_⟩⟩⟩
  obtain ⟨F1, f1, f2, f3⟩ := RK.fragO (s1 a) hv
  obtain ⟨F2, g1, g2, g3⟩ := RK.fragO (s2 b) hw
  have hI := x2.s.free hl
  have f2' := f2.trans x2.h
  have F1l : F1 l = none := f2'.free hl
  have F2l : F2 l = none := g2.free hl
  have dis : ∀ c, F2 c ≠ none → F1 c = none := fun c hc => f2.free (g1 c hc).1
  have hU : ∀ c o, Un F1 F2 c = some o → H2 c = some o := fun c o e => (un_some e).elim (fun z => g2 _ _ z) fun z => f2' _ _ z.2
  refine kk _ I2 _ ((x1.trans x2).trans ⟨Same.refl _, same_new hl, x2.s.trans (same_new hl), fun _ _ z => z⟩) ⟨NewF (Un F1 F2) l (.tup [v, w]) fun _ => none, fun c hc => ?_, fun c o e => ?_, l, _, [v, w], rfl, newF_root, rfl, rfl, pk2 F1 F2, fun n o u e1 e2 => ?_, fun n c o e => ?_, fun n => ?_, fun n n2 c e1 e2 => ?_⟩
  · rcases newF_ne hc with z | z | z
    · subst z; exact ⟨x1.h.free (x2.h.free hl), hI⟩
    · exact absurd rfl z
    · cases q : F2 c with
      | some o => exact ⟨x1.h.free (g1 c (ne_of_some q)).1, (g1 c (ne_of_some q)).2⟩
      | none =>
        rw [un_none q] at z
        exact ⟨(f1 c z).1, x2.n c (same_ne f2 z) (f1 c z).2⟩
  · by_cases hc : c = l
    · subst hc
      rw [newF_root] at e
      rw [upd_same]; exact e
    · rw [newF_old hc rfl] at e
      rw [upd_ne hc]
      exact hU c o e
  · match n, e1, e2 with
    | 0, e1, e2 =>
      cases e1
      cases e2
      exact OR.mono _ x2.i f3
    | 1, e1, e2 =>
      cases e1
      cases e2
      exact g3
    | n + 2, e1, e2 => simp at e1
  · match n, e with
    | 0, e =>
      have e' : F1 c = some o := e
      rw [newF_old (fun z => by rw [z, F1l] at e'; cases e') rfl]
      cases hq : F2 c with
      | none => rw [un_none hq]; exact e'
      | some y => rw [dis c (ne_of_some hq)] at e'; cases e'
    | 1, e =>
      have e' : F2 c = some o := e
      rw [newF_old (fun z => by rw [z, F2l] at e'; cases e') rfl]
      exact un_r e'
    | n + 2, e => cases e
  · match n with
    | 0 => exact F1l
    | 1 => exact F2l
    | n + 2 => rfl
  · match n, n2, e1, e2 with
    | 0, 0, _, _ => rfl
    | 1, 1, _, _ => rfl
    | 0, 1, e1, e2 => exact absurd (dis c e2) e1
    | 1, 0, e1, e2 => exact absurd (dis c e1) e2
    | 0, n + 2, e1, e2 => exact absurd rfl e2
    | 1, n + 2, e1, e2 => exact absurd rfl e2
    | n + 2, _, e1, _ => exact absurd rfl e1
end
/-! an owned thing looked at, within an expression whose value holds no address -/
def Flat (k : RK) : Prop := ∃ r : PR, k = .im r ∧ ∀ I I' v, r.p I v → r.p I' v
section
variable {X : Cx} {g : Gb} {B : Bs} {J : Hp} {S : SL} {e : Expr} {α β' : Type} [Py α] {k : β' → RK}
theorem view_ok {i : Nat} {o : OR} {r : PR} {σ : L2.St} {I H : Hp} {Φ : Nat → Hp} (z : Frz o r) (h : HoldF g B S σ I H Φ) (hS : S[i]? = some (some (.ow o))) : Hold g B (S.set i (some (.im r))) σ (Un I (Φ i)) H := by
  obtain ⟨v, e1, q⟩ := h.at_ i _ hS
  have hd : ∀ a, Φ i a ≠ none → I a = none := fun a ha => (h.ne ha).2.1
  have sI : Same I (Un I (Φ i)) := un_l hd
  have hσ : σ.set i (some v) = σ := by
    apply List.ext_getElem?
    intro j
    by_cases hj : i = j
    · subst hj
      rw [List.getElem?_set_self (List.getElem?_eq_some_iff.mp e1).1, e1]
    · rw [List.getElem?_set_ne hj]
  refine ⟨putF Φ i (fun _ => none), ?_⟩
  have h2 : HoldF g B (S.set i (some (.im r))) (σ.set i (some v)) (Un I (Φ i)) H (putF Φ i (fun _ => none)) := by
    refine ⟨by rw [List.length_set, List.length_set, h.len], fun b ob eb => (un_some eb).elim (fun e => (h.fr i b ob e).1) fun e => h.sub _ _ e.2, h.base, fun j k' e => ?_, fun j a ob e => ?_, fun j l a hj hl => ?_⟩
    · rcases set_some e with ⟨a, b, c⟩ | ⟨a, b⟩
      · subst a
        cases b
        exact ⟨v, List.getElem?_set_self (by rw [h.len]; exact c), z I (Φ i) v hd q⟩
      · obtain ⟨u, e2, q⟩ := h.at_ j k' b
        exact ⟨u, by rw [List.getElem?_set_ne a]; exact e2, by rw [putF_ne (fun z => a z.symm)]; exact RK.inS_mono sI q⟩
    · by_cases hji : j = i
      · rw [hji, putF_same] at e; cases e
      · rw [putF_ne hji] at e
        obtain ⟨f1, f2, f3⟩ := h.fr j a ob e
        refine ⟨f1, ?_, f3⟩
        rw [un_none]
        · exact f2
        · cases e4 : Φ i a with
          | none => rfl
          | some ou => exact absurd (h.dj j i a (ne_of_some e) (ne_of_some e4)) hji
    · by_cases hji : j = i
      · rw [hji, putF_same] at hj; exact absurd rfl hj
      · by_cases hli : l = i
        · rw [hli, putF_same] at hl; exact absurd rfl hl
        · rw [putF_ne hji] at hj
          rw [putF_ne hli] at hl
          exact h.dj j l a hj hl
  rw [hσ] at h2
  exact h2
theorem me_view {a : α} {o : OR} {m : Option β'} (i : Nat) (z : Frz o (Py.r g a)) (hS : S[i]? = some (some (.ow o))) (h : ME X g B (S.set i (some (.im (Py.r g a)))) e m k) (hf : ∀ r, Flat (k r)) : ME X g B S e m k := by
  refine ⟨fun r q => pe_imp (h.run r q) fun σ H Q ⟨I, ⟨Φ, hh⟩, kk⟩ => ⟨_, view_ok z hh hS, fun v I' H' x hv => ?_⟩⟩
  obtain ⟨pr, e1, e2⟩ := hf r
  refine kk v I H' ⟨Same.refl _, x.h, hh.sub.trans x.h, fun _ _ z => z⟩ ?_
  rw [e1] at hv ⊢
  exact e2 _ _ _ hv
theorem mt_view {a : α} {o : OR} {m : Option Bool} (i : Nat) (z : Frz o (Py.r g a)) (hS : S[i]? = some (some (.ow o))) (h : MT X g B (S.set i (some (.im (Py.r g a)))) e m) : MT X g B S e m := by
  refine ⟨fun r q => pt_imp (h.run r q) fun σ H Q ⟨I, ⟨Φ, hh⟩, kk⟩ => ⟨_, view_ok z hh hS, fun I' H' x => kk I H' ⟨Same.refl _, x.h, hh.sub.trans x.h, fun _ _ z => z⟩⟩⟩
/-- the same of a new list -/
theorem fr_ow {as : List α} {i : Nat} {σ : L2.St} {I H : Hp} (h : Hold g B S σ I H) (hS : S[i]? = some (some (.fr (rl g as)))) : Hold g B (S.set i (some (.ow (oF (rl g as))))) σ I H := by
  obtain ⟨Φ, h⟩ := h
  refine ⟨Φ, by rw [List.length_set]; exact h.len, h.sub, h.base, fun j k' e => ?_, h.fr, h.dj⟩
  rcases set_some e with ⟨a, b, c⟩ | ⟨a, b⟩
  · subst a
    cases b
    obtain ⟨v, e1, q⟩ := h.at_ i _ hS
    exact ⟨v, e1, q⟩
  · exact h.at_ j k' b
theorem set_set' {S : SL} {i : Nat} {x y : Option RK} : (S.set i x).set i y = S.set i y := by rw [List.set_set]
theorem me_viewF {as : List α} {m : Option β'} (i : Nat) (hS : S[i]? = some (some (.fr (rl g as)))) (h : ME X g B (S.set i (some (.im (Py.r g as)))) e m k) (hf : ∀ r, Flat (k r)) : ME X g B S e m k := by
  have hlt : i < S.length := (List.getElem?_eq_some_iff.mp hS).1
  have h2 := me_view (S := S.set i (some (.ow (oF (rl g as))))) i (frz_F (g := g) (as := as)) (List.getElem?_set_self hlt) (by rw [set_set']; exact h) hf
  exact ⟨fun r q => pe_imp (h2.run r q) fun σ H Q ⟨I, hh, kk⟩ => ⟨I, fr_ow hh hS, kk⟩⟩
theorem mt_viewF {as : List α} {m : Option Bool} (i : Nat) (hS : S[i]? = some (some (.fr (rl g as)))) (h : MT X g B (S.set i (some (.im (Py.r g as)))) e m) : MT X g B S e m := by
  have hlt : i < S.length := (List.getElem?_eq_some_iff.mp hS).1
  have h2 := mt_view (S := S.set i (some (.ow (oF (rl g as))))) i (frz_F (g := g) (as := as)) (List.getElem?_set_self hlt) (by rw [set_set']; exact h)
  exact ⟨fun r q => pt_imp (h2.run r q) fun σ H Q ⟨I, hh, kk⟩ => ⟨I, fr_ow hh hS, kk⟩⟩
theorem flat_int : ∀ r : Int, Flat (KI g r) := fun r => ⟨_, rfl, fun _ _ _ h => h⟩
theorem flat_bool : ∀ r : Bool, Flat (KI g r) := fun r => ⟨_, rfl, fun _ _ _ h => h⟩
theorem flat_str : ∀ r : Str, Flat (KI g r) := fun r => ⟨_, rfl, fun _ _ _ h => h⟩
theorem flat_oint : ∀ r : Option Int, Flat (KI g r) := fun r => ⟨_, rfl, fun _ _ _ h => by cases r <;> exact h⟩
end
end T
set_option Elab.async false
set_option linter.all false
set_option maxRecDepth 100000
namespace T
open PySem PySem.Spec PyProof.Rows L2 ClX
/-! a def called that changes the thing of a slot -/
def Rest (H F : Hp) : Hp := fun a => match F a with
  | some _ => none
  | none => H a
theorem rest_some {H F : Hp} {a : Addr} {o : HO} (h : Rest H F a = some o) : F a = none ∧ H a = some o := by
  unfold Rest at h
  cases q : F a with
  | some u => rw [q] at h; cases h
  | none => rw [q] at h; exact ⟨rfl, h⟩
theorem rest_none {H F : Hp} {a : Addr} (h : F a ≠ none) : Rest H F a = none := by
  unfold Rest
  cases q : F a with
  | some u => rfl
  | none => exact absurd q h
theorem rest_of {H F : Hp} {a : Addr} (h : F a = none) : Rest H F a = H a := by unfold Rest; rw [h]
def RK.isIm : RK → Bool
  | .im _ => true
  | _ => false
def f0 (F : Hp) : Nat → Hp
  | 0 => F
  | _ => fun _ => none
section
variable {X : Cx} {g : Gb} {B : Bs} {J : Hp} {S : SL} {σ : L2.St} {I H : Hp} {Φ : Nat → Hp} {i : Nat} {k : RK} {v : V} {o0 op : OR}
theorem io_pre {ks : List RK} {vs : List V} (h : HoldF g B S σ I H Φ) (hv : o0.p I (Φ i) v) (hA : Args g ks vs I H) (him : ks.all RK.isIm = true) : Same (Rest H (Φ i)) H ∧ ArgsF g (.ow o0 :: ks) (v :: vs) I (Rest H (Φ i)) H (f0 (Φ i)) := by
  refine ⟨fun a o e => (rest_some e).2, by rw [List.length_cons, List.length_cons, Paired.length hA], fun n k u e1 e2 => ?_, fun n a o e => ?_, fun n1 n2 a e1 e2 => ?_⟩
  · match n, e1, e2 with
    | 0, e1, e2 =>
      cases e1
      cases e2
      exact hv
    | n + 1, e1, e2 =>
      obtain ⟨u', e3, q⟩ := paired_get hA (i := n) (by simpa using e1)
      have e4 : vs[n]? = some u := by simpa using e2
      rw [e4] at e3
      cases e3
      have ha := List.all_eq_true.mp him _ (List.mem_of_getElem? (show ks[n]? = some k by simpa using e1))
      cases k with
      | im p => exact q
      | fr p => cases ha
      | bw p => cases ha
      | rd p => cases ha
      | ow p => cases ha
      | bo p => cases ha
      | ro p => cases ha
  · match n, e with
    | 0, e =>
      obtain ⟨f1, f2, _⟩ := h.fr i a o e
      exact ⟨f1, f2, rest_none (ne_of_some e)⟩
    | n + 1, e => cases e
  · match n1, n2, e1, e2 with
    | 0, 0, _, _ => rfl
    | 0, n + 1, _, e2 => exact absurd rfl e2
    | n + 1, _, e1, _ => exact absurd rfl e1
theorem io_post {o' : OR} {vs : Nat → Option V} {w : V} {I' H' F : Hp} {Φ' : Nat → Hp} (x : Ext B.I B.H I H) (oj : Same J I) (h : HoldF g B S σ I H Φ) (e1 : σ[i]? = some (some v)) (hvs : vs 0 = some v) (hp : Post g I (Rest H (Φ i)) k [(0, o')] vs w I' H' F Φ') (pin : ∀ F', o'.p I' F' v → op.p I' F' v) :
    Ext B.I B.H I' H' ∧ Same J I' ∧ ∃ Φ2, HoldF g B (S.set i (some (.ow op))) σ I' H' Φ2 ∧ (∀ j a, F a ≠ none → Φ2 j a = none) := by
  have other : ∀ j a, j ≠ i → Φ j a ≠ none → Φ i a = none := fun j a hj ha => by
    cases q : Φ i a with
    | none => rfl
    | some o => exact absurd (h.dj j i a ha (ne_of_some q)) hj
  have base : ∀ a o, B.H a = some o → Rest H (Φ i) a = some o := fun a o e => by
    rw [rest_of]
    · exact h.base a o e
    · cases q : Φ i a with
      | none => rfl
      | some y => have := (h.fr i a y q).2.2; rw [e] at this; cases this
  have sB : Same B.H H' := fun a o e => hp.h a o (base a o e)
  have x' : Ext B.I B.H I' H' := ⟨x.i.trans hp.i, sB, hp.s, fun l n1 n2 => by
    cases e : B.H l with
    | none => exact absurd e n1
    | some o => exact hp.n l (ne_of_some (base l o e)) (x.n l n1 n2)⟩
  obtain ⟨u, z1, z2⟩ := hp.out (0, o') (List.mem_singleton.mpr rfl)
  rw [hvs] at z1
  cases z1
  have hσ : σ.set i (some v) = σ := by
    apply List.ext_getElem?
    intro j
    by_cases hj : i = j
    · subst hj
      rw [List.getElem?_set_self (List.getElem?_eq_some_iff.mp e1).1, e1]
    · rw [List.getElem?_set_ne hj]
  have hR : ∀ j a, j ≠ i → Φ j a ≠ none → Rest H (Φ i) a ≠ none := fun j a hj ha => by
    rw [rest_of (other j a hj ha)]
    exact (h.ne ha).1
  refine ⟨x', oj.trans hp.i, putF Φ i (Φ' 0), ?_, fun j a ha => ?_⟩
  · have h2 : HoldF g B (S.set i (some (.ow op))) (σ.set i (some v)) I' H' (putF Φ i (Φ' 0)) := by
      refine ⟨by rw [List.length_set, List.length_set, h.len], hp.s, sB, fun j k' e => ?_, fun j a o e => ?_, fun j l a hj hl => ?_⟩
      · rcases set_some e with ⟨a, b, c⟩ | ⟨a, b⟩
        · subst a
          cases b
          exact ⟨v, List.getElem?_set_self (by rw [h.len]; exact c), by rw [putF_same]; exact pin _ z2⟩
        · obtain ⟨u, e2, q⟩ := h.at_ j k' b
          exact ⟨u, by rw [List.getElem?_set_ne a]; exact e2, by rw [putF_ne (fun z => a z.symm)]; exact RK.inS_mono hp.i q⟩
      · by_cases hji : j = i
        · rw [hji, putF_same] at e
          obtain ⟨y1, y2, y3⟩ := hp.fr 0 a o e
          refine ⟨y1, y2, ?_⟩
          cases q : B.H a with
          | none => rfl
          | some y => rw [base a y q] at y3; cases y3
        · rw [putF_ne hji] at e
          obtain ⟨f1, f2, f3⟩ := h.fr j a o e
          have hr := hR j a hji (ne_of_some e)
          refine ⟨hp.h a o ?_, hp.n a hr f2, f3⟩
          rw [rest_of (other j a hji (ne_of_some e))]; exact f1
      · have no : ∀ m, m ≠ i → Φ' 0 a ≠ none → Φ m a ≠ none → False := fun m hm f1 f2 => by
          cases q : Φ' 0 a with
          | none => exact f1 q
          | some y => exact hR m a hm f2 (hp.fr 0 a y q).2.2
        by_cases hji : j = i
        · by_cases hli : l = i
          · rw [hji, hli]
          · rw [hji, putF_same] at hj
            rw [putF_ne hli] at hl
            exact (no l hli hj hl).elim
        · by_cases hli : l = i
          · rw [hli, putF_same] at hl
            rw [putF_ne hji] at hj
            exact (no j hji hl hj).elim
          · rw [putF_ne hji] at hj
            rw [putF_ne hli] at hl
            exact h.dj j l a hj hl
    rw [hσ] at h2
    exact h2
  · by_cases hji : j = i
    · rw [hji, putF_same]
      cases q : Φ' 0 a with
      | none => rfl
      | some y => exact absurd (hp.dv 0 a (ne_of_some q)) ha
    · rw [putF_ne hji]
      cases q : Φ j a with
      | none => rfl
      | some y => exact absurd (hp.fF a ha).1 (hR j a hji (ne_of_some q))
end
/-! C.m(self, ..): a function read off a class of the program's own -/
def tClsFn (C : Addr) (sp : Sp) (dvs : List V) (E : XK) (ta : TE) (t : TA) : TE := fun σ H Q => ta σ H fun x H1 => x = .ref C ∧ t σ H1 fun vs H2 => sp (vs ++ dvs) H2 Q E
theorem pe_clsFn {X : Cx} {CX : CXT} {k : Nat} {C f : Addr} {fd : FuncData} {ps : List Str} {mc : Value} {sp : Sp} {E : XK} {dvs : List V} {ds : List Value} {o e : Expr} {es : List Expr} {m : Str} {pos apos : Pos} {ta : TE} {t : TA} {pl : Sem Bool} (he : PE X o ta) (r : CRead X.K C mc) (c : CVal X.K C mc m (.ref f) (.ref f)) (hk : PySem.W.keepIn X.K (.ref f) = true)
    (F : FnOk X.prog X.w X.K X.mg X.base CX k f fd ps sp) (hr : Room k X.A) (hb : Binds X.K fd ps ds) (hd : Vals dvs ds) (hx : Passes CX X E) (ha : PA X (e :: es) t)
    (hst : starEach (e :: es) X.env = (false, eval e X.env) :: starEach es X.env := by rfl) (hpl : (backTo pos (starEach es X.env)).any (·.1) = false := by rfl)
    (ht : eval (.Call (.Attribute o m apos) (e :: es) [] pos) X.env = (do
      let ov ← eval o X.env
      standAt apos.atName
      let (f, first) ← holding [ov] (getMethod ov m pl)
      callWith pos f first (backTo pos (starEach (e :: es) X.env)) (backToKw pos (keywordEach [] X.env))) := by rfl) :
    PE X (.Call (.Attribute o m apos) (e :: es) [] pos) (tClsFn C sp dvs E ta t) := by
  refine ⟨fun pins s σ H Q I h => ?_⟩
  refine PySem.W.methodCall_KW (pl := pl) (thn (he.run pins s σ H _ I h) fun u s1 ⟨x, H1, I1, rx, ex, q⟩ => ?_) ht
  subst ex
  obtain rfl : u = Value.ref C := rx
  refine PySem.W.method_cls I1.kIn r.ga (getcval_ok I1 r c fun s2 I2 => ?_)
  exact PySem.W.callWith_K (h₀ := X.base) I2.ok.mod.kin hk (thn (ha.run pos pins s2 σ H1 _ I2 q) fun us s3 ⟨vs, H2, I3, rv, q2⟩ => ⟨I3.kIn, run_fn F hr hb hd hx I3 rv q2⟩) hst hpl
section
variable {X : Cx} {g : Gb} {B : Bs} {J : Hp} {S : SL} {e : Expr} {es : List Expr} {pos p p2 apos cpos : Pos} {o ι β : Type} {K : KT o} {rest : List Stmt} {args : ι → List RK} {M : ι → Option β} {outs : β → List (Nat × OR)} {m : Option β} {j kk : Nat} {f C : Addr} {fd : FuncData} {ps : List Str} {x cn mn : Str} {mc : Value} {dvs : List V} {ds : List Value} {fn : β → Option o}
/-- C.m(x, ..) alone, x an owned slot -/
theorem mb_clsInit {pl : Sem Bool} {o0 : OR} {or : β → OR} {u0 : V} (i : Nat) (F : FnOk X.prog X.w X.K X.mg X.base CX0 j f fd ps (spIO g (fun a => .ow o0 :: args a) M (fun _ => .im (Py.r g ())) outs)) (hr : Room kk X.A) (hj : j ≤ kk) (hm : X.mg cn = some (.ref C)) (r : CRead X.K C mc) (c : CVal X.K C mc mn (.ref f) (.ref f)) (hk : PySem.W.keepIn X.K (.ref f) = true) (hb : Binds X.K fd ps ds) (hd : Vals dvs ds)
    (ha : MA X g B S es dvs args m M) (hrest : ∀ r, MB X g B J (S.set i (some (.ow (oP u0 (or r))))) rest (fn r) K) (hS : S[i]? = some (some (.ow (oP u0 o0))) := by rfl) (hN : X.N[i]? = some x := by rfl) (hv : Vis X.env.scope x := by first | exact Or.inl rfl | exact Or.inr (Or.inl rfl) | exact Or.inr (Or.inr rfl))
    (hout : ∀ r, outs r = [(0, or r)] := by intro _; rfl) (harg : ∀ a, (args a).all RK.isIm = true := by intro _; rfl) (hg : Gl X cn := by rfl) (hdb : (cn == ("__debug__" : Str)) = false := by decide)
    (hdx : (x == ("__debug__" : Str)) = false := by decide) (hcd : (x == ("__classdict__" : Str)) = false := by decide)
    (hst : starEach (.Name x p :: es) X.env = (false, eval (.Name x p) X.env) :: starEach es X.env := by rfl) (hpl : (backTo cpos (starEach es X.env)).any (·.1) = false := by rfl)
    (ht : eval (.Call (.Attribute (.Name cn p2) mn apos) (.Name x p :: es) [] cpos) X.env = (do
      let ov ← eval (.Name cn p2) X.env
      standAt apos.atName
      let (f, first) ← holding [ov] (getMethod ov mn pl)
      callWith cpos f first (backTo cpos (starEach (.Name x p :: es) X.env)) (backToKw cpos (keywordEach [] X.env))) := by rfl)
    (hs : swapsWith (.Call (.Attribute (.Name cn p2) mn apos) (.Name x p :: es) [] cpos) none pos.line X.env = pure false := by rfl) :
    MB X g B J S (.Expr (.Call (.Attribute (.Name cn p2) mn apos) (.Name x p :: es) [] cpos) pos :: rest) (m >>= fn) K := by
  refine ⟨fun r' q => ?_⟩
  obtain ⟨b, q1, q2⟩ := bind_some q
  refine pss_imp (pss_cons (ps_expr (pe_clsFn (pl := pl) (pe_glob (v := .ref C) hg hm rfl hdb) r c hk F (hr.mono hj) hb hd pass0 (pa_cons (pe_var hN hv hdx hcd) (ha.run b q1) hst) hst hpl ht) hs) ((hrest b).run r' q2)) fun D σ H ⟨I, ok, kk⟩ => ?_
  obtain ⟨x0, oj, Φ, hh⟩ := ok
  obtain ⟨v, e1, e2, e3⟩ := hh.at_ i _ hS
  refine ⟨rfl, v, e1, I, ⟨Φ, hh⟩, fun a vs I1 H1 hM x1 hA => ?_⟩
  have hh1 := hh.ext x1
  obtain ⟨sR, hAF⟩ := io_pre (i := i) (o0 := o0) (v := v) hh1 (OR.mono _ x1.i e3) hA (harg a)
  refine ⟨I1, Rest H1 (Φ i), f0 (Φ i), a, b, x1.s, sR, hAF, hM, fun w I2 H2 F2 Φ2 hp => ?_⟩
  rw [hout b] at hp
  obtain ⟨y1, y2, Φ3, y3, _⟩ := io_post (op := oP u0 (or b)) (x0.trans x1) (oj.trans x1.i) hh1 e1 rfl hp (fun F' z => ⟨e2, z⟩)
  exact ⟨I2, ⟨y1, y2, Φ3, y3⟩, kk⟩
end
end T
set_option Elab.async false
set_option linter.all false
set_option maxRecDepth 100000
namespace T
open PySem PySem.Spec PyProof.Rows L2 C8
theorem rIns_at {g : Gb} {c : Str} {names : List Str} {rs : List PR} {C : Addr} (hC : g.mg c = some (.ref C)) (I : Hp) (v : V) (h : (rIns g c names rs).p I v) : ∃ a dx fs, v = .ref a ∧ I a = some (.ins C dx fs) := by
  obtain ⟨l, C', dx, vs, rfl, h1, h2, h3, h4⟩ := h
  rw [h1] at hC
  cases hC
  exact ⟨l, dx, _, rfl, h2⟩
theorem rIns_nz {g : Gb} {c : Str} {names : List Str} {rs : List PR} {I : Hp} {v : V} (h : (rIns g c names rs).p I v) : v ≠ .non := by
  obtain ⟨l, _, _, _, rfl, _⟩ := h
  exact fun z => by cases z
section
variable {X : Cx} {g : Gb} {B : Bs} {S : SL} {e : Expr} {pos p p2 : Pos} {δ : Type} [Py δ] {cn : Str} {C : Addr} {m : Option δ}
theorem me_isiC (hm0 : X.mg "isinstance" = none) (h : ME X g B S e m (KI g)) (hm : X.mg cn = some (.ref C)) (ic : InsC X.K C) (hi : ∀ (d : δ) I v, (Py.r g d).p I v → ∃ a dx fs, v = .ref a ∧ I a = some (.ins C dx fs)) (hg : Gl X "isinstance" := by rfl) (hg2 : Gl X cn := by rfl) (hd : (cn == ("__debug__" : Str)) = false := by decide)
    (he : starEach [e, .Name cn p2] X.env = (false, eval e X.env) :: starEach [.Name cn p2] X.env := by rfl) (he2 : starEach [.Name cn p2] X.env = (false, eval (.Name cn p2) X.env) :: starEach [] X.env := by rfl) (hpl : (backTo pos (starEach [.Name cn p2] X.env)).any (·.1) = false := by rfl) :
    ME X g B S (.Call (.Name "isinstance" p) [e, .Name cn p2] [] pos) (m >>= fun _ => some true) (KI g) := by
  refine ⟨fun n q => ?_⟩
  obtain ⟨a, q1, q2⟩ := bind_some q
  cases q2
  refine pe_imp (pe_callB (call_isC ic) hg hm0 (by decide +kernel) (pa_cons (h.run a q1) (pa_cons (pe_glob (v := .ref C) hg2 hm rfl hd) pa_nil he2) he) (he := he) (hpl := hpl)) fun σ H Q ⟨I, hh, kk⟩ => ⟨I, hh, fun v I' H' x hv => ?_⟩
  obtain ⟨b, dx, fs, rfl, h1⟩ := hi a I' v hv
  exact ⟨b, dx, fs, rfl, x.s _ _ h1, kk _ I' H' x rfl⟩
end
/-! lists changed by their methods -/
section
variable {X : Cx} {g : Gb} {B : Bs} {J : Hp} {S : SL} {e e1 e2 e3 tg : Expr} {es : List Expr} {pos pos' p apos cpos : Pos} {o ι : Type} {K : KT o} {rest : List Stmt} {α β : Type} [Py α] [Py β] {m : Option ι} {mk : ι → OR → OR} {i : Nat}
/-- place.m() of a list -/
theorem mb_m0P {as : ι → List α} {fm : List α → Option (List α)} {f : ι → List α → Option o} {name : Str} {id : String} {r : V → List V → Hp → VK → Prop} (pa : PlainAttrs "list") (slot : Slot "list" name id) (hty : typeOf (.builtin id) = pure (.type "method_descriptor")) (hm : MtR X id r)
    (hr : ∀ (xs bs : List α), fm xs = some bs → ∀ (I : Hp) (vs : List V), (rl g xs).p I vs → ∃ ws, (rl g bs).p I ws ∧ ∀ (l : Addr) (H : Hp) (Q : VK), H l = some (.lst vs) → (∀ u, Q u (upd H l (.lst ws))) → r (.ref l) [] H Q)
    (h : MP X g B S i e m (fun x => oF (rl g (as x))) mk) (hb : ∀ x bs, MB X g B J (S.set i (some (.ow (mk x (oF (rl g bs)))))) rest (f x bs) K)
    (hs : swapsWith (.Call (.Attribute e name apos) [] [] cpos) none pos.line X.env = pure false := by rfl) (hbase : attributeBase e name X.env (eval e X.env) = eval e X.env := by rfl) (hline : (apos.endLine == cpos.line) = true := by rfl) :
    MB X g B J S (.Expr (.Call (.Attribute e name apos) [] [] cpos) pos :: rest) (m >>= fun x => fm (as x) >>= fun bs => f x bs) K := by
  refine ⟨fun r' q => ?_⟩
  obtain ⟨x, q1, q⟩ := bind_some q
  obtain ⟨bs, q3, q4⟩ := bind_some q
  refine pss_imp (pss_cons (ps_expr (pe_bm0 pa slot hty hm (h.run x q1) hbase hline) hs) ((hb x bs).run r' q4)) fun D σ H ⟨I, ok, kk⟩ => ?_
  obtain ⟨x0, oj, Φ, hh⟩ := ok
  refine ⟨I, Φ, hh, fun v1 I1 H1 x1 ⟨v, e1, fc⟩ => ?_⟩
  obtain ⟨l, vs, rfl, hl, hq, put⟩ := foc_leaf fc
  have h1 := x1.h _ _ (hh.fr i l _ hl).1
  obtain ⟨ws, w1, w2⟩ := hr _ _ q3 I1 vs hq
  refine ⟨.inl ⟨rfl, _, SqL.of h1⟩, w2 l H1 _ h1 fun u => ⟨I1, ?_, kk⟩⟩
  exact HoldF.store (x0.trans x1) (oj.trans x1.i) (hh.ext x1) e1 hl (F' := fun _ => none) (fun _ _ z => by cases z) (fun a z => absurd rfl z) (put (rl g bs) ws I1 (Same.refl _) w1)
theorem mb_clearP {as : ι → List α} {f : ι → List α → Option o} (h : MP X g B S i e m (fun x => oF (rl g (as x))) mk) (hb : ∀ x bs, MB X g B J (S.set i (some (.ow (mk x (oF (rl g bs)))))) rest (f x bs) K)
    (hs : swapsWith (.Call (.Attribute e "clear" apos) [] [] cpos) none pos.line X.env = pure false := by rfl) (hbase : attributeBase e "clear" X.env (eval e X.env) = eval e X.env := by rfl) (hline : (apos.endLine == cpos.line) = true := by rfl) :
    MB X g B J S (.Expr (.Call (.Attribute e "clear" apos) [] [] cpos) pos :: rest) (m >>= fun x => some ([] : List α) >>= fun bs => f x bs) K :=
  mb_m0P (fm := fun _ => some []) PySem.F.plainAttrs_list PySem.F.slot_list_clear PySem.F.type_list_clear mt_clear (fun xs bs q I vs h => by
    cases q
    exact ⟨[], ⟨Nat.zero_le _, .nil⟩, fun l H Q hl hQ => ⟨l, vs, rfl, rfl, hl, hQ _⟩⟩) h hb hs hbase hline
theorem mb_revP {as : ι → List α} {f : ι → List α → Option o} (h : MP X g B S i e m (fun x => oF (rl g (as x))) mk) (hb : ∀ x bs, MB X g B J (S.set i (some (.ow (mk x (oF (rl g bs)))))) rest (f x bs) K)
    (hs : swapsWith (.Call (.Attribute e "reverse" apos) [] [] cpos) none pos.line X.env = pure false := by rfl) (hbase : attributeBase e "reverse" X.env (eval e X.env) = eval e X.env := by rfl) (hline : (apos.endLine == cpos.line) = true := by rfl) :
    MB X g B J S (.Expr (.Call (.Attribute e "reverse" apos) [] [] cpos) pos :: rest) (m >>= fun x => some (as x).reverse >>= fun bs => f x bs) K :=
  mb_m0P (fm := fun xs => some xs.reverse) PySem.F.plainAttrs_list PySem.F.slot_list_reverse PySem.F.type_list_reverse mt_reverse (fun xs bs q I vs h => by
    cases q
    exact ⟨vs.reverse, ⟨by rw [List.length_reverse]; exact h.1, paired_rev h.2⟩, fun l H Q hl hQ => ⟨l, vs, rfl, rfl, hl, hQ _⟩⟩) h hb hs hbase hline
@[irreducible] def popO {α : Type} (xs : List α) : Option (List α) := if xs.isEmpty = true then none else some xs.dropLast
theorem paired_dropLast {α β : Type} {F : α → β → Prop} {a : List α} {b : List β} (h : Paired F a b) : Paired F a.dropLast b.dropLast := by
  rw [List.dropLast_eq_take, List.dropLast_eq_take, Paired.length h]
  exact paired_take _ h
theorem mb_popP {as : ι → List α} {f : ι → List α → Option o} (h : MP X g B S i e m (fun x => oF (rl g (as x))) mk) (hb : ∀ x bs, MB X g B J (S.set i (some (.ow (mk x (oF (rl g bs)))))) rest (f x bs) K)
    (hs : swapsWith (.Call (.Attribute e "pop" apos) [] [] cpos) none pos.line X.env = pure false := by rfl) (hbase : attributeBase e "pop" X.env (eval e X.env) = eval e X.env := by rfl) (hline : (apos.endLine == cpos.line) = true := by rfl) :
    MB X g B J S (.Expr (.Call (.Attribute e "pop" apos) [] [] cpos) pos :: rest) (m >>= fun x => popO (as x) >>= fun bs => f x bs) K :=
  mb_m0P (fm := popO) PySem.F.plainAttrs_list PySem.F.slot_list_pop PySem.F.type_list_pop mt_pop (fun xs bs q I vs h => by
    unfold popO at q
    by_cases hz : xs.isEmpty = true
    · rw [if_pos hz] at q; cases q
    · rw [if_neg hz] at q
      cases q
      have hl := rl_len h
      have hx : 0 < vs.length := by
        cases xs with
        | nil => exact absurd rfl hz
        | cons _ _ => rw [hl]; simp
      exact ⟨vs.dropLast, ⟨by rw [List.length_dropLast]; exact Nat.le_trans (Nat.sub_le _ _) h.1, paired_dropLast h.2⟩, fun l H Q hl hQ => ⟨l, vs, vs[vs.length - 1], rfl, rfl, hl, List.getElem?_eq_getElem (by omega), hQ _⟩⟩) h hb hs hbase hline
/-- place.insert(e1, e2) -/
@[irreducible] def insO {α : Type} (xs : List α) (n : Int) (x : α) : Option (List α) := if decide (0 ≤ n ∧ n < 1000000000 ∧ xs.length < sizeLine) = true then some (xs.take n.toNat ++ [x] ++ xs.drop n.toNat) else none
theorem mb_insP {as : ι → List α} {m1 : Option Int} {m2 : Option α} {f : ι → List α → Option o} (h : MP X g B S i e m (fun x => oF (rl g (as x))) mk) (h1 : ME X g B S e1 m1 (KI g)) (he : ME X g B S e2 m2 (KI g)) (hb : ∀ x bs, MB X g B J (S.set i (some (.ow (mk x (oF (rl g bs)))))) rest (f x bs) K)
    (hs : swapsWith (.Call (.Attribute e "insert" apos) [e1, e2] [] cpos) none pos.line X.env = pure false := by rfl) (hst : starEach [e1, e2] X.env = (false, eval e1 X.env) :: starEach [e2] X.env := by rfl) (hst2 : starEach [e2] X.env = (false, eval e2 X.env) :: starEach [] X.env := by rfl)
    (hbase : attributeBase e "insert" X.env (eval e X.env) = eval e X.env := by rfl)
    (hfew : ((backTo cpos (starEach [e1, e2] X.env)).all (fun x => !x.1) && (backToKw cpos (keywordEach [] X.env)).all (fun x => x.1.isSome) && decide ([e1, e2].length + ([] : List Keyword).length + (if ([] : List Keyword).isEmpty then 0 else 1) < 30)) = true := by rfl)
    (hline : (apos.endLine == cpos.line) = true := by rfl) (hplain : (backTo cpos (starEach [e2] X.env)).any (·.1) = false := by rfl) :
    MB X g B J S (.Expr (.Call (.Attribute e "insert" apos) [e1, e2] [] cpos) pos :: rest) (m >>= fun x => m1 >>= fun n => m2 >>= fun a => insO (as x) n a >>= fun bs => f x bs) K := by
  refine ⟨fun r q => ?_⟩
  obtain ⟨x, q1, q⟩ := bind_some q
  obtain ⟨n, qn, q⟩ := bind_some q
  obtain ⟨a, q2, q⟩ := bind_some q
  obtain ⟨bs, q3, q4⟩ := bind_some q
  unfold insO at q3
  by_cases hz : decide (0 ≤ n ∧ n < 1000000000 ∧ (as x).length < sizeLine) = true
  · rw [if_pos hz] at q3
    cases q3
    obtain ⟨z0, z1, z2⟩ := of_decide_eq_true hz
    refine pss_imp (pss_cons (ps_expr (pe_bm PySem.F.plainAttrs_list PySem.F.slot_list_insert PySem.F.type_list_insert mt_insert (h.run x q1) (pa_cons (h1.run n qn) (pa_cons (he.run a q2) pa_nil hst2) hst) hbase hfew hline hst hplain) hs) ((hb x _).run r q4)) fun D σ H ⟨I, ok, kk⟩ => ?_
    obtain ⟨x0, oj, Φ, hh⟩ := ok
    refine ⟨I, Φ, hh, fun v1 I1 H1 x1 ⟨v, e1, fc⟩ => ?_⟩
    obtain ⟨l, vs, rfl, hl, hq, put⟩ := foc_leaf fc
    have h1 := x1.h _ _ (hh.fr i l _ hl).1
    refine ⟨.inl ⟨rfl, _, SqL.of h1⟩, I1, ⟨Φ, hh.ext x1⟩, fun w I2 H2 x2 hw => ⟨I2, ⟨Φ, (hh.ext x1).ext x2⟩, fun y I3 H3 x3 hy => ⟨l, vs, n, y, rfl, by cases hw; rfl, x3.h _ _ (x2.h _ _ h1), by rw [rl_len hq]; exact z2, z0, by omega, I3, ?_, kk⟩⟩⟩
    have x13 := (x1.trans x2).trans x3
    have hq3 := ((rl g (as x)).mono (x2.i.trans x3.i) hq).2
    refine HoldF.store (x0.trans x13) (oj.trans x13.i) (hh.ext x13) e1 hl (F' := fun _ => none) (fun _ _ z => by cases z) (fun a z => absurd rfl z) (put (rl g _) _ I3 (x2.i.trans x3.i) ⟨?_, paired_app (paired_app (paired_take _ hq3) (.cons hy .nil)) (paired_drop _ hq3)⟩)
    simp only [List.length_append, List.length_take, List.length_drop, List.length_singleton]
    omega
  · rw [if_neg hz] at q3
    cases q3
/-- list(reversed(xs)) -/
theorem walk_rev {as : List α} {a : Addr} {vs : List V} {I1 : Hp} (hL : SqL g.K I1 a vs ∨ SqL g.K B.H a vs) (hR : (rl g as).p I1 vs) : WalkI g B (Itv g.K a vs.length) as.reverse I1 where
  go := fun i x I2 H2 e s1 s2 s3 => by
    have hi : i < as.reverse.length := (List.getElem?_eq_some_iff.mp e).1
    rw [List.length_reverse] at hi
    have hl := rl_len hR
    have hlt : vs.length - 1 - i < vs.length := by omega
    exact ⟨by omega, vs, vs[vs.length - 1 - i], sq_now hL s1 s2 s3, List.getElem?_eq_getElem hlt⟩
  yl := fun i x I2 H2 v H' e s1 s2 s3 y => by
    have hi : i < as.reverse.length := (List.getElem?_eq_some_iff.mp e).1
    rw [List.length_reverse] at hi
    have hl := rl_len hR
    obtain ⟨rfl, y⟩ := y
    have e3 := y vs (sq_now hL s1 s2 s3)
    rw [List.getElem?_reverse hi] at e
    rw [hl] at e3
    obtain ⟨u, e4, q⟩ := paired_get hR.2 e
    rw [e4] at e3
    cases e3
    exact ⟨I2, Ext.refl s2, (Py.r g x).mono s1 q⟩
  st := fun I2 H2 s1 s2 s3 => by
    show vs.length ≤ as.reverse.length
    rw [List.length_reverse, rl_len hR]; exact Nat.le_refl _
  len := by rw [List.length_reverse]; exact hR.1
theorem mi_rev {m : Option (List α)} (hm : X.mg "reversed" = none) (h : MSt X g B S e m) (hg : Gl X "reversed" := by rfl) (hK : X.K = g.K := by rfl) (hs : starEach [e] X.env = [(false, eval e X.env)] := by rfl) : MI X g B S tg (.Call (.Name "reversed" p) [e] [] pos) (m >>= fun as => some as.reverse) := by
  refine ⟨fun as q => ?_⟩
  obtain ⟨xs, q1, q2⟩ := bind_some q
  cases q2
  refine pi_imp (pi_reversed hg hm (pa_cons (h.run xs q1) pa_nil hs) hs) fun σ H R ⟨I, hh, k⟩ => ⟨I, hh, fun l vs I' H' x h1 h2 => ?_⟩
  rw [hK]
  exact ⟨l, vs, rfl, sq_now h1 (Same.refl _) x.s (hh.base.trans x.h), k _ I' H' x (walk_rev h1 h2)⟩
end
end T
set_option Elab.async false
set_option linter.all false
set_option maxRecDepth 100000
namespace T
open PySem PySem.Spec PyProof.Rows L2
theorem MA.eqm {ι o : Type} {X : Cx} {g : Gb} {B : Bs} {S : SL} {es : List Expr} {dvs : List V} {args : ι → List RK} {m m' : Option o} {M : ι → Option o} (h : MA X g B S es dvs args m M) (e : m = m') : MA X g B S es dvs args m' M := e ▸ h
section
variable {o : Type} {X : Cx} {g : Gb} {B : Bs} {J : Hp} {S : SL} {sts : List Stmt} {m : Option o} {K : KT o}
/-- an owned thing that is a list alone, as an own list -/
theorem mb_unow {α : Type} [Py α] (i : Nat) {as : List α} (hS : S[i]? = some (some (.ow (oF (rl g as))))) (hb : MB X g B J (S.set i (some (.fr (rl g as)))) sts m K) : MB X g B J S sts m K := by
  refine ⟨fun r q => pss_imp (hb.run r q) fun D σ H ⟨I, ok, kk⟩ => ⟨I, ⟨ok.x, ok.j, ?_⟩, kk⟩⟩
  obtain ⟨Φ, h⟩ := ok.h
  refine ⟨Φ, by rw [h.len, List.length_set], h.sub, h.base, fun j k e => ?_, h.fr, h.dj⟩
  by_cases hj : i = j
  · subst hj
    have hl : i < S.length := by
      rcases Nat.lt_or_ge i S.length with z | z
      · exact z
      · rw [List.getElem?_eq_none z] at hS; cases hS
    rw [List.getElem?_set_self hl] at e
    cases e
    obtain ⟨v, e1, e2⟩ := h.at_ i _ hS
    exact ⟨v, e1, e2⟩
  · rw [List.getElem?_set_ne hj] at e
    exact h.at_ j k e
end
end T
set_option Elab.async false
set_option linter.all false
set_option maxRecDepth 100000
/-! list(reversed(list)) -/
namespace RL
open PySem PySem.Spec PyProof.Rows RT
section
variable {prog : Program} {w : World} {A : Around} {E : Value → Shared → Prop} {s : Shared}
theorem wpAny_extend_rev {R : Result → Shared → Prop} {it l : Addr} {items : Array Value} (hh : A.handled = none) (hit : s.heap.IsRevIter it l ((items.size : Int) - 1)) (hl : s.heap.IsList l items) (hne : l ≠ it) (hn : items.size ≤ sizeLine)
    (S : Addr) (hSl : S ≠ l) (hSi : S ≠ it) (res : Value) (c₀ : Nat) (hS : s.heap.get? S = some { cls := .type "list", data := .seq #[] c₀ })
    (hR : ∀ h' tk acc' c', (∀ b o, b ≠ S → b ≠ it → s.heap.get? b = some o → h'.get? b = some o) → h'.get? S = some { cls := .type "list", dict := none, data := .seq acc' c', slots := #[] } →
      ItemsOf (fun i v => items[items.size - 1 - i]? = some v) acc' items.size → R (.ok (.ret res)) { s with heap := h', toks := tk }) :
    wpAny (model prog w) A.in1 (Builtin.List.listExtendWith (.ref S) (.ref it) res)
      (fun fin s' => match fin with | .done f => R (.ok f) s' | .again c' => c'.quiet = true ∧ codeAny (model prog w) A c' R s') (fun e s' => R (.error e) s') s := by
  have W := (Walks.listRev (prog := prog) (w := w) (A := A.in1) hh it l hne items).toS
  have hSf : S ∉ [it, l] := by simp only [List.mem_cons, List.not_mem_nil, or_false, not_or]; exact ⟨hSi, hSl⟩
  have hT : s.TypeIs (.ref it) "list_reverseiterator" := Heap.IsRevIter.typeIs hit
  have h1 : Builtin.List.listSameRef (.ref S) (.ref it) = false := by simp [Builtin.List.listSameRef, hSi]
  unfold Builtin.List.listExtendWith
  refine wpAny_bind (wpAny_typeOf hT ?_)
  rw [if_neg (by rw [h1]; decide)]
  refine wpAny_bind (wpAny_pyIter_revIter hit ?_)
  refine wpAny_bind (wpAny_holding ?_)
  unfold Builtin.List.listLengthHint
  refine wpAny_bind (wpAny_specialOf hT nolen_lri ?_)
  show wpAny _ A.in1 (specialOf (Value.ref it) (Str.ofString "__length_hint__") >>= _) _ _ _
  refine wpAny_bind (wpAny_specialOf hT hint_lri ?_)
  generalize hid : ("list_reverseiterator.__length_hint__" : String) = id0
  wp_delta
  rw [show splitId id0 = some ("list_reverseiterator", "__length_hint__") from by subst hid; decide +kernel]
  subst hid
  refine wpAny_bind (wpAny_isInstance (b := true) hT (by rw [isSubtype_type]; kernel_rfl) ?_)
  refine wpAny_pure ?_
  rw [if_neg (by decide)]
  have e0 : ((items.size : Nat) : Int) - 1 - ((0 : Nat) : Int) = (items.size : Int) - 1 := by omega
  refine wpAny_pure ⟨plainId_quiet F.plain_extend_loop _, codeAny_extend_loopS W hn S hSf res items.size 0 _ _ _ rfl (Nat.zero_le _) ⟨Nat.zero_le _, by rw [e0]; exact hit, hl⟩ hS (ItemsOf.nil _) fun s' acc' c' hm hS' hacc => ?_⟩
  rw [Moved.eq_with hm]
  refine hR s'.heap s'.toks acc' c' (fun b o hb hb2 e => hm.heap b o (fun hmem => ?_) e) hS' hacc
  rcases List.mem_cons.mp hmem with e' | hmem
  · exact hb e'
  · exact hb2 (List.mem_singleton.mp hmem)
theorem call_list_rev {it l : Addr} {items : Array Value} {Q : Value → Shared → Prop} (hh : A.handled = none) (hit : s.heap.IsRevIter it l ((items.size : Int) - 1)) (hl : s.heap.IsList l items) (hne : l ≠ it) (hn : items.size ≤ sizeLine)
    (hQ : ∀ h' tk acc' c', (∀ b o, b ≠ it → s.heap.get? b = some o → h'.get? b = some o) → h'.get? s.heap.objs.size = some { cls := .type "list", dict := none, data := .seq acc' c', slots := #[] } →
      ItemsOf (fun i v => items[items.size - 1 - i]? = some v) acc' items.size → Q (.ref s.heap.objs.size) { s with heap := h', toks := tk }) :
    wpAny (model prog w) A (call (.type "list") [.ref it]) Q E s := by
  refine callType_codes (Q₁ := fun obj s₁ => obj = .ref s.heap.objs.size ∧ s₁ = { s with heap := s.heap.push { cls := .type "list", data := .seq #[] } }) F.called_list (F.typeCall_list_1 _) F.entry_list_init
    (code_list_new _ ⟨rfl, rfl⟩) fun obj s₁ h₁ => ?_
  obtain ⟨rfl, rfl⟩ := h₁
  obtain ⟨oi, hoi, _⟩ := id hit
  obtain ⟨ol, hol, _⟩ := id hl
  have hSi : s.heap.objs.size ≠ it := Nat.ne_of_gt (Heap.lt_size hoi)
  have hSl : s.heap.objs.size ≠ l := Nat.ne_of_gt (Heap.lt_size hol)
  have hS : (s.heap.push { cls := .type "list", data := .seq #[] }).get? s.heap.objs.size = some { cls := .type "list", data := .seq #[] } := Heap.get?_push_size _ rfl
  have oth : ∀ b o, b ≠ s.heap.objs.size → (s.heap.push { cls := .type "list", data := .seq #[] }).get? b = some o → ((s.heap.push { cls := .type "list", data := .seq #[] }).update s.heap.objs.size (Obj.mapSeq (fun _ => (#[] : Array Value)))).get? b = some o :=
    fun b o hb e => (Heap.get?_update_other _ _ (Ne.symm hb)).trans e
  refine ⟨⟨_, hS, rfl⟩, F.args_list_init_2 _ _, ?_⟩
  show wpAny _ _ (do let old ← Builtin.List.listItems (.ref s.heap.objs.size); Builtin.List.listUpdate (.ref s.heap.objs.size) (fun _ => #[]); letGo old.toList.reverse; Builtin.List.listExtendWith (.ref s.heap.objs.size) (.ref it) .none) _ _ _
  refine wpAny_bind ?_
  unfold Builtin.List.listItems
  refine wpAny_bind (wpAny_seqItems hS rfl (wpAny_pure ?_))
  show wpAny _ _ (updateSeq s.heap.objs.size (fun _ => #[]) >>= fun _ => letGo (#[] : Array Value).toList.reverse >>= fun _ => Builtin.List.listExtendWith (.ref s.heap.objs.size) (.ref it) .none) _ _ _
  refine wpAny_bind (wpAny_updateSeq hS rfl ?_)
  have hS₂ := Heap.get?_update_self (Obj.mapSeq (fun _ => (#[] : Array Value))) hS rfl
  refine wpAny_bind (wpAny_letGo ?_)
  have hit2 : ((s.heap.push { cls := .type "list", data := .seq #[] }).update s.heap.objs.size (Obj.mapSeq (fun _ => (#[] : Array Value)))).IsRevIter it l ((items.size : Int) - 1) := hit.at fun o e => oth _ _ (Ne.symm hSi) (Heap.get?_push_of_some _ e)
  have hl2 : ((s.heap.push { cls := .type "list", data := .seq #[] }).update s.heap.objs.size (Obj.mapSeq (fun _ => (#[] : Array Value)))).IsList l items := (hl.push _).at fun o e => oth _ _ (Ne.symm hSl) e
  refine wpAny_extend_rev (A := A.in1) hh hit2 hl2 hne hn s.heap.objs.size hSl hSi .none _ hS₂ fun h' tk acc' c' hk hS' hacc => ?_
  exact ⟨rfl, hQ h' tk acc' c' (fun b o hb e => hk b o (Nat.ne_of_lt (Heap.lt_size e)) hb (oth b o (Nat.ne_of_lt (Heap.lt_size e)) (Heap.get?_push_of_some _ e))) hS' hacc⟩
end
section
open L2
variable {X : Cx}
def tListRev (K : PySem.W.Frag) (te : TE) : TE := fun σ H Q => te σ H fun v H1 => ∃ (a : Addr) (xs : List V), v = .ref a ∧ SqL K H1 a xs ∧ ∀ q, H1 q = none → Q (.ref q) (upd H1 q (.lst xs.reverse))
theorem pe_listRev {e : Expr} {te : TE} {p p2 pos pos2 : Pos} (hc : X.calm = true) (hg : Gl X "list") (hm : X.mg "list" = none) (hg2 : Gl X "reversed") (hm2 : X.mg "reversed" = none) (he : PE X e te)
    (hs : starEach [e] X.env = (false, eval e X.env) :: starEach [] X.env := by rfl)
    (hs2 : starEach [.Call (.Name "reversed" p2) [e] [] pos2] X.env = (false, eval (.Call (.Name "reversed" p2) [e] [] pos2) X.env) :: starEach [] X.env := by rfl) :
    PE X (.Call (.Name "list" p) [.Call (.Name "reversed" p2) [e] [] pos2] [] pos) (tListRev X.K te) := by
  refine ⟨fun pins s σ H Q I h => ?_⟩
  refine Call_ (ld_blt I hg hm boot_list (PyProof.Rows.callWith_type1 (args_cons (Call_ (ld_blt I hg2 hm2 PyProof.Rows.boot_reversed (PyProof.Rows.callWith_type1 (args_cons (thn (he.run pins s σ H _ I h) fun u s1 ⟨v, H1, I1, r1, q1⟩ => args_nil ?_) hs) hs rfl))) hs2) hs2 rfl))
  obtain ⟨a, xs, ev, hq, q⟩ := q1
  subst ev
  obtain rfl : u = Value.ref a := r1
  obtain ⟨its, rv, p', hz⟩ := I1.list hq
  refine call_reversed_list p'.isList (args_nil ?_)
  have k0 : ∀ b o, s1.heap.get? b = some o → (s1.heap.push (revObj a ((its.toArray.size : Int) - 1))).get? b = some o := fun b o e => Heap.get?_push_of_some _ e
  have I2 : Inv X pins σ H1 { s1 with heap := s1.heap.push (revObj a ((its.toArray.size : Int) - 1)) } := I1.kept (t' := s1.toks) k0
  obtain ⟨f0, f1, f2, f3, f4, f5⟩ := I1.fpOk (H' := H1) (b := s1.heap.objs.size) (Nat.le_refl _) (I1.hok.fresh (Nat.le_refl _))
  have hl := p'.isList
  obtain ⟨ol, hol, _⟩ := id hl
  have hne : a ≠ s1.heap.objs.size := Nat.ne_of_lt (Heap.lt_size hol)
  have hn : its.toArray.size ≤ sizeLine := by rw [List.size_toArray, ← rv.length]; exact hz
  have hfr := I2.hok.fresh (Nat.le_refl (s1.heap.push (revObj a ((its.toArray.size : Int) - 1))).objs.size)
  refine call_list_rev (s := { s1 with heap := s1.heap.push (revObj a ((its.toArray.size : Int) - 1)) }) (I1.ok.hd hc) ⟨_, Heap.get?_push_size _ rfl, rfl, rfl⟩ (hl.push _) hne hn fun h' tk acc c' hk hS' hi => ?_
  have hsz : s1.heap.objs.size ≤ (s1.heap.push (revObj a ((its.toArray.size : Int) - 1))).objs.size := by rw [Heap.size_push]; exact Nat.le_succ _
  refine ⟨.ref (s1.heap.push (revObj a ((its.toArray.size : Int) - 1))).objs.size, upd H1 (s1.heap.push (revObj a ((its.toArray.size : Int) - 1))).objs.size (.lst xs.reverse), I1.laid (t' := tk) (fun b o e => hk b o (Nat.ne_of_lt (Heap.lt_size e)) (k0 b o e)) hsz (show ObjOk X.prog X.w _ _ _ (.lst xs.reverse) from ⟨by rw [List.length_reverse]; exact hz, acc.toList, c', vals_rev rv hi, ?_⟩), rfl, q _ (I1.hok.fresh hsz)⟩
  rw [Array.toArray_toList]
  exact hS'
end
end RL
namespace T
open PySem PySem.Spec PyProof.Rows L2
theorem me_lrev {X : Cx} {g : Gb} {B : Bs} {S : SL} {e : Expr} {p p2 pos pos2 : Pos} {α : Type} [Py α] {m : Option (List α)} {k : List α → RK} (hm : X.mg "list" = none) (hm2 : X.mg "reversed" = none) (h : ME X g B S e m k) (r : LR g k := by first | exact lr_im | exact lr_fr | exact lr_rd)
    (hc : X.calm = true := by rfl) (hg : Gl X "list" := by rfl) (hg2 : Gl X "reversed" := by rfl) (hK : X.K = g.K := by rfl)
    (hs : starEach [e] X.env = (false, eval e X.env) :: starEach [] X.env := by rfl)
    (hs2 : starEach [.Call (.Name "reversed" p2) [e] [] pos2] X.env = (false, eval (.Call (.Name "reversed" p2) [e] [] pos2) X.env) :: starEach [] X.env := by rfl) :
    ME X g B S (.Call (.Name "list" p) [.Call (.Name "reversed" p2) [e] [] pos2] [] pos) (m >>= fun xs => some xs.reverse) (fun xs => .fr (rl g xs)) := by
  refine ⟨fun n q => ?_⟩
  obtain ⟨a, q1, q2⟩ := bind_some q
  cases q2
  refine pe_imp (RL.pe_listRev hc hg hm hg2 hm2 (h.run a q1) hs hs2) fun σ H Q ⟨I, hh, kk⟩ => ⟨I, hh, fun v I' H' x hv => ?_⟩
  obtain ⟨l, vs, rfl, h1, h2⟩ := r a _ _ _ _ x.s hv
  refine ⟨l, vs, rfl, by rw [hK]; exact h1, fun q hq => ?_⟩
  refine new_fr x.s ⟨by rw [List.length_reverse]; exact h2.1, ?_⟩ (fun u I2 H2 x2 hu => kk u I2 H2 (x.trans x2) (RK.back rfl x.h hu)) hq
  exact paired_rev h2.2
end T
set_option Elab.async false
set_option linter.all false
set_option maxRecDepth 100000
/-! plain lemmas about what the mirrors are made of -/
namespace T
open PySem L2
theorem mulO_l {i j : Int} (h : -(2 ^ 64) < i) (h2 : i < 2 ^ 64) : mulO i j = some (i * j) := by
  rw [mulO_eq, if_pos]
  unfold mulOk
  rw [decide_eq_true (⟨h, h2⟩ : -(2 ^ 64) < i ∧ i < 2 ^ 64)]; rfl
theorem mulO_r {i j : Int} (h : -(2 ^ 64) < j) (h2 : j < 2 ^ 64) : mulO i j = some (i * j) := by
  rw [mulO_eq, if_pos]
  unfold mulOk
  rw [decide_eq_true (⟨h, h2⟩ : -(2 ^ 64) < j ∧ j < 2 ^ 64), Bool.or_true]; rfl
theorem modO_ok {i j : Int} (h : 0 < j) : modO i j = some (i % j) := by
  rw [modO_eq, if_pos]
  unfold modOk
  rw [decide_eq_true h]
theorem divO_ok {i j : Int} (h : 0 < j) (h2 : j < 2 ^ 1000) : divO i j = some (i / j) := by
  rw [divO_eq, if_pos]
  unfold divOk
  refine decide_eq_true ⟨h, ?_⟩
  have h3 : j.natAbs < 2 ^ 1000 := by omega
  have h4 : j.natAbs.log2 < 1000 := (Nat.log2_lt (by omega)).mpr h3
  omega
theorem sizeLine_eq : sizeLine = 16777216 := by decide
theorem appO_ok {α : Type} {xs : List α} {x : α} (h : xs.length < 16777216) : appO xs x = some (xs ++ [x]) := by
  unfold appO
  rw [if_pos (decide_eq_true (by rw [sizeLine_eq]; exact h))]
theorem catO_ok {α : Type} {xs ys : List α} (h : xs.length + ys.length ≤ 16777216) : catO xs ys = some (xs ++ ys) := by
  unfold catO
  rw [if_pos]
  unfold catOk
  exact decide_eq_true (by rw [sizeLine_eq]; exact h)
theorem flat_rep {α : Type} (x : α) : ∀ n : Nat, (List.replicate n [x]).flatten = List.replicate n x
  | 0 => rfl
  | n + 1 => by rw [List.replicate_succ, List.replicate_succ, List.flatten_cons, flat_rep x n]; rfl
theorem repO_one {α : Type} {x : α} {k : Int} (h : k ≤ 16777216) (h2 : 0 ≤ k) : repO [x] k = some (List.replicate k.toNat x) := by
  unfold repO
  rw [if_pos, flat_rep]
  unfold repOk
  rw [Bool.and_eq_true, decide_eq_true_eq, decide_eq_true_eq, sizeLine_eq, List.length_singleton]
  refine ⟨⟨by omega, by omega⟩, by omega⟩
theorem atO_ok {α : Type} {xs : List α} {i : Int} {v : α} (h0 : 0 ≤ i) (h : xs[i.toNat]? = some v) : atO xs i = some v := by
  rw [atO_eq]
  have e : ((i.toNat : Nat) : Int) = i := by omega
  rw [← e]
  exact atI_nat h
theorem atO_nat {α : Type} {xs : List α} {i : Nat} {v : α} (h : xs[i]? = some v) : atO xs (i : Int) = some v := by
  rw [atO_eq]
  exact atI_nat h
theorem atO_get {α : Type} {xs : List α} {i : Int} (h0 : 0 ≤ i) (h : i < xs.length) : atO xs i = some (xs[i.toNat]'(by omega)) := atO_ok h0 (List.getElem?_eq_getElem _)
theorem atO_inv {α : Type} {xs : List α} {i : Int} {v : α} (h0 : 0 ≤ i) (h : atO xs i = some v) : xs[i.toNat]? = some v := by
  rw [atO_eq] at h
  obtain ⟨j, e1, e2⟩ := atI_ix h
  unfold ixN at e1
  rw [if_pos h0] at e1
  split at e1
  · cases e1; exact e2
  · cases e1
theorem setO_ok {α : Type} {xs : List α} {i : Int} {x : α} (h0 : 0 ≤ i) (h : i < xs.length) : setO xs i x = some (xs.set i.toNat x) := by
  unfold setO ixN
  rw [if_pos h0, if_pos h]; rfl
theorem insO_ok {α : Type} {xs : List α} {i : Int} {x : α} (h0 : 0 ≤ i) (h1 : i ≤ 100000) (h : xs.length < 16777216) : insO xs i x = some (xs.take i.toNat ++ [x] ++ xs.drop i.toNat) := by
  unfold insO
  rw [if_pos (decide_eq_true ⟨h0, by omega, by rw [sizeLine_eq]; exact h⟩)]
theorem rng1O_ok {n : Int} (h : n ≤ 16777216) (h0 : -1000 ≤ n) : rng1O n = some (rng 0 n.toNat) := by
  unfold rng1O
  rw [if_pos]
  unfold rngOk
  rw [Bool.and_eq_true, decide_eq_true_eq, decide_eq_true_eq, sizeLine_eq]
  refine ⟨⟨by decide, by decide, by omega, by omega⟩, by omega⟩
theorem rng2O_ok {a b : Int} (ha : -1000 ≤ a) (hb : b ≤ 16000000) (ha2 : a ≤ 16000000) (hb2 : -1000 ≤ b) : rng2O a b = some (rng a (b - a).toNat) := by
  unfold rng2O
  rw [if_pos]
  unfold rngOk
  rw [Bool.and_eq_true, decide_eq_true_eq, decide_eq_true_eq, sizeLine_eq]
  refine ⟨⟨by omega, by omega, by omega, by omega⟩, by omega⟩
theorem fits {i : Int} (h : -1000000000 ≤ i) (h2 : i ≤ 1000000000) : Builtin.Range.rangeFitsLong i = true := by
  unfold Builtin.Range.rangeFitsLong
  rw [Bool.and_eq_true, decide_eq_true_eq, decide_eq_true_eq]
  omega
theorem rngSize_pos {a b c : Int} (hc : 0 < c) : Builtin.Range.rangeSize a b c = if a < b then (b - a - 1) / c + 1 else 0 := by
  unfold Builtin.Range.rangeSize
  rw [if_pos hc]
theorem rng3O_ok {a b c : Int} (hc : 0 < c) (hc2 : c < 16000000) (ha : -1000 ≤ a) (hb : b ≤ 16000000) (ha2 : a ≤ 16000000) (hb2 : -1000 ≤ b) : rng3O a b c = some (rng3 a c (if a < b then (b - a - 1) / c + 1 else 0).toNat) := by
  have hs := rngSize_pos (a := a) (b := b) hc
  have hd : a < b → 0 ≤ (b - a - 1) / c ∧ (b - a - 1) / c ≤ b - a - 1 := fun h => ⟨Int.ediv_nonneg (by omega) (by omega), Int.ediv_le_self _ (by omega)⟩
  unfold rng3O
  rw [if_pos, hs]
  unfold rng3Ok
  rw [Bool.and_eq_true, Bool.and_eq_true, decide_eq_true_eq, decide_eq_true_eq, hs, sizeLine_eq]
  have hz : 0 ≤ (if a < b then (b - a - 1) / c + 1 else 0) ∧ (if a < b then (b - a - 1) / c + 1 else 0) ≤ 16001001 := by
    split
    · have := hd (by assumption); omega
    · omega
  refine ⟨⟨⟨by omega, by omega⟩, ?_⟩, by omega⟩
  unfold Builtin.Range.small
  simp only [Bool.and_eq_true, decide_eq_true_eq, hs]
  generalize (if a < b then (b - a - 1) / c + 1 else 0) = n at hz
  refine ⟨⟨⟨⟨fits (by omega) (by omega), fits (by omega) (by omega)⟩, fits (by omega) (by omega)⟩, fits (by omega) (by omega)⟩, ?_⟩
  rw [if_pos (by omega : c > 0), fits (by omega) (by omega), Bool.or_true]
/-! slices -/
theorem sIx_ge {n d : Nat} {v : Int} (h : 0 ≤ v) : HT.sIx n d (some v) = min v.toNat n := by
  show (if v < 0 then (v + (n : Int)).toNat else min v.toNat n) = _
  rw [if_neg (by omega)]
theorem cutO_to {α : Type} (xs : List α) {k : Int} (h : 0 ≤ k) : cutO xs none (some k) = xs.take k.toNat := by
  unfold cutO
  rw [sIx_ge h, HT.sIx_none, List.drop_zero, Nat.sub_zero]
  by_cases hk : k.toNat ≤ xs.length
  · rw [Nat.min_eq_left hk]
  · rw [Nat.min_eq_right (by omega), List.take_of_length_le (Nat.le_refl _), List.take_of_length_le (by omega)]
theorem cutO_from {α : Type} (xs : List α) {k : Int} (h : 0 ≤ k) : cutO xs (some k) none = xs.drop k.toNat := by
  unfold cutO
  rw [sIx_ge h, HT.sIx_none]
  by_cases hk : k.toNat ≤ xs.length
  · rw [Nat.min_eq_left hk, List.take_of_length_le (by rw [List.length_drop]; omega)]
  · rw [Nat.min_eq_right (by omega), List.drop_of_length_le (Nat.le_refl _), List.drop_of_length_le (by omega)]; simp
theorem cutO_mid {α : Type} (xs : List α) {a b : Int} (h : 0 ≤ a) (h2 : a ≤ b) : cutO xs (some a) (some b) = (xs.drop a.toNat).take (b - a).toNat := by
  unfold cutO
  rw [sIx_ge h, sIx_ge (show 0 ≤ b by omega)]
  by_cases hk : a.toNat ≤ xs.length
  · rw [Nat.min_eq_left hk]
    by_cases hb : b.toNat ≤ xs.length
    · rw [Nat.min_eq_left hb]
      congr 1
      omega
    · rw [Nat.min_eq_right (by omega), List.take_of_length_le (by rw [List.length_drop]; omega), List.take_of_length_le (by rw [List.length_drop]; omega)]
  · rw [Nat.min_eq_right (show xs.length ≤ a.toNat by omega), List.drop_of_length_le (Nat.le_refl _), List.drop_of_length_le (show xs.length ≤ a.toNat by omega)]; simp
theorem cutO_len {α : Type} (xs : List α) (a b : Option Int) : (cutO xs a b).length ≤ xs.length := by
  unfold cutO
  rw [List.length_take, List.length_drop]
  omega
theorem cutO_mem {α : Type} {xs : List α} {a b : Option Int} {x : α} (h : x ∈ cutO xs a b) : x ∈ xs := List.mem_of_mem_drop (List.mem_of_mem_take h)
/-! loops -/
theorem loopN_ind {α γ : Type} {f : γ → α → Option γ} {as : List α} {s0 : γ} (Pv : List α → γ → Prop) (h0 : Pv [] s0) (hs : ∀ pre a post s, as = pre ++ a :: post → Pv pre s → ∃ s', f s a = some s' ∧ Pv (pre ++ [a]) s') : ∃ s', loopN f as s0 = some s' ∧ Pv as s' := by
  have key : ∀ (post pre : List α) (s : γ), as = pre ++ post → Pv pre s → ∃ s', loopN f post s = some s' ∧ Pv as s' := by
    intro post
    induction post with
    | nil =>
      intro pre s e p
      rw [List.append_nil] at e
      exact ⟨s, rfl, e ▸ p⟩
    | cons a post ih =>
      intro pre s e p
      obtain ⟨s1, e1, p1⟩ := hs pre a post s e p
      obtain ⟨s2, e2, p2⟩ := ih (pre ++ [a]) s1 (by rw [List.append_assoc]; exact e) p1
      refine ⟨s2, ?_, p2⟩
      show (f s a >>= fun s' => loopN f post s') = some s2
      rw [e1]; exact e2
  exact key as [] s0 rfl h0
theorem loopN_step {α γ δ : Type} {f : γ → α → Option γ} {as : List α} {s0 : γ} {g : γ → Option δ} {Q : δ → Prop} (Pv : List α → γ → Prop) (h0 : Pv [] s0) (hs : ∀ pre a post s, as = pre ++ a :: post → Pv pre s → ∃ s', f s a = some s' ∧ Pv (pre ++ [a]) s') (hg : ∀ s, Pv as s → ∃ r, g s = some r ∧ Q r) : ∃ r, (loopN f as s0 >>= g) = some r ∧ Q r := by
  obtain ⟨s', e, p⟩ := loopN_ind Pv h0 hs
  obtain ⟨r, e2, q⟩ := hg s' p
  exact ⟨r, by rw [e]; exact e2, q⟩
theorem loopN_eq {α γ δ : Type} {f : γ → α → Option γ} {as : List α} {s0 : γ} {g : γ → Option δ} {r : δ} (Pv : List α → γ → Prop) (h0 : Pv [] s0) (hs : ∀ pre a post s, as = pre ++ a :: post → Pv pre s → ∃ s', f s a = some s' ∧ Pv (pre ++ [a]) s') (hg : ∀ s, Pv as s → g s = some r) : (loopN f as s0 >>= g) = some r := by
  obtain ⟨s', e, p⟩ := loopN_ind Pv h0 hs
  rw [e]; exact hg s' p
theorem loopC_ind {α γ ρ : Type} {f : γ → α → Option (Ctl γ γ ρ)} {as : List α} {s0 : γ} (Pv : List α → γ → Prop) (h0 : Pv [] s0) (hs : ∀ pre a post s, as = pre ++ a :: post → Pv pre s → ∃ s', (f s a = some (.nx s') ∨ f s a = some (.ct s')) ∧ Pv (pre ++ [a]) s') : ∃ s', loopC f as s0 = some (.nx s') ∧ Pv as s' := by
  have key : ∀ (post pre : List α) (s : γ), as = pre ++ post → Pv pre s → ∃ s', loopC f post s = some (.nx s') ∧ Pv as s' := by
    intro post
    induction post with
    | nil =>
      intro pre s e p
      rw [List.append_nil] at e
      exact ⟨s, rfl, e ▸ p⟩
    | cons a post ih =>
      intro pre s e p
      obtain ⟨s1, e1, p1⟩ := hs pre a post s e p
      obtain ⟨s2, e2, p2⟩ := ih (pre ++ [a]) s1 (by rw [List.append_assoc]; exact e) p1
      refine ⟨s2, ?_, p2⟩
      unfold loopC
      rcases e1 with e1 | e1
      · rw [e1]; exact e2
      · rw [e1]; exact e2
  exact key as [] s0 rfl h0
/-- a loop whose turns all go on and carry nothing -/
theorem loopC_unit {α ρ : Type} {f : Unit → α → Option (Ctl Unit Unit ρ)} {as : List α} (hs : ∀ a ∈ as, f () a = some (.nx ()) ∨ f () a = some (.ct ())) : loopC f as () = some (.nx ()) := by
  obtain ⟨s, e, _⟩ := loopC_ind (f := f) (as := as) (s0 := ()) (fun _ _ => True) trivial fun pre a post s e _ => ⟨(), hs a (by rw [e]; simp), trivial⟩
  exact e
theorem lcM_ok {α β : Type} {f : α → Option β} {g : α → β} : ∀ {as : List α}, (∀ a ∈ as, f a = some (g a)) → lcM f as = some (as.map g)
  | [], _ => rfl
  | a :: as, h => by
    show (f a >>= fun b => lcM f as >>= fun bs => some (b :: bs)) = _
    rw [h a List.mem_cons_self, lcM_ok (as := as) fun b hb => h b (List.mem_cons_of_mem _ hb)]
    rfl
theorem lcM_ex {α β : Type} {f : α → Option β} {R : α → β → Prop} : ∀ {as : List α}, (∀ a ∈ as, ∃ b, f a = some b ∧ R a b) → ∃ bs, lcM f as = some bs ∧ bs.length = as.length ∧ ∀ b ∈ bs, ∃ a ∈ as, R a b
  | [], _ => ⟨[], rfl, rfl, fun _ h => by cases h⟩
  | a :: as, h => by
    obtain ⟨b, e, r⟩ := h a List.mem_cons_self
    obtain ⟨bs, e2, l, r2⟩ := lcM_ex (as := as) fun c hc => h c (List.mem_cons_of_mem _ hc)
    refine ⟨b :: bs, ?_, by rw [List.length_cons, List.length_cons, l], fun c hc => ?_⟩
    · show (f a >>= fun b => lcM f as >>= fun bs => some (b :: bs)) = _
      rw [e, e2]; rfl
    · rcases List.mem_cons.mp hc with z | z
      · exact ⟨a, List.mem_cons_self, z ▸ r⟩
      · obtain ⟨d, h1, h2⟩ := r2 c z
        exact ⟨d, List.mem_cons_of_mem _ h1, h2⟩
theorem lcF_ok {α β : Type} {t : α → Option Bool} {f : α → Option β} {u : α → Bool} {g : α → β} : ∀ {as : List α}, (∀ a ∈ as, t a = some (u a)) → (∀ a ∈ as, u a = true → f a = some (g a)) → lcF t f as = some ((as.filter u).map g)
  | [], _, _ => rfl
  | a :: as, h, h2 => by
    show (t a >>= fun b => if b = true then (f a >>= fun y => lcF t f as >>= fun ys => some (y :: ys)) else lcF t f as) = _
    rw [h a List.mem_cons_self, List.filter_cons, lcF_ok (as := as) (fun b hb => h b (List.mem_cons_of_mem _ hb)) fun b hb => h2 b (List.mem_cons_of_mem _ hb)]
    show (if u a = true then _ else _) = _
    cases q : u a with
    | true => rw [if_pos rfl, if_pos rfl, h2 a List.mem_cons_self q]; rfl
    | false => rw [if_neg Bool.false_ne_true, if_neg Bool.false_ne_true]
/-! ranges -/
theorem rng_nil {lo : Int} : rng lo 0 = [] := rfl
theorem rng_mem {lo : Int} {n : Nat} {x : Int} (h : x ∈ rng lo n) : lo ≤ x ∧ x < lo + n := by
  unfold rng at h
  obtain ⟨i, h1, rfl⟩ := List.mem_map.mp h
  rw [List.mem_range] at h1
  omega
theorem rng_at {lo : Int} {n : Nat} {pre post : List Int} {x : Int} (h : rng lo n = pre ++ x :: post) : x = lo + pre.length ∧ pre.length < n := by
  have h1 : (rng lo n)[pre.length]? = some x := by rw [h]; simp
  have hl : pre.length < n := by
    have := (List.getElem?_eq_some_iff.mp h1).1
    rwa [rng_len] at this
  rw [rng_get hl] at h1
  exact ⟨(Option.some.inj h1).symm, hl⟩
theorem rng3_mem {lo c : Int} {n : Nat} {x : Int} (h : x ∈ rng3 lo c n) : ∃ i : Nat, i < n ∧ x = lo + i * c := by
  unfold rng3 at h
  obtain ⟨i, h1, rfl⟩ := List.mem_map.mp h
  exact ⟨i, List.mem_range.mp h1, rfl⟩
theorem take_succ_at {α : Type} {xs : List α} {n : Nat} (h : n < xs.length) : xs.take (n + 1) = xs.take n ++ [xs[n]] := by
  rw [List.take_add_one, List.getElem?_eq_getElem h]; rfl
theorem ite_true {α : Type} {b : Bool} (h : b = true) {x y : α} : (if b = true then x else y) = x := if_pos h
theorem ite_false {α : Type} {b : Bool} (h : b = false) {x y : α} : (if b = true then x else y) = y := by rw [h]; rfl
end T
set_option Elab.async false
set_option linter.all false
set_option maxRecDepth 100000
set_option maxHeartbeats 4000000
namespace Law
open PySem PySem.Spec PyProof.Rows L2 T
open C8 (InsC)
open ClX (CRead CVal)
def topS (i : Nat) : Stmt := PySem.Challenge.pw_voucherstack_k07_whole_sums.main.body.getD i (.Pass ⟨0, 0, 0, 0⟩)
abbrev s_law_cell_at : Stmt := topS 6
abbrev s_law_some : Stmt := topS 7
abbrev s_law_coin : Stmt := topS 8
abbrev s_law_rows : Stmt := topS 9
abbrev s_Line_init : Stmt := inClass (topS 1) 0
abbrev s_Basket_init : Stmt := inClass (topS 2) 0
abbrev s_piece_price : Stmt := topS 3
abbrev s_Standing_init : Stmt := inClass (topS 4) 0
abbrev s_Standing_whole : Stmt := inClass (topS 4) 1
abbrev s_law_is : Stmt := topS 10
abbrev s_law : Stmt := topS 11
theorem sc_law_cell_at : FnScope ["_law_script", "_law_k"] ["_law_script", "_law_k"] (defScope s_law_cell_at) := ⟨rfl, rfl, rfl, by decide +kernel, rfl, by decide +kernel, by decide +kernel⟩
theorem sc_law_some : FnScope ["_law_script", "_law_k", "_law_salt", "_law_many", "_law_cell", "_law_mixed"] ["_law_script", "_law_k", "_law_salt", "_law_many"] (defScope s_law_some) := ⟨rfl, rfl, rfl, by decide +kernel, rfl, by decide +kernel, by decide +kernel⟩
theorem sc_law_coin : FnScope ["_law_script", "_law_k", "_law_salt", "_law_how"] ["_law_script", "_law_k", "_law_salt"] (defScope s_law_coin) := ⟨rfl, rfl, rfl, by decide +kernel, rfl, by decide +kernel, by decide +kernel⟩
theorem sc_law_rows : FnScope ["_law_script", "_law_k", "_law_left", "_law_rows_here", "_law_j", "_law_many", "_law_extra"] ["_law_script", "_law_k"] (defScope s_law_rows) := ⟨rfl, rfl, rfl, by decide +kernel, rfl, by decide +kernel, by decide +kernel⟩
theorem sc_Line_init : FnScope ["self", "kind", "price", "many", "special"] ["self", "kind", "price", "many", "special"] (defScope s_Line_init) := ⟨rfl, rfl, rfl, by decide +kernel, rfl, by decide +kernel, by decide +kernel⟩
theorem sc_Basket_init : FnScope ["self", "lines", "carriage", "member"] ["self", "lines", "carriage", "member"] (defScope s_Basket_init) := ⟨rfl, rfl, rfl, by decide +kernel, rfl, by decide +kernel, by decide +kernel⟩
theorem sc_piece_price : FnScope ["line", "member"] ["line", "member"] (defScope s_piece_price) := ⟨rfl, rfl, rfl, by decide +kernel, rfl, by decide +kernel, by decide +kernel⟩
theorem sc_Standing_init : FnScope ["self", "basket", "at", "line", "piece"] ["self", "basket"] (defScope s_Standing_init) := ⟨rfl, rfl, rfl, by decide +kernel, rfl, by decide +kernel, by decide +kernel⟩
theorem sc_Standing_whole : FnScope ["self"] ["self"] (defScope s_Standing_whole) := ⟨rfl, rfl, rfl, by decide +kernel, rfl, by decide +kernel, by decide +kernel⟩
theorem sc_law_is : FnScope ["_law_standing", "_law_due", "_law_found"] ["_law_standing", "_law_due"] (defScope s_law_is) := ⟨rfl, rfl, rfl, by decide +kernel, rfl, by decide +kernel, by decide +kernel⟩
theorem sc_law : FnScope ["_law_script", "_law_held", "_law_k", "_law_rows_here", "_law_carriage", "_law_joined", "_law_lines", "_law_due", "_law_row", "_law_cut", "_law_one", "_law_other", "_law_turned", "_law_standing"] ["_law_script"] (defScope s_law) := ⟨rfl, rfl, rfl, by decide +kernel, rfl, by decide +kernel, by decide +kernel⟩
structure LineD where
  f_kind : Int
  f_price : Int
  f_many : Int
  f_special : (Option Int)
abbrev o_Line (K : PySem.W.Frag) (mg : Str → Option Value) (d : LineD) : OR := oC (wI (Gb.mk K mg) "Line" ["kind", "price", "many", "special"]) [(oI (Py.r (Gb.mk K mg) (d.f_kind : Int))), (oI (Py.r (Gb.mk K mg) (d.f_price : Int))), (oI (Py.r (Gb.mk K mg) (d.f_many : Int))), (oI (Py.r (Gb.mk K mg) (d.f_special : (Option Int))))]
instance : Py LineD := ⟨fun g d => rIns g "Line" ["kind", "price", "many", "special"] [Py.r g d.f_kind, Py.r g d.f_price, Py.r g d.f_many, Py.r g d.f_special]⟩
instance : Nz LineD := ⟨fun h => rIns_nz h⟩
theorem z_Line {K : PySem.W.Frag} {mg : Str → Option Value} (d : LineD) : Frz (o_Line K mg d) (Py.r (Gb.mk K mg) d) := frz_C (.cons frz_I (.cons frz_I (.cons frz_I (.cons frz_I (.nil)))))
structure BasketD where
  f_lines : (List LineD)
  f_carriage : Int
  f_member : Bool
abbrev o_Basket (K : PySem.W.Frag) (mg : Str → Option Value) (d : BasketD) : OR := oC (wI (Gb.mk K mg) "Basket" ["lines", "carriage", "member"]) [(oF (rl (Gb.mk K mg) (d.f_lines : (List LineD)))), (oI (Py.r (Gb.mk K mg) (d.f_carriage : Int))), (oI (Py.r (Gb.mk K mg) (d.f_member : Bool)))]
instance : Py BasketD := ⟨fun g d => rIns g "Basket" ["lines", "carriage", "member"] [Py.r g d.f_lines, Py.r g d.f_carriage, Py.r g d.f_member]⟩
instance : Nz BasketD := ⟨fun h => rIns_nz h⟩
theorem z_Basket {K : PySem.W.Frag} {mg : Str → Option Value} (d : BasketD) : Frz (o_Basket K mg d) (Py.r (Gb.mk K mg) d) := frz_C (.cons frz_F (.cons frz_I (.cons frz_I (.nil))))
structure StandingD where
  f_owners : (List Int)
  f_prices : (List Int)
  f_carriage : Int
  f_marked : (List Bool)
abbrev o_Standing (K : PySem.W.Frag) (mg : Str → Option Value) (d : StandingD) : OR := oC (wI (Gb.mk K mg) "Standing" ["owners", "prices", "carriage", "marked"]) [(oF (rl (Gb.mk K mg) (d.f_owners : (List Int)))), (oF (rl (Gb.mk K mg) (d.f_prices : (List Int)))), (oI (Py.r (Gb.mk K mg) (d.f_carriage : Int))), (oF (rl (Gb.mk K mg) (d.f_marked : (List Bool))))]
instance : Py StandingD := ⟨fun g d => rIns g "Standing" ["owners", "prices", "carriage", "marked"] [Py.r g d.f_owners, Py.r g d.f_prices, Py.r g d.f_carriage, Py.r g d.f_marked]⟩
instance : Nz StandingD := ⟨fun h => rIns_nz h⟩
theorem z_Standing {K : PySem.W.Frag} {mg : Str → Option Value} (d : StandingD) : Frz (o_Standing K mg d) (Py.r (Gb.mk K mg) d) := frz_C (.cons frz_F (.cons frz_F (.cons frz_I (.cons frz_F (.nil)))))
@[irreducible] def M.law_cell_at (x_law_script : (List Int)) (x_law_k : Int) : Option Int :=
  (if (decide (x_law_k < (x_law_script.length : Int))) = true then (atO x_law_script x_law_k) else some (0 : Int))
@[irreducible] def M.law_some (x_law_script : (List Int)) (x_law_k : Int) (x_law_salt : Int) (x_law_many : Int) : Option Int :=
  ((((M.law_cell_at x_law_script x_law_k) >>= fun v3 => some ((v3 % (1000003 : Int)))) >>= fun v4 => some (v4 + (1 : Int))) >>= fun x_law_cell => ((((((mulO ((1000 : Int) * x_law_k) x_law_k) >>= fun v10 => some ((48271 : Int) + v10)) >>= fun v11 => (mulO ((69621 : Int) * x_law_salt) x_law_salt) >>= fun v12 => some (v11 + v12)) >>= fun v13 => (mulO x_law_cell v13)) >>= fun v14 => some ((v14 % (2147483647 : Int)))) >>= fun x_law_mixed => ((((mulO x_law_mixed x_law_mixed) >>= fun v15 => some ((v15 % (2147483629 : Int)))) >>= fun v16 => some ((v16 / (3 : Int)))) >>= fun v17 => (modO v17 x_law_many))))
@[irreducible] def M.law_coin (x_law_script : (List Int)) (x_law_k : Int) (x_law_salt : Int) : Option Int :=
  ((M.law_some x_law_script x_law_k x_law_salt (5 : Int)) >>= fun x_law_how => (if (decide (x_law_how < (2 : Int))) = true then (M.law_some x_law_script x_law_k (x_law_salt + (1 : Int)) (10 : Int)) else (if (decide (x_law_how = (2 : Int))) = true then ((M.law_some x_law_script x_law_k (x_law_salt + (1 : Int)) (200 : Int)) >>= fun v1 => some (((50 : Int) * v1))) else (if (decide (x_law_how = (3 : Int))) = true then ((M.law_some x_law_script x_law_k (x_law_salt + (1 : Int)) (3 : Int)) >>= fun v2 => some ((1000000000000 : Int) - v2)) else (((M.law_some x_law_script x_law_k (x_law_salt + (1 : Int)) (1000000 : Int)) >>= fun v3 => some ((v3 * (1000000 : Int)))) >>= fun v4 => (M.law_some x_law_script x_law_k (x_law_salt + (2 : Int)) (1000001 : Int)) >>= fun v5 => some (v4 + v5))))))
@[irreducible] def M.law_rows (x_law_script : (List Int)) (x_law_k : Int) : Option (List (T4 Int Int Int (Option Int))) :=
  (let x_law_left : Int := (60 : Int); (let x_law_rows_here : (List (T4 Int Int Int (Option Int))) := ([] : (List (T4 Int Int Int (Option Int)))); (((M.law_some x_law_script x_law_k (1 : Int) (13 : Int)) >>= fun v1 => (rng1O v1)) >>= fun v19 => (loopN (fun (z2 : (Int × (List (T4 Int Int Int (Option Int))))) (x_law_j : Int) => ((M.law_some x_law_script x_law_k ((10 : Int) + x_law_j) (5 : Int)) >>= fun x_law_many => (((M.law_some x_law_script x_law_k ((30 : Int) + x_law_j) (8 : Int)) >>= fun v3 => some (decide (v3 = (0 : Int)))) >>= fun v17 => ((if v17 = true then some (let x_law_many : Int := (20 : Int); x_law_many) else some x_law_many) >>= (fun (z4 : Int) => (let x_law_many : Int := (min z4 z2.1); (let x_law_left : Int := (z2.1 - x_law_many); (let x_law_extra : (Option Int) := (none : (Option Int)); (((M.law_some x_law_script x_law_k ((50 : Int) + x_law_j) (3 : Int)) >>= fun v5 => some (decide (v5 = (0 : Int)))) >>= fun v16 => ((if v16 = true then (((M.law_coin x_law_script x_law_k ((70 : Int) + ((3 : Int) * x_law_j))) >>= fun v15 => some ((some v15 : (Option Int)))) >>= fun x_law_extra => some x_law_extra) else some x_law_extra) >>= (fun (z6 : (Option Int)) => (((M.law_some x_law_script x_law_k ((110 : Int) + x_law_j) (20 : Int)) >>= fun v7 => (M.law_coin x_law_script x_law_k ((130 : Int) + ((3 : Int) * x_law_j))) >>= fun v8 => some (T4.mk v7 v8 x_law_many z6)) >>= fun v14 => (appO z2.2 v14 >>= fun x_law_rows_here => ((((M.law_some x_law_script x_law_k ((170 : Int) + x_law_j) (6 : Int)) >>= fun v9 => some (decide (v9 = (0 : Int)))) >>= fun v10 => (if v10 = true then some (((decide (x_law_many ≤ x_law_left)) && (decide ((x_law_rows_here.length : Int) < (12 : Int))))) else some false)) >>= fun v13 => ((if v13 = true then ((atO x_law_rows_here ((x_law_rows_here.length : Int) - (1 : Int))) >>= fun v12 => (appO x_law_rows_here v12 >>= fun x_law_rows_here => some (let x_law_left : Int := (x_law_left - x_law_many); (x_law_rows_here, x_law_left)))) else some (x_law_rows_here, x_law_left)) >>= (fun (z11 : ((List (T4 Int Int Int (Option Int))) × Int)) => some (z11.2, z11.1))))))))))))))))) v19 (x_law_left, x_law_rows_here) >>= fun z18 => some (cutO z18.2 none (some (12 : Int)))))))
@[irreducible] def M.Line_init (x_kind : Int) (x_price : Int) (x_many : Int) (x_special : (Option Int)) : LineD :=
  (let x_self_kind : Int := x_kind; (let x_self_price : Int := x_price; (let x_self_many : Int := x_many; (let x_self_special : (Option Int) := x_special; (LineD.mk x_self_kind x_self_price x_self_many x_self_special)))))
@[irreducible] def M.Basket_init (x_lines : (List LineD)) (x_carriage : Int) (x_member : Bool) : BasketD :=
  (let x_self_lines : (List LineD) := x_lines; (let x_self_carriage : Int := x_carriage; (let x_self_member : Bool := x_member; (BasketD.mk x_self_lines x_self_carriage x_self_member))))
@[irreducible] def M.piece_price (x_line : LineD) (x_member : Bool) : Option Int :=
  (if (x_member && x_line.f_special.isSome) = true then x_line.f_special else some x_line.f_price)
@[irreducible] def M.Standing_init (x_basket : BasketD) : Option StandingD :=
  (let x_self_owners : (List Int) := ([] : (List Int)); (let x_self_prices : (List Int) := ([] : (List Int)); (let x_self_carriage : Int := x_basket.f_carriage; (let x_self_marked : (List Bool) := (x_basket.f_lines.map (fun (x_line : LineD) => false)); (loopN (fun (z3 : ((List Int) × (List Int) × Int × (List Bool))) (it4 : (T2 Int LineD)) => ((rng1O it4.x1.f_many) >>= fun v8 => (loopN (fun (z5 : ((List Int) × (List Int) × Int × (List Bool))) (x_piece : Int) => (appO z5.1 it4.x0 >>= fun x_self_owners => ((M.piece_price it4.x1 x_basket.f_member) >>= fun v6 => (appO z5.2.1 v6 >>= fun x_self_prices => some (x_self_owners, x_self_prices, z5.2.2.1, z5.2.2.2))))) v8 (z3.1, z3.2.1, z3.2.2.1, z3.2.2.2) >>= fun z7 => some (z7.1, z7.2.1, z7.2.2.1, z7.2.2.2)))) (enumL x_basket.f_lines) (x_self_owners, x_self_prices, x_self_carriage, x_self_marked) >>= fun z9 => some (StandingD.mk z9.1 z9.2.1 z9.2.2.1 z9.2.2.2))))))
@[irreducible] def M.Standing_whole (x_self : StandingD) : Int :=
  (x_self.f_prices.sum + x_self.f_carriage)
@[irreducible] def M.law_is (x_law_standing : StandingD) (x_law_due : Int) : Bool :=
  (let x_law_found : Int := (M.Standing_whole x_law_standing); (true && ((!false) && (decide (x_law_found = x_law_due)))))
@[irreducible] def M.law (x_law_script : (List Int)) : Option Bool :=
  (let x_law_held : (List (T2 StandingD Int)) := ([] : (List (T2 StandingD Int))); ((rng1O ((x_law_script.length : Int) + (1 : Int))) >>= fun v17 => (loopC (fun (z1 : (List (T2 StandingD Int))) (x_law_k : Int) => (((M.law_rows x_law_script x_law_k) >>= fun x_law_rows_here => ((M.law_coin x_law_script x_law_k (201 : Int)) >>= fun x_law_carriage => (((M.law_some x_law_script x_law_k (204 : Int) (2 : Int)) >>= fun v3 => some (decide (v3 = (1 : Int)))) >>= fun x_law_joined => (let x_law_lines : (List LineD) := (x_law_rows_here.map (fun (x_law_row : (T4 Int Int Int (Option Int))) => (M.Line_init x_law_row.x0 x_law_row.x1 x_law_row.x2 x_law_row.x3))); (let x_law_due : Int := x_law_carriage; (loopN (fun (z4 : Int) (x_law_row : (T4 Int Int Int (Option Int))) => ((if (x_law_joined && x_law_row.x3.isSome) = true then (((x_law_row.x3 >>= fun v10 => (mulO v10 x_law_row.x2)) >>= fun v11 => some (z4 + v11)) >>= fun x_law_due => some x_law_due) else (((mulO x_law_row.x1 x_law_row.x2) >>= fun v13 => some (z4 + v13)) >>= fun x_law_due => some x_law_due)) >>= (fun (z5 : Int) => some z5))) x_law_rows_here x_law_due >>= fun z14 => ((M.law_some x_law_script x_law_k (205 : Int) ((x_law_rows_here.length : Int) + (1 : Int))) >>= fun x_law_cut => ((M.Standing_init ((M.Basket_init ((cutO x_law_lines none (some x_law_cut))) x_law_carriage x_law_joined))) >>= fun x_law_one => ((M.Standing_init ((M.Basket_init ((cutO x_law_lines (some x_law_cut) none)) ((0 : Int)) x_law_joined))) >>= fun x_law_other => ((M.Standing_init ((M.Basket_init x_law_lines.reverse x_law_carriage x_law_joined))) >>= fun x_law_turned => ((M.Standing_init ((M.Basket_init x_law_lines x_law_carriage x_law_joined))) >>= fun x_law_standing => (if ((!(M.law_is x_law_standing z14)) || ((!(M.law_is x_law_turned z14)) || (!decide (((M.Standing_whole x_law_one) + (M.Standing_whole x_law_other)) = z14)))) = true then some (Ctl.rt false) else (appO z1 (T2.mk x_law_standing z14) >>= fun x_law_held => some (Ctl.nx x_law_held)))))))))))))) : Option (Ctl (List (T2 StandingD Int)) (List (T2 StandingD Int)) Bool))) v17 x_law_held >>= Ctl.seqT fun (z15 : (List (T2 StandingD Int))) => some ((z15.map (fun (it16 : (T2 StandingD Int)) => (M.law_is it16.x0 it16.x1))).all id))))
structure Tx (K : PySem.W.Frag) (mg : Str → Option Value) where
  C_Line : Addr
  m_Line : mg "Line" = some (.ref C_Line)
  cl_Line : Cls K C_Line
  C_Basket : Addr
  m_Basket : mg "Basket" = some (.ref C_Basket)
  cl_Basket : Cls K C_Basket
  C_Standing : Addr
  m_Standing : mg "Standing" = some (.ref C_Standing)
  cl_Standing : Cls K C_Standing
  n_Basket_carriage : NoAttr K C_Basket "carriage"
  n_Basket_lines : NoAttr K C_Basket "lines"
  n_Basket_member : NoAttr K C_Basket "member"
  n_Line_kind : NoAttr K C_Line "kind"
  n_Line_many : NoAttr K C_Line "many"
  n_Line_price : NoAttr K C_Line "price"
  n_Line_special : NoAttr K C_Line "special"
  n_Standing_carriage : NoAttr K C_Standing "carriage"
  n_Standing_marked : NoAttr K C_Standing "marked"
  n_Standing_owners : NoAttr K C_Standing "owners"
  n_Standing_prices : NoAttr K C_Standing "prices"
  f_law_cell_at : Addr
  d_law_cell_at : FuncData
  F_law_cell_at : FunX K "_law_cell_at" "_law_cell_at" s_law_cell_at f_law_cell_at d_law_cell_at
  m_law_cell_at : mg "_law_cell_at" = some (.ref f_law_cell_at)
  k_law_cell_at : PySem.W.keepIn K (.ref f_law_cell_at) = true
  f_law_some : Addr
  d_law_some : FuncData
  F_law_some : FunX K "_law_some" "_law_some" s_law_some f_law_some d_law_some
  m_law_some : mg "_law_some" = some (.ref f_law_some)
  k_law_some : PySem.W.keepIn K (.ref f_law_some) = true
  f_law_coin : Addr
  d_law_coin : FuncData
  F_law_coin : FunX K "_law_coin" "_law_coin" s_law_coin f_law_coin d_law_coin
  m_law_coin : mg "_law_coin" = some (.ref f_law_coin)
  k_law_coin : PySem.W.keepIn K (.ref f_law_coin) = true
  f_law_rows : Addr
  d_law_rows : FuncData
  F_law_rows : FunX K "_law_rows" "_law_rows" s_law_rows f_law_rows d_law_rows
  m_law_rows : mg "_law_rows" = some (.ref f_law_rows)
  k_law_rows : PySem.W.keepIn K (.ref f_law_rows) = true
  f_Line_init : Addr
  d_Line_init : FuncData
  F_Line_init : FunX K "__init__" "Line.__init__" s_Line_init f_Line_init d_Line_init
  k_Line_init : PySem.W.keepIn K (.ref f_Line_init) = true
  f_Basket_init : Addr
  d_Basket_init : FuncData
  F_Basket_init : FunX K "__init__" "Basket.__init__" s_Basket_init f_Basket_init d_Basket_init
  k_Basket_init : PySem.W.keepIn K (.ref f_Basket_init) = true
  f_piece_price : Addr
  d_piece_price : FuncData
  F_piece_price : FunX K "piece_price" "piece_price" s_piece_price f_piece_price d_piece_price
  m_piece_price : mg "piece_price" = some (.ref f_piece_price)
  k_piece_price : PySem.W.keepIn K (.ref f_piece_price) = true
  f_Standing_init : Addr
  d_Standing_init : FuncData
  F_Standing_init : FunX K "__init__" "Standing.__init__" s_Standing_init f_Standing_init d_Standing_init
  k_Standing_init : PySem.W.keepIn K (.ref f_Standing_init) = true
  f_Standing_whole : Addr
  d_Standing_whole : FuncData
  F_Standing_whole : FunX K "whole" "Standing.whole" s_Standing_whole f_Standing_whole d_Standing_whole
  k_Standing_whole : PySem.W.keepIn K (.ref f_Standing_whole) = true
  f_law_is : Addr
  d_law_is : FuncData
  F_law_is : FunX K "_law_is" "_law_is" s_law_is f_law_is d_law_is
  m_law_is : mg "_law_is" = some (.ref f_law_is)
  k_law_is : PySem.W.keepIn K (.ref f_law_is) = true
  f_law : Addr
  d_law : FuncData
  F_law : FunX K "law" "law" s_law f_law d_law
  m_law : mg "law" = some (.ref f_law)
  k_law : PySem.W.keepIn K (.ref f_law) = true
  b_Basket_init_4 : Binds K d_Basket_init ["self", "lines", "carriage", "member"] []
  b_Line_init_5 : Binds K d_Line_init ["self", "kind", "price", "many", "special"] []
  b_Standing_init_2 : Binds K d_Standing_init ["self", "basket"] []
  b_Standing_whole_1 : Binds K d_Standing_whole ["self"] []
  b_law_cell_at_2 : Binds K d_law_cell_at ["_law_script", "_law_k"] []
  b_law_coin_3 : Binds K d_law_coin ["_law_script", "_law_k", "_law_salt"] []
  b_law_is_2 : Binds K d_law_is ["_law_standing", "_law_due"] []
  b_law_rows_2 : Binds K d_law_rows ["_law_script", "_law_k"] []
  b_law_some_4 : Binds K d_law_some ["_law_script", "_law_k", "_law_salt", "_law_many"] []
  b_piece_price_2 : Binds K d_piece_price ["line", "member"] []
  mk_Basket : Mk K C_Basket f_Basket_init
  mk_Line : Mk K C_Line f_Line_init
  mk_Standing : Mk K C_Standing f_Standing_init
  me_Standing_Standing_whole : Meth K C_Standing "whole" f_Standing_whole
  g_all : mg "all" = none
  g_bool : mg "bool" = none
  g_enumerate : mg "enumerate" = none
  g_int : mg "int" = none
  g_isinstance : mg "isinstance" = none
  g_len : mg "len" = none
  g_list : mg "list" = none
  g_min : mg "min" = none
  g_range : mg "range" = none
  g_reversed : mg "reversed" = none
  g_sum : mg "sum" = none
section
variable {P : Program} {w : World} {K : PySem.W.Frag} {mg : Str → Option Value} {base : Heap}
theorem ok_law_cell_at (T : Tx K mg) : FnOk P w K mg base CX0 1 T.f_law_cell_at T.d_law_cell_at ["_law_script", "_law_k"] (spT (Gb.mk K mg) (fun p : (List Int) × Int × Unit => [.bw (rl (Gb.mk K mg) p.1), .im (Py.r (Gb.mk K mg) p.2.1)]) (fun p => M.law_cell_at p.1 p.2.1) (fun r => .im (Py.r (Gb.mk K mg) (r : Int)))) := by
  refine fnx_mk T.F_law_cell_at sc_law_cell_at (fun _ => rfl) (fun _ => rfl) (by decide) (fun cdv A outer s H E I p hr => ?_)
  obtain ⟨x_law_script, x_law_k, ⟨⟩⟩ := p
  refine MB.eq (MB.p1 (mb_ift (mt_cm (MC.p1 (MC.p1 (mc_lt (me_var 1) (ME.p1 (me_len T.g_len (me_bor 0))))))) (mb_retT (ME.p1 (ME.p1 (me_ix (me_bor 0) (me_var 1))))) (mb_retT me_int) hk_t)) ?_
  delta M.law_cell_at
  rfl
theorem ok_law_some (T : Tx K mg) : FnOk P w K mg base CX0 2 T.f_law_some T.d_law_some ["_law_script", "_law_k", "_law_salt", "_law_many"] (spT (Gb.mk K mg) (fun p : (List Int) × Int × Int × Int × Unit => [.bw (rl (Gb.mk K mg) p.1), .im (Py.r (Gb.mk K mg) p.2.1), .im (Py.r (Gb.mk K mg) p.2.2.1), .im (Py.r (Gb.mk K mg) p.2.2.2.1)]) (fun p => M.law_some p.1 p.2.1 p.2.2.1 p.2.2.2.1) (fun r => .im (Py.r (Gb.mk K mg) (r : Int)))) := by
  refine fnx_mk T.F_law_some sc_law_some (fun _ => rfl) (fun _ => rfl) (by decide) (fun cdv A outer s H E I p hr => ?_)
  obtain ⟨x_law_script, x_law_k, x_law_salt, x_law_many, ⟨⟩⟩ := p
  refine MB.eq (mb_set 4 sc_law_some.nd (ME.p2 (me_add (me_modC (n := 1000003) (by decide) (me_call (ok_law_cell_at T) hr (by decide) T.m_law_cell_at T.k_law_cell_at T.b_law_cell_at_2 .nil (MA.p1 (ma_cons (args := fun p : Int × Unit => [.im (Py.r (Gb.mk K mg) p.1)]) (me_bor 0) (co_bw lr_rd) (fun _ => (MA.p1 (ma_cons (args := fun p : Unit => []) (me_var 1) co_im (fun _ => ma_nl))))))) me_int) me_int)) (fun x_law_cell => mb_set 5 sc_law_some.nd (me_modC (n := 2147483647) (by decide) (ME.p1 (me_mul (me_var 4) (me_add (ME.p1 (me_add me_int (ME.p1 (ME.p1 (me_mul (ME.p1 (me_mulD (n := 1000) (by decide) me_int (me_var 1))) (me_var 1)))))) (ME.p1 (ME.p1 (me_mul (ME.p1 (me_mulD (n := 69621) (by decide) me_int (me_var 2))) (me_var 2))))))) me_int) (fun x_law_mixed => mb_retT (ME.p2 (me_mod (me_divC (n := 3) (by decide) (me_modC (n := 2147483629) (by decide) (ME.p1 (ME.p1 (me_mul (me_var 5) (me_var 5)))) me_int) me_int) (me_var 3)))))) ?_
  delta M.law_some
  rfl
theorem ok_law_coin (T : Tx K mg) : FnOk P w K mg base CX0 3 T.f_law_coin T.d_law_coin ["_law_script", "_law_k", "_law_salt"] (spT (Gb.mk K mg) (fun p : (List Int) × Int × Int × Unit => [.bw (rl (Gb.mk K mg) p.1), .im (Py.r (Gb.mk K mg) p.2.1), .im (Py.r (Gb.mk K mg) p.2.2.1)]) (fun p => M.law_coin p.1 p.2.1 p.2.2.1) (fun r => .im (Py.r (Gb.mk K mg) (r : Int)))) := by
  refine fnx_mk T.F_law_coin sc_law_coin (fun _ => rfl) (fun _ => rfl) (by decide) (fun cdv A outer s H E I p hr => ?_)
  obtain ⟨x_law_script, x_law_k, x_law_salt, ⟨⟩⟩ := p
  refine MB.eq (mb_set 3 sc_law_coin.nd (me_call (ok_law_some T) hr (by decide) T.m_law_some T.k_law_some T.b_law_some_4 .nil (MA.p1 (ma_cons (args := fun p : Int × Int × Int × Unit => [.im (Py.r (Gb.mk K mg) p.1), .im (Py.r (Gb.mk K mg) p.2.1), .im (Py.r (Gb.mk K mg) p.2.2.1)]) (me_bor 0) (co_bw lr_rd) (fun _ => (MA.p1 (ma_cons (args := fun p : Int × Int × Unit => [.im (Py.r (Gb.mk K mg) p.1), .im (Py.r (Gb.mk K mg) p.2.1)]) (me_var 1) co_im (fun _ => (MA.p1 (ma_cons (args := fun p : Int × Unit => [.im (Py.r (Gb.mk K mg) p.1)]) (me_var 2) co_im (fun _ => (MA.p1 (ma_cons (args := fun p : Unit => []) me_int co_im (fun _ => ma_nl))))))))))))) (fun x_law_how => MB.p1 (mb_ift (mt_cm (MC.p1 (MC.p1 (mc_lt (me_var 3) me_int)))) (mb_retT (me_call (ok_law_some T) hr (by decide) T.m_law_some T.k_law_some T.b_law_some_4 .nil (MA.p1 (ma_cons (args := fun p : Int × Int × Int × Unit => [.im (Py.r (Gb.mk K mg) p.1), .im (Py.r (Gb.mk K mg) p.2.1), .im (Py.r (Gb.mk K mg) p.2.2.1)]) (me_bor 0) (co_bw lr_rd) (fun _ => (MA.p1 (ma_cons (args := fun p : Int × Int × Unit => [.im (Py.r (Gb.mk K mg) p.1), .im (Py.r (Gb.mk K mg) p.2.1)]) (me_var 1) co_im (fun _ => (MA.p1 (ma_cons (args := fun p : Int × Unit => [.im (Py.r (Gb.mk K mg) p.1)]) (ME.p1 (ME.p1 (me_add (me_var 2) me_int))) co_im (fun _ => (MA.p1 (ma_cons (args := fun p : Unit => []) me_int co_im (fun _ => ma_nl)))))))))))))) (MB.p1 (mb_ift (mt_cm (MC.p1 (MC.p1 (mc_eq (α := Int) hr.units (by decide) (me_var 3) me_int)))) (mb_retT (me_mulD (n := 50) (by decide) me_int (me_call (ok_law_some T) hr (by decide) T.m_law_some T.k_law_some T.b_law_some_4 .nil (MA.p1 (ma_cons (args := fun p : Int × Int × Int × Unit => [.im (Py.r (Gb.mk K mg) p.1), .im (Py.r (Gb.mk K mg) p.2.1), .im (Py.r (Gb.mk K mg) p.2.2.1)]) (me_bor 0) (co_bw lr_rd) (fun _ => (MA.p1 (ma_cons (args := fun p : Int × Int × Unit => [.im (Py.r (Gb.mk K mg) p.1), .im (Py.r (Gb.mk K mg) p.2.1)]) (me_var 1) co_im (fun _ => (MA.p1 (ma_cons (args := fun p : Int × Unit => [.im (Py.r (Gb.mk K mg) p.1)]) (ME.p1 (ME.p1 (me_add (me_var 2) me_int))) co_im (fun _ => (MA.p1 (ma_cons (args := fun p : Unit => []) me_int co_im (fun _ => ma_nl))))))))))))))) (MB.p1 (mb_ift (mt_cm (MC.p1 (MC.p1 (mc_eq (α := Int) hr.units (by decide) (me_var 3) me_int)))) (mb_retT (ME.p1 (me_sub me_int (me_call (ok_law_some T) hr (by decide) T.m_law_some T.k_law_some T.b_law_some_4 .nil (MA.p1 (ma_cons (args := fun p : Int × Int × Int × Unit => [.im (Py.r (Gb.mk K mg) p.1), .im (Py.r (Gb.mk K mg) p.2.1), .im (Py.r (Gb.mk K mg) p.2.2.1)]) (me_bor 0) (co_bw lr_rd) (fun _ => (MA.p1 (ma_cons (args := fun p : Int × Int × Unit => [.im (Py.r (Gb.mk K mg) p.1), .im (Py.r (Gb.mk K mg) p.2.1)]) (me_var 1) co_im (fun _ => (MA.p1 (ma_cons (args := fun p : Int × Unit => [.im (Py.r (Gb.mk K mg) p.1)]) (ME.p1 (ME.p1 (me_add (me_var 2) me_int))) co_im (fun _ => (MA.p1 (ma_cons (args := fun p : Unit => []) me_int co_im (fun _ => ma_nl)))))))))))))))) (mb_retT (me_add (me_mulC (n := 1000000) (by decide) (me_call (ok_law_some T) hr (by decide) T.m_law_some T.k_law_some T.b_law_some_4 .nil (MA.p1 (ma_cons (args := fun p : Int × Int × Int × Unit => [.im (Py.r (Gb.mk K mg) p.1), .im (Py.r (Gb.mk K mg) p.2.1), .im (Py.r (Gb.mk K mg) p.2.2.1)]) (me_bor 0) (co_bw lr_rd) (fun _ => (MA.p1 (ma_cons (args := fun p : Int × Int × Unit => [.im (Py.r (Gb.mk K mg) p.1), .im (Py.r (Gb.mk K mg) p.2.1)]) (me_var 1) co_im (fun _ => (MA.p1 (ma_cons (args := fun p : Int × Unit => [.im (Py.r (Gb.mk K mg) p.1)]) (ME.p1 (ME.p1 (me_add (me_var 2) me_int))) co_im (fun _ => (MA.p1 (ma_cons (args := fun p : Unit => []) me_int co_im (fun _ => ma_nl))))))))))))) me_int) (me_call (ok_law_some T) hr (by decide) T.m_law_some T.k_law_some T.b_law_some_4 .nil (MA.p1 (ma_cons (args := fun p : Int × Int × Int × Unit => [.im (Py.r (Gb.mk K mg) p.1), .im (Py.r (Gb.mk K mg) p.2.1), .im (Py.r (Gb.mk K mg) p.2.2.1)]) (me_bor 0) (co_bw lr_rd) (fun _ => (MA.p1 (ma_cons (args := fun p : Int × Int × Unit => [.im (Py.r (Gb.mk K mg) p.1), .im (Py.r (Gb.mk K mg) p.2.1)]) (me_var 1) co_im (fun _ => (MA.p1 (ma_cons (args := fun p : Int × Unit => [.im (Py.r (Gb.mk K mg) p.1)]) (ME.p1 (ME.p1 (me_add (me_var 2) me_int))) co_im (fun _ => (MA.p1 (ma_cons (args := fun p : Unit => []) me_int co_im (fun _ => ma_nl))))))))))))))) hk_t)) hk_t)) hk_t))) ?_
  delta M.law_coin
  rfl
theorem ok_law_rows (T : Tx K mg) : FnOk P w K mg base CX0 4 T.f_law_rows T.d_law_rows ["_law_script", "_law_k"] (spT (Gb.mk K mg) (fun p : (List Int) × Int × Unit => [.bw (rl (Gb.mk K mg) p.1), .im (Py.r (Gb.mk K mg) p.2.1)]) (fun p => M.law_rows p.1 p.2.1) (fun r => .fr (rl (Gb.mk K mg) (r : (List (T4 Int Int Int (Option Int))))))) := by
  refine fnx_mk T.F_law_rows sc_law_rows (fun _ => rfl) (fun _ => rfl) (by decide) (fun cdv A outer s H E I p hr => ?_)
  obtain ⟨x_law_script, x_law_k, ⟨⟩⟩ := p
  refine MB.eq (MB.p1 (mb_set 2 sc_law_rows.nd me_int (fun x_law_left => MB.p1 (mb_set 3 sc_law_rows.nd (me_lst (α := (T4 Int Int Int (Option Int))) ml_nil) (fun x_law_rows_here => mb_for (S' := (fun z2 : (Int × (List (T4 Int Int Int (Option Int)))) => [some (.bw (rl (Gb.mk K mg) (x_law_script : (List Int)))), some (.im (Py.r (Gb.mk K mg) (x_law_k : Int))), some (.im (Py.r (Gb.mk K mg) (z2.1 : Int))), some (.fr (rl (Gb.mk K mg) (z2.2 : (List (T4 Int Int Int (Option Int)))))), none, none, none])) (s0 := (x_law_left, x_law_rows_here)) PassesOwn.never (mi_rng1 T.g_range (me_call (ok_law_some T) hr (by decide) T.m_law_some T.k_law_some T.b_law_some_4 .nil (MA.p1 (ma_cons (args := fun p : Int × Int × Int × Unit => [.im (Py.r (Gb.mk K mg) p.1), .im (Py.r (Gb.mk K mg) p.2.1), .im (Py.r (Gb.mk K mg) p.2.2.1)]) (me_bor 0) (co_bw lr_rd) (fun _ => (MA.p1 (ma_cons (args := fun p : Int × Int × Unit => [.im (Py.r (Gb.mk K mg) p.1), .im (Py.r (Gb.mk K mg) p.2.1)]) (me_var 1) co_im (fun _ => (MA.p1 (ma_cons (args := fun p : Int × Unit => [.im (Py.r (Gb.mk K mg) p.1)]) me_int co_im (fun _ => (MA.p1 (ma_cons (args := fun p : Unit => []) me_int co_im (fun _ => ma_nl)))))))))))))) (mg_name 4 sc_law_rows.nd) (.keep (.keep (.keep (.keep (.keep (.keep (.keep .nil))))))) (fun _ (z2 : (Int × (List (T4 Int Int Int (Option Int))))) (x_law_j : Int) => mb_set 5 sc_law_rows.nd (me_call (ok_law_some T) hr (by decide) T.m_law_some T.k_law_some T.b_law_some_4 .nil (MA.p1 (ma_cons (args := fun p : Int × Int × Int × Unit => [.im (Py.r (Gb.mk K mg) p.1), .im (Py.r (Gb.mk K mg) p.2.1), .im (Py.r (Gb.mk K mg) p.2.2.1)]) (me_bor 0) (co_bw lr_rd) (fun _ => (MA.p1 (ma_cons (args := fun p : Int × Int × Unit => [.im (Py.r (Gb.mk K mg) p.1), .im (Py.r (Gb.mk K mg) p.2.1)]) (me_var 1) co_im (fun _ => (MA.p1 (ma_cons (args := fun p : Int × Unit => [.im (Py.r (Gb.mk K mg) p.1)]) (ME.p1 (ME.p1 (me_add me_int (me_var 4)))) co_im (fun _ => (MA.p1 (ma_cons (args := fun p : Unit => []) me_int co_im (fun _ => ma_nl))))))))))))) (fun x_law_many => mb_if (S' := (fun z4 : Int => [some (.bw (rl (Gb.mk K mg) (x_law_script : (List Int)))), some (.im (Py.r (Gb.mk K mg) (x_law_k : Int))), some (.im (Py.r (Gb.mk K mg) (z2.1 : Int))), some (.fr (rl (Gb.mk K mg) (z2.2 : (List (T4 Int Int Int (Option Int)))))), some (.im (Py.r (Gb.mk K mg) (x_law_j : Int))), some (.im (Py.r (Gb.mk K mg) (z4 : Int))), none])) (mt_cm (MC.p2 (mc_eq (α := Int) hr.units (by decide) (me_call (ok_law_some T) hr (by decide) T.m_law_some T.k_law_some T.b_law_some_4 .nil (MA.p1 (ma_cons (args := fun p : Int × Int × Int × Unit => [.im (Py.r (Gb.mk K mg) p.1), .im (Py.r (Gb.mk K mg) p.2.1), .im (Py.r (Gb.mk K mg) p.2.2.1)]) (me_bor 0) (co_bw lr_rd) (fun _ => (MA.p1 (ma_cons (args := fun p : Int × Int × Unit => [.im (Py.r (Gb.mk K mg) p.1), .im (Py.r (Gb.mk K mg) p.2.1)]) (me_var 1) co_im (fun _ => (MA.p1 (ma_cons (args := fun p : Int × Unit => [.im (Py.r (Gb.mk K mg) p.1)]) (ME.p1 (ME.p1 (me_add me_int (me_var 4)))) co_im (fun _ => (MA.p1 (ma_cons (args := fun p : Unit => []) me_int co_im (fun _ => ma_nl))))))))))))) me_int))) (MB.p1 (mb_set 5 sc_law_rows.nd me_int (fun x_law_many => mb_nil (b := x_law_many) kx_n (.keep (.keep (.keep (.keep (.keep (.keep (.keep .nil)))))))))) (mb_nil (b := x_law_many) kx_n (.keep (.keep (.keep (.keep (.keep (.keep (.keep .nil)))))))) (fun (z4 : Int) => MB.p1 (mb_set 5 sc_law_rows.nd (ME.p1 (ME.p1 (me_min T.g_min (me_var 5) (me_var 2)))) (fun x_law_many => MB.p1 (mb_set 2 sc_law_rows.nd (ME.p1 (ME.p1 (me_sub (me_var 2) (me_var 5)))) (fun x_law_left => MB.p1 (mb_set 6 sc_law_rows.nd me_non (fun x_law_extra => mb_if (S' := (fun z6 : (Option Int) => [some (.bw (rl (Gb.mk K mg) (x_law_script : (List Int)))), some (.im (Py.r (Gb.mk K mg) (x_law_k : Int))), some (.im (Py.r (Gb.mk K mg) (x_law_left : Int))), some (.fr (rl (Gb.mk K mg) (z2.2 : (List (T4 Int Int Int (Option Int)))))), some (.im (Py.r (Gb.mk K mg) (x_law_j : Int))), some (.im (Py.r (Gb.mk K mg) (x_law_many : Int))), some (.im (Py.r (Gb.mk K mg) (z6 : (Option Int))))])) (mt_cm (MC.p2 (mc_eq (α := Int) hr.units (by decide) (me_call (ok_law_some T) hr (by decide) T.m_law_some T.k_law_some T.b_law_some_4 .nil (MA.p1 (ma_cons (args := fun p : Int × Int × Int × Unit => [.im (Py.r (Gb.mk K mg) p.1), .im (Py.r (Gb.mk K mg) p.2.1), .im (Py.r (Gb.mk K mg) p.2.2.1)]) (me_bor 0) (co_bw lr_rd) (fun _ => (MA.p1 (ma_cons (args := fun p : Int × Int × Unit => [.im (Py.r (Gb.mk K mg) p.1), .im (Py.r (Gb.mk K mg) p.2.1)]) (me_var 1) co_im (fun _ => (MA.p1 (ma_cons (args := fun p : Int × Unit => [.im (Py.r (Gb.mk K mg) p.1)]) (ME.p1 (ME.p1 (me_add me_int (me_var 4)))) co_im (fun _ => (MA.p1 (ma_cons (args := fun p : Unit => []) me_int co_im (fun _ => ma_nl))))))))))))) me_int))) (mb_set 6 sc_law_rows.nd (me_some (me_call (ok_law_coin T) hr (by decide) T.m_law_coin T.k_law_coin T.b_law_coin_3 .nil (MA.p1 (ma_cons (args := fun p : Int × Int × Unit => [.im (Py.r (Gb.mk K mg) p.1), .im (Py.r (Gb.mk K mg) p.2.1)]) (me_bor 0) (co_bw lr_rd) (fun _ => (MA.p1 (ma_cons (args := fun p : Int × Unit => [.im (Py.r (Gb.mk K mg) p.1)]) (me_var 1) co_im (fun _ => (MA.p1 (ma_cons (args := fun p : Unit => []) (ME.p1 (ME.p1 (me_add me_int (ME.p1 (me_mulD (n := 3) (by decide) me_int (me_var 4)))))) co_im (fun _ => ma_nl))))))))))) (fun x_law_extra => mb_nil (b := x_law_extra) kx_n (.keep (.keep (.keep (.keep (.keep (.keep (.keep .nil))))))))) (mb_nil (b := x_law_extra) kx_n (.keep (.keep (.keep (.keep (.keep (.keep (.keep .nil)))))))) (fun (z6 : (Option Int)) => mb_app 3 (ME.p3 (ME.p3 (me_t4 (me_call (ok_law_some T) hr (by decide) T.m_law_some T.k_law_some T.b_law_some_4 .nil (MA.p1 (ma_cons (args := fun p : Int × Int × Int × Unit => [.im (Py.r (Gb.mk K mg) p.1), .im (Py.r (Gb.mk K mg) p.2.1), .im (Py.r (Gb.mk K mg) p.2.2.1)]) (me_bor 0) (co_bw lr_rd) (fun _ => (MA.p1 (ma_cons (args := fun p : Int × Int × Unit => [.im (Py.r (Gb.mk K mg) p.1), .im (Py.r (Gb.mk K mg) p.2.1)]) (me_var 1) co_im (fun _ => (MA.p1 (ma_cons (args := fun p : Int × Unit => [.im (Py.r (Gb.mk K mg) p.1)]) (ME.p1 (ME.p1 (me_add me_int (me_var 4)))) co_im (fun _ => (MA.p1 (ma_cons (args := fun p : Unit => []) me_int co_im (fun _ => ma_nl))))))))))))) (me_call (ok_law_coin T) hr (by decide) T.m_law_coin T.k_law_coin T.b_law_coin_3 .nil (MA.p1 (ma_cons (args := fun p : Int × Int × Unit => [.im (Py.r (Gb.mk K mg) p.1), .im (Py.r (Gb.mk K mg) p.2.1)]) (me_bor 0) (co_bw lr_rd) (fun _ => (MA.p1 (ma_cons (args := fun p : Int × Unit => [.im (Py.r (Gb.mk K mg) p.1)]) (me_var 1) co_im (fun _ => (MA.p1 (ma_cons (args := fun p : Unit => []) (ME.p1 (ME.p1 (me_add me_int (ME.p1 (me_mulD (n := 3) (by decide) me_int (me_var 4)))))) co_im (fun _ => ma_nl)))))))))) (me_var 5) (me_var 6)))) (fun x_law_rows_here => mb_if (S' := (fun z11 : ((List (T4 Int Int Int (Option Int))) × Int) => [some (.bw (rl (Gb.mk K mg) (x_law_script : (List Int)))), some (.im (Py.r (Gb.mk K mg) (x_law_k : Int))), some (.im (Py.r (Gb.mk K mg) (z11.2 : Int))), some (.fr (rl (Gb.mk K mg) (z11.1 : (List (T4 Int Int Int (Option Int)))))), some (.im (Py.r (Gb.mk K mg) (x_law_j : Int))), some (.im (Py.r (Gb.mk K mg) (x_law_many : Int))), some (.im (Py.r (Gb.mk K mg) (z6 : (Option Int))))])) (mt_w (mw_and (mt_cm (MC.p2 (mc_eq (α := Int) hr.units (by decide) (me_call (ok_law_some T) hr (by decide) T.m_law_some T.k_law_some T.b_law_some_4 .nil (MA.p1 (ma_cons (args := fun p : Int × Int × Int × Unit => [.im (Py.r (Gb.mk K mg) p.1), .im (Py.r (Gb.mk K mg) p.2.1), .im (Py.r (Gb.mk K mg) p.2.2.1)]) (me_bor 0) (co_bw lr_rd) (fun _ => (MA.p1 (ma_cons (args := fun p : Int × Int × Unit => [.im (Py.r (Gb.mk K mg) p.1), .im (Py.r (Gb.mk K mg) p.2.1)]) (me_var 1) co_im (fun _ => (MA.p1 (ma_cons (args := fun p : Int × Unit => [.im (Py.r (Gb.mk K mg) p.1)]) (ME.p1 (ME.p1 (me_add me_int (me_var 4)))) co_im (fun _ => (MA.p1 (ma_cons (args := fun p : Unit => []) me_int co_im (fun _ => ma_nl))))))))))))) me_int))) (mw_andP (mt_cm (MC.p1 (MC.p1 (mc_le (me_var 5) (me_var 2))))) (mw_and1 (mt_cm (MC.p1 (MC.p1 (mc_lt (ME.p1 (me_len T.g_len (me_own 3))) me_int)))))))) (mb_app 3 (ME.p1 (ME.p1 (me_ix (me_own 3) (ME.p1 (ME.p1 (me_sub (ME.p1 (me_len T.g_len (me_own 3))) me_int)))))) (fun x_law_rows_here => MB.p1 (mb_set 2 sc_law_rows.nd (ME.p1 (ME.p1 (me_sub (me_var 2) (me_var 5)))) (fun x_law_left => mb_nil (b := (x_law_rows_here, x_law_left)) kx_n (.keep (.keep (.keep (.keep (.keep (.keep (.keep .nil))))))))))) (mb_nil (b := (x_law_rows_here, x_law_left)) kx_n (.keep (.keep (.keep (.keep (.keep (.keep (.keep .nil)))))))) (fun (z11 : ((List (T4 Int Int Int (Option Int))) × Int)) => mb_nil (b := (z11.2, z11.1)) kx_n (.keep (.keep (.keep (.keep (.drop (.drop (.drop .nil))))))))))))))))))) (fun (z18 : (Int × (List (T4 Int Int Int (Option Int))))) => mb_retT (ME.p1 (ME.p1 (ME.p1 (me_cut (me_own 3) mo_none (MO.p1 (mo_some me_int)))))))))))) ?_
  delta M.law_rows
  rfl
theorem ok_Line_init (T : Tx K mg) : FnOk P w K mg base CX0 1 T.f_Line_init T.d_Line_init ["self", "kind", "price", "many", "special"] (spIO (Gb.mk K mg) (fun p : Int × Int × Int × (Option Int) × Unit => .ow (oC (wI (Gb.mk K mg) "Line" []) []) :: [.im (Py.r (Gb.mk K mg) p.1), .im (Py.r (Gb.mk K mg) p.2.1), .im (Py.r (Gb.mk K mg) p.2.2.1), .im (Py.r (Gb.mk K mg) p.2.2.2.1)]) (fun p => some (M.Line_init p.1 p.2.1 p.2.2.1 p.2.2.2.1)) (fun _ => .im (Py.r (Gb.mk K mg) ())) (fun r : LineD => [(0, (o_Line K mg r))])) := by
  refine fiu_mk T.F_Line_init sc_Line_init (fun _ => rfl) (by decide) (fun _ p hp => by rw [List.mem_singleton.mp hp]; exact Nat.succ_pos _) (fun cdv A outer s H E I R u p hr => ?_)
  obtain ⟨x_kind, x_price, x_many, x_special, ⟨⟩⟩ := p
  refine MB.eq (MB.p1 (MB.p1 (mb_fldN (me_var 1) (mp_pin 0 (v0 := u 0) (o1 := (oC (wI (Gb.mk K mg) "Line" []) []))) ⟨_, T.m_Line, T.cl_Line, T.n_Line_kind⟩ (fun _ x_self_kind => MB.p1 (MB.p1 (mb_fldN (me_var 2) (mp_pin 0 (v0 := u 0) (o1 := (oC (wI (Gb.mk K mg) "Line" ["kind"]) [(oI (Py.r (Gb.mk K mg) (x_self_kind : Int)))]))) ⟨_, T.m_Line, T.cl_Line, T.n_Line_price⟩ (fun _ x_self_price => MB.p1 (MB.p1 (mb_fldN (me_var 3) (mp_pin 0 (v0 := u 0) (o1 := (oC (wI (Gb.mk K mg) "Line" ["kind", "price"]) [(oI (Py.r (Gb.mk K mg) (x_self_kind : Int))), (oI (Py.r (Gb.mk K mg) (x_self_price : Int)))]))) ⟨_, T.m_Line, T.cl_Line, T.n_Line_many⟩ (fun _ x_self_many => MB.p1 (MB.p1 (mb_fldN (me_var 4) (mp_pin 0 (v0 := u 0) (o1 := (oC (wI (Gb.mk K mg) "Line" ["kind", "price", "many"]) [(oI (Py.r (Gb.mk K mg) (x_self_kind : Int))), (oI (Py.r (Gb.mk K mg) (x_self_price : Int))), (oI (Py.r (Gb.mk K mg) (x_self_many : Int)))]))) ⟨_, T.m_Line, T.cl_Line, T.n_Line_special⟩ (fun _ x_self_special => mb_endU (b := (LineD.mk x_self_kind x_self_price x_self_many x_self_special)) (.cons rfl .nil)))))))))))))) ?_
  delta M.Line_init
  rfl
theorem ok_Basket_init (T : Tx K mg) : FnOk P w K mg base CX0 1 T.f_Basket_init T.d_Basket_init ["self", "lines", "carriage", "member"] (spIO (Gb.mk K mg) (fun p : (List LineD) × Int × Bool × Unit => .ow (oC (wI (Gb.mk K mg) "Basket" []) []) :: [.bw (rl (Gb.mk K mg) p.1), .im (Py.r (Gb.mk K mg) p.2.1), .im (Py.r (Gb.mk K mg) p.2.2.1)]) (fun p => some (M.Basket_init p.1 p.2.1 p.2.2.1)) (fun _ => .im (Py.r (Gb.mk K mg) ())) (fun r : BasketD => [(0, (o_Basket K mg r))])) := by
  refine fiu_mk T.F_Basket_init sc_Basket_init (fun _ => rfl) (by decide) (fun _ p hp => by rw [List.mem_singleton.mp hp]; exact Nat.succ_pos _) (fun cdv A outer s H E I R u p hr => ?_)
  obtain ⟨x_lines, x_carriage, x_member, ⟨⟩⟩ := p
  refine MB.eq (MB.p1 (MB.p1 (mb_fldN (ME.p1 (me_list T.g_list (me_bor 1))) (mp_pin 0 (v0 := u 0) (o1 := (oC (wI (Gb.mk K mg) "Basket" []) []))) ⟨_, T.m_Basket, T.cl_Basket, T.n_Basket_lines⟩ (fun _ x_self_lines => MB.p1 (MB.p1 (mb_fldN (me_var 2) (mp_pin 0 (v0 := u 0) (o1 := (oC (wI (Gb.mk K mg) "Basket" ["lines"]) [(oF (rl (Gb.mk K mg) (x_self_lines : (List LineD))))]))) ⟨_, T.m_Basket, T.cl_Basket, T.n_Basket_carriage⟩ (fun _ x_self_carriage => MB.p1 (MB.p1 (mb_fldN (me_var 3) (mp_pin 0 (v0 := u 0) (o1 := (oC (wI (Gb.mk K mg) "Basket" ["lines", "carriage"]) [(oF (rl (Gb.mk K mg) (x_self_lines : (List LineD)))), (oI (Py.r (Gb.mk K mg) (x_self_carriage : Int)))]))) ⟨_, T.m_Basket, T.cl_Basket, T.n_Basket_member⟩ (fun _ x_self_member => mb_endU (b := (BasketD.mk x_self_lines x_self_carriage x_self_member)) (.cons rfl .nil))))))))))) ?_
  delta M.Basket_init
  rfl
theorem ok_piece_price (T : Tx K mg) : FnOk P w K mg base CX0 1 T.f_piece_price T.d_piece_price ["line", "member"] (spT (Gb.mk K mg) (fun p : LineD × Bool × Unit => [.im (Py.r (Gb.mk K mg) p.1), .im (Py.r (Gb.mk K mg) p.2.1)]) (fun p => M.piece_price p.1 p.2.1) (fun r => .im (Py.r (Gb.mk K mg) (r : Int)))) := by
  refine fnx_mk T.F_piece_price sc_piece_price (fun _ => rfl) (fun _ => rfl) (by decide) (fun cdv A outer s H E I p hr => ?_)
  obtain ⟨x_line, x_member, ⟨⟩⟩ := p
  refine MB.eq (MB.p1 (mb_ift (mt_w (mw_andP (mt_val (me_var 1)) (mw_and1 (mt_cm (MC.p1 (mc_ntN (ME.p1 (me_fld (pr := LineD.f_special) (me_var 0) (fun d I v h => rIns_fld 3 ⟨_, T.m_Line, T.cl_Line, T.n_Line_special⟩ h))))))))) (mb_retT (ME.p1 (me_get (ME.p1 (me_fld (pr := LineD.f_special) (me_var 0) (fun d I v h => rIns_fld 3 ⟨_, T.m_Line, T.cl_Line, T.n_Line_special⟩ h)))))) (mb_retT (ME.p1 (me_fld (pr := LineD.f_price) (me_var 0) (fun d I v h => rIns_fld 1 ⟨_, T.m_Line, T.cl_Line, T.n_Line_price⟩ h)))) hk_t)) ?_
  delta M.piece_price
  rfl
theorem ok_Standing_init (T : Tx K mg) : FnOk P w K mg base CX0 2 T.f_Standing_init T.d_Standing_init ["self", "basket"] (spIO (Gb.mk K mg) (fun p : BasketD × Unit => .ow (oC (wI (Gb.mk K mg) "Standing" []) []) :: [.im (Py.r (Gb.mk K mg) p.1)]) (fun p => M.Standing_init p.1) (fun _ => .im (Py.r (Gb.mk K mg) ())) (fun r : StandingD => [(0, (o_Standing K mg r))])) := by
  refine fiu_mk T.F_Standing_init sc_Standing_init (fun _ => rfl) (by decide) (fun _ p hp => by rw [List.mem_singleton.mp hp]; exact Nat.succ_pos _) (fun cdv A outer s H E I R u p hr => ?_)
  obtain ⟨x_basket, ⟨⟩⟩ := p
  refine MB.eq (MB.p1 (MB.p1 (mb_fldN (me_lst (α := Int) ml_nil) (mp_pin 0 (v0 := u 0) (o1 := (oC (wI (Gb.mk K mg) "Standing" []) []))) ⟨_, T.m_Standing, T.cl_Standing, T.n_Standing_owners⟩ (fun _ x_self_owners => MB.p1 (MB.p1 (mb_fldN (me_lst (α := Int) ml_nil) (mp_pin 0 (v0 := u 0) (o1 := (oC (wI (Gb.mk K mg) "Standing" ["owners"]) [(oF (rl (Gb.mk K mg) (x_self_owners : (List Int))))]))) ⟨_, T.m_Standing, T.cl_Standing, T.n_Standing_prices⟩ (fun _ x_self_prices => MB.p1 (MB.p1 (mb_fldN (ME.p1 (me_fld (pr := BasketD.f_carriage) (me_var 1) (fun d I v h => rIns_fld 1 ⟨_, T.m_Basket, T.cl_Basket, T.n_Basket_carriage⟩ h))) (mp_pin 0 (v0 := u 0) (o1 := (oC (wI (Gb.mk K mg) "Standing" ["owners", "prices"]) [(oF (rl (Gb.mk K mg) (x_self_owners : (List Int)))), (oF (rl (Gb.mk K mg) (x_self_prices : (List Int))))]))) ⟨_, T.m_Standing, T.cl_Standing, T.n_Standing_carriage⟩ (fun _ x_self_carriage => MB.p1 (MB.p1 (mb_fldN (ME.p1 (me_lcP (α := LineD) (own := [("line", 3)]) sc_Standing_init.nd (mi_lst (ms_im (ME.p1 (me_fld (pr := BasketD.f_lines) (me_var 1) (fun d I v h => rIns_fld 0 ⟨_, T.m_Basket, T.cl_Basket, T.n_Basket_lines⟩ h))))) (by first | (show blkC ["self", "basket", "at", "line", "piece"] (defScope s_Standing_init) _ _ = true; decide +kernel) | rfl) (by decide) (fun _ _ _ _ _ => (mg_name 3 sc_Standing_init.nd)) (fun _ _ _ _ _ (x_line : LineD) => me_bl))) (mp_pin 0 (v0 := u 0) (o1 := (oC (wI (Gb.mk K mg) "Standing" ["owners", "prices", "carriage"]) [(oF (rl (Gb.mk K mg) (x_self_owners : (List Int)))), (oF (rl (Gb.mk K mg) (x_self_prices : (List Int)))), (oI (Py.r (Gb.mk K mg) (x_self_carriage : Int)))]))) ⟨_, T.m_Standing, T.cl_Standing, T.n_Standing_marked⟩ (fun _ x_self_marked => MB.p1 (mb_for (S' := (fun z3 : ((List Int) × (List Int) × Int × (List Bool)) => [some (.ow (oP (u 0) (oC (wI (Gb.mk K mg) "Standing" ["owners", "prices", "carriage", "marked"]) [(oF (rl (Gb.mk K mg) (z3.1 : (List Int)))), (oF (rl (Gb.mk K mg) (z3.2.1 : (List Int)))), (oI (Py.r (Gb.mk K mg) (z3.2.2.1 : Int))), (oF (rl (Gb.mk K mg) (z3.2.2.2 : (List Bool))))]))), some (.im (Py.r (Gb.mk K mg) (x_basket : BasketD))), none, none, none])) (s0 := (x_self_owners, x_self_prices, x_self_carriage, x_self_marked)) PassesOwn.never (MI.p1 (mi_enum T.g_enumerate (ms_im (ME.p1 (me_fld (pr := BasketD.f_lines) (me_var 1) (fun d I v h => rIns_fld 0 ⟨_, T.m_Basket, T.cl_Basket, T.n_Basket_lines⟩ h)))))) (mg_t2 2 3 sc_Standing_init.nd) (.keep (.keep (.keep (.keep (.keep .nil))))) (fun _ (z3 : ((List Int) × (List Int) × Int × (List Bool))) (it4 : (T2 Int LineD)) => mb_for (S' := (fun z5 : ((List Int) × (List Int) × Int × (List Bool)) => [some (.ow (oP (u 0) (oC (wI (Gb.mk K mg) "Standing" ["owners", "prices", "carriage", "marked"]) [(oF (rl (Gb.mk K mg) (z5.1 : (List Int)))), (oF (rl (Gb.mk K mg) (z5.2.1 : (List Int)))), (oI (Py.r (Gb.mk K mg) (z5.2.2.1 : Int))), (oF (rl (Gb.mk K mg) (z5.2.2.2 : (List Bool))))]))), some (.im (Py.r (Gb.mk K mg) (x_basket : BasketD))), some (.im (Py.r (Gb.mk K mg) (it4.x0 : Int))), some (.im (Py.r (Gb.mk K mg) (it4.x1 : LineD))), none])) (s0 := (z3.1, z3.2.1, z3.2.2.1, z3.2.2.2)) PassesOwn.never (MI.p1 (mi_rng1 T.g_range (ME.p1 (me_fld (pr := LineD.f_many) (me_var 3) (fun d I v h => rIns_fld 2 ⟨_, T.m_Line, T.cl_Line, T.n_Line_many⟩ h))))) (mg_name 4 sc_Standing_init.nd) (.keep (.keep (.keep (.keep (.keep .nil))))) (fun _ (z5 : ((List Int) × (List Int) × Int × (List Bool))) (x_piece : Int) => MB.p1 (MB.p1 (mb_appP (mp_fld (oj := fun _ => (oF (rl (Gb.mk K mg) (z5.1 : (List Int))))) 0 (mp_pin 0 (v0 := u 0) (o1 := (oC (wI (Gb.mk K mg) "Standing" ["owners", "prices", "carriage", "marked"]) [(oF (rl (Gb.mk K mg) (z5.1 : (List Int)))), (oF (rl (Gb.mk K mg) (z5.2.1 : (List Int)))), (oI (Py.r (Gb.mk K mg) (z5.2.2.1 : Int))), (oF (rl (Gb.mk K mg) (z5.2.2.2 : (List Bool))))]))) ⟨_, T.m_Standing, T.cl_Standing, T.n_Standing_owners⟩) (me_var 2) (fun _ x_self_owners => MB.p1 (mb_appP (mp_fld (oj := fun _ => (oF (rl (Gb.mk K mg) (z5.2.1 : (List Int))))) 1 (mp_pin 0 (v0 := u 0) (o1 := (oC (wI (Gb.mk K mg) "Standing" ["owners", "prices", "carriage", "marked"]) [(oF (rl (Gb.mk K mg) (x_self_owners : (List Int)))), (oF (rl (Gb.mk K mg) (z5.2.1 : (List Int)))), (oI (Py.r (Gb.mk K mg) (z5.2.2.1 : Int))), (oF (rl (Gb.mk K mg) (z5.2.2.2 : (List Bool))))]))) ⟨_, T.m_Standing, T.cl_Standing, T.n_Standing_prices⟩) (me_call (ok_piece_price T) hr (by decide) T.m_piece_price T.k_piece_price T.b_piece_price_2 .nil (MA.p1 (ma_cons (args := fun p : Bool × Unit => [.im (Py.r (Gb.mk K mg) p.1)]) (me_var 3) co_im (fun _ => (MA.p1 (ma_cons (args := fun p : Unit => []) (ME.p1 (me_fld (pr := BasketD.f_member) (me_var 1) (fun d I v h => rIns_fld 2 ⟨_, T.m_Basket, T.cl_Basket, T.n_Basket_member⟩ h))) co_im (fun _ => ma_nl))))))) (fun _ x_self_prices => mb_nil (b := (x_self_owners, x_self_prices, z5.2.2.1, z5.2.2.2)) kx_n (.keep (.keep (.keep (.keep (.drop .nil))))))))))) (fun (z7 : ((List Int) × (List Int) × Int × (List Bool))) => mb_nil (b := (z7.1, z7.2.1, z7.2.2.1, z7.2.2.2)) kx_n (.keep (.keep (.drop (.drop (.keep .nil))))))) (fun (z9 : ((List Int) × (List Int) × Int × (List Bool))) => mb_endU (b := (StandingD.mk z9.1 z9.2.1 z9.2.2.1 z9.2.2.2)) (.cons rfl .nil)))))))))))))))) ?_
  delta M.Standing_init
  rfl
theorem ok_Standing_whole (T : Tx K mg) : FnOk P w K mg base CX0 1 T.f_Standing_whole T.d_Standing_whole ["self"] (spT (Gb.mk K mg) (fun p : StandingD × Unit => [.im (Py.r (Gb.mk K mg) p.1)]) (fun p => some (M.Standing_whole p.1)) (fun r => .im (Py.r (Gb.mk K mg) (r : Int)))) := by
  refine fnx_mk T.F_Standing_whole sc_Standing_whole (fun _ => rfl) (fun _ => rfl) (by decide) (fun cdv A outer s H E I p hr => ?_)
  obtain ⟨x_self, ⟨⟩⟩ := p
  refine MB.eq (mb_retT (ME.p1 (ME.p1 (me_add (ME.p1 (me_sum T.g_sum (ME.p1 (me_fld (pr := StandingD.f_prices) (me_var 0) (fun d I v h => rIns_fld 1 ⟨_, T.m_Standing, T.cl_Standing, T.n_Standing_prices⟩ h))))) (ME.p1 (me_fld (pr := StandingD.f_carriage) (me_var 0) (fun d I v h => rIns_fld 2 ⟨_, T.m_Standing, T.cl_Standing, T.n_Standing_carriage⟩ h))))))) ?_
  delta M.Standing_whole
  rfl
theorem ok_law_is (T : Tx K mg) : FnOk P w K mg base CX0 2 T.f_law_is T.d_law_is ["_law_standing", "_law_due"] (spT (Gb.mk K mg) (fun p : StandingD × Int × Unit => [.im (Py.r (Gb.mk K mg) p.1), .im (Py.r (Gb.mk K mg) p.2.1)]) (fun p => some (M.law_is p.1 p.2.1)) (fun r => .im (Py.r (Gb.mk K mg) (r : Bool)))) := by
  refine fnx_mk T.F_law_is sc_law_is (fun _ => rfl) (fun _ => rfl) (by decide) (fun cdv A outer s H E I p hr => ?_)
  obtain ⟨x_law_standing, x_law_due, ⟨⟩⟩ := p
  refine MB.eq (MB.p1 (mb_set 2 sc_law_is.nd (ME.p1 (me_meth0 (M := (fun (d : StandingD) (p : Unit) => some (M.Standing_whole d))) (k := (fun r => .im (Py.r (Gb.mk K mg) (r : Int)))) (me_var 0) (fun d => ⟨_, _, _, _, 1, T.cl_Standing, T.me_Standing_Standing_whole, by decide, sp_self (args := fun p : Unit => []) (M := fun p : StandingD × Unit => some (M.Standing_whole p.1)) (k := (fun r => .im (Py.r (Gb.mk K mg) (r : Int)))) d (ok_Standing_whole T), T.b_Standing_whole_1, rIns_no T.m_Standing (by decide +kernel)⟩) hr)) (fun x_law_found => mb_retT (me_andP (ME.p1 (me_isi (b := true) (t := "int") (Ty := "int") T.g_isinstance T.g_int (me_var 2) tr_im (by decide +kernel) (by decide +kernel))) (me_andP (ME.p1 (me_not (ME.p1 (me_isi (b := false) (t := "int") (Ty := "bool") T.g_isinstance T.g_bool (me_var 2) tr_im (by decide +kernel) (by decide +kernel))))) (me_one (me_cm (MC.p1 (MC.p1 (mc_eq (α := Int) hr.units (by decide) (me_var 2) (me_var 1))))))))))) ?_
  delta M.law_is
  rfl
theorem ok_law (T : Tx K mg) : FnOk P w K mg base CX0 5 T.f_law T.d_law ["_law_script"] (spT (Gb.mk K mg) (fun p : (List Int) × Unit => [.bw (rl (Gb.mk K mg) p.1)]) (fun p => M.law p.1) (fun r => .im (Py.r (Gb.mk K mg) (r : Bool)))) := by
  refine fnx_mk T.F_law sc_law (fun _ => rfl) (fun _ => rfl) (by decide) (fun cdv A outer s H E I p hr => ?_)
  obtain ⟨x_law_script, ⟨⟩⟩ := p
  refine MB.eq (MB.p1 (mb_set 1 sc_law.nd (me_lst (α := (T2 StandingD Int)) ml_nil) (fun x_law_held => mb_forT (S' := (fun z1 : (List (T2 StandingD Int)) => [some (.bw (rl (Gb.mk K mg) (x_law_script : (List Int)))), some (.fr (rl (Gb.mk K mg) (z1 : (List (T2 StandingD Int))))), none, none, none, none, none, none, none, none, none, none, none, none])) (s0 := x_law_held) (MI.p1 (mi_rng1 T.g_range (ME.p1 (ME.p1 (me_add (ME.p1 (me_len T.g_len (me_bor 0))) me_int))))) (mg_name 2 sc_law.nd) (.keep (.keep (.keep (.keep (.keep (.keep (.keep (.keep (.keep (.keep (.keep (.keep (.keep (.keep .nil)))))))))))))) (fun _ (z1 : (List (T2 StandingD Int))) (x_law_k : Int) => mb_set 3 sc_law.nd (me_call (ok_law_rows T) hr (by decide) T.m_law_rows T.k_law_rows T.b_law_rows_2 .nil (MA.p1 (ma_cons (args := fun p : Int × Unit => [.im (Py.r (Gb.mk K mg) p.1)]) (me_bor 0) (co_bw lr_rd) (fun _ => (MA.p1 (ma_cons (args := fun p : Unit => []) (me_var 2) co_im (fun _ => ma_nl))))))) (fun x_law_rows_here => mb_set 4 sc_law.nd (me_call (ok_law_coin T) hr (by decide) T.m_law_coin T.k_law_coin T.b_law_coin_3 .nil (MA.p1 (ma_cons (args := fun p : Int × Int × Unit => [.im (Py.r (Gb.mk K mg) p.1), .im (Py.r (Gb.mk K mg) p.2.1)]) (me_bor 0) (co_bw lr_rd) (fun _ => (MA.p1 (ma_cons (args := fun p : Int × Unit => [.im (Py.r (Gb.mk K mg) p.1)]) (me_var 2) co_im (fun _ => (MA.p1 (ma_cons (args := fun p : Unit => []) me_int co_im (fun _ => ma_nl)))))))))) (fun x_law_carriage => mb_set 5 sc_law.nd (me_cm (MC.p2 (mc_eq (α := Int) hr.units (by decide) (me_call (ok_law_some T) hr (by decide) T.m_law_some T.k_law_some T.b_law_some_4 .nil (MA.p1 (ma_cons (args := fun p : Int × Int × Int × Unit => [.im (Py.r (Gb.mk K mg) p.1), .im (Py.r (Gb.mk K mg) p.2.1), .im (Py.r (Gb.mk K mg) p.2.2.1)]) (me_bor 0) (co_bw lr_rd) (fun _ => (MA.p1 (ma_cons (args := fun p : Int × Int × Unit => [.im (Py.r (Gb.mk K mg) p.1), .im (Py.r (Gb.mk K mg) p.2.1)]) (me_var 2) co_im (fun _ => (MA.p1 (ma_cons (args := fun p : Int × Unit => [.im (Py.r (Gb.mk K mg) p.1)]) me_int co_im (fun _ => (MA.p1 (ma_cons (args := fun p : Unit => []) me_int co_im (fun _ => ma_nl))))))))))))) me_int))) (fun x_law_joined => mb_frz 3 rfl (MB.p1 (mb_setLcP 6 (α := (T4 Int Int Int (Option Int))) (own := [("_law_row", 8)]) sc_law.nd  rfl (sw_true rfl rfl rfl (by decide +kernel)) (mi_lst (ms_im (me_var 3))) (by first | (show blkC ["_law_script", "_law_held", "_law_k", "_law_rows_here", "_law_carriage", "_law_joined", "_law_lines", "_law_due", "_law_row", "_law_cut", "_law_one", "_law_other", "_law_turned", "_law_standing"] (defScope s_law) _ _ = true; decide +kernel) | rfl) (by decide) (fun _ _ _ _ _ => (mg_name 8 sc_law.nd)) (fun _ _ _ _ _ (x_law_row : (T4 Int Int Int (Option Int))) => (me_frzO (fun _ => (z_Line _)) (me_make (or := fun r => o_Line K mg r) (ok_Line_init T) hr (by decide) T.mk_Line T.m_Line T.b_Line_init_5 .nil (MA.p1 (ma_cons (args := fun p : Int × Int × (Option Int) × Unit => [.im (Py.r (Gb.mk K mg) p.1), .im (Py.r (Gb.mk K mg) p.2.1), .im (Py.r (Gb.mk K mg) p.2.2.1)]) (ME.p1 (me_tix 0 (me_var 8) t4_0)) co_im (fun _ => (MA.p1 (ma_cons (args := fun p : Int × (Option Int) × Unit => [.im (Py.r (Gb.mk K mg) p.1), .im (Py.r (Gb.mk K mg) p.2.1)]) (ME.p1 (me_tix 1 (me_var 8) t4_1)) co_im (fun _ => (MA.p1 (ma_cons (args := fun p : (Option Int) × Unit => [.im (Py.r (Gb.mk K mg) p.1)]) (ME.p1 (me_tix 2 (me_var 8) t4_2)) co_im (fun _ => (MA.p1 (ma_cons (args := fun p : Unit => []) (ME.p1 (me_tix 3 (me_var 8) t4_3)) co_im (fun _ => ma_nl))))))))))))))) (fun x_law_lines => MB.p1 (mb_set 7 sc_law.nd (me_var 4) (fun x_law_due => MB.p1 (mb_for (S' := (fun z4 : Int => [some (.bw (rl (Gb.mk K mg) (x_law_script : (List Int)))), some (.fr (rl (Gb.mk K mg) (z1 : (List (T2 StandingD Int))))), some (.im (Py.r (Gb.mk K mg) (x_law_k : Int))), some (.im (Py.r (Gb.mk K mg) (x_law_rows_here : (List (T4 Int Int Int (Option Int)))))), some (.im (Py.r (Gb.mk K mg) (x_law_carriage : Int))), some (.im (Py.r (Gb.mk K mg) (x_law_joined : Bool))), some (.fr (rl (Gb.mk K mg) (x_law_lines : (List LineD)))), some (.im (Py.r (Gb.mk K mg) (z4 : Int))), none, none, none, none, none, none])) (s0 := x_law_due) PassesOwn.never (mi_lst (ms_im (me_var 3))) (mg_name 8 sc_law.nd) (.keep (.keep (.keep (.keep (.keep (.keep (.keep (.keep (.keep (.keep (.keep (.keep (.keep (.keep .nil)))))))))))))) (fun _ (z4 : Int) (x_law_row : (T4 Int Int Int (Option Int))) => MB.p1 (mb_if (S' := (fun z5 : Int => [some (.bw (rl (Gb.mk K mg) (x_law_script : (List Int)))), some (.fr (rl (Gb.mk K mg) (z1 : (List (T2 StandingD Int))))), some (.im (Py.r (Gb.mk K mg) (x_law_k : Int))), some (.im (Py.r (Gb.mk K mg) (x_law_rows_here : (List (T4 Int Int Int (Option Int)))))), some (.im (Py.r (Gb.mk K mg) (x_law_carriage : Int))), some (.im (Py.r (Gb.mk K mg) (x_law_joined : Bool))), some (.fr (rl (Gb.mk K mg) (x_law_lines : (List LineD)))), some (.im (Py.r (Gb.mk K mg) (z5 : Int))), some (.im (Py.r (Gb.mk K mg) (x_law_row : (T4 Int Int Int (Option Int))))), none, none, none, none, none])) (mt_w (mw_andP (mt_val (me_var 5)) (mw_and1 (mt_cm (MC.p1 (mc_ntN (ME.p1 (me_tix 3 (me_var 8) t4_3)))))))) (mb_set 7 sc_law.nd (ME.p1 (me_add (me_var 7) (ME.p2 (me_mul (ME.p1 (me_get (ME.p1 (me_tix 3 (me_var 8) t4_3)))) (ME.p1 (me_tix 2 (me_var 8) t4_2)))))) (fun x_law_due => mb_nil (b := x_law_due) kx_n (.keep (.keep (.keep (.keep (.keep (.keep (.keep (.keep (.keep (.keep (.keep (.keep (.keep (.keep .nil)))))))))))))))) (mb_set 7 sc_law.nd (ME.p1 (me_add (me_var 7) (ME.p1 (ME.p1 (me_mul (ME.p1 (me_tix 1 (me_var 8) t4_1)) (ME.p1 (me_tix 2 (me_var 8) t4_2))))))) (fun x_law_due => mb_nil (b := x_law_due) kx_n (.keep (.keep (.keep (.keep (.keep (.keep (.keep (.keep (.keep (.keep (.keep (.keep (.keep (.keep .nil)))))))))))))))) (fun (z5 : Int) => mb_nil (b := z5) kx_n (.keep (.keep (.keep (.keep (.keep (.keep (.keep (.keep (.drop (.keep (.keep (.keep (.keep (.keep .nil))))))))))))))))) (fun (z14 : Int) => mb_set 9 sc_law.nd (me_call (ok_law_some T) hr (by decide) T.m_law_some T.k_law_some T.b_law_some_4 .nil (MA.p1 (ma_cons (args := fun p : Int × Int × Int × Unit => [.im (Py.r (Gb.mk K mg) p.1), .im (Py.r (Gb.mk K mg) p.2.1), .im (Py.r (Gb.mk K mg) p.2.2.1)]) (me_bor 0) (co_bw lr_rd) (fun _ => (MA.p1 (ma_cons (args := fun p : Int × Int × Unit => [.im (Py.r (Gb.mk K mg) p.1), .im (Py.r (Gb.mk K mg) p.2.1)]) (me_var 2) co_im (fun _ => (MA.p1 (ma_cons (args := fun p : Int × Unit => [.im (Py.r (Gb.mk K mg) p.1)]) me_int co_im (fun _ => (MA.p1 (ma_cons (args := fun p : Unit => []) (ME.p1 (ME.p1 (me_add (ME.p1 (me_len T.g_len (me_var 3))) me_int))) co_im (fun _ => ma_nl))))))))))))) (fun x_law_cut => mb_set 10 sc_law.nd (me_make (or := fun r => o_Standing K mg r) (ok_Standing_init T) hr (by decide) T.mk_Standing T.m_Standing T.b_Standing_init_2 .nil (MA.p1 (ma_cons (args := fun p : Unit => []) (me_frzO (fun _ => (z_Basket _)) (me_make (or := fun r => o_Basket K mg r) (ok_Basket_init T) hr (by decide) T.mk_Basket T.m_Basket T.b_Basket_init_4 .nil (MA.p1 (ma_cons (args := fun p : Int × Bool × Unit => [.im (Py.r (Gb.mk K mg) p.1), .im (Py.r (Gb.mk K mg) p.2.1)]) (ME.p1 (ME.p1 (ME.p1 (me_cut (me_own 6) mo_none (MO.p1 (mo_some (me_var 9))))))) (co_bw lr_fr) (fun _ => (MA.p1 (ma_cons (args := fun p : Bool × Unit => [.im (Py.r (Gb.mk K mg) p.1)]) (me_var 4) co_im (fun _ => (MA.p1 (ma_cons (args := fun p : Unit => []) (me_var 5) co_im (fun _ => ma_nl))))))))))) co_im (fun _ => ma_nl)))) (fun x_law_one => mb_set 11 sc_law.nd (me_make (or := fun r => o_Standing K mg r) (ok_Standing_init T) hr (by decide) T.mk_Standing T.m_Standing T.b_Standing_init_2 .nil (MA.p1 (ma_cons (args := fun p : Unit => []) (me_frzO (fun _ => (z_Basket _)) (me_make (or := fun r => o_Basket K mg r) (ok_Basket_init T) hr (by decide) T.mk_Basket T.m_Basket T.b_Basket_init_4 .nil (MA.p1 (ma_cons (args := fun p : Int × Bool × Unit => [.im (Py.r (Gb.mk K mg) p.1), .im (Py.r (Gb.mk K mg) p.2.1)]) (ME.p1 (ME.p1 (ME.p1 (me_cut (me_own 6) (MO.p1 (mo_some (me_var 9))) mo_none)))) (co_bw lr_fr) (fun _ => (MA.p1 (ma_cons (args := fun p : Bool × Unit => [.im (Py.r (Gb.mk K mg) p.1)]) me_int co_im (fun _ => (MA.p1 (ma_cons (args := fun p : Unit => []) (me_var 5) co_im (fun _ => ma_nl))))))))))) co_im (fun _ => ma_nl)))) (fun x_law_other => mb_set 12 sc_law.nd (me_make (or := fun r => o_Standing K mg r) (ok_Standing_init T) hr (by decide) T.mk_Standing T.m_Standing T.b_Standing_init_2 .nil (MA.p1 (ma_cons (args := fun p : Unit => []) (me_frzO (fun _ => (z_Basket _)) (me_make (or := fun r => o_Basket K mg r) (ok_Basket_init T) hr (by decide) T.mk_Basket T.m_Basket T.b_Basket_init_4 .nil (MA.p1 (ma_cons (args := fun p : Int × Bool × Unit => [.im (Py.r (Gb.mk K mg) p.1), .im (Py.r (Gb.mk K mg) p.2.1)]) (ME.p1 (me_lrev T.g_list T.g_reversed (me_own 6))) (co_bw lr_fr) (fun _ => (MA.p1 (ma_cons (args := fun p : Bool × Unit => [.im (Py.r (Gb.mk K mg) p.1)]) (me_var 4) co_im (fun _ => (MA.p1 (ma_cons (args := fun p : Unit => []) (me_var 5) co_im (fun _ => ma_nl))))))))))) co_im (fun _ => ma_nl)))) (fun x_law_turned => mb_set 13 sc_law.nd (me_make (or := fun r => o_Standing K mg r) (ok_Standing_init T) hr (by decide) T.mk_Standing T.m_Standing T.b_Standing_init_2 .nil (MA.p1 (ma_cons (args := fun p : Unit => []) (me_frzO (fun _ => (z_Basket _)) (me_make (or := fun r => o_Basket K mg r) (ok_Basket_init T) hr (by decide) T.mk_Basket T.m_Basket T.b_Basket_init_4 .nil (MA.p1 (ma_cons (args := fun p : Int × Bool × Unit => [.im (Py.r (Gb.mk K mg) p.1), .im (Py.r (Gb.mk K mg) p.2.1)]) (me_own 6) (co_bw lr_rd) (fun _ => (MA.p1 (ma_cons (args := fun p : Bool × Unit => [.im (Py.r (Gb.mk K mg) p.1)]) (me_var 4) co_im (fun _ => (MA.p1 (ma_cons (args := fun p : Unit => []) (me_var 5) co_im (fun _ => ma_nl))))))))))) co_im (fun _ => ma_nl)))) (fun x_law_standing => MB.p1 (mb_ift (mt_view (a := x_law_standing) 13 (z_Standing _) rfl (mt_view (a := x_law_turned) 12 (z_Standing _) rfl (mt_view (a := x_law_one) 10 (z_Standing _) rfl (mt_view (a := x_law_other) 11 (z_Standing _) rfl (mt_w (mw_orP (MT.p1 (mt_not (mt_val (me_call (ok_law_is T) hr (by decide) T.m_law_is T.k_law_is T.b_law_is_2 .nil (MA.p1 (ma_cons (args := fun p : Int × Unit => [.im (Py.r (Gb.mk K mg) p.1)]) (me_var 13) co_im (fun _ => (MA.p1 (ma_cons (args := fun p : Unit => []) (me_var 7) co_im (fun _ => ma_nl)))))))))) (mw_orP (MT.p1 (mt_not (mt_val (me_call (ok_law_is T) hr (by decide) T.m_law_is T.k_law_is T.b_law_is_2 .nil (MA.p1 (ma_cons (args := fun p : Int × Unit => [.im (Py.r (Gb.mk K mg) p.1)]) (me_var 12) co_im (fun _ => (MA.p1 (ma_cons (args := fun p : Unit => []) (me_var 7) co_im (fun _ => ma_nl)))))))))) (mw_or1 (mt_cm (MC.p1 (MC.p1 (mc_ne (α := Int) hr.units (by decide) (ME.p1 (ME.p1 (me_add (ME.p1 (me_meth0 (M := (fun (d : StandingD) (p : Unit) => some (M.Standing_whole d))) (k := (fun r => .im (Py.r (Gb.mk K mg) (r : Int)))) (me_var 10) (fun d => ⟨_, _, _, _, 1, T.cl_Standing, T.me_Standing_Standing_whole, by decide, sp_self (args := fun p : Unit => []) (M := fun p : StandingD × Unit => some (M.Standing_whole p.1)) (k := (fun r => .im (Py.r (Gb.mk K mg) (r : Int)))) d (ok_Standing_whole T), T.b_Standing_whole_1, rIns_no T.m_Standing (by decide +kernel)⟩) hr)) (ME.p1 (me_meth0 (M := (fun (d : StandingD) (p : Unit) => some (M.Standing_whole d))) (k := (fun r => .im (Py.r (Gb.mk K mg) (r : Int)))) (me_var 11) (fun d => ⟨_, _, _, _, 1, T.cl_Standing, T.me_Standing_Standing_whole, by decide, sp_self (args := fun p : Unit => []) (M := fun p : StandingD × Unit => some (M.Standing_whole p.1)) (k := (fun r => .im (Py.r (Gb.mk K mg) (r : Int)))) d (ok_Standing_whole T), T.b_Standing_whole_1, rIns_no T.m_Standing (by decide +kernel)⟩) hr))))) (me_var 7))))))))))))) (MB.p1 (mb_ret kr_c me_bl)) (mb_frzO (a := x_law_standing) 13 (z_Standing _) rfl (MB.p1 (mb_app 1 (ME.p1 (ME.p1 (me_t2 (me_var 13) (me_var 7)))) (fun x_law_held => mb_nil (b := x_law_held) kx_c (.keep (.keep (.drop (.drop (.drop (.drop (.drop (.drop (.keep (.drop (.drop (.drop (.drop (.drop .nil)))))))))))))))))) (hk_c (by repeat (first | exact nn_rt | exact nn_ct | exact nn_bk | refine nn_ite ?_ ?_ | refine nn_bind fun _ => ?_)))))))))))))))))))) (fun (z15 : (List (T2 StandingD Int))) => mb_frz 1 rfl (mb_retT (ME.p1 (me_all T.g_all (ME.p1 (me_lcP (α := (T2 StandingD Int)) (own := [("_law_standing", 13), ("_law_due", 7)]) sc_law.nd (mi_lst (ms_im (me_var 1))) (by first | (show blkC ["_law_script", "_law_held", "_law_k", "_law_rows_here", "_law_carriage", "_law_joined", "_law_lines", "_law_due", "_law_row", "_law_cut", "_law_one", "_law_other", "_law_turned", "_law_standing"] (defScope s_law) _ _ = true; decide +kernel) | rfl) (by decide) (fun _ _ _ _ _ => (mg_t2 13 7 sc_law.nd)) (fun _ _ _ _ _ (it16 : (T2 StandingD Int)) => (me_call (ok_law_is T) hr (by decide) T.m_law_is T.k_law_is T.b_law_is_2 .nil (MA.p1 (ma_cons (args := fun p : Int × Unit => [.im (Py.r (Gb.mk K mg) p.1)]) (me_var 13) co_im (fun _ => (MA.p1 (ma_cons (args := fun p : Unit => []) (me_var 7) co_im (fun _ => ma_nl))))))))))))))))) ?_
  delta M.law
  rfl
end
def lawsp (K : PySem.W.Frag) (mg : Str → Option Value) : Sp := spT (Gb.mk K mg) (fun p : (List Int) × Unit => [.bw (rl (Gb.mk K mg) p.1)]) (fun p => M.law p.1) (fun r => .im (Py.r (Gb.mk K mg) (r : Bool)))
theorem all_mk {l : PySem.W.OpenLaw} {w : World} {K : PySem.W.Frag} {h : Heap} {mg : Str → Option Value} {fa : Addr} (X : K.In h) (G : h.Ns mainGlobals mg) (hfa : mg "law" = some (.ref fa))
    {C_Line : Addr}
    {C_Basket : Addr}
    {C_Standing : Addr}
    {f_law_cell_at : Addr}
    {f_law_some : Addr}
    {f_law_coin : Addr}
    {f_law_rows : Addr}
    {f_Line_init : Addr}
    {f_Basket_init : Addr}
    {f_piece_price : Addr}
    {f_Standing_init : Addr}
    {f_Standing_whole : Addr}
    {f_law_is : Addr}
    {f_law : Addr}
    {oc_law_cell_at kV_law_cell_at dc_law_cell_at pm_law_cell_at cd_law_cell_at ct_law_cell_at : Value} {od_law_cell_at an_law_cell_at : Option Addr} {sl_law_cell_at : Array (Option Value)}
    {oc_law_some kV_law_some dc_law_some pm_law_some cd_law_some ct_law_some : Value} {od_law_some an_law_some : Option Addr} {sl_law_some : Array (Option Value)}
    {oc_law_coin kV_law_coin dc_law_coin pm_law_coin cd_law_coin ct_law_coin : Value} {od_law_coin an_law_coin : Option Addr} {sl_law_coin : Array (Option Value)}
    {oc_law_rows kV_law_rows dc_law_rows pm_law_rows cd_law_rows ct_law_rows : Value} {od_law_rows an_law_rows : Option Addr} {sl_law_rows : Array (Option Value)}
    {oc_Line_init kV_Line_init dc_Line_init pm_Line_init cd_Line_init ct_Line_init : Value} {od_Line_init an_Line_init : Option Addr} {sl_Line_init : Array (Option Value)}
    {tp_Line_init : Addr} {tc_Line_init : Value} {to_Line_init : Option Addr} {tn_Line_init : Nat} {ts_Line_init : Array (Option Value)}
    {oc_Basket_init kV_Basket_init dc_Basket_init pm_Basket_init cd_Basket_init ct_Basket_init : Value} {od_Basket_init an_Basket_init : Option Addr} {sl_Basket_init : Array (Option Value)}
    {tp_Basket_init : Addr} {tc_Basket_init : Value} {to_Basket_init : Option Addr} {tn_Basket_init : Nat} {ts_Basket_init : Array (Option Value)}
    {tk_Basket_init_0 : Tok}
    {oc_piece_price kV_piece_price dc_piece_price pm_piece_price cd_piece_price ct_piece_price : Value} {od_piece_price an_piece_price : Option Addr} {sl_piece_price : Array (Option Value)}
    {oc_Standing_init kV_Standing_init dc_Standing_init pm_Standing_init cd_Standing_init ct_Standing_init : Value} {od_Standing_init an_Standing_init : Option Addr} {sl_Standing_init : Array (Option Value)}
    {oc_Standing_whole kV_Standing_whole dc_Standing_whole pm_Standing_whole cd_Standing_whole ct_Standing_whole : Value} {od_Standing_whole an_Standing_whole : Option Addr} {sl_Standing_whole : Array (Option Value)}
    {oc_law_is kV_law_is dc_law_is pm_law_is cd_law_is ct_law_is : Value} {od_law_is an_law_is : Option Addr} {sl_law_is : Array (Option Value)}
    {oc_law kV_law dc_law pm_law cd_law ct_law : Value} {od_law an_law : Option Addr} {sl_law : Array (Option Value)}
    (a_Line : PySem.W.nsIn K mainGlobals "Line" = some (some (.ref C_Line)))
    (pg_Line : PySem.W.plainGet K C_Line Str.empty = true)
    (hd_Line : PySem.W.hasDictIn K C_Line = true)
    (po_Line : PySem.W.plainOver K C_Line = true)
    (sa_Line : PySem.W.findIn K (.ref C_Line) "__setattr__" = some (some (.builtin "object.__setattr__")))
    (a_Basket : PySem.W.nsIn K mainGlobals "Basket" = some (some (.ref C_Basket)))
    (pg_Basket : PySem.W.plainGet K C_Basket Str.empty = true)
    (hd_Basket : PySem.W.hasDictIn K C_Basket = true)
    (po_Basket : PySem.W.plainOver K C_Basket = true)
    (sa_Basket : PySem.W.findIn K (.ref C_Basket) "__setattr__" = some (some (.builtin "object.__setattr__")))
    (a_Standing : PySem.W.nsIn K mainGlobals "Standing" = some (some (.ref C_Standing)))
    (pg_Standing : PySem.W.plainGet K C_Standing Str.empty = true)
    (hd_Standing : PySem.W.hasDictIn K C_Standing = true)
    (po_Standing : PySem.W.plainOver K C_Standing = true)
    (sa_Standing : PySem.W.findIn K (.ref C_Standing) "__setattr__" = some (some (.builtin "object.__setattr__")))
    (n_Basket_carriage : PySem.W.findIn K (.ref C_Basket) "carriage" = some none)
    (n_Basket_lines : PySem.W.findIn K (.ref C_Basket) "lines" = some none)
    (n_Basket_member : PySem.W.findIn K (.ref C_Basket) "member" = some none)
    (n_Line_kind : PySem.W.findIn K (.ref C_Line) "kind" = some none)
    (n_Line_many : PySem.W.findIn K (.ref C_Line) "many" = some none)
    (n_Line_price : PySem.W.findIn K (.ref C_Line) "price" = some none)
    (n_Line_special : PySem.W.findIn K (.ref C_Line) "special" = some none)
    (n_Standing_carriage : PySem.W.findIn K (.ref C_Standing) "carriage" = some none)
    (n_Standing_marked : PySem.W.findIn K (.ref C_Standing) "marked" = some none)
    (n_Standing_owners : PySem.W.findIn K (.ref C_Standing) "owners" = some none)
    (n_Standing_prices : PySem.W.findIn K (.ref C_Standing) "prices" = some none)
    (mi_Basket : PySem.W.findIn K (.ref C_Basket) "__init__" = some (some (.ref f_Basket_init)))
    (mm_Basket : PySem.W.makesIn K C_Basket = true)
    (mf_Basket : PySem.W.isFn K (.ref f_Basket_init) = true)
    (mk_Basket : PySem.W.keepIn K (.ref C_Basket) = true)
    (mi_Line : PySem.W.findIn K (.ref C_Line) "__init__" = some (some (.ref f_Line_init)))
    (mm_Line : PySem.W.makesIn K C_Line = true)
    (mf_Line : PySem.W.isFn K (.ref f_Line_init) = true)
    (mk_Line : PySem.W.keepIn K (.ref C_Line) = true)
    (mi_Standing : PySem.W.findIn K (.ref C_Standing) "__init__" = some (some (.ref f_Standing_init)))
    (mm_Standing : PySem.W.makesIn K C_Standing = true)
    (mf_Standing : PySem.W.isFn K (.ref f_Standing_init) = true)
    (mk_Standing : PySem.W.keepIn K (.ref C_Standing) = true)
    (ma_Standing_Standing_whole : PySem.W.findIn K (.ref C_Standing) "whole" = some (some (.ref f_Standing_whole)))
    (mn_Standing_Standing_whole : PySem.W.isFn K (.ref f_Standing_whole) = true)
    (a_law_cell_at : PySem.W.nsIn K mainGlobals "_law_cell_at" = some (some (.ref f_law_cell_at)))
    (l_law_cell_at : K.lookup f_law_cell_at = some ⟨oc_law_cell_at, od_law_cell_at, .func (PySem.W.fnOf "_law_cell_at" "_law_cell_at" (defArgs s_law_cell_at) (defBody s_law_cell_at) (defScope s_law_cell_at) .none kV_law_cell_at dc_law_cell_at pm_law_cell_at an_law_cell_at cd_law_cell_at ct_law_cell_at), sl_law_cell_at⟩)
    (c_law_cell_at : PySem.W.codeIn K cd_law_cell_at "_law_cell_at" = true)
    (k_law_cell_at : PySem.W.keepIn K (.ref f_law_cell_at) = true)
    (a_law_some : PySem.W.nsIn K mainGlobals "_law_some" = some (some (.ref f_law_some)))
    (l_law_some : K.lookup f_law_some = some ⟨oc_law_some, od_law_some, .func (PySem.W.fnOf "_law_some" "_law_some" (defArgs s_law_some) (defBody s_law_some) (defScope s_law_some) .none kV_law_some dc_law_some pm_law_some an_law_some cd_law_some ct_law_some), sl_law_some⟩)
    (c_law_some : PySem.W.codeIn K cd_law_some "_law_some" = true)
    (k_law_some : PySem.W.keepIn K (.ref f_law_some) = true)
    (a_law_coin : PySem.W.nsIn K mainGlobals "_law_coin" = some (some (.ref f_law_coin)))
    (l_law_coin : K.lookup f_law_coin = some ⟨oc_law_coin, od_law_coin, .func (PySem.W.fnOf "_law_coin" "_law_coin" (defArgs s_law_coin) (defBody s_law_coin) (defScope s_law_coin) .none kV_law_coin dc_law_coin pm_law_coin an_law_coin cd_law_coin ct_law_coin), sl_law_coin⟩)
    (c_law_coin : PySem.W.codeIn K cd_law_coin "_law_coin" = true)
    (k_law_coin : PySem.W.keepIn K (.ref f_law_coin) = true)
    (a_law_rows : PySem.W.nsIn K mainGlobals "_law_rows" = some (some (.ref f_law_rows)))
    (l_law_rows : K.lookup f_law_rows = some ⟨oc_law_rows, od_law_rows, .func (PySem.W.fnOf "_law_rows" "_law_rows" (defArgs s_law_rows) (defBody s_law_rows) (defScope s_law_rows) .none kV_law_rows dc_law_rows pm_law_rows an_law_rows cd_law_rows ct_law_rows), sl_law_rows⟩)
    (c_law_rows : PySem.W.codeIn K cd_law_rows "_law_rows" = true)
    (k_law_rows : PySem.W.keepIn K (.ref f_law_rows) = true)
    (l_Line_init : K.lookup f_Line_init = some ⟨oc_Line_init, od_Line_init, .func (PySem.W.fnOf "__init__" "Line.__init__" (defArgs s_Line_init) (defBody s_Line_init) (defScope s_Line_init) (.ref tp_Line_init) kV_Line_init dc_Line_init pm_Line_init an_Line_init cd_Line_init ct_Line_init), sl_Line_init⟩)
    (t_Line_init : K.lookup tp_Line_init = some ⟨tc_Line_init, to_Line_init, .seq #[Value.none] tn_Line_init, ts_Line_init⟩)
    (c_Line_init : PySem.W.codeIn K cd_Line_init "Line.__init__" = true)
    (k_Line_init : PySem.W.keepIn K (.ref f_Line_init) = true)
    (l_Basket_init : K.lookup f_Basket_init = some ⟨oc_Basket_init, od_Basket_init, .func (PySem.W.fnOf "__init__" "Basket.__init__" (defArgs s_Basket_init) (defBody s_Basket_init) (defScope s_Basket_init) (.ref tp_Basket_init) kV_Basket_init dc_Basket_init pm_Basket_init an_Basket_init cd_Basket_init ct_Basket_init), sl_Basket_init⟩)
    (t_Basket_init : K.lookup tp_Basket_init = some ⟨tc_Basket_init, to_Basket_init, .seq #[Value.int 0 tk_Basket_init_0, Value.bool false] tn_Basket_init, ts_Basket_init⟩)
    (c_Basket_init : PySem.W.codeIn K cd_Basket_init "Basket.__init__" = true)
    (k_Basket_init : PySem.W.keepIn K (.ref f_Basket_init) = true)
    (a_piece_price : PySem.W.nsIn K mainGlobals "piece_price" = some (some (.ref f_piece_price)))
    (l_piece_price : K.lookup f_piece_price = some ⟨oc_piece_price, od_piece_price, .func (PySem.W.fnOf "piece_price" "piece_price" (defArgs s_piece_price) (defBody s_piece_price) (defScope s_piece_price) .none kV_piece_price dc_piece_price pm_piece_price an_piece_price cd_piece_price ct_piece_price), sl_piece_price⟩)
    (c_piece_price : PySem.W.codeIn K cd_piece_price "piece_price" = true)
    (k_piece_price : PySem.W.keepIn K (.ref f_piece_price) = true)
    (l_Standing_init : K.lookup f_Standing_init = some ⟨oc_Standing_init, od_Standing_init, .func (PySem.W.fnOf "__init__" "Standing.__init__" (defArgs s_Standing_init) (defBody s_Standing_init) (defScope s_Standing_init) .none kV_Standing_init dc_Standing_init pm_Standing_init an_Standing_init cd_Standing_init ct_Standing_init), sl_Standing_init⟩)
    (c_Standing_init : PySem.W.codeIn K cd_Standing_init "Standing.__init__" = true)
    (k_Standing_init : PySem.W.keepIn K (.ref f_Standing_init) = true)
    (l_Standing_whole : K.lookup f_Standing_whole = some ⟨oc_Standing_whole, od_Standing_whole, .func (PySem.W.fnOf "whole" "Standing.whole" (defArgs s_Standing_whole) (defBody s_Standing_whole) (defScope s_Standing_whole) .none kV_Standing_whole dc_Standing_whole pm_Standing_whole an_Standing_whole cd_Standing_whole ct_Standing_whole), sl_Standing_whole⟩)
    (c_Standing_whole : PySem.W.codeIn K cd_Standing_whole "Standing.whole" = true)
    (k_Standing_whole : PySem.W.keepIn K (.ref f_Standing_whole) = true)
    (a_law_is : PySem.W.nsIn K mainGlobals "_law_is" = some (some (.ref f_law_is)))
    (l_law_is : K.lookup f_law_is = some ⟨oc_law_is, od_law_is, .func (PySem.W.fnOf "_law_is" "_law_is" (defArgs s_law_is) (defBody s_law_is) (defScope s_law_is) .none kV_law_is dc_law_is pm_law_is an_law_is cd_law_is ct_law_is), sl_law_is⟩)
    (c_law_is : PySem.W.codeIn K cd_law_is "_law_is" = true)
    (k_law_is : PySem.W.keepIn K (.ref f_law_is) = true)
    (a_law : PySem.W.nsIn K mainGlobals "law" = some (some (.ref f_law)))
    (l_law : K.lookup f_law = some ⟨oc_law, od_law, .func (PySem.W.fnOf "law" "law" (defArgs s_law) (defBody s_law) (defScope s_law) .none kV_law dc_law pm_law an_law cd_law ct_law), sl_law⟩)
    (c_law : PySem.W.codeIn K cd_law "law" = true)
    (k_law : PySem.W.keepIn K (.ref f_law) = true)
    (z_all : PySem.W.nsIn K mainGlobals "all" = some none)
    (z_bool : PySem.W.nsIn K mainGlobals "bool" = some none)
    (z_enumerate : PySem.W.nsIn K mainGlobals "enumerate" = some none)
    (z_int : PySem.W.nsIn K mainGlobals "int" = some none)
    (z_isinstance : PySem.W.nsIn K mainGlobals "isinstance" = some none)
    (z_len : PySem.W.nsIn K mainGlobals "len" = some none)
    (z_list : PySem.W.nsIn K mainGlobals "list" = some none)
    (z_min : PySem.W.nsIn K mainGlobals "min" = some none)
    (z_range : PySem.W.nsIn K mainGlobals "range" = some none)
    (z_reversed : PySem.W.nsIn K mainGlobals "reversed" = some none)
    (z_sum : PySem.W.nsIn K mainGlobals "sum" = some none) :
    ∃ fd : FuncData, (∀ (s : Shared) (v : Value), BindsTo s fd ⟨[v], []⟩ [("_law_script", v)]) ∧ ∀ base : Heap, K.In base → base.Ns mainGlobals mg → FnOk l.prog w K mg base CX0 5 fa fd ["_law_script"] (lawsp K mg) := by
  have e := hfa.symm.trans (PySem.W.mg_of X G a_law)
  cases e
  have D_law_cell_at := fun_mk (st := s_law_cell_at) l_law_cell_at c_law_cell_at k_law_cell_at
  have F_law_cell_at : FunX K "_law_cell_at" "_law_cell_at" s_law_cell_at _ _ := ⟨⟨_, _, _, _, _, _, _, _, _, _, rfl, l_law_cell_at, c_law_cell_at⟩, k_law_cell_at⟩
  have D_law_some := fun_mk (st := s_law_some) l_law_some c_law_some k_law_some
  have F_law_some : FunX K "_law_some" "_law_some" s_law_some _ _ := ⟨⟨_, _, _, _, _, _, _, _, _, _, rfl, l_law_some, c_law_some⟩, k_law_some⟩
  have D_law_coin := fun_mk (st := s_law_coin) l_law_coin c_law_coin k_law_coin
  have F_law_coin : FunX K "_law_coin" "_law_coin" s_law_coin _ _ := ⟨⟨_, _, _, _, _, _, _, _, _, _, rfl, l_law_coin, c_law_coin⟩, k_law_coin⟩
  have D_law_rows := fun_mk (st := s_law_rows) l_law_rows c_law_rows k_law_rows
  have F_law_rows : FunX K "_law_rows" "_law_rows" s_law_rows _ _ := ⟨⟨_, _, _, _, _, _, _, _, _, _, rfl, l_law_rows, c_law_rows⟩, k_law_rows⟩
  have D_Line_init : FunD K "__init__" "Line.__init__" (defArgs s_Line_init) (defBody s_Line_init) (defScope s_Line_init) [.non] [] f_Line_init _ := ⟨⟨_, _, _, _, _, _, _, _, _, _, rfl, l_Line_init, c_Line_init, .inr ⟨by simp, tp_Line_init, _, [Value.none], _, rfl, t_Line_init, rfl, .cons rfl (.nil)⟩, .inl rfl⟩, k_Line_init⟩
  have F_Line_init : FunX K "__init__" "Line.__init__" s_Line_init _ _ := ⟨⟨_, _, _, _, _, _, _, _, _, _, rfl, l_Line_init, c_Line_init⟩, k_Line_init⟩
  have D_Basket_init : FunD K "__init__" "Basket.__init__" (defArgs s_Basket_init) (defBody s_Basket_init) (defScope s_Basket_init) [.int 0, .bl false] [] f_Basket_init _ := ⟨⟨_, _, _, _, _, _, _, _, _, _, rfl, l_Basket_init, c_Basket_init, .inr ⟨by simp, tp_Basket_init, _, [Value.int 0 tk_Basket_init_0, Value.bool false], _, rfl, t_Basket_init, rfl, .cons ⟨_, rfl⟩ (.cons rfl (.nil))⟩, .inl rfl⟩, k_Basket_init⟩
  have F_Basket_init : FunX K "__init__" "Basket.__init__" s_Basket_init _ _ := ⟨⟨_, _, _, _, _, _, _, _, _, _, rfl, l_Basket_init, c_Basket_init⟩, k_Basket_init⟩
  have D_piece_price := fun_mk (st := s_piece_price) l_piece_price c_piece_price k_piece_price
  have F_piece_price : FunX K "piece_price" "piece_price" s_piece_price _ _ := ⟨⟨_, _, _, _, _, _, _, _, _, _, rfl, l_piece_price, c_piece_price⟩, k_piece_price⟩
  have D_Standing_init := fun_mk (st := s_Standing_init) l_Standing_init c_Standing_init k_Standing_init
  have F_Standing_init : FunX K "__init__" "Standing.__init__" s_Standing_init _ _ := ⟨⟨_, _, _, _, _, _, _, _, _, _, rfl, l_Standing_init, c_Standing_init⟩, k_Standing_init⟩
  have D_Standing_whole := fun_mk (st := s_Standing_whole) l_Standing_whole c_Standing_whole k_Standing_whole
  have F_Standing_whole : FunX K "whole" "Standing.whole" s_Standing_whole _ _ := ⟨⟨_, _, _, _, _, _, _, _, _, _, rfl, l_Standing_whole, c_Standing_whole⟩, k_Standing_whole⟩
  have D_law_is := fun_mk (st := s_law_is) l_law_is c_law_is k_law_is
  have F_law_is : FunX K "_law_is" "_law_is" s_law_is _ _ := ⟨⟨_, _, _, _, _, _, _, _, _, _, rfl, l_law_is, c_law_is⟩, k_law_is⟩
  have D_law := fun_mk (st := s_law) l_law c_law k_law
  have F_law : FunX K "law" "law" s_law _ _ := ⟨⟨_, _, _, _, _, _, _, _, _, _, rfl, l_law, c_law⟩, k_law⟩
  obtain ⟨ds_Basket_init_4, v_Basket_init_4, b_Basket_init_4⟩ := D_Basket_init.binds1 (ps := ["self", "lines", "carriage", "member"]) 4 2 (by simp) rfl fun _ _ _ _ _ _ _ us its h1 h2 => match us, h1, its, h2 with | [_, _, _, _], _, [_, _], _ => ⟨_, rfl, rfl⟩
  obtain ⟨ds_Line_init_5, v_Line_init_5, b_Line_init_5⟩ := D_Line_init.binds1 (ps := ["self", "kind", "price", "many", "special"]) 5 1 (by simp) rfl fun _ _ _ _ _ _ _ us its h1 h2 => match us, h1, its, h2 with | [_, _, _, _, _], _, [_], _ => ⟨_, rfl, rfl⟩
  have b_Standing_init_2 : Binds K _ ["self", "basket"] [] := D_Standing_init.binds (ps := ["self", "basket"]) fun _ _ _ _ _ _ us hl => match us, hl with | [_, _], _ => rfl
  have b_Standing_whole_1 : Binds K _ ["self"] [] := D_Standing_whole.binds (ps := ["self"]) fun _ _ _ _ _ _ us hl => match us, hl with | [_], _ => rfl
  have b_law_cell_at_2 : Binds K _ ["_law_script", "_law_k"] [] := D_law_cell_at.binds (ps := ["_law_script", "_law_k"]) fun _ _ _ _ _ _ us hl => match us, hl with | [_, _], _ => rfl
  have b_law_coin_3 : Binds K _ ["_law_script", "_law_k", "_law_salt"] [] := D_law_coin.binds (ps := ["_law_script", "_law_k", "_law_salt"]) fun _ _ _ _ _ _ us hl => match us, hl with | [_, _, _], _ => rfl
  have b_law_is_2 : Binds K _ ["_law_standing", "_law_due"] [] := D_law_is.binds (ps := ["_law_standing", "_law_due"]) fun _ _ _ _ _ _ us hl => match us, hl with | [_, _], _ => rfl
  have b_law_rows_2 : Binds K _ ["_law_script", "_law_k"] [] := D_law_rows.binds (ps := ["_law_script", "_law_k"]) fun _ _ _ _ _ _ us hl => match us, hl with | [_, _], _ => rfl
  have b_law_some_4 : Binds K _ ["_law_script", "_law_k", "_law_salt", "_law_many"] [] := D_law_some.binds (ps := ["_law_script", "_law_k", "_law_salt", "_law_many"]) fun _ _ _ _ _ _ us hl => match us, hl with | [_, _, _, _], _ => rfl
  have b_piece_price_2 : Binds K _ ["line", "member"] [] := D_piece_price.binds (ps := ["line", "member"]) fun _ _ _ _ _ _ us hl => match us, hl with | [_, _], _ => rfl
  exact ⟨_, fun s v => .of_eq rfl, fun base _ _ => ok_law ⟨_, PySem.W.mg_of X G a_Line, ⟨pg_Line, hd_Line, po_Line, sa_Line⟩, _, PySem.W.mg_of X G a_Basket, ⟨pg_Basket, hd_Basket, po_Basket, sa_Basket⟩, _, PySem.W.mg_of X G a_Standing, ⟨pg_Standing, hd_Standing, po_Standing, sa_Standing⟩, n_Basket_carriage, n_Basket_lines, n_Basket_member, n_Line_kind, n_Line_many, n_Line_price, n_Line_special, n_Standing_carriage, n_Standing_marked, n_Standing_owners, n_Standing_prices, _, _, F_law_cell_at, PySem.W.mg_of X G a_law_cell_at, k_law_cell_at, _, _, F_law_some, PySem.W.mg_of X G a_law_some, k_law_some, _, _, F_law_coin, PySem.W.mg_of X G a_law_coin, k_law_coin, _, _, F_law_rows, PySem.W.mg_of X G a_law_rows, k_law_rows, _, _, F_Line_init, k_Line_init, _, _, F_Basket_init, k_Basket_init, _, _, F_piece_price, PySem.W.mg_of X G a_piece_price, k_piece_price, _, _, F_Standing_init, k_Standing_init, _, _, F_Standing_whole, k_Standing_whole, _, _, F_law_is, PySem.W.mg_of X G a_law_is, k_law_is, _, _, F_law, PySem.W.mg_of X G a_law, k_law, (match ds_Basket_init_4, v_Basket_init_4, b_Basket_init_4 with | [], _, b => b), (match ds_Line_init_5, v_Line_init_5, b_Line_init_5 with | [], _, b => b), b_Standing_init_2, b_Standing_whole_1, b_law_cell_at_2, b_law_coin_3, b_law_is_2, b_law_rows_2, b_law_some_4, b_piece_price_2, ⟨mm_Basket, mi_Basket, mf_Basket, mk_Basket⟩, ⟨mm_Line, mi_Line, mf_Line, mk_Line⟩, ⟨mm_Standing, mi_Standing, mf_Standing, mk_Standing⟩, ⟨ma_Standing_Standing_whole, mn_Standing_Standing_whole, k_Standing_whole⟩, PySem.W.mg_none_of X G z_all, PySem.W.mg_none_of X G z_bool, PySem.W.mg_none_of X G z_enumerate, PySem.W.mg_none_of X G z_int, PySem.W.mg_none_of X G z_isinstance, PySem.W.mg_none_of X G z_len, PySem.W.mg_none_of X G z_list, PySem.W.mg_none_of X G z_min, PySem.W.mg_none_of X G z_range, PySem.W.mg_none_of X G z_reversed, PySem.W.mg_none_of X G z_sum⟩⟩
end Law
namespace Law
open PySem T L2
theorem cell_ok (ns : List Int) {k : Int} (h : 0 ≤ k) : ∃ r, M.law_cell_at ns k = some r := by
  unfold M.law_cell_at
  by_cases hk : k < (ns.length : Int)
  · rw [if_pos (decide_eq_true hk), atO_get h hk]; exact ⟨_, rfl⟩
  · exact ⟨_, if_neg (by rw [decide_eq_true_eq]; exact hk)⟩
end Law
namespace Law
open PySem T L2
/-! numbers drawn of a script -/
theorem some_ok (ns : List Int) {k salt many : Int} (hk : 0 ≤ k) (hk2 : k ≤ 1000) (hs : 0 ≤ salt) (hs2 : salt ≤ 1000) (hm : 0 < many) : ∃ r, M.law_some ns k salt many = some r ∧ 0 ≤ r ∧ r < many := by
  obtain ⟨c, e⟩ := cell_ok ns hk
  unfold M.law_some
  rw [e, bindP, bindP, bindP, mulO_r (by omega) (by omega), bindP, bindP, mulO_r (by omega) (by omega), bindP, bindP]
  have h1 : 0 ≤ c % 1000003 ∧ c % 1000003 < 1000003 := ⟨Int.emod_nonneg _ (by decide), Int.emod_lt_of_pos _ (by decide)⟩
  rw [mulO_l (by omega) (by omega), bindP, bindP]
  generalize (c % 1000003 + 1) * _ = q
  have h2 : 0 ≤ q % 2147483647 ∧ q % 2147483647 < 2147483647 := ⟨Int.emod_nonneg _ (by decide), Int.emod_lt_of_pos _ (by decide)⟩
  rw [mulO_l (by omega) (by omega), bindP, bindP, bindP, modO_ok hm]
  exact ⟨_, rfl, Int.emod_nonneg _ (by omega), Int.emod_lt_of_pos _ hm⟩
theorem coinS_ok (ns : List Int) {k salt : Int} (hk : 0 ≤ k) (hk2 : k ≤ 1000) (hs : 0 ≤ salt) (hs2 : salt ≤ 900) : ∃ r, M.law_coin ns k salt = some r ∧ 0 ≤ r ∧ r ≤ 1000000000000 := by
  obtain ⟨a, e, a0, a1⟩ := some_ok ns hk hk2 hs (by omega) (many := 5) (by decide)
  unfold M.law_coin
  rw [e, bindP]
  by_cases h : a < 2
  · obtain ⟨b, e1, b0, b1⟩ := some_ok ns hk hk2 (salt := salt + 1) (by omega) (by omega) (many := 10) (by decide)
    rw [if_pos (decide_eq_true h), e1]
    exact ⟨_, rfl, b0, by omega⟩
  rw [if_neg (by rw [decide_eq_true_eq]; exact h)]
  by_cases h : a = 2
  · obtain ⟨b, e1, b0, b1⟩ := some_ok ns hk hk2 (salt := salt + 1) (by omega) (by omega) (many := 200) (by decide)
    rw [if_pos (decide_eq_true h), e1]
    exact ⟨_, rfl, by omega, by omega⟩
  rw [if_neg (by rw [decide_eq_true_eq]; exact h)]
  by_cases h : a = 3
  · obtain ⟨b, e1, b0, b1⟩ := some_ok ns hk hk2 (salt := salt + 1) (by omega) (by omega) (many := 3) (by decide)
    rw [if_pos (decide_eq_true h), e1]
    exact ⟨_, rfl, by omega, by omega⟩
  rw [if_neg (by rw [decide_eq_true_eq]; exact h)]
  obtain ⟨b, e1, b0, b1⟩ := some_ok ns hk hk2 (salt := salt + 1) (by omega) (by omega) (many := 1000000) (by decide)
  obtain ⟨d, e2, d0, d1⟩ := some_ok ns hk hk2 (salt := salt + 2) (by omega) (by omega) (many := 1000001) (by decide)
  rw [e1, bindP, bindP, e2]
  exact ⟨_, rfl, by omega, by omega⟩
end Law
namespace Law
open PySem T L2
/-! rows drawn -/
abbrev Row := T4 Int Int Int (Option Int)
structure RowOk (r : Row) : Prop where
  k0 : 0 ≤ r.x0
  k1 : r.x0 < 20
  p0 : 0 ≤ r.x1
  p1 : r.x1 ≤ 1000000000000
  m0 : 0 ≤ r.x2
  m1 : r.x2 ≤ 60
  s0 : ∀ e, r.x3 = some e → 0 ≤ e ∧ e ≤ 1000000000000
theorem sum_take : ∀ (n : Nat) (xs : List Int), (∀ x ∈ xs, 0 ≤ x) → (xs.take n).sum ≤ xs.sum
  | 0, xs, h => by
    have : ∀ ys : List Int, (∀ x ∈ ys, 0 ≤ x) → 0 ≤ ys.sum := fun ys => by
      induction ys with
      | nil => intro _; simp
      | cons y ys ih =>
        intro h
        have := ih fun x hx => h x (List.mem_cons_of_mem _ hx)
        have := h y List.mem_cons_self
        rw [List.sum_cons]; omega
    rw [List.take_zero, List.sum_nil]
    exact this xs h
  | n + 1, [], _ => by simp
  | n + 1, x :: xs, h => by
    have := sum_take n xs fun y hy => h y (List.mem_cons_of_mem _ hy)
    rw [List.take_succ_cons, List.sum_cons, List.sum_cons]; omega
theorem rows_ok (ns : List Int) {k : Int} (hk : 0 ≤ k) (hk2 : k ≤ 1000) : ∃ rows, M.law_rows ns k = some rows ∧ rows.length ≤ 12 ∧ (∀ r ∈ rows, RowOk r) ∧ (rows.map (fun r : Row => r.x2)).sum ≤ 60 := by
  obtain ⟨n, e0, n0, n1⟩ := some_ok ns hk hk2 (salt := 1) (by decide) (by decide) (many := 13) (by decide)
  unfold M.law_rows
  rw [e0, bindP, rng1O_ok (by omega) (by omega)]
  show ∃ rows, (loopN _ (rng 0 n.toNat) ((60 : Int), ([] : List Row)) >>= _) = some rows ∧ _
  refine loopN_step (fun pre s => 0 ≤ s.1 ∧ s.1 ≤ 60 ∧ s.2.length ≤ 2 * pre.length ∧ (∀ r ∈ s.2, RowOk r) ∧ (s.2.map (fun r : Row => r.x2)).sum + s.1 ≤ 60) ⟨by decide, by decide, by simp, fun r h => by simp at h, by simp⟩ ?h ?g
  case h =>
    intro pre j post s e ⟨l0, l1, lr, g, sm⟩
    obtain ⟨hj, hlt⟩ := rng_at e
    obtain ⟨left, rs⟩ := s
    dsimp only at l0 l1 lr g sm ⊢
    obtain ⟨a, e1, a0, a1⟩ := some_ok ns hk hk2 (salt := 10 + j) (by omega) (by omega) (many := 5) (by decide)
    obtain ⟨b, e2, b0, b1⟩ := some_ok ns hk hk2 (salt := 30 + j) (by omega) (by omega) (many := 8) (by decide)
    obtain ⟨c, e3, c0, c1⟩ := some_ok ns hk hk2 (salt := 50 + j) (by omega) (by omega) (many := 3) (by decide)
    obtain ⟨d, e4, d0, d1⟩ := coinS_ok ns hk hk2 (salt := 70 + 3 * j) (by omega) (by omega)
    obtain ⟨k', e5, k0, k1⟩ := some_ok ns hk hk2 (salt := 110 + j) (by omega) (by omega) (many := 20) (by decide)
    obtain ⟨p, e6, p0, p1⟩ := coinS_ok ns hk hk2 (salt := 130 + 3 * j) (by omega) (by omega)
    obtain ⟨q, e7, q0, q1⟩ := some_ok ns hk hk2 (salt := 170 + j) (by omega) (by omega) (many := 6) (by decide)
    have hm : ∃ m : Int, 0 ≤ m ∧ m ≤ 20 ∧ (if decide (b = 0) = true then some (20 : Int) else some a) = some m := by
      by_cases h : b = 0
      · exact ⟨20, by decide, by decide, if_pos (decide_eq_true h)⟩
      · exact ⟨a, a0, by omega, if_neg (by rw [decide_eq_true_eq]; exact h)⟩
    obtain ⟨m, m0, m1, hm⟩ := hm
    have hx : ∃ x : Option Int, (∀ e, x = some e → 0 ≤ e ∧ e ≤ 1000000000000) ∧ (if decide (c = 0) = true then some (some d) else some none) = some x := by
      by_cases h : c = 0
      · exact ⟨some d, (fun e z => by cases z; exact ⟨d0, d1⟩), if_pos (decide_eq_true h)⟩
      · exact ⟨none, (fun e z => by cases z), if_neg (by rw [decide_eq_true_eq]; exact h)⟩
    obtain ⟨x, x0, hx⟩ := hx
    have hr : RowOk ⟨k', p, min m left, x⟩ := ⟨k0, k1, p0, p1, by show 0 ≤ min m left; omega, by show min m left ≤ 60; omega, x0⟩
    rw [e1, bindP, e2, bindP, bindP]
    show ∃ s', ((if decide (b = 0) = true then some (20 : Int) else some a) >>= _) = some s' ∧ _
    rw [hm, bindP, e3, bindP, bindP, e4, bindP, bindP]
    show ∃ s', ((if decide (c = 0) = true then some (some d) else some none) >>= _) = some s' ∧ _
    rw [hx, bindP, e5, bindP, e6, bindP, bindP, appO_ok (by omega), bindP, e7, bindP, bindP]
    have hg : ∀ r ∈ rs ++ [(⟨k', p, min m left, x⟩ : Row)], RowOk r := fun r h => by
      rcases List.mem_append.mp h with h | h
      · exact g r h
      · rw [List.mem_singleton.mp h]; exact hr
    have hs : ((rs ++ [(⟨k', p, min m left, x⟩ : Row)]).map (fun r : Row => r.x2)).sum = (rs.map (fun r : Row => r.x2)).sum + min m left := by
      rw [List.map_append, List.sum_append]; simp
    have no : ∃ s' : Int × List Row, some ((left - min m left), (rs ++ [(⟨k', p, min m left, x⟩ : Row)])) = some s' ∧ 0 ≤ s'.1 ∧ s'.1 ≤ 60 ∧ s'.2.length ≤ 2 * (pre ++ [j]).length ∧ (∀ r ∈ s'.2, RowOk r) ∧ (s'.2.map (fun r : Row => r.x2)).sum + s'.1 ≤ 60 := by
      refine ⟨_, rfl, ?_, ?_, ?_, hg, ?_⟩
      · show 0 ≤ left - min m left; omega
      · show left - min m left ≤ 60; omega
      · show (rs ++ [_]).length ≤ _
        simp only [List.length_append, List.length_singleton]; omega
      · show ((rs ++ [_]).map (fun r : Row => r.x2)).sum + (left - min m left) ≤ 60
        rw [hs]; omega
    by_cases hq : q = 0
    · rw [if_pos (decide_eq_true hq), bindP]
      by_cases hc : (decide (min m left ≤ left - min m left) && decide (((rs ++ [(⟨k', p, min m left, x⟩ : Row)]).length : Int) < 12)) = true
      · rw [if_pos hc]
        rw [Bool.and_eq_true, decide_eq_true_eq, decide_eq_true_eq] at hc
        have hl : (rs ++ [(⟨k', p, min m left, x⟩ : Row)]).length = rs.length + 1 := by simp
        have ha : atO (rs ++ [(⟨k', p, min m left, x⟩ : Row)]) (((rs ++ [(⟨k', p, min m left, x⟩ : Row)]).length : Int) - 1) = some ⟨k', p, min m left, x⟩ := by
          refine atO_ok (by omega) ?_
          have : (((rs ++ [(⟨k', p, min m left, x⟩ : Row)]).length : Int) - 1).toNat = rs.length := by omega
          rw [this, List.getElem?_append_right (Nat.le_refl _), Nat.sub_self]; rfl
        rw [ha, bindP, appO_ok (by omega), bindP, bindP]
        refine ⟨_, rfl, ?_, ?_, ?_, fun r h => ?_, ?_⟩
        · show 0 ≤ left - min m left - min m left; omega
        · show left - min m left - min m left ≤ 60; omega
        · show (rs ++ [_] ++ [_]).length ≤ _
          simp only [List.length_append, List.length_singleton]; omega
        · rcases List.mem_append.mp h with h | h
          · exact hg r h
          · rw [List.mem_singleton.mp h]; exact hr
        · show ((rs ++ [_] ++ [_]).map (fun r : Row => r.x2)).sum + (left - min m left - min m left) ≤ 60
          rw [List.map_append, List.sum_append, hs]; simp; omega
      · rw [if_neg hc, bindP]
        exact no
    · rw [if_neg (show ¬ (decide (q = 0) = true) by rw [decide_eq_true_eq]; exact hq), bindP, if_neg (by decide), bindP]
      exact no
  intro s ⟨l0, l1, lr, g, sm⟩
  rw [cutO_to _ (by decide)]
  refine ⟨_, rfl, ?_, fun r h => g r (List.mem_of_mem_take h), ?_⟩
  · rw [List.length_take]; exact Nat.min_le_left _ _
  · rw [List.map_take]
    have := sum_take 12 (s.2.map (fun r : Row => r.x2)) (fun x hx => by
      obtain ⟨r, hr, rfl⟩ := List.mem_map.mp hx
      exact (g r hr).m0)
    exact Int.le_trans this (by omega)
end Law
namespace Law
open PySem T L2
/-! a basket's standing -/
def pp (l : LineD) (m : Bool) : Int := if (m && l.f_special.isSome) = true then l.f_special.getD 0 else l.f_price
theorem piece_ok (l : LineD) (m : Bool) : M.piece_price l m = some (pp l m) := by
  unfold M.piece_price pp
  cases m <;> cases q : l.f_special <;> rfl
def ownersOf (ls : List LineD) : List Int := (enumL ls).flatMap fun t => List.replicate t.x1.f_many.toNat t.x0
def pricesOf (ls : List LineD) (m : Bool) : List Int := (enumL ls).flatMap fun t => List.replicate t.x1.f_many.toNat (pp t.x1 m)
theorem flat_len {α β : Type} {g : α → List β} {n : Nat} : ∀ {as : List α}, (∀ a ∈ as, (g a).length ≤ n) → (as.flatMap g).length ≤ n * as.length
  | [], _ => Nat.le_refl _
  | a :: as, h => by
    have h1 := flat_len (as := as) fun b hb => h b (List.mem_cons_of_mem _ hb)
    have h2 := h a List.mem_cons_self
    rw [List.flatMap_cons, List.length_append, List.length_cons, Nat.mul_add]
    omega
theorem flat_snoc {α β : Type} (g : α → List β) (as : List α) (a : α) : (as ++ [a]).flatMap g = as.flatMap g ++ g a := by
  rw [List.flatMap_append, List.flatMap_cons, List.flatMap_nil, List.append_nil]
theorem enum_mem {α : Type} {as : List α} {t : T2 Int α} (h : t ∈ enumL as) : t.x1 ∈ as := by
  obtain ⟨i, hi⟩ := List.getElem?_of_mem h
  unfold enumL at hi
  rw [List.getElem?_map, List.getElem?_zipIdx] at hi
  cases q : as[i]? with
  | none => rw [q] at hi; cases hi
  | some a => rw [q] at hi; cases hi; exact List.mem_of_getElem? q
theorem enum_len' {α : Type} (as : List α) : (enumL as).length = as.length := by unfold enumL; simp
theorem rep_snoc {α : Type} (n : Nat) (x : α) : List.replicate (n + 1) x = List.replicate n x ++ [x] := by
  rw [List.replicate_succ']
theorem stand_ok (b : BasketD) (hl : b.f_lines.length ≤ 100) (hm : ∀ l ∈ b.f_lines, 0 ≤ l.f_many ∧ l.f_many ≤ 1000) :
    M.Standing_init b = some ⟨ownersOf b.f_lines, pricesOf b.f_lines b.f_member, b.f_carriage, b.f_lines.map fun _ => false⟩ := by
  unfold M.Standing_init
  show (loopN _ (enumL b.f_lines) (([] : List Int), ([] : List Int), b.f_carriage, b.f_lines.map fun _ => false) >>= _) = _
  have hb : ∀ t ∈ enumL b.f_lines, 0 ≤ t.x1.f_many ∧ t.x1.f_many ≤ 1000 := fun t ht => hm _ (enum_mem ht)
  have he : (enumL b.f_lines).length = b.f_lines.length := enum_len' _
  refine loopN_eq (fun pre s => s = (pre.flatMap (fun t => List.replicate t.x1.f_many.toNat t.x0), pre.flatMap (fun t => List.replicate t.x1.f_many.toNat (pp t.x1 b.f_member)), b.f_carriage, b.f_lines.map fun _ => false)) rfl ?h ?g
  case g =>
    intro s e
    subst e
    rfl
  intro pre t post s e hs
  subst hs
  have ht : t ∈ enumL b.f_lines := by rw [e]; simp
  obtain ⟨m0, m1⟩ := hb t ht
  have hpre : pre.length ≤ 100 := by rw [e] at he; simp at he; omega
  have hbp : ∀ t ∈ pre, 0 ≤ t.x1.f_many ∧ t.x1.f_many ≤ 1000 := fun t ht => hb t (by rw [e]; exact List.mem_append_left _ ht)
  have b1 := flat_len (as := pre) (g := fun t => List.replicate t.x1.f_many.toNat t.x0) (n := 1000) fun t ht => by rw [List.length_replicate]; have := hbp t ht; omega
  have b2 := flat_len (as := pre) (g := fun t => List.replicate t.x1.f_many.toNat (pp t.x1 b.f_member)) (n := 1000) fun t ht => by rw [List.length_replicate]; have := hbp t ht; omega
  dsimp only
  rw [rng1O_ok (by omega) (by omega), bindP, flat_snoc, flat_snoc]
  generalize pre.flatMap (fun t => List.replicate t.x1.f_many.toNat t.x0) = os at b1
  generalize pre.flatMap (fun t => List.replicate t.x1.f_many.toNat (pp t.x1 b.f_member)) = ps at b2
  refine ⟨_, ?_, rfl⟩
  refine loopN_eq (fun done s => s = (os ++ List.replicate done.length t.x0, ps ++ List.replicate done.length (pp t.x1 b.f_member), b.f_carriage, b.f_lines.map fun _ => false)) (by simp) ?h2 ?g2
  case g2 =>
    intro s e
    subst e
    rw [rng_len]
  intro done j post2 s e2 hs
  subst hs
  obtain ⟨hj, hlt⟩ := rng_at e2
  dsimp only
  rw [appO_ok (by rw [List.length_append, List.length_replicate]; omega), bindP, piece_ok, bindP, appO_ok (by rw [List.length_append, List.length_replicate]; omega), bindP]
  refine ⟨_, rfl, ?_⟩
  rw [List.length_append, List.length_singleton, rep_snoc, rep_snoc, List.append_assoc, List.append_assoc]
end Law
namespace Law
open PySem T L2
theorem line_eq (a b c : Int) (d : Option Int) : M.Line_init a b c d = ⟨a, b, c, d⟩ := by unfold M.Line_init; rfl
theorem basket_eq (ls : List LineD) (c : Int) (m : Bool) : M.Basket_init ls c m = ⟨ls, c, m⟩ := by unfold M.Basket_init; rfl
def toLine (r : Row) : LineD := ⟨r.x0, r.x1, r.x2, r.x3⟩
theorem lines_map (rs : List Row) : rs.map (fun r => M.Line_init r.x0 r.x1 r.x2 r.x3) = rs.map toLine := by
  refine List.map_congr_left fun r _ => ?_
  rw [line_eq]; rfl
theorem enum_map {α β : Type} (f : α → β) (as : List α) : enumL (as.map f) = (enumL as).map fun t => T2.mk t.x0 (f t.x1) := by
  unfold enumL
  rw [List.zipIdx_map, List.map_map, List.map_map]
  rfl
theorem owners_rows (rs : List Row) : ownersOf (rs.map toLine) = (enumL rs).flatMap fun t => List.replicate t.x1.x2.toNat t.x0 := by
  unfold ownersOf
  rw [enum_map, List.flatMap_map]
  rfl
theorem prices_rows (rs : List Row) (m : Bool) : pricesOf (rs.map toLine) m = (enumL rs).flatMap fun t => List.replicate t.x1.x2.toNat (pp (toLine t.x1) m) := by
  unfold pricesOf
  rw [enum_map, List.flatMap_map]
  rfl
end Law
namespace Law
open PySem T L2
theorem sum_rep (n : Nat) (x : Int) : (List.replicate n x).sum = x * (n : Int) := by
  induction n with
  | zero => simp
  | succ n ih => rw [List.replicate_succ, List.sum_cons, ih, Int.natCast_succ, Int.mul_add, Int.mul_one]; omega
theorem enum_x1 {α : Type} (as : List α) : (enumL as).map (fun t => t.x1) = as := by
  unfold enumL
  rw [List.map_map]
  show as.zipIdx.map (fun p => p.1) = as
  exact List.zipIdx_map_fst 0 as
/-- what the pieces of lines cost -/
def costOf (ls : List LineD) (m : Bool) : Int := (ls.map fun l => pp l m * l.f_many).sum
theorem prices_sum (ls : List LineD) (m : Bool) (h : ∀ l ∈ ls, 0 ≤ l.f_many) : (pricesOf ls m).sum = costOf ls m := by
  have e : pricesOf ls m = ls.flatMap fun l => List.replicate l.f_many.toNat (pp l m) := by
    unfold pricesOf
    conv => rhs; rw [← enum_x1 ls, List.flatMap_map]
  rw [e]
  clear e
  unfold costOf
  induction ls with
  | nil => rfl
  | cons l ls ih =>
    rw [List.flatMap_cons, List.sum_append, ih (fun l hl => h l (List.mem_cons_of_mem _ hl)), sum_rep, List.map_cons, List.sum_cons]
    have := h l List.mem_cons_self
    have e : ((l.f_many.toNat : Nat) : Int) = l.f_many := by omega
    rw [e]
theorem cost_app (xs ys : List LineD) (m : Bool) : costOf (xs ++ ys) m = costOf xs m + costOf ys m := by
  unfold costOf
  rw [List.map_append, List.sum_append]
theorem cost_rev (xs : List LineD) (m : Bool) : costOf xs.reverse m = costOf xs m := by
  induction xs with
  | nil => rfl
  | cons x xs ih =>
    have e : x :: xs = [x] ++ xs := rfl
    rw [List.reverse_cons, cost_app, ih, e, cost_app]; omega
end Law
-- uses: C_cell C_some C_rows C_stand C_line C_sum
namespace Law
open PySem T L2
theorem whole_ok (s : StandingD) : M.Standing_whole s = s.f_prices.sum + s.f_carriage := by unfold M.Standing_whole; rfl
theorem is_ok {s : StandingD} {d : Int} (h : s.f_prices.sum + s.f_carriage = d) : M.law_is s d = true := by
  unfold M.law_is
  rw [whole_ok, h]
  simp
theorem stand_is (ls : List LineD) (c : Int) (m : Bool) (hl : ls.length ≤ 100) (hm : ∀ l ∈ ls, 0 ≤ l.f_many ∧ l.f_many ≤ 1000) :
    ∃ s, M.Standing_init (M.Basket_init ls c m) = some s ∧ s.f_prices.sum + s.f_carriage = costOf ls m + c := by
  refine ⟨_, by rw [basket_eq]; exact stand_ok _ hl hm, ?_⟩
  show (pricesOf ls m).sum + c = _
  rw [prices_sum ls m fun l h => (hm l h).1]
theorem law_true (ns : List Int) (h : ns.length ≤ 63) : M.law ns = some true := by
  unfold M.law
  rw [rng1O_ok (by omega) (by omega), bindP]
  show (loopC _ (rng 0 ((ns.length : Int) + 1).toNat) ([] : List (T2 StandingD Int)) >>= _) = _
  have key : ∀ f : List (T2 StandingD Int) → Int → Option (Ctl (List (T2 StandingD Int)) (List (T2 StandingD Int)) Bool), (∀ z k, 0 ≤ k → k ≤ 100 → z.length ≤ 1000 → ∃ s d, M.law_is s d = true ∧ f z k = some (.nx (z ++ [T2.mk s d]))) →
      (loopC f (rng 0 ((ns.length : Int) + 1).toNat) [] >>= Ctl.seqT fun (z15 : (List (T2 StandingD Int))) => some ((z15.map (fun (it16 : (T2 StandingD Int)) => (M.law_is it16.x0 it16.x1))).all id)) = some true := by
    intro f hf
    obtain ⟨s', e, p⟩ := loopC_ind (f := f) (as := rng 0 ((ns.length : Int) + 1).toNat) (s0 := []) (fun pre s => s.length = pre.length ∧ ∀ t ∈ s, M.law_is t.x0 t.x1 = true) ⟨rfl, fun t h => by cases h⟩ fun pre k post s e ⟨l, p⟩ => by
      obtain ⟨hk, hlt⟩ := rng_at e
      obtain ⟨st, d, h1, h2⟩ := hf s k (by omega) (by omega) (by omega)
      refine ⟨_, .inl h2, by simp [l], fun t ht => ?_⟩
      rcases List.mem_append.mp ht with ht | ht
      · exact p t ht
      · rw [List.mem_singleton.mp ht]; exact h1
    rw [e, bindP]
    show some _ = some true
    congr 1
    rw [List.all_eq_true]
    intro b hb
    obtain ⟨t, ht, rfl⟩ := List.mem_map.mp hb
    exact p.2 t ht
  refine key _ ?hf
  case hf =>
    intro z k k0 k1 hz
    obtain ⟨rows, e1, hl, hg, _⟩ := rows_ok ns (k := k) (by omega) (by omega)
    obtain ⟨car, e2, _, _⟩ := coinS_ok ns (k := k) (salt := 201) (by omega) (by omega) (by decide) (by decide)
    obtain ⟨a, e3, _, _⟩ := some_ok ns (k := k) (by omega) (by omega) (salt := 204) (by decide) (by decide) (many := 2) (by decide)
    obtain ⟨cut, e4, t0, t1⟩ := some_ok ns (k := k) (by omega) (by omega) (salt := 205) (by decide) (by decide) (many := (rows.length : Int) + 1) (by omega)
    rw [e1, bindP, e2, bindP, e3, bindP, bindP, e4]
    dsimp only
    rw [lines_map]
    generalize decide (a = 1) = m
    have hL : (rows.map toLine).length ≤ 12 := by rw [List.length_map]; exact hl
    have hM : ∀ l ∈ rows.map toLine, 0 ≤ l.f_many ∧ l.f_many ≤ 1000 := fun l hl => by
      obtain ⟨r, hr, rfl⟩ := List.mem_map.mp hl
      have := hg r hr
      exact ⟨this.m0, Int.le_trans this.m1 (by decide)⟩
    obtain ⟨s1, f1, g1⟩ := stand_is (cutO (rows.map toLine) none (some cut)) car m (Nat.le_trans (cutO_len _ _ _) (by omega)) fun l hl => hM l (cutO_mem hl)
    obtain ⟨s2, f2, g2⟩ := stand_is (cutO (rows.map toLine) (some cut) none) 0 m (Nat.le_trans (cutO_len _ _ _) (by omega)) fun l hl => hM l (cutO_mem hl)
    obtain ⟨s3, f3, g3⟩ := stand_is (rows.map toLine).reverse car m (by rw [List.length_reverse]; omega) fun l hl => hM l (List.mem_reverse.mp hl)
    obtain ⟨s4, f4, g4⟩ := stand_is (rows.map toLine) car m (by omega) hM
    rw [cutO_to _ t0] at f1 g1
    rw [cutO_from _ t0] at f2 g2
    rw [cost_rev] at g3
    have hc : costOf ((rows.map toLine).take cut.toNat) m + costOf ((rows.map toLine).drop cut.toNat) m = costOf (rows.map toLine) m := by
      rw [← cost_app, List.take_append_drop]
    refine ⟨s4, costOf (rows.map toLine) m + car, is_ok g4, ?_⟩
    refine loopN_eq (fun pre s => s = (pre.map fun r => pp (toLine r) m * r.x2).sum + car) (by simp) ?h ?g
    case g =>
      intro s e
      subst e
      have hd : (rows.map fun r => pp (toLine r) m * r.x2).sum = costOf (rows.map toLine) m := by
        unfold costOf
        rw [List.map_map]; rfl
      rw [hd, bindP, cutO_to _ t0, cutO_from _ t0, f1, bindP, f2, bindP, f3, bindP, f4, bindP, is_ok g4, is_ok g3, whole_ok, whole_ok, g1, g2]
      have hw : costOf ((rows.map toLine).take cut.toNat) m + car + (costOf ((rows.map toLine).drop cut.toNat) m + 0) = costOf (rows.map toLine) m + car := by omega
      rw [decide_eq_true hw, if_neg (by decide), appO_ok (by omega), bindP]
    intro pre r post s e hs
    subst hs
    have hr : r ∈ rows := by rw [e]; simp
    have g := hg r hr
    have m0 := g.m0
    have m1 := g.m1
    refine ⟨_, ?_, rfl⟩
    rw [List.map_append, List.sum_append, List.map_cons, List.map_nil, List.sum_cons, List.sum_nil]
    generalize (pre.map fun r => pp (toLine r) m * r.x2).sum = q
    by_cases h : (m && r.x3.isSome) = true
    · have hp : pp (toLine r) m = r.x3.getD 0 := if_pos h
      rw [if_pos h, hp]
      cases w : r.x3 with
      | none => rw [w, Option.isSome_none, Bool.and_false] at h; cases h
      | some v =>
        rw [bindP, mulO_r (by omega) (by omega), bindP, bindP, bindP]
        congr 1
        show _ = q + (v * r.x2 + 0) + car
        omega
    · have hp : pp (toLine r) m = r.x1 := if_neg h
      rw [if_neg h, hp, mulO_r (by omega) (by omega), bindP, bindP, bindP]
      congr 1
      omega
end Law
set_option Elab.async false
set_option linter.all false
set_option maxRecDepth 100000
set_option maxHeartbeats 4000000
namespace Law
open PySem PySem.Spec PyProof.Rows L2 T
theorem all_fin {P : Program} {w : World} {K : PySem.W.Frag} {mg : Str → Option Value} {fa : Addr} (h : ∃ fd : FuncData, (∀ (s : Shared) (v : Value), BindsTo s fd ⟨[v], []⟩ [("_law_script", v)]) ∧ ∀ base : Heap, K.In base → base.Ns mainGlobals mg → FnOk P w K mg base CX0 5 fa fd ["_law_script"] (lawsp K mg)) :
    ∃ fd : FuncData, (∀ (s : Shared) (v : Value), BindsTo s fd ⟨[v], []⟩ [("_law_script", v)]) ∧ ∀ base : Heap, K.In base → base.Ns mainGlobals mg → FnOk P w K mg base CX0 5 fa fd ["_law_script"] (T.spL K) := by
  obtain ⟨fd, h1, h2⟩ := h
  exact ⟨fd, h1, fun base a b => T.fin_bw law_true (h2 base a b)⟩
theorem walk {l : PySem.W.OpenLaw} {q : Program} {loose : List Str} {XP : (Str → Option Value) → Heap → Prop} {YP : World → Heap → Prop} {d : DefRec} {K : Params → PySem.W.Frag} (hn : l.most = some 63) (hdf : d.params.defaults = [])
    (hY : ∀ (w : World) (h : Heap), YP w h → (K w.params).In h)
    (F : ∀ (w : World) (mg : Str → Option Value) (fa : Addr) (h : Heap), (K w.params).In h → h.Ns mainGlobals mg → mg d.name = some (.ref fa) →
      ∃ fd : FuncData, (∀ (s : Shared) (u : Value), BindsTo s fd ⟨[u], []⟩ [("_law_script", u)]) ∧ ∀ base : Heap, (K w.params).In base → base.Ns mainGlobals mg → FnOk l.prog w (K w.params) mg base CX0 5 fa fd ["_law_script"] (T.spL (K w.params))) :
    PySem.W.WalkO q loose XP YP l.row.toRowW d [] (fun f vs => PySem.call f vs) :=
  L2.walk_of (n := 63) (k := 5) (x := "_law_script") (CX := fun _ => CX0) (sp := fun w => T.spL (K w.params)) hn (by decide) hdf ⟨rfl, by decide, by decide⟩ hY F (fun _ _ a ns hl _ hS => ⟨a, ns, rfl, hS, hl, fun _ => rfl⟩) fun _ _ _ _ _ z => z
end Law
open PySem PySem.W PyProof.Rows
set_option maxRecDepth 100000 in
set_option maxHeartbeats 0 in
theorem PySem.Challenge.cw_voucherstack_k07_whole_sums_holds : PySem.Challenge.rw_voucherstack_k07_whole_sums.Holds := by
  w_on; o_law; k_head; (case hw => w_witness2)
  k_fill
  refine Law.walk (l := PySem.Challenge.rw_voucherstack_k07_whole_sums) rfl rfl (fun w h Y => PySem.W.kIn_of Y) ?F
  case F =>
    intro w mg fa h KX G hmg
    refine' Law.all_fin (Law.all_mk (l := PySem.Challenge.rw_voucherstack_k07_whole_sums) KX G hmg ?a_Line ?pg_Line ?hd_Line ?po_Line ?sa_Line ?a_Basket ?pg_Basket ?hd_Basket ?po_Basket ?sa_Basket ?a_Standing ?pg_Standing ?hd_Standing ?po_Standing ?sa_Standing ?n_Basket_carriage ?n_Basket_lines ?n_Basket_member ?n_Line_kind ?n_Line_many ?n_Line_price ?n_Line_special ?n_Standing_carriage ?n_Standing_marked ?n_Standing_owners ?n_Standing_prices ?mi_Basket ?mm_Basket ?mf_Basket ?mk_Basket ?mi_Line ?mm_Line ?mf_Line ?mk_Line ?mi_Standing ?mm_Standing ?mf_Standing ?mk_Standing ?ma_Standing_Standing_whole ?mn_Standing_Standing_whole ?a_law_cell_at ?l_law_cell_at ?c_law_cell_at ?k_law_cell_at ?a_law_some ?l_law_some ?c_law_some ?k_law_some ?a_law_coin ?l_law_coin ?c_law_coin ?k_law_coin ?a_law_rows ?l_law_rows ?c_law_rows ?k_law_rows ?l_Line_init ?t_Line_init ?c_Line_init ?k_Line_init ?l_Basket_init ?t_Basket_init ?c_Basket_init ?k_Basket_init ?a_piece_price ?l_piece_price ?c_piece_price ?k_piece_price ?l_Standing_init ?c_Standing_init ?k_Standing_init ?l_Standing_whole ?c_Standing_whole ?k_Standing_whole ?a_law_is ?l_law_is ?c_law_is ?k_law_is ?a_law ?l_law ?c_law ?k_law ?z_all ?z_bool ?z_enumerate ?z_int ?z_isinstance ?z_len ?z_list ?z_min ?z_range ?z_reversed ?z_sum)
    (case a_Line => k_is); (case pg_Line => k_is); (case hd_Line => k_is); (case po_Line => k_is); (case sa_Line => k_is); (case a_Basket => k_is)
    (case pg_Basket => k_is); (case hd_Basket => k_is); (case po_Basket => k_is); (case sa_Basket => k_is); (case a_Standing => k_is); (case pg_Standing => k_is)
    (case hd_Standing => k_is); (case po_Standing => k_is); (case sa_Standing => k_is); (case n_Basket_carriage => k_is); (case n_Basket_lines => k_is); (case n_Basket_member => k_is)
    (case n_Line_kind => k_is); (case n_Line_many => k_is); (case n_Line_price => k_is); (case n_Line_special => k_is); (case n_Standing_carriage => k_is); (case n_Standing_marked => k_is)
    (case n_Standing_owners => k_is); (case n_Standing_prices => k_is); (case mi_Basket => k_is); (case mm_Basket => k_is); (case mf_Basket => k_is); (case mk_Basket => k_is)
    (case mi_Line => k_is); (case mm_Line => k_is); (case mf_Line => k_is); (case mk_Line => k_is); (case mi_Standing => k_is); (case mm_Standing => k_is)
    (case mf_Standing => k_is); (case mk_Standing => k_is); (case ma_Standing_Standing_whole => k_is); (case mn_Standing_Standing_whole => k_is); (case a_law_cell_at => k_is); (case l_law_cell_at => k_is)
    (case c_law_cell_at => k_is); (case k_law_cell_at => k_is); (case a_law_some => k_is); (case l_law_some => k_is); (case c_law_some => k_is); (case k_law_some => k_is)
    (case a_law_coin => k_is); (case l_law_coin => k_is); (case c_law_coin => k_is); (case k_law_coin => k_is); (case a_law_rows => k_is); (case l_law_rows => k_is)
    (case c_law_rows => k_is); (case k_law_rows => k_is); (case l_Line_init => k_is); (case t_Line_init => k_is); (case c_Line_init => k_is); (case k_Line_init => k_is)
    (case l_Basket_init => k_is); (case t_Basket_init => k_is); (case c_Basket_init => k_is); (case k_Basket_init => k_is); (case a_piece_price => k_is); (case l_piece_price => k_is)
    (case c_piece_price => k_is); (case k_piece_price => k_is); (case l_Standing_init => k_is); (case c_Standing_init => k_is); (case k_Standing_init => k_is); (case l_Standing_whole => k_is)
    (case c_Standing_whole => k_is); (case k_Standing_whole => k_is); (case a_law_is => k_is); (case l_law_is => k_is); (case c_law_is => k_is); (case k_law_is => k_is)
    (case a_law => k_is); (case l_law => k_is); (case c_law => k_is); (case k_law => k_is); (case z_all => k_is); (case z_bool => k_is)
    (case z_enumerate => k_is); (case z_int => k_is); (case z_isinstance => k_is); (case z_len => k_is); (case z_list => k_is); (case z_min => k_is)
    (case z_range => k_is); (case z_reversed => k_is); (case z_sum => k_is)
