import PyProof.Rows.All
import Wide.All
import OpenK.AllK
import Wide.FinOn
import HandS.ForMost
import HandS.Wide
import HandS.EndBits
import HandS.Defaults
import HandS.Lambda
import HandS.EndTab
import KE.Datum
import KE.DatumIndex
import HandS.IsInst
import HandS.Style
import HandS.ClsMeth
import HandS.Codes
import HandS.Rev
import HandS.Nested
import HandS.Conv
import HandS.SortKw
import KE.SortKeyHeap
import HandS.SetFor
import HandS.Strs
import HandS.MakeKw
import HandS.Zip
import PySem.Challenge.RW_voucherstack_k08_marks_and_sorts
set_option Elab.async false
set_option linter.all false
set_option maxRecDepth 100000
namespace T
open PySem PySem.Spec PyProof.Rows L2

/-! the module's facts; what is true of a value in the part of the heap that stays as it is -/
structure Gb where
  K : PySem.W.Frag
  mg : Str → Option Value
abbrev gb (X : Cx) : Gb := ⟨X.K, X.mg⟩
structure PR where
  p : Hp → V → Prop
  mono : ∀ {I I' : Hp} {v : V}, Same I I' → p I v → p I' v
structure PL where
  p : Hp → List V → Prop
  mono : ∀ {I I' : Hp} {vs : List V}, Same I I' → p I vs → p I' vs
class Py (α : Type) where
  r : Gb → α → PR

theorem seqT {K : PySem.W.Frag} {H H' : Hp} {a : Addr} {xs : List V} (e : Same H H') (h : SqT K H a xs) : SqT K H' a xs := by
  rcases h with (h | ⟨o, h⟩) | h
  · exact .inl (.inl (e _ _ h))
  · exact .inl (.inr ⟨o, e _ _ h⟩)
  · exact .inr h
theorem same_new {H : Hp} {p : Addr} {o : HO} (h : H p = none) : Same H (upd H p o) := fun b x e => by
  rw [upd_ne (ne_of_none e h)]
  exact e

/-- items, one by one; no more than a list may hold -/
def rl {α : Type} [Py α] (g : Gb) (as : List α) : PL where
  p := fun I vs => as.length ≤ sizeLine ∧ Paired (fun a v => (Py.r g a).p I v) as vs
  mono := fun s h => ⟨h.1, L2.Paired.mapP h.2 fun _ _ q => (Py.r g _).mono s q⟩
theorem rl_len {α : Type} [Py α] {g : Gb} {as : List α} {I : Hp} {vs : List V} (h : (rl g as).p I vs) : vs.length = as.length := (Paired.length h.2).symm

section
variable {α β γ δ : Type} [Py α] [Py β] [Py γ] [Py δ]
instance : Py Int := ⟨fun _ i => ⟨fun _ v => v = .int i, fun _ h => h⟩⟩
instance : Py Bool := ⟨fun _ i => ⟨fun _ v => v = .bl i, fun _ h => h⟩⟩
instance : Py Str := ⟨fun _ i => ⟨fun _ v => v = .str i, fun _ h => h⟩⟩
instance : Py Unit := ⟨fun _ _ => ⟨fun _ v => v = .non, fun _ h => h⟩⟩
def rOpt (g : Gb) : Option α → PR
  | none => ⟨fun _ v => v = .non, fun _ h => h⟩
  | some a => Py.r g a
instance : Py (Option α) := ⟨rOpt⟩
def rLst (g : Gb) (as : List α) : PR where
  p := fun I v => ∃ l vs, v = .ref l ∧ SqL g.K I l vs ∧ (rl g as).p I vs
  mono := fun s ⟨l, vs, e, h, q⟩ => ⟨l, vs, e, s.seq h, (rl g as).mono s q⟩
instance : Py (List α) := ⟨rLst⟩
end
structure T2 (α β : Type) where
  x0 : α
  x1 : β
  deriving DecidableEq
structure T3 (α β γ : Type) where
  x0 : α
  x1 : β
  x2 : γ
  deriving DecidableEq
structure T4 (α β γ δ : Type) where
  x0 : α
  x1 : β
  x2 : γ
  x3 : δ
  deriving DecidableEq
section
variable {α β γ δ : Type} [Py α] [Py β] [Py γ] [Py δ]
instance : Py (T2 α β) := ⟨fun g t => ⟨fun I v => ∃ p a b, v = .ref p ∧ SqT g.K I p [a, b] ∧ (Py.r g t.x0).p I a ∧ (Py.r g t.x1).p I b,
  fun s ⟨p, a, b, e, h, q1, q2⟩ => ⟨p, a, b, e, seqT s h, (Py.r g _).mono s q1, (Py.r g _).mono s q2⟩⟩⟩
instance : Py (T3 α β γ) := ⟨fun g t => ⟨fun I v => ∃ p a b c, v = .ref p ∧ SqT g.K I p [a, b, c] ∧ (Py.r g t.x0).p I a ∧ (Py.r g t.x1).p I b ∧ (Py.r g t.x2).p I c,
  fun s ⟨p, a, b, c, e, h, q1, q2, q3⟩ => ⟨p, a, b, c, e, seqT s h, (Py.r g _).mono s q1, (Py.r g _).mono s q2, (Py.r g _).mono s q3⟩⟩⟩
instance : Py (T4 α β γ δ) := ⟨fun g t => ⟨fun I v => ∃ p a b c d, v = .ref p ∧ SqT g.K I p [a, b, c, d] ∧ (Py.r g t.x0).p I a ∧ (Py.r g t.x1).p I b ∧ (Py.r g t.x2).p I c ∧ (Py.r g t.x3).p I d,
  fun s ⟨p, a, b, c, d, e, h, q1, q2, q3, q4⟩ => ⟨p, a, b, c, d, e, seqT s h, (Py.r g _).mono s q1, (Py.r g _).mono s q2, (Py.r g _).mono s q3, (Py.r g _).mono s q4⟩⟩⟩
end

/-- a thing owned: by the part that stays, a fragment of the heap of its own, and its value -/
structure OR where
  p : Hp → Hp → V → Prop
  mono : ∀ {I I' F : Hp} {v : V}, Same I I' → p I F v → p I' F v
/-! kinds of values: a thing that stays (im), a new list of one's own (fr), a list of the caller's (bw), a list as it stands now (rd); an owned thing (ow), the caller's (bo), as it stands now (ro) -/
inductive RK where
  | im (p : PR) | fr (q : PL) | bw (q : PL) | rd (q : PL) | ow (o : OR)
def RK.holds (g : Gb) : RK → Hp → V → Hp → Hp → Prop
  | .im p, _, v, I', _ => p.p I' v
  | .fr q, H, v, I', H' => ∃ l vs, v = .ref l ∧ H l = none ∧ I' l = none ∧ H' l = some (.lst vs) ∧ q.p I' vs
  | .bw q, H, v, I', _ => ∃ l vs, v = .ref l ∧ SqL g.K H l vs ∧ q.p I' vs
  | .rd q, _, v, I', H' => ∃ l vs, v = .ref l ∧ SqL g.K H' l vs ∧ q.p I' vs
  | .ow o, H, v, I', H' => ∃ F : Hp, (∀ a, F a ≠ none → H a = none ∧ I' a = none) ∧ Same F H' ∧ o.p I' F v
/-- two parts of the heap together, the second one ahead -/
def Un (I F : Hp) : Hp := fun a => match F a with
  | some o => some o
  | none => I a
theorem un_none {I F : Hp} {a : Addr} (h : F a = none) : Un I F a = I a := by unfold Un; rw [h]
theorem un_r {I F : Hp} {a : Addr} {o : HO} (h : F a = some o) : Un I F a = some o := by unfold Un; rw [h]
theorem un_some {I F : Hp} {a : Addr} {o : HO} (h : Un I F a = some o) : F a = some o ∨ (F a = none ∧ I a = some o) := by
  unfold Un at h
  cases e : F a with
  | none => rw [e] at h; exact .inr ⟨rfl, h⟩
  | some u => rw [e] at h; exact .inl h
theorem un_l {I F : Hp} (h : ∀ a, F a ≠ none → I a = none) : Same I (Un I F) := fun a o e => by
  rw [un_none]
  · exact e
  · cases q : F a with
    | none => rfl
    | some u =>
      have := h a (by rw [q]; simp)
      rw [this] at e; cases e
theorem un_s {I F : Hp} : Same F (Un I F) := fun a o e => un_r e
/-- the tables of code objects that may grow, with the names of what they hold -/
class TabsC where
  T : List (Addr × Str)
variable [TabsC]
def nt : HO → Bool
  | .tbl _ => false
  | _ => true
def Tbs (H : Hp) : Prop := ∀ p ∈ TabsC.T, LamX.TabS H p.1 p.2
/-- the same heap but for more objects, and tables that grew -/
structure SW (H H' : Hp) : Prop where
  k : ∀ b o, H b = some o → H' b = some o ∨ (nt o = false ∧ ∃ p ∈ TabsC.T, p.1 = b)
  f : ∀ b, H' b = none → H b = none
  t : Tbs H → Tbs H'
theorem SW.get {H H' : Hp} (s : SW H H') (b : Addr) (o : HO) (e : H b = some o) (hn : nt o = true := by rfl) : H' b = some o := by
  rcases s.k b o e with h | ⟨h, _⟩
  · exact h
  · rw [hn] at h; cases h
theorem SW.of {H H' : Hp} (s : Same H H') : SW H H' := ⟨fun b o e => .inl (s b o e), fun b e => s.free e, fun t p hp => (t p hp).ext s⟩
instance {H H' : Hp} : Coe (Same H H') (SW H H') := ⟨SW.of⟩
theorem SW.refl (H : Hp) : SW H H := SW.of (Same.refl H)
theorem SW.free {H H' : Hp} (s : SW H H') {l : Addr} (h : H' l = none) : H l = none := s.f l h
theorem SW.trans {H H1 H2 : Hp} (a : SW H H1) (b : SW H1 H2) : SW H H2 := ⟨fun c o e => by
  rcases a.k c o e with h | h
  · exact b.k c o h
  · exact .inr h, fun c e => a.f c (b.f c e), fun t => b.t (a.t t)⟩
theorem SW.seq {K : PySem.W.Frag} {H H' : Hp} {a : Addr} {xs : List V} (e : SW H H') (h : SqL K H a xs) : SqL K H' a xs := by
  rcases h with (h | ⟨o, h⟩) | h
  · exact .inl (.inl (e.get _ _ h))
  · exact .inl (.inr ⟨o, e.get _ _ h⟩)
  · exact .inr h
theorem SW.at_ {H H' : Hp} (s : SW H H') {b : Addr} {o : HO} (e : H b = some o) (hT : ∀ p ∈ TabsC.T, p.1 ≠ b) : H' b = some o := by
  rcases s.k b o e with h | ⟨_, p, hp, h⟩
  · exact h
  · exact absurd h (hT p hp)
/-- a part of the heap without tables stays -/
theorem SW.part {F H H' : Hp} (s : SW H H') (h : Same F H) (hT : ∀ p ∈ TabsC.T, F p.1 = none) : Same F H' := fun a o e => s.at_ (h a o e) fun p hp z => by
  rw [← z, hT p hp] at e; cases e
theorem Tbs.ne {H : Hp} (t : Tbs H) {p : Addr × Str} (hp : p ∈ TabsC.T) : H p.1 ≠ none := by
  obtain ⟨ps, h, _⟩ := t p hp
  rw [h]; simp
def HasT (H : Hp) : Prop := ∀ p ∈ TabsC.T, H p.1 ≠ none
/-- the heap grows: I what stays as it is, H all -/
structure Ext (I H I' H' : Hp) : Prop where
  i : Same I I'
  h : SW H H'
  s : Same I' H'
  n : ∀ l, H l ≠ none → I l = none → I' l = none
theorem Ext.refl {I H : Hp} (s : Same I H) : Ext I H I H := ⟨Same.refl _, SW.refl _, s, fun _ _ h => h⟩
theorem Ext.trans {I H I1 H1 I2 H2 : Hp} (a : Ext I H I1 H1) (b : Ext I1 H1 I2 H2) : Ext I H I2 H2 :=
  ⟨a.i.trans b.i, a.h.trans b.h, b.s, fun l h1 h2 => b.n l (fun z => h1 (a.h.free z)) (a.n l h1 h2)⟩
theorem ne_of_some {H : Hp} {a : Addr} {o : HO} (h : H a = some o) : H a ≠ none := by rw [h]; simp
theorem same_ne {F H : Hp} (s : Same F H) {a : Addr} (h : F a ≠ none) : H a ≠ none := by
  cases e : F a with
  | none => exact absurd e h
  | some o => exact ne_of_some (s _ _ e)
theorem RK.ext {g : Gb} {k : RK} {H : Hp} {v : V} {I1 H1 I2 H2 : Hp} (h : RK.holds g k H v I1 H1) (x : Ext I1 H1 I2 H2) (hT : HasT H) : RK.holds g k H v I2 H2 := by
  cases k with
  | im p => exact p.mono x.i h
  | fr q =>
    obtain ⟨l, vs, e, h1, h2, h3, h4⟩ := h
    exact ⟨l, vs, e, h1, x.n l (by rw [h3]; simp) h2, x.h.get _ _ h3, q.mono x.i h4⟩
  | bw q =>
    obtain ⟨l, vs, e, h1, h4⟩ := h
    exact ⟨l, vs, e, h1, q.mono x.i h4⟩
  | rd q =>
    obtain ⟨l, vs, e, h1, h4⟩ := h
    exact ⟨l, vs, e, x.h.seq h1, q.mono x.i h4⟩
  | ow o =>
    obtain ⟨F, h1, h2, h3⟩ := h
    refine ⟨F, fun a ha => ⟨(h1 a ha).1, x.n a (same_ne h2 ha) (h1 a ha).2⟩, x.h.part h2 fun p hp => ?_, o.mono x.i h3⟩
    cases e : F p.1 with
    | none => rfl
    | some u => exact absurd (h1 p.1 (ne_of_some e)).1 (hT p hp)
/-- borrowed kinds are seen from where they are borrowed -/
def RK.isB : RK → Bool
  | .bw _ => true
  | _ => false
/-- seen from an earlier heap (of a borrowed list: no) -/
theorem RK.back {g : Gb} {k : RK} {H0 H : Hp} {v : V} {I' H' : Hp} (hb : k.isB = false) (s : SW H0 H) (h : RK.holds g k H v I' H') : RK.holds g k H0 v I' H' := by
  cases k with
  | im p => exact h
  | fr q =>
    obtain ⟨l, vs, e, h1, h2, h3, h4⟩ := h
    exact ⟨l, vs, e, s.free h1, h2, h3, h4⟩
  | bw q => cases hb
  | rd q => exact h
  | ow o =>
    obtain ⟨F, h1, h2, h3⟩ := h
    exact ⟨F, fun a ha => ⟨s.free (h1 a ha).1, (h1 a ha).2⟩, h2, h3⟩

/-! the state: what is known of each slot; slots of kinds fr, ow own a fragment -/
structure Bs where
  I : Hp
  H : Hp
abbrev SL := List (Option RK)
/-- a slot's value, F its own fragment -/
def RK.inS (g : Gb) : RK → Hp → V → Hp → Hp → Prop
  | .im p, _, v, I, _ => p.p I v
  | .fr q, _, v, I, F => ∃ l vs, v = .ref l ∧ F l = some (.lst vs) ∧ q.p I vs
  | .bw q, H, v, I, _ => ∃ l vs, v = .ref l ∧ SqL g.K H l vs ∧ q.p I vs
  | .rd _, _, _, _, _ => False
  | .ow o, _, v, I, F => o.p I F v
theorem RK.inS_mono {g : Gb} {k : RK} {H : Hp} {v : V} {I I' F : Hp} (s : Same I I') (h : RK.inS g k H v I F) : RK.inS g k H v I' F := by
  cases k with
  | im p => exact p.mono s h
  | fr q =>
    obtain ⟨l, vs, e, h3, h4⟩ := h
    exact ⟨l, vs, e, h3, q.mono s h4⟩
  | bw q =>
    obtain ⟨l, vs, e, h1, h4⟩ := h
    exact ⟨l, vs, e, h1, q.mono s h4⟩
  | rd q => exact h
  | ow o => exact o.mono s h
/-- the tables: known, none of what stays or is owned -/
structure TbH (BH I H : Hp) : Prop where
  t : Tbs H
  b : HasT BH
  i : ∀ p ∈ TabsC.T, I p.1 = none
def TbI (I H : Hp) : Prop := Tbs H ∧ ∀ p ∈ TabsC.T, I p.1 = none
theorem TbH.of {I H : Hp} (t : TbI I H) : TbH H I H := ⟨t.1, fun _ hp => t.1.ne hp, t.2⟩
theorem TbH.un {BH I H F : Hp} (t : TbH BH I H) (hF : ∀ p ∈ TabsC.T, F p.1 = none) : TbH BH (Un I F) H := ⟨t.t, t.b, fun p hp => by rw [un_none (hF p hp)]; exact t.i p hp⟩
theorem TbH.to {BH I H : Hp} (t : TbH BH I H) : TbI I H := ⟨t.t, t.i⟩
theorem Tbs.keep {H H' : Hp} (t : Tbs H) (hP : ∀ p ∈ TabsC.T, ∀ o, H p.1 = some o → H' p.1 = some o) (hx : ∀ a f, H a = some (.ext f) → H' a = some (.ext f)) : Tbs H' := fun p hp => by
  obtain ⟨ps, h1, h2, h3⟩ := t p hp
  refine ⟨ps, hP p hp _ h1, h2, fun pos cv hc => ?_⟩
  obtain ⟨c, e1, e2⟩ := h3 pos cv hc
  exact ⟨c, e1, hx _ _ e2⟩
/-- all of the base that was there still is -/
theorem SW.kept {BH H H' : Hp} (b : SW BH H) (t : Tbs H') (keep : ∀ a o o', BH a = some o → H a = some o' → H' a = some o') : SW BH H' := by
  refine ⟨fun a o e => ?_, fun a e => ?_, fun _ => t⟩
  · rcases b.k a o e with h | h
    · exact .inl (keep a o o e h)
    · exact .inr h
  · cases q : BH a with
    | none => rfl
    | some o =>
      cases q2 : H a with
      | none => rw [b.f a q2] at q; cases q
      | some o' => rw [keep a o o' q q2] at e; cases e
/-- a list that the base has not, written -/
theorem SW.put {H H' : Hp} {l : Addr} {ob : HO} {ws : List V} (s : SW H H') (h : H l = none) (h' : H' l = some (.lst ws)) : SW H (upd H' l ob) := by
  refine ⟨fun a o e => ?_, fun a e => ?_, fun t => (s.t t).keep (fun p hp o e => ?_) fun a f e => ?_⟩
  · rw [upd_ne (ne_of_none e h)]
    exact s.k a o e
  · by_cases ha : a = l
    · rw [ha]; exact h
    · rw [upd_ne ha] at e; exact s.f a e
  · rw [upd_ne (fun z => t.ne hp (by rw [z]; exact h))]; exact e
  · rw [upd_ne (fun z => by rw [z, h'] at e; cases e)]; exact e
theorem frag_noT {F H I : Hp} (hT : HasT H) (f : ∀ a, F a ≠ none → H a = none ∧ I a = none) : ∀ p ∈ TabsC.T, F p.1 = none := fun p hp => by
  cases e : F p.1 with
  | none => rfl
  | some u => exact absurd (f p.1 (ne_of_some e)).1 (hT p hp)
def nx : HO → Bool
  | .ext _ => false
  | _ => true
structure HoldF (g : Gb) (B : Bs) (S : SL) (σ : L2.St) (I H : Hp) (Φ : Nat → Hp) : Prop where
  len : σ.length = S.length
  sub : Same I H
  base : SW B.H H
  tb : TbH B.H I H
  at_ : ∀ (i : Nat) (k : RK), S[i]? = some (some k) → ∃ v, σ[i]? = some (some v) ∧ RK.inS g k B.H v I (Φ i)
  fr : ∀ (i : Nat) (a : Addr) (o : HO), Φ i a = some o → H a = some o ∧ I a = none ∧ B.H a = none
  dj : ∀ (i j : Nat) (a : Addr), Φ i a ≠ none → Φ j a ≠ none → i = j
def Hold (g : Gb) (B : Bs) (S : SL) (σ : L2.St) (I H : Hp) : Prop := ∃ Φ, HoldF g B S σ I H Φ
section
variable {g : Gb} {B : Bs} {S : SL} {σ : L2.St} {I H I' H' : Hp} {Φ : Nat → Hp}
theorem HoldF.ne (h : HoldF g B S σ I H Φ) {i : Nat} {a : Addr} (e : Φ i a ≠ none) : H a ≠ none ∧ I a = none ∧ B.H a = none := by
  cases q : Φ i a with
  | none => exact absurd q e
  | some o =>
    obtain ⟨h1, h2⟩ := h.fr i a o q
    exact ⟨ne_of_some h1, h2⟩
theorem Hold.len (h : Hold g B S σ I H) : σ.length = S.length := h.elim fun _ h => h.len
theorem Hold.sub (h : Hold g B S σ I H) : Same I H := h.elim fun _ h => h.sub
theorem Hold.base (h : Hold g B S σ I H) : SW B.H H := h.elim fun _ h => h.base
theorem Hold.tb (h : Hold g B S σ I H) : TbH B.H I H := h.elim fun _ h => h.tb
theorem TbH.ext {BH : Hp} (t : TbH BH I H) (x : Ext I H I' H') : TbH BH I' H' := ⟨x.h.t t.t, t.b, fun p hp => x.n _ (t.t.ne hp) (t.i p hp)⟩
theorem TbH.has {BH : Hp} (t : TbH BH I H) : HasT H := fun p hp => t.t.ne hp
theorem HoldF.noT (h : HoldF g B S σ I H Φ) (i : Nat) : ∀ p ∈ TabsC.T, Φ i p.1 = none := fun p hp => by
  cases e : Φ i p.1 with
  | none => rfl
  | some u => exact absurd (h.fr i _ u e).2.2 (h.tb.b p hp)
theorem Hold.at_ (h : Hold g B S σ I H) (i : Nat) (k : RK) (e : S[i]? = some (some k)) : ∃ v, σ[i]? = some (some v) ∧ RK.holds g k B.H v I H := by
  obtain ⟨Φ, h⟩ := h
  obtain ⟨v, e1, q⟩ := h.at_ i k e
  refine ⟨v, e1, ?_⟩
  cases k with
  | im p => exact q
  | fr p =>
    obtain ⟨l, vs, e3, h3, h4⟩ := q
    obtain ⟨f1, f2, f3⟩ := h.fr i l _ h3
    exact ⟨l, vs, e3, f3, f2, f1, h4⟩
  | bw p => exact q
  | rd p => exact q.elim
  | ow o => exact ⟨Φ i, fun a ha => ⟨(h.ne ha).2.2, (h.ne ha).2.1⟩, fun a o e => (h.fr i a o e).1, q⟩
theorem HoldF.ext (h : HoldF g B S σ I H Φ) (x : Ext I H I' H') : HoldF g B S σ I' H' Φ :=
  ⟨h.len, x.s, h.base.trans x.h, h.tb.ext x, fun i k e => let ⟨v, e1, q⟩ := h.at_ i k e; ⟨v, e1, RK.inS_mono x.i q⟩, fun i a o e => let ⟨h1, h2, h3⟩ := h.fr i a o e; ⟨x.h.at_ h1 (fun p hp z => by rw [← z, h.noT i p hp] at e; cases e), x.n a (ne_of_some h1) h2, h3⟩, h.dj⟩
theorem Hold.ext (h : Hold g B S σ I H) (x : Ext I H I' H') : Hold g B S σ I' H' := h.elim fun Φ h => ⟨Φ, h.ext x⟩
end
def RK.slotty : RK → Bool
  | .im _ => true
  | .fr _ => true
  | .ow _ => true
  | _ => false
theorem set_some {α : Type} {l : List α} {i j : Nat} {x y : α} (h : (l.set i x)[j]? = some y) : (i = j ∧ x = y ∧ i < l.length) ∨ (i ≠ j ∧ l[j]? = some y) := by
  by_cases hj : i = j
  · subst hj
    have hi : i < l.length := by
      have := (List.getElem?_eq_some_iff.mp h).1
      rwa [List.length_set] at this
    rw [List.getElem?_set_self hi] at h
    exact .inl ⟨rfl, Option.some.inj h, hi⟩
  · rw [List.getElem?_set_ne hj] at h
    exact .inr ⟨hj, h⟩
/-- a single object -/
def one1 (l : Addr) (o : HO) : Hp := fun a => if a = l then some o else none
theorem one1_same {l : Addr} {o : HO} : one1 l o l = some o := if_pos rfl
theorem one1_ne {l a : Addr} {o : HO} (h : one1 l o a ≠ none) : a = l := by
  unfold one1 at h
  by_cases e : a = l
  · exact e
  · rw [if_neg e] at h; exact absurd rfl h
theorem one1_some {l a : Addr} {o u : HO} (h : one1 l o a = some u) : a = l ∧ u = o := by
  have e := one1_ne (ne_of_some h)
  subst e
  rw [one1_same] at h
  exact ⟨rfl, (Option.some.inj h).symm⟩
/-- what a value brings along -/
theorem RK.frag {g : Gb} {k : RK} {H : Hp} {v : V} {I' H' : Hp} (hk : k.slotty = true) (h : RK.holds g k H v I' H') : ∃ F : Hp, (∀ a, F a ≠ none → H a = none ∧ I' a = none) ∧ Same F H' ∧ ∀ B, RK.inS g k B v I' F := by
  cases k with
  | im p => exact ⟨fun _ => none, fun a z => absurd rfl z, fun _ _ z => (by cases z), fun _ => h⟩
  | fr q =>
    obtain ⟨l, vs, e, h1, h2, h3, h4⟩ := h
    refine ⟨one1 l (.lst vs), fun a ha => ?_, fun a o e => ?_, fun _ => ⟨l, vs, e, one1_same, h4⟩⟩
    · rw [one1_ne ha]; exact ⟨h1, h2⟩
    · obtain ⟨e1, e2⟩ := one1_some e
      rw [e1, e2]; exact h3
  | bw q => cases hk
  | rd q => cases hk
  | ow o =>
    obtain ⟨F, h1, h2, h3⟩ := h
    exact ⟨F, h1, h2, fun _ => h3⟩
/-- the fragments with another one at i -/
def putF (Φ : Nat → Hp) (i : Nat) (F : Hp) : Nat → Hp := fun j => if j = i then F else Φ j
theorem putF_same {Φ : Nat → Hp} {i : Nat} {F : Hp} : putF Φ i F i = F := if_pos rfl
theorem putF_ne {Φ : Nat → Hp} {i j : Nat} {F : Hp} (h : j ≠ i) : putF Φ i F j = Φ j := if_neg h
/-- a value goes to a slot -/
theorem HoldF.set {g : Gb} {B : Bs} {S : SL} {σ : L2.St} {I H : Hp} {Φ : Nat → Hp} {i : Nat} {k : RK} {v : V} {F : Hp} (h : HoldF g B S σ I H Φ) (hv : RK.inS g k B.H v I F) (hF : Same F H) (hn : ∀ a, F a ≠ none → I a = none ∧ B.H a = none) (hd : ∀ j a, j ≠ i → F a ≠ none → Φ j a = none) :
    HoldF g B (S.set i (some k)) (σ.set i (some v)) I H (putF Φ i F) := by
  refine ⟨by rw [List.length_set, List.length_set, h.len], h.sub, h.base, h.tb, fun j k' e => ?_, fun j a o e => ?_, fun j l a hj hl => ?_⟩
  · rcases set_some e with ⟨a, b, c⟩ | ⟨a, b⟩
    · subst a
      cases b
      exact ⟨v, List.getElem?_set_self (by rw [h.len]; exact c), by rw [putF_same]; exact hv⟩
    · obtain ⟨u, e1, q⟩ := h.at_ j k' b
      exact ⟨u, by rw [List.getElem?_set_ne a]; exact e1, by rw [putF_ne (fun z => a z.symm)]; exact q⟩
  · by_cases hji : j = i
    · rw [hji, putF_same] at e
      exact ⟨hF _ _ e, hn a (ne_of_some e)⟩
    · rw [putF_ne hji] at e
      exact h.fr j a o e
  · by_cases hji : j = i
    · by_cases hli : l = i
      · rw [hji, hli]
      · rw [hji, putF_same] at hj
        rw [putF_ne hli] at hl
        exact absurd (hd l a hli hj) hl
    · by_cases hli : l = i
      · rw [hli, putF_same] at hl
        rw [putF_ne hji] at hj
        exact absurd (hd j a hji hl) hj
      · rw [putF_ne hji] at hj
        rw [putF_ne hli] at hl
        exact h.dj j l a hj hl
theorem Hold.put {g : Gb} {B : Bs} {S : SL} {σ : L2.St} {I H I' H' : Hp} {i : Nat} {k : RK} {v : V} (h : Hold g B S σ I H) (x : Ext I H I' H') (hk : k.slotty = true) (hv : RK.holds g k H v I' H') : Hold g B (S.set i (some k)) (σ.set i (some v)) I' H' := by
  obtain ⟨Φ, h⟩ := h
  obtain ⟨F, f1, f2, f3⟩ := RK.frag hk hv
  refine ⟨putF Φ i F, (h.ext x).set (f3 _) f2 (fun a ha => ⟨(f1 a ha).2, h.base.free (f1 a ha).1⟩) fun j a _ ha => ?_⟩
  cases q : Φ j a with
  | none => rfl
  | some o => exact absurd (f1 a ha).1 (ne_of_some (h.fr j a o q).1)
end T
set_option Elab.async false
set_option linter.all false
set_option maxRecDepth 100000
namespace T
variable [TabsC]
open PySem PySem.Spec PyProof.Rows L2

/-! judgements: an expression's value, a test's answer, an argument list -/
def rdE (g : Gb) (B : Bs) (S : SL) (k : RK) : TE := fun σ H Q => ∃ I, Hold g B S σ I H ∧ ∀ v I' H', Ext I H I' H' → RK.holds g k H v I' H' → Q v H'
structure ME {α : Type} (X : Cx) (g : Gb) (B : Bs) (S : SL) (e : Expr) (m : Option α) (k : α → RK) : Prop where
  run : ∀ a, m = some a → PE X e (rdE g B S (k a))
def rdT (g : Gb) (B : Bs) (S : SL) (b : Bool) : TT := fun σ H Q => ∃ I, Hold g B S σ I H ∧ ∀ I' H', Ext I H I' H' → Q b H'
structure MT (X : Cx) (g : Gb) (B : Bs) (S : SL) (e : Expr) (m : Option Bool) : Prop where
  run : ∀ b, m = some b → PT X e (rdT g B S b)
structure MW (X : Cx) (g : Gb) (B : Bs) (S : SL) (e : Expr) (m : Option Bool) : Prop where
  run : ∀ b, m = some b → PW X e (rdT g B S b)
theorem pe_imp {X : Cx} {e : Expr} {t t' : TE} (h : PE X e t) (f : ∀ σ H Q, t' σ H Q → t σ H Q) : PE X e t' := ⟨fun pins s σ H Q I hw => h.run pins s σ H Q I (f σ H Q hw)⟩
theorem pt_imp {X : Cx} {e : Expr} {t t' : TT} (h : PT X e t) (f : ∀ σ H Q, t' σ H Q → t σ H Q) : PT X e t' := ⟨fun pins s σ H Q I hw => h.run pins s σ H Q I (f σ H Q hw)⟩
theorem pw_imp {X : Cx} {e : Expr} {t t' : TT} (h : PW X e t) (f : ∀ σ H Q, t' σ H Q → t σ H Q) : PW X e t' := ⟨fun wh pins s σ H Q I hw => h.run wh pins s σ H Q I (f σ H Q hw)⟩
theorem bind_some {α β : Type} {m : Option α} {f : α → Option β} {b : β} (h : (m >>= f) = some b) : ∃ a, m = some a ∧ f a = some b := by
  cases m with
  | none => cases h
  | some a => exact ⟨a, rfl, h⟩
theorem ME.eq {α : Type} {X : Cx} {g : Gb} {B : Bs} {S : SL} {e : Expr} {m m' : Option α} {k : α → RK} (h : ME X g B S e m k) (q : m = m') : ME X g B S e m' k := q ▸ h
theorem MT.eq {X : Cx} {g : Gb} {B : Bs} {S : SL} {e : Expr} {m m' : Option Bool} (h : MT X g B S e m) (q : m = m') : MT X g B S e m' := q ▸ h

/-- a list that can be read -/
def LR {α : Type} [Py α] (g : Gb) (k : List α → RK) : Prop := ∀ xs H v I' H', Same I' H' → RK.holds g (k xs) H v I' H' → ∃ l vs, v = .ref l ∧ SqL g.K H' l vs ∧ (rl g xs).p I' vs
section
variable {α β γ δ : Type} [Py α] [Py β] [Py γ] [Py δ] {g : Gb}
theorem lr_im : LR (α := α) g (fun xs => .im (Py.r g xs)) := fun xs H v I' H' s h => by
  obtain ⟨l, vs, e, h1, h2⟩ := h
  exact ⟨l, vs, e, s.seq h1, h2⟩
theorem lr_fr : LR (α := α) g (fun xs => .fr (rl g xs)) := fun xs H v I' H' s h => by
  obtain ⟨l, vs, e, _, _, h1, h2⟩ := h
  exact ⟨l, vs, e, SqL.of h1, h2⟩
theorem lr_rd : LR (α := α) g (fun xs => .rd (rl g xs)) := fun xs H v I' H' s h => h
end
theorem vals_ints {g : Gb} {I : Hp} : ∀ {ns : List Int} {vs : List V}, Paired (fun a v => (Py.r g a).p I v) ns vs → vs = ns.map V.int
  | _, _, .nil => rfl
  | _, _, .cons (a := a) h t => by
    have e : _ = V.int a := h
    rw [e, List.map_cons, vals_ints t]
theorem vals_bls {g : Gb} {I : Hp} : ∀ {ns : List Bool} {vs : List V}, Paired (fun a v => (Py.r g a).p I v) ns vs → vs = ns.map V.bl
  | _, _, .nil => rfl
  | _, _, .cons (a := a) h t => by
    have e : _ = V.bl a := h
    rw [e, List.map_cons, vals_bls t]
theorem paired_get {α β : Type} {F : α → β → Prop} : ∀ {l₁ : List α} {l₂ : List β}, Paired F l₁ l₂ → ∀ {i : Nat} {a : α}, l₁[i]? = some a → ∃ b, l₂[i]? = some b ∧ F a b
  | _, _, .nil, i, a, h => by simp at h
  | _, _, .cons h t, 0, a, e => by
    cases e
    exact ⟨_, rfl, h⟩
  | _, _, .cons h t, i + 1, a, e => paired_get t (i := i) (by simpa using e)
theorem paired_get' {α β : Type} {F : α → β → Prop} : ∀ {l₁ : List α} {l₂ : List β}, Paired F l₁ l₂ → ∀ {i : Nat} {b : β}, l₂[i]? = some b → ∃ a, l₁[i]? = some a ∧ F a b
  | _, _, .nil, i, a, h => by simp at h
  | _, _, .cons h t, 0, a, e => by
    cases e
    exact ⟨_, rfl, h⟩
  | _, _, .cons h t, i + 1, a, e => paired_get' t (i := i) (by simpa using e)
theorem paired_app {α β : Type} {F : α → β → Prop} : ∀ {a : List α} {b : List β} {c : List α} {d : List β}, Paired F a b → Paired F c d → Paired F (a ++ c) (b ++ d)
  | _, _, _, _, .nil, h => h
  | _, _, _, _, .cons x t, h => .cons x (paired_app t h)
theorem paired_take {α β : Type} {F : α → β → Prop} : ∀ {a : List α} {b : List β} (n : Nat), Paired F a b → Paired F (a.take n) (b.take n)
  | _, _, 0, _ => .nil
  | _, _, _ + 1, .nil => .nil
  | _, _, n + 1, .cons x t => .cons x (paired_take n t)
theorem paired_drop {α β : Type} {F : α → β → Prop} : ∀ {a : List α} {b : List β} (n : Nat), Paired F a b → Paired F (a.drop n) (b.drop n)
  | _, _, 0, h => h
  | _, _, _ + 1, .nil => .nil
  | _, _, n + 1, .cons x t => paired_drop n t
theorem paired_set {α β : Type} {F : α → β → Prop} {x : α} {y : β} (h : F x y) : ∀ {a : List α} {b : List β} (n : Nat), Paired F a b → Paired F (a.set n x) (b.set n y)
  | _, _, _, .nil => .nil
  | _, _, 0, .cons _ t => .cons h t
  | _, _, n + 1, .cons z t => .cons z (paired_set h n t)
theorem paired_rev {α β : Type} {F : α → β → Prop} : ∀ {a : List α} {b : List β}, Paired F a b → Paired F a.reverse b.reverse
  | _, _, .nil => .nil
  | _, _, .cons x t => by
    rw [List.reverse_cons, List.reverse_cons]
    exact paired_app (paired_rev t) (.cons x .nil)
theorem paired_rep {α β : Type} {F : α → β → Prop} {a : List α} {b : List β} (h : Paired F a b) : ∀ n : Nat, Paired F (List.replicate n a).flatten (List.replicate n b).flatten
  | 0 => .nil
  | n + 1 => by
    rw [List.replicate_succ, List.replicate_succ, List.flatten_cons, List.flatten_cons]
    exact paired_app h (paired_rep h n)
theorem atI_ix {α : Type} {xs : List α} {i : Int} {v : α} (h : atI xs i = some v) : ∃ j, ixN xs.length i = some j ∧ xs[j]? = some v := by
  unfold atI at h
  cases e : ixN xs.length i with
  | none => rw [e] at h; cases h
  | some j => rw [e] at h; exact ⟨j, rfl, h⟩
theorem paired_at {α β : Type} {F : α → β → Prop} {l₁ : List α} {l₂ : List β} (h : Paired F l₁ l₂) {i : Int} {a : α} (e : atI l₁ i = some a) : ∃ b, atI l₂ i = some b ∧ F a b := by
  obtain ⟨j, e1, e2⟩ := atI_ix e
  obtain ⟨b, e3, q⟩ := paired_get h e2
  refine ⟨b, ?_, q⟩
  unfold atI
  rw [← Paired.length h, e1]
  exact e3

/-- the item at a place, counted from the end below 0 -/
@[irreducible] def atO {α : Type} (xs : List α) (i : Int) : Option α := atI xs i
theorem atO_eq {α : Type} (xs : List α) (i : Int) : atO xs i = atI xs i := by unfold atO; rfl

section
variable {X : Cx} {g : Gb} {B : Bs} {S : SL} {e e1 e2 e3 : Expr} {pos pos' : Pos} {α β γ δ : Type} [Py α] [Py β] [Py γ] [Py δ]

/-! names, constants -/
theorem me_var (i : Nat) {x : Str} {a : α} (hS : S[i]? = some (some (.im (Py.r g a))) := by rfl) (hN : X.N[i]? = some x := by rfl) (hv : Vis X.env.scope x := by first | exact Or.inl rfl | exact Or.inr (Or.inl rfl) | exact Or.inr (Or.inr rfl))
    (hd : (x == ("__debug__" : Str)) = false := by decide) (hcd : (x == ("__classdict__" : Str)) = false := by decide) : ME X g B S (.Name x pos) (some a) (fun a => .im (Py.r g a)) := by
  refine ⟨fun a' e => ?_⟩
  cases e
  refine pe_imp (pe_var hN hv hd hcd) fun σ H Q ⟨I, h, q⟩ => ?_
  obtain ⟨v, e1, h1⟩ := h.at_ i _ hS
  exact ⟨v, e1, q v I H (Ext.refl h.sub) h1⟩
/-- an owned list, seen -/
theorem me_own (i : Nat) {x : Str} {as : List α} (hS : S[i]? = some (some (.fr (rl g as))) := by rfl) (hN : X.N[i]? = some x := by rfl) (hv : Vis X.env.scope x := by first | exact Or.inl rfl | exact Or.inr (Or.inl rfl) | exact Or.inr (Or.inr rfl))
    (hd : (x == ("__debug__" : Str)) = false := by decide) (hcd : (x == ("__classdict__" : Str)) = false := by decide) : ME X g B S (.Name x pos) (some as) (fun as => .rd (rl g as)) := by
  refine ⟨fun a' e => ?_⟩
  cases e
  refine pe_imp (pe_var hN hv hd hcd) fun σ H Q ⟨I, h, q⟩ => ?_
  obtain ⟨v, e1, l, vs, e2, _, _, h3, h4⟩ := h.at_ i _ hS
  exact ⟨v, e1, q v I H (Ext.refl h.sub) ⟨l, vs, e2, SqL.of h3, h4⟩⟩
/-- a borrowed list, seen -/
theorem me_bor (i : Nat) {x : Str} {as : List α} (hS : S[i]? = some (some (.bw (rl g as))) := by rfl) (hN : X.N[i]? = some x := by rfl) (hv : Vis X.env.scope x := by first | exact Or.inl rfl | exact Or.inr (Or.inl rfl) | exact Or.inr (Or.inr rfl))
    (hd : (x == ("__debug__" : Str)) = false := by decide) (hcd : (x == ("__classdict__" : Str)) = false := by decide) : ME X g B S (.Name x pos) (some as) (fun as => .rd (rl g as)) := by
  refine ⟨fun a' e => ?_⟩
  cases e
  refine pe_imp (pe_var hN hv hd hcd) fun σ H Q ⟨I, h, q⟩ => ?_
  obtain ⟨v, e1, l, vs, e2, h3, h4⟩ := h.at_ i _ hS
  exact ⟨v, e1, q v I H (Ext.refl h.sub) ⟨l, vs, e2, h.base.seq h3, h4⟩⟩
theorem me_c {v : V} {a : α} (h : PE X e (tC v)) (hv : ∀ I, (Py.r g a).p I v) : ME X g B S e (some a) (fun a => .im (Py.r g a)) := by
  refine ⟨fun a' e => ?_⟩
  cases e
  exact pe_imp h fun σ H Q ⟨I, h, q⟩ => q v I H (Ext.refl h.sub) (hv I)
theorem me_int {i j} : ME X g B S (.Constant (.int i) j pos) (some i) (fun a => .im (Py.r g a)) := me_c pe_int fun _ => rfl
theorem me_bl {b j} : ME X g B S (.Constant (.bool b) j pos) (some b) (fun a => .im (Py.r g a)) := me_c pe_bl fun _ => rfl
theorem me_str {x j} : ME X g B S (.Constant (.str x) j pos) (some x) (fun a => .im (Py.r g a)) := me_c pe_str fun _ => rfl
theorem me_non {j} : ME X g B S (.Constant .none j pos) (some (none : Option α)) (fun a => .im (Py.r g a)) := me_c pe_non fun _ => rfl
theorem me_unit {j} : ME X g B S (.Constant .none j pos) (some ()) (fun a => .im (Py.r g a)) := me_c pe_non fun _ => rfl
/-- a thing as one that may be None; one that is not -/
theorem me_some {m : Option α} (h : ME X g B S e m (fun a => .im (Py.r g a))) : ME X g B S e (m >>= fun a => some (some a)) (fun a => .im (Py.r g a)) := by
  refine ⟨fun a q => ?_⟩
  obtain ⟨b, e1, e2⟩ := bind_some q
  cases e2
  exact h.run b e1
theorem me_get {m : Option (Option α)} (h : ME X g B S e m (fun a => .im (Py.r g a))) : ME X g B S e (m >>= fun a => a) (fun a => .im (Py.r g a)) := by
  refine ⟨fun a q => ?_⟩
  obtain ⟨b, e1, e2⟩ := bind_some q
  subst e2
  exact h.run _ e1
/-- a new list is let go: it stays as it is from here on -/
theorem me_frz {m : Option (List α)} (h : ME X g B S e m (fun a => .fr (rl g a))) : ME X g B S e m (fun a => .im (Py.r g a)) := by
  refine ⟨fun a q => pe_imp (h.run a q) fun σ H Q ⟨I, hh, k⟩ => ⟨I, hh, fun v I' H' x hv => ?_⟩⟩
  obtain ⟨l, vs, rfl, h1, h2, h3, h4⟩ := hv
  refine k _ (upd I' l (.lst vs)) H' ⟨x.i.trans (same_new h2), x.h, fun b o e => ?_, fun b n1 n2 => ?_⟩ ⟨l, vs, rfl, SqL.of upd_same, (rl g a).mono (same_new h2) h4⟩
  · by_cases hb : b = l
    · subst hb
      rw [upd_same] at e
      cases e
      exact h3
    · rw [upd_ne hb] at e
      exact x.s _ _ e
  · have hb : b ≠ l := fun z => n1 (z ▸ h1)
    rw [upd_ne hb]
    exact x.n b n1 n2

/-! two operands -/
theorem me_bin {op : Operator} {r : R2} {a' b' c' : Type} {m1 : Option a'} {m2 : Option b'} {f : a' → b' → Option c'} {k1 : a' → RK} {k2 : b' → RK} {k : c' → RK} (ho : OpR X (binaryOp op) r) (h1 : ME X g B S e1 m1 k1) (h2 : ME X g B S e2 m2 k2)
    (hr : ∀ a b c, f a b = some c → ∀ v w I H H0 H1 Q, Same I H → RK.holds g (k1 a) H0 v I H → RK.holds g (k2 b) H1 w I H → (∀ u I' H', Ext I H I' H' → RK.holds g (k c) H u I' H' → Q u H') → r v w H Q)
    (hb : ∀ c, (k c).isB = false := by intro _; rfl) : ME X g B S (.BinOp e1 op e2 pos) (m1 >>= fun a => m2 >>= fun b => f a b) k := by
  refine ⟨fun c q => ?_⟩
  obtain ⟨a, q1, q⟩ := bind_some q
  obtain ⟨b, q2, q⟩ := bind_some q
  refine pe_imp (pe_op ho (h1.run a q1) (h2.run b q2)) fun σ H Q ⟨I, hh, kk⟩ => ⟨I, hh, fun v I1 H1 x1 v1 => ⟨I1, hh.ext x1, fun w I2 H2 x2 v2 => ?_⟩⟩
  exact hr a b c q v w I2 H2 _ _ Q x2.s (RK.ext v1 x2 hh.tb.has) v2 fun u I3 H3 x3 v3 => kk u I3 H3 ((x1.trans x2).trans x3) (RK.back (hb c) (x1.trans x2).h v3)
/-- a comparison: as a value and as a test -/
structure MC (X : Cx) (g : Gb) (B : Bs) (S : SL) (e : Expr) (m : Option Bool) : Prop where
  run : ∀ c, m = some c → ∃ t : TE, PE X e t ∧ PT X e (tTest t) ∧ ∀ σ H Q, rdE g B S (.im (Py.r g c)) σ H Q → t σ H Q
theorem me_cm {m : Option Bool} (h : MC X g B S e m) : ME X g B S e m (fun c => .im (Py.r g c)) := ⟨fun c q => by
  obtain ⟨t, h1, _, h3⟩ := h.run c q
  exact pe_imp h1 h3⟩
theorem mt_cm {m : Option Bool} (h : MC X g B S e m) : MT X g B S e m := ⟨fun c q => by
  obtain ⟨t, _, h2, h3⟩ := h.run c q
  exact pt_imp h2 fun σ H Q ⟨I, hh, k⟩ => h3 σ H _ ⟨I, hh, fun v I' H' x hv => ⟨c, hv, k I' H' x⟩⟩⟩
theorem MC.eq {m m' : Option Bool} (h : MC X g B S e m) (q : m = m') : MC X g B S e m' := q ▸ h
theorem mc_cmp {op : CmpOp} {r : R2} {a' b' : Type} {m1 : Option a'} {m2 : Option b'} {f : a' → b' → Option Bool} {k1 : a' → RK} {k2 : b' → RK} (ho : OpR X (compareOp op) r) (h1 : ME X g B S e1 m1 k1) (h2 : ME X g B S e2 m2 k2)
    (hr : ∀ a b c, f a b = some c → ∀ v w I H H0 H1 Q, Same I H → RK.holds g (k1 a) H0 v I H → RK.holds g (k2 b) H1 w I H → (∀ u I' H', Ext I H I' H' → RK.holds g (.im (Py.r g c)) H u I' H' → Q u H') → r v w H Q)
    (hm : behindInMarks op e2 = false := by first | exact nomark _ | rfl) : MC X g B S (.Compare e1 [op] [e2] pos) (m1 >>= fun a => m2 >>= fun b => f a b) := by
  refine ⟨fun c q => ?_⟩
  obtain ⟨a, q1, q⟩ := bind_some q
  obtain ⟨b, q2, q⟩ := bind_some q
  refine ⟨_, pe_cmpR ho (h1.run a q1) (h2.run b q2) hm, pt_cmpR ho (h1.run a q1) (h2.run b q2) hm, fun σ H Q ⟨I, hh, kk⟩ => ⟨I, hh, fun v I1 H1 x1 v1 => ⟨I1, hh.ext x1, fun w I2 H2 x2 v2 => ?_⟩⟩⟩
  exact hr a b c q v w I2 H2 _ _ Q x2.s (RK.ext v1 x2 hh.tb.has) v2 fun u I3 H3 x3 v3 => kk u I3 H3 ((x1.trans x2).trans x3) v3
variable {m m1 : Option Int} {m2 : Option Int}
abbrev KI (g : Gb) {α : Type} [Py α] : α → RK := fun a => .im (Py.r g a)
/-- ints -/
theorem me_i0 {op : Operator} {f : Int → Int → Int} (ho : OpR X (binaryOp op) (rI0 fun i j => .int (f i j))) (h1 : ME X g B S e1 m1 (KI g)) (h2 : ME X g B S e2 m2 (KI g)) :
    ME X g B S (.BinOp e1 op e2 pos) (m1 >>= fun a => m2 >>= fun b => some (f a b)) (KI g) :=
  me_bin ho h1 h2 fun a b c q v w I H H0 H1 Q s v1 v2 k => by
    cases q
    exact ⟨a, b, v1, v2, k _ _ _ (Ext.refl s) rfl⟩
theorem me_i1 {op : Operator} {f : Int → Int → Int} {C : Int → Int → Prop} {D : Int → Int → Bool} (ho : OpR X (binaryOp op) (rI C fun i j => .int (f i j))) (hD : ∀ i j, D i j = true → C i j) (h1 : ME X g B S e1 m1 (KI g)) (h2 : ME X g B S e2 m2 (KI g)) :
    ME X g B S (.BinOp e1 op e2 pos) (m1 >>= fun a => m2 >>= fun b => if D a b = true then some (f a b) else none) (KI g) :=
  me_bin ho h1 h2 fun a b c q v w I H H0 H1 Q s v1 v2 k => by
    by_cases hd : D a b = true
    · rw [if_pos hd] at q
      cases q
      exact ⟨a, b, v1, v2, hD _ _ hd, k _ _ _ (Ext.refl s) rfl⟩
    · rw [if_neg hd] at q
      cases q
theorem me_add (h1 : ME X g B S e1 m1 (KI g)) (h2 : ME X g B S e2 m2 (KI g)) : ME X g B S (.BinOp e1 .Add e2 pos) (m1 >>= fun a => m2 >>= fun b => some (a + b)) (KI g) := me_i0 op_add h1 h2
theorem me_sub (h1 : ME X g B S e1 m1 (KI g)) (h2 : ME X g B S e2 m2 (KI g)) : ME X g B S (.BinOp e1 .Sub e2 pos) (m1 >>= fun a => m2 >>= fun b => some (a - b)) (KI g) := me_i0 op_sub h1 h2
end
/-- a product that can be reckoned -/
def mulOk (i j : Int) : Bool := decide (-(2 ^ 64) < i ∧ i < 2 ^ 64) || decide (-(2 ^ 64) < j ∧ j < 2 ^ 64) || decide (i.natAbs.log2 + j.natAbs.log2 < 1000000)
def divOk (_ j : Int) : Bool := decide (0 < j ∧ j.natAbs.log2 < 9000)
def modOk (_ j : Int) : Bool := decide (0 < j)
@[irreducible] def mulO (i j : Int) : Option Int := if mulOk i j = true then some (i * j) else none
theorem mulO_eq (i j : Int) : mulO i j = if mulOk i j = true then some (i * j) else none := by unfold mulO; rfl
@[irreducible] def divO (i j : Int) : Option Int := if divOk i j = true then some (i / j) else none
theorem divO_eq (i j : Int) : divO i j = if divOk i j = true then some (i / j) else none := by unfold divO; rfl
@[irreducible] def modO (i j : Int) : Option Int := if modOk i j = true then some (i % j) else none
theorem modO_eq (i j : Int) : modO i j = if modOk i j = true then some (i % j) else none := by unfold modO; rfl
section
variable {X : Cx} {g : Gb} {B : Bs} {S : SL} {e e1 e2 e3 : Expr} {pos pos' : Pos} {α β γ δ : Type} [Py α] [Py β] [Py γ] [Py δ] {m m1 m2 : Option Int}
theorem op_mulT : OpR X (binaryOp .Mult) (rI (fun i j => mulOk i j = true) fun i j => .int (i * j)) := opI fun i j _ _ _ _ _ hc q => mul_int q (by
  unfold mulOk at hc
  rw [Bool.or_eq_true, Bool.or_eq_true, decide_eq_true_eq, decide_eq_true_eq, decide_eq_true_eq] at hc
  rcases hc with (h | h) | h
  · exact CMul.ok (.inl h)
  · exact CMul.ok (.inr h)
  · exact CMulW.ok h)
theorem me_mul (h1 : ME X g B S e1 m1 (KI g)) (h2 : ME X g B S e2 m2 (KI g)) : ME X g B S (.BinOp e1 .Mult e2 pos) (m1 >>= fun a => m2 >>= fun b => mulO a b) (KI g) := (me_i1 op_mulT (fun _ _ h => h) h1 h2).eq (by simp only [mulO_eq])
theorem me_div (h1 : ME X g B S e1 m1 (KI g)) (h2 : ME X g B S e2 m2 (KI g)) : ME X g B S (.BinOp e1 .FloorDiv e2 pos) (m1 >>= fun a => m2 >>= fun b => divO a b) (KI g) := (me_i1 op_fdivW (fun i j h => by have q : 0 < j ∧ j.natAbs.log2 < 9000 := of_decide_eq_true h; exact q) h1 h2 (D := divOk)).eq (by simp only [divO_eq])
theorem me_mod (h1 : ME X g B S e1 m1 (KI g)) (h2 : ME X g B S e2 m2 (KI g)) : ME X g B S (.BinOp e1 .Mod e2 pos) (m1 >>= fun a => m2 >>= fun b => modO a b) (KI g) := (me_i1 op_mod (fun _ _ h => of_decide_eq_true h) h1 h2 (D := modOk)).eq (by simp only [modO_eq])
/-- by a written number -/
theorem me_mulC {n : Int} (hn : decide (-(2 ^ 64) < n ∧ n < 2 ^ 64) = true) (h1 : ME X g B S e1 m1 (KI g)) (h2 : ME X g B S e2 (some n) (KI g)) : ME X g B S (.BinOp e1 .Mult e2 pos) (m1 >>= fun a => some (a * n)) (KI g) := by
  refine (me_mul h1 h2).eq ?_
  cases m1 with
  | none => rfl
  | some a =>
    show mulO a n = some (a * n)
    rw [mulO_eq, if_pos (by unfold mulOk; rw [hn]; simp)]
theorem me_mulD {n : Int} (hn : decide (-(2 ^ 64) < n ∧ n < 2 ^ 64) = true) (h1 : ME X g B S e1 (some n) (KI g)) (h2 : ME X g B S e2 m2 (KI g)) : ME X g B S (.BinOp e1 .Mult e2 pos) (m2 >>= fun a => some (n * a)) (KI g) := by
  refine (me_mul h1 h2).eq ?_
  cases m2 with
  | none => rfl
  | some a =>
    show mulO n a = some (n * a)
    rw [mulO_eq, if_pos (by unfold mulOk; rw [hn]; simp)]
theorem me_divC {n : Int} (hn : divOk 0 n = true) (h1 : ME X g B S e1 m1 (KI g)) (h2 : ME X g B S e2 (some n) (KI g)) : ME X g B S (.BinOp e1 .FloorDiv e2 pos) (m1 >>= fun a => some (a / n)) (KI g) := by
  refine (me_div h1 h2).eq ?_
  cases m1 with
  | none => rfl
  | some a =>
    show divO a n = some (a / n)
    rw [divO_eq, if_pos (show divOk a n = true from hn)]
theorem me_modC {n : Int} (hn : modOk 0 n = true) (h1 : ME X g B S e1 m1 (KI g)) (h2 : ME X g B S e2 (some n) (KI g)) : ME X g B S (.BinOp e1 .Mod e2 pos) (m1 >>= fun a => some (a % n)) (KI g) := by
  refine (me_mod h1 h2).eq ?_
  cases m1 with
  | none => rfl
  | some a =>
    show modO a n = some (a % n)
    rw [modO_eq, if_pos (show modOk a n = true from hn)]
theorem me_neg (h1 : ME X g B S e1 m1 (KI g)) : ME X g B S (.UnaryOp .USub e1 pos) (m1 >>= fun a => some (-a)) (KI g) := by
  refine ⟨fun c q => ?_⟩
  obtain ⟨a, q1, q⟩ := bind_some q
  cases q
  refine pe_imp (pe_un un_neg (h1.run a q1)) fun σ H Q ⟨I, hh, kk⟩ => ⟨I, hh, fun v I1 H1 x1 v1 => ⟨a, v1, kk _ I1 H1 x1 rfl⟩⟩
/-- comparisons of ints -/
theorem mc_ci {op : CmpOp} {f : Int → Int → Bool} (ho : OpR X (compareOp op) (rI0 fun i j => .bl (f i j))) (h1 : ME X g B S e1 m1 (KI g)) (h2 : ME X g B S e2 m2 (KI g)) (hm : behindInMarks op e2 = false) :
    MC X g B S (.Compare e1 [op] [e2] pos) (m1 >>= fun a => m2 >>= fun b => some (f a b)) :=
  mc_cmp ho h1 h2 (fun a b c q v w I H H0 H1 Q s v1 v2 k => by
    cases q
    exact ⟨a, b, v1, v2, k _ _ _ (Ext.refl s) rfl⟩) hm
theorem mc_lt (h1 : ME X g B S e1 m1 (KI g)) (h2 : ME X g B S e2 m2 (KI g)) : MC X g B S (.Compare e1 [.Lt] [e2] pos) (m1 >>= fun a => m2 >>= fun b => some (decide (a < b))) := mc_ci op_lt h1 h2 (nomark _)
theorem mc_le (h1 : ME X g B S e1 m1 (KI g)) (h2 : ME X g B S e2 m2 (KI g)) : MC X g B S (.Compare e1 [.LtE] [e2] pos) (m1 >>= fun a => m2 >>= fun b => some (decide (a ≤ b))) := mc_ci op_le h1 h2 (nomark _)
theorem mc_gt (h1 : ME X g B S e1 m1 (KI g)) (h2 : ME X g B S e2 m2 (KI g)) : MC X g B S (.Compare e1 [.Gt] [e2] pos) (m1 >>= fun a => m2 >>= fun b => some (decide (b < a))) := mc_ci op_gt h1 h2 (nomark _)
theorem mc_ge (h1 : ME X g B S e1 m1 (KI g)) (h2 : ME X g B S e2 m2 (KI g)) : MC X g B S (.Compare e1 [.GtE] [e2] pos) (m1 >>= fun a => m2 >>= fun b => some (decide (b ≤ a))) := mc_ci op_ge h1 h2 (nomark _)
end
end T
set_option Elab.async false
set_option linter.all false
set_option maxRecDepth 100000
namespace T
variable [TabsC]
open PySem PySem.Spec PyProof.Rows L2

/-! data that == reads: PySem.W.Datum, and how it stands in the abstract heap -/
class Pd (α : Type) [Py α] [DecidableEq α] extends PySem.W.Datum α where
  dp : ∀ {g : Gb} {a : α} {I : Hp} {v : V}, (Py.r g a).p I v → Dp g.K I v (toD a)
instance : Pd Int where
  dp := fun h => by cases h; exact .int _
instance : Pd Bool where
  dp := fun h => by cases h; exact .bl _
instance : Pd Str where
  dp := fun h => by cases h; exact .str _
instance : Pd Unit where
  dp := fun h => by cases h; exact .non
theorem dp_mono {K : PySem.W.Frag} {H H' : Hp} (s : Same H H') : ∀ {d : PyData} {v : V}, Dp K H v d → Dp K H' v d := by
  intro d
  refine PyData.rec (motive_1 := fun d => ∀ {v : V}, Dp K H v d → Dp K H' v d) (motive_2 := fun ds => ∀ {vs : List V}, DpAll K H vs ds → DpAll K H' vs ds) (motive_3 := fun _ => True) (motive_4 := fun _ => True)
    ?_ ?_ ?_ ?_ ?_ ?_ ?_ ?_ ?_ ?_ ?_ ?_ d
  · intro v h; cases h; exact .non
  · intro b v h; cases h; exact .bl _
  · intro b v h; cases h; exact .int _
  · intro b v h; cases h; exact .str _
  · intro xs ih v h
    cases h with
    | lst h1 h2 => exact .lst (s.seq h1) (ih h2)
  · intro xs ih v h
    cases h with
    | tup h1 h2 => exact .tup (seqT s h1) (ih h2)
  · intro kvs _ v h; cases h
  · intro vs h; cases h; exact .nil
  · intro x xs i1 i2 vs h
    cases h with
    | cons h1 h2 => exact .cons (i1 h1) (i2 h2)
  · trivial
  · intros; trivial
  · intros; trivial
section
variable {α β γ δ : Type} [Py α] [Py β] [Py γ] [Py δ] [DecidableEq α] [DecidableEq β] [DecidableEq γ] [DecidableEq δ] [Pd α] [Pd β] [Pd γ] [Pd δ]
open PySem.W
theorem dp_all {g : Gb} {I : Hp} : ∀ {as : List α} {vs : List V}, Paired (fun a v => (Py.r g a).p I v) as vs → DpAll g.K I vs (as.map Datum.toD)
  | _, _, .nil => .nil
  | _, _, .cons h t => .cons (Pd.dp h) (dp_all t)
theorem plain_all : ∀ as : List α, PyData.plainAll (as.map Datum.toD) = true
  | [] => rfl
  | a :: as => by
    show (PyData.plain (Datum.toD a) && PyData.plainAll (as.map Datum.toD)) = true
    rw [Datum.plain a, plain_all as]; rfl
theorem depth_all : ∀ as : List α, PyData.depthAll (as.map Datum.toD) ≤ Datum.depth α
  | [] => Nat.zero_le _
  | a :: as => by
    show max (PyData.depth (Datum.toD a)) (PyData.depthAll (as.map Datum.toD)) ≤ _
    exact Nat.max_le.mpr ⟨Datum.depth_le a, depth_all as⟩
theorem eqv_all : ∀ as bs : List α, PyData.eqvAll (as.map Datum.toD) (bs.map Datum.toD) = decide (as = bs)
  | [], [] => rfl
  | [], b :: bs => by
    rw [decide_eq_false (by intro z; cases z)]; rfl
  | a :: as, [] => by
    rw [decide_eq_false (by intro z; cases z)]; rfl
  | a :: as, b :: bs => by
    show (PyData.eqv (Datum.toD a) (Datum.toD b) && PyData.eqvAll (as.map Datum.toD) (bs.map Datum.toD)) = _
    rw [Datum.eqv, eqv_all as bs, Bool.eq_iff_iff]
    simp
instance : Pd (List α) where
  dp := fun {g a I v} h => by
    obtain ⟨l, vs, rfl, h1, h2⟩ := h
    exact .lst h1 (dp_all h2.2)
instance : Datum (T2 α β) where
  toD := fun t => .tuple [Datum.toD t.x0, Datum.toD t.x1]
  plain := fun t => by simp [PyData.plain, PyData.plainAll, Datum.plain]
  eqv := fun a b => by
    obtain ⟨a0, a1⟩ := a
    obtain ⟨b0, b1⟩ := b
    rw [Bool.eq_iff_iff]
    simp [PyData.eqv, PyData.eqvAll, Datum.eqv]
  depth := max (Datum.depth α) (Datum.depth β) + 1
  depth_le := fun t => by
    have h0 := Datum.depth_le t.x0
    have h1 := Datum.depth_le t.x1
    simp only [PyData.depth, PyData.depthAll]
    omega
instance : Pd (T2 α β) where
  dp := fun {g a I v} h => by
    obtain ⟨p, x, y, rfl, h0, h1, h2⟩ := h
    exact .tup h0 (.cons (Pd.dp h1) (.cons (Pd.dp h2) .nil))
instance : Datum (T3 α β γ) where
  toD := fun t => .tuple [Datum.toD t.x0, Datum.toD t.x1, Datum.toD t.x2]
  plain := fun t => by simp [PyData.plain, PyData.plainAll, Datum.plain]
  eqv := fun a b => by
    obtain ⟨a0, a1, a2⟩ := a
    obtain ⟨b0, b1, b2⟩ := b
    rw [Bool.eq_iff_iff]
    simp [PyData.eqv, PyData.eqvAll, Datum.eqv]
  depth := max (Datum.depth α) (max (Datum.depth β) (Datum.depth γ)) + 1
  depth_le := fun t => by
    have h0 := Datum.depth_le t.x0
    have h1 := Datum.depth_le t.x1
    have h2 := Datum.depth_le t.x2
    simp only [PyData.depth, PyData.depthAll]
    omega
instance : Pd (T3 α β γ) where
  dp := fun {g a I v} h => by
    obtain ⟨p, x, y, z, rfl, h0, h1, h2, h3⟩ := h
    exact .tup h0 (.cons (Pd.dp h1) (.cons (Pd.dp h2) (.cons (Pd.dp h3) .nil)))
instance : Datum (T4 α β γ δ) where
  toD := fun t => .tuple [Datum.toD t.x0, Datum.toD t.x1, Datum.toD t.x2, Datum.toD t.x3]
  plain := fun t => by simp [PyData.plain, PyData.plainAll, Datum.plain]
  eqv := fun a b => by
    obtain ⟨a0, a1, a2, a3⟩ := a
    obtain ⟨b0, b1, b2, b3⟩ := b
    rw [Bool.eq_iff_iff]
    simp [PyData.eqv, PyData.eqvAll, Datum.eqv]
  depth := max (Datum.depth α) (max (Datum.depth β) (max (Datum.depth γ) (Datum.depth δ))) + 1
  depth_le := fun t => by
    have h0 := Datum.depth_le t.x0
    have h1 := Datum.depth_le t.x1
    have h2 := Datum.depth_le t.x2
    have h3 := Datum.depth_le t.x3
    simp only [PyData.depth, PyData.depthAll]
    omega
instance : Pd (T4 α β γ δ) where
  dp := fun {g a I v} h => by
    obtain ⟨p, x, y, z, w, rfl, h0, h1, h2, h3, h4⟩ := h
    exact .tup h0 (.cons (Pd.dp h1) (.cons (Pd.dp h2) (.cons (Pd.dp h3) (.cons (Pd.dp h4) .nil))))
end
/-- what is never None -/
class NN (α : Type) [Py α] [DecidableEq α] [Pd α] : Prop where
  nn : ∀ a : α, PyData.eqv .none (PySem.W.Datum.toD a) = false ∧ PyData.eqv (PySem.W.Datum.toD a) .none = false
instance : NN Int := ⟨fun _ => ⟨rfl, rfl⟩⟩
instance : NN Bool := ⟨fun _ => ⟨rfl, rfl⟩⟩
instance : NN Str := ⟨fun _ => ⟨rfl, rfl⟩⟩
section
variable {α β γ δ : Type} [Py α] [Py β] [Py γ] [Py δ] [DecidableEq α] [DecidableEq β] [DecidableEq γ] [DecidableEq δ] [Pd α] [Pd β] [Pd γ] [Pd δ]
open PySem.W
instance : NN (List α) := ⟨fun _ => ⟨rfl, rfl⟩⟩
instance : NN (T2 α β) := ⟨fun _ => ⟨rfl, rfl⟩⟩
instance : NN (T3 α β γ) := ⟨fun _ => ⟨rfl, rfl⟩⟩
instance : NN (T4 α β γ δ) := ⟨fun _ => ⟨rfl, rfl⟩⟩
instance [NN α] : Datum (Option α) where
  toD := fun o => match o with | none => .none | some a => Datum.toD a
  plain := fun o => by
    cases o with
    | none => rfl
    | some a => exact Datum.plain a
  eqv := fun a b => by
    cases a with
    | none =>
      cases b with
      | none => rfl
      | some b =>
        rw [decide_eq_false (by intro z; cases z)]
        exact (NN.nn b).1
    | some a =>
      cases b with
      | none =>
        rw [decide_eq_false (by intro z; cases z)]
        exact (NN.nn a).2
      | some b =>
        show PyData.eqv (Datum.toD a) (Datum.toD b) = _
        rw [Datum.eqv, Bool.eq_iff_iff]
        simp
  depth := Datum.depth α
  depth_le := fun o => by
    cases o with
    | none => exact Nat.zero_le _
    | some a => exact Datum.depth_le a
instance [NN α] : Pd (Option α) where
  dp := fun {g a I v} h => by
    cases a with
    | none => cases h; exact .non
    | some a => exact Pd.dp (α := α) h
end
section
variable {X : Cx}
open PySem.W PySem.SeqAt
def rEqP (K : PySem.W.Frag) : R2 := fun x y H Q => ∃ d e, Dp K H x d ∧ Dp K H y e ∧ d.plain = true ∧ e.plain = true ∧ d.depth ≤ 64 ∧ Q (.bl (PyData.eqv d e)) H
def rNeP (K : PySem.W.Frag) : R2 := fun x y H Q => ∃ d e, Dp K H x d ∧ Dp K H y e ∧ d.plain = true ∧ e.plain = true ∧ d.depth ≤ 64 ∧ Q (.bl (!PyData.eqv d e)) H
theorem op_eqP (hu : X.A.units + 64 < cLine) : OpR X (compareOp .Eq) (rEqP X.K) := by
  intro pins s σ H x y v u Q I rx ry h
  obtain ⟨d, e, hd, he, sd, se, dd, q⟩ := h
  obtain ⟨as, r1⟩ := Dp.reads I d x v hd rx
  obtain ⟨bs, r2⟩ := Dp.reads I e y u he ry
  exact eq_plain r1 r2 sd se (by have := Nat.min_le_left d.depth e.depth; omega) ⟨.bl _, H, I, rfl, q⟩
theorem op_neP (hu : X.A.units + 64 < cLine) : OpR X (compareOp .NotEq) (rNeP X.K) := by
  intro pins s σ H x y v u Q I rx ry h
  obtain ⟨d, e, hd, he, sd, se, dd, q⟩ := h
  obtain ⟨as, r1⟩ := Dp.reads I d x v hd rx
  obtain ⟨bs, r2⟩ := Dp.reads I e y u he ry
  exact ne_plain r1 r2 sd se (by have := Nat.min_le_left d.depth e.depth; omega) ⟨.bl _, H, I, rfl, q⟩
def rInP (K : PySem.W.Frag) (neg : Bool) : R2 := fun x y H Q => ∃ d ds, Dp K H x d ∧ (Dp K H y (.list ds) ∨ Dp K H y (.tuple ds)) ∧ d.plain = true ∧ PyData.plainAll ds = true ∧ d.depth ≤ 62 ∧ Q (.bl (if neg then !(ds.any fun y => PyData.eqv y d) else ds.any fun y => PyData.eqv y d)) H
theorem op_inP (hu : X.A.units + 64 < cLine) : OpR X (compareOp .In) (rInP X.K false) := by
  intro pins s σ H x y v u Q I rx ry h
  obtain ⟨d, ds, hd, he, sd, se, dd, q⟩ := h
  obtain ⟨as, r1⟩ := Dp.reads I d x v hd rx
  rcases he with he | he
  · obtain ⟨bs, r2⟩ := Dp.reads I _ y u he ry
    exact in_list_data r2 r1 se sd (by have := Nat.min_le_right (PyData.depthAll ds) d.depth; omega) ⟨.bl _, H, I, rfl, q⟩
  · obtain ⟨bs, r2⟩ := Dp.reads I _ y u he ry
    exact in_tuple_data r2 r1 se sd (by have := Nat.min_le_right (PyData.depthAll ds) d.depth; omega) ⟨.bl _, H, I, rfl, q⟩
theorem op_niP (hu : X.A.units + 64 < cLine) : OpR X (compareOp .NotIn) (rInP X.K true) := by
  intro pins s σ H x y v u Q I rx ry h
  obtain ⟨d, ds, hd, he, sd, se, dd, q⟩ := h
  obtain ⟨as, r1⟩ := Dp.reads I d x v hd rx
  rcases he with he | he
  · obtain ⟨bs, r2⟩ := Dp.reads I _ y u he ry
    exact notIn_list_data r2 r1 se sd (by have := Nat.min_le_right (PyData.depthAll ds) d.depth; omega) ⟨.bl _, H, I, rfl, q⟩
  · obtain ⟨bs, r2⟩ := Dp.reads I _ y u he ry
    exact notIn_tuple_data r2 r1 se sd (by have := Nat.min_le_right (PyData.depthAll ds) d.depth; omega) ⟨.bl _, H, I, rfl, q⟩
end
/-- the left and the right operand of == read as data: kinds im and lists -/
def DR {α : Type} [Py α] [DecidableEq α] [Pd α] (g : Gb) (k : α → RK) : Prop := ∀ a H v I' H', Same I' H' → RK.holds g (k a) H v I' H' → Dp g.K H' v (PySem.W.Datum.toD a)
section
variable {α β : Type} [Py α] [DecidableEq α] [Pd α] [Py β] [DecidableEq β] [Pd β] {g : Gb}
open PySem.W
theorem dr_im : DR (α := α) g (fun a => .im (Py.r g a)) := fun a H v I' H' s h => dp_mono s (Pd.dp h)
theorem dr_lr {k : List α → RK} (h : LR g k) : DR g k := fun a H v I' H' s q => by
  obtain ⟨l, vs, rfl, h1, h2⟩ := h a H v I' H' s q
  exact .lst h1 (dp_all ((rl g a).mono s h2).2)
variable {X : Cx} {B : Bs} {S : SL} {e e1 e2 e3 : Expr} {pos pos' : Pos} {m1 m2 : Option α} {k1 k2 : α → RK}
theorem mc_eq (hu : X.A.units + 64 < cLine) (hd : Datum.depth α ≤ 64) (h1 : ME X g B S e1 m1 k1) (h2 : ME X g B S e2 m2 k2) (r1 : DR g k1 := by first | exact dr_im | exact dr_lr lr_fr | exact dr_lr lr_rd) (r2 : DR g k2 := by first | exact dr_im | exact dr_lr lr_fr | exact dr_lr lr_rd)
    (hg : X.K = g.K := by rfl) : MC X g B S (.Compare e1 [.Eq] [e2] pos) (m1 >>= fun a => m2 >>= fun b => some (decide (a = b))) :=
  mc_cmp (op_eqP hu) h1 h2 (fun a b c q v w I H H0 H1 Q s v1 v2 k => by
    cases q
    refine ⟨_, _, by rw [hg]; exact r1 a _ _ _ _ s v1, by rw [hg]; exact r2 b _ _ _ _ s v2, Datum.plain a, Datum.plain b, Nat.le_trans (Datum.depth_le a) hd, ?_⟩
    rw [Datum.eqv]
    exact k _ _ _ (Ext.refl s) rfl) (nomark _)
theorem mc_ne (hu : X.A.units + 64 < cLine) (hd : Datum.depth α ≤ 64) (h1 : ME X g B S e1 m1 k1) (h2 : ME X g B S e2 m2 k2) (r1 : DR g k1 := by first | exact dr_im | exact dr_lr lr_fr | exact dr_lr lr_rd) (r2 : DR g k2 := by first | exact dr_im | exact dr_lr lr_fr | exact dr_lr lr_rd)
    (hg : X.K = g.K := by rfl) : MC X g B S (.Compare e1 [.NotEq] [e2] pos) (m1 >>= fun a => m2 >>= fun b => some (!decide (a = b))) :=
  mc_cmp (op_neP hu) h1 h2 (fun a b c q v w I H H0 H1 Q s v1 v2 k => by
    cases q
    refine ⟨_, _, by rw [hg]; exact r1 a _ _ _ _ s v1, by rw [hg]; exact r2 b _ _ _ _ s v2, Datum.plain a, Datum.plain b, Nat.le_trans (Datum.depth_le a) hd, ?_⟩
    rw [Datum.eqv]
    exact k _ _ _ (Ext.refl s) rfl) (nomark _)
theorem any_dec (a : α) : ∀ xs : List α, ((xs.map Datum.toD).any fun y => PyData.eqv y (Datum.toD a)) = decide (a ∈ xs)
  | [] => by simp
  | x :: xs => by
    rw [List.map_cons, List.any_cons, any_dec a xs, Datum.eqv, Bool.eq_iff_iff, Bool.or_eq_true, decide_eq_true_eq, decide_eq_true_eq, decide_eq_true_eq, List.mem_cons]
    exact ⟨fun h => h.imp (fun z => z.symm) id, fun h => h.imp (fun z => z.symm) id⟩
theorem mc_in {m2 : Option (List α)} {k2 : List α → RK} (hu : X.A.units + 64 < cLine) (hd : Datum.depth α ≤ 62) (h1 : ME X g B S e1 m1 k1) (h2 : ME X g B S e2 m2 k2) (r1 : DR g k1 := by first | exact dr_im | exact dr_lr lr_fr | exact dr_lr lr_rd) (r2 : LR g k2 := by first | exact lr_im | exact lr_fr | exact lr_rd)
    (hm : behindInMarks .In e2 = false := by rfl) (hg : X.K = g.K := by rfl) : MC X g B S (.Compare e1 [.In] [e2] pos) (m1 >>= fun a => m2 >>= fun b => some (decide (a ∈ b))) :=
  mc_cmp (op_inP hu) h1 h2 (fun a b c q v w I H H0 H1 Q s v1 v2 k => by
    cases q
    obtain ⟨l, vs, rfl, h1, h2⟩ := r2 b _ _ _ _ s v2
    refine ⟨_, b.map Datum.toD, by rw [hg]; exact r1 a _ _ _ _ s v1, .inl (by rw [hg]; exact .lst h1 (dp_all ((rl g b).mono s h2).2)), Datum.plain a, plain_all b, Nat.le_trans (Datum.depth_le a) hd, ?_⟩
    show Q (.bl _) H
    rw [if_neg Bool.false_ne_true, any_dec]
    exact k _ _ _ (Ext.refl s) rfl) hm
theorem mc_ni {m2 : Option (List α)} {k2 : List α → RK} (hu : X.A.units + 64 < cLine) (hd : Datum.depth α ≤ 62) (h1 : ME X g B S e1 m1 k1) (h2 : ME X g B S e2 m2 k2) (r1 : DR g k1 := by first | exact dr_im | exact dr_lr lr_fr | exact dr_lr lr_rd) (r2 : LR g k2 := by first | exact lr_im | exact lr_fr | exact lr_rd)
    (hm : behindInMarks .NotIn e2 = false := by rfl) (hg : X.K = g.K := by rfl) : MC X g B S (.Compare e1 [.NotIn] [e2] pos) (m1 >>= fun a => m2 >>= fun b => some (!decide (a ∈ b))) :=
  mc_cmp (op_niP hu) h1 h2 (fun a b c q v w I H H0 H1 Q s v1 v2 k => by
    cases q
    obtain ⟨l, vs, rfl, h1, h2⟩ := r2 b _ _ _ _ s v2
    refine ⟨_, b.map Datum.toD, by rw [hg]; exact r1 a _ _ _ _ s v1, .inl (by rw [hg]; exact .lst h1 (dp_all ((rl g b).mono s h2).2)), Datum.plain a, plain_all b, Nat.le_trans (Datum.depth_le a) hd, ?_⟩
    show Q (.bl (!_)) H
    rw [any_dec]
    exact k _ _ _ (Ext.refl s) rfl) hm
end
end T
set_option Elab.async false
set_option linter.all false
set_option maxRecDepth 100000
namespace T
variable [TabsC]
open PySem PySem.Spec PyProof.Rows L2

/-- never None -/
class Nz (α : Type) [Py α] : Prop where
  nz : ∀ {g : Gb} {a : α} {I : Hp} {v : V}, (Py.r g a).p I v → v ≠ .non
instance : Nz Int := ⟨fun h z => by cases h; cases z⟩
instance : Nz Bool := ⟨fun h z => by cases h; cases z⟩
instance : Nz Str := ⟨fun h z => by cases h; cases z⟩
instance {α : Type} [Py α] : Nz (List α) := ⟨fun h z => by obtain ⟨_, _, rfl, _⟩ := h; cases z⟩
instance {α β : Type} [Py α] [Py β] : Nz (T2 α β) := ⟨fun h z => by obtain ⟨_, _, _, rfl, _⟩ := h; cases z⟩
instance {α β γ : Type} [Py α] [Py β] [Py γ] : Nz (T3 α β γ) := ⟨fun h z => by obtain ⟨_, _, _, _, rfl, _⟩ := h; cases z⟩
instance {α β γ δ : Type} [Py α] [Py β] [Py γ] [Py δ] : Nz (T4 α β γ δ) := ⟨fun h z => by obtain ⟨_, _, _, _, _, rfl, _⟩ := h; cases z⟩

section
variable {X : Cx} {g : Gb} {B : Bs} {S : SL} {e e1 e2 e3 : Expr} {es : List Expr} {pos pos' : Pos} {α β γ δ : Type} [Py α] [Py β] [Py γ] [Py δ]
/-! tests -/
theorem mt_val {m : Option Bool} (h : ME X g B S e m (KI g)) (he : ∀ whole, isTrue e X.env whole = (do let v ← whole; standAt e.pos; holding [v] (truthy v)) := by intro _; rfl) : MT X g B S e m :=
  ⟨fun b q => pt_imp (pt_val (h.run b q) he) fun σ H Q ⟨I, hh, k⟩ => ⟨I, hh, fun v I' H' x hv => ⟨b, hv, k I' H' x⟩⟩⟩
theorem mt_not {m : Option Bool} (h : MT X g B S e m) : MT X g B S (.UnaryOp .Not e pos) (m >>= fun b => some (!b)) := by
  refine ⟨fun b q => ?_⟩
  obtain ⟨c, q1, q2⟩ := bind_some q
  cases q2
  exact pt_imp (pt_not (h.run c q1)) fun σ H Q ⟨I, hh, k⟩ => ⟨I, hh, fun I' H' x => k I' H' x⟩
theorem mw_and1 {m : Option Bool} (h : MT X g B S e m) : MW X g B S (.BoolOp .And [e] pos) m := ⟨fun b q => pw_and1 (h.run b q)⟩
theorem mw_or1 {m : Option Bool} (h : MT X g B S e m) : MW X g B S (.BoolOp .Or [e] pos) m := ⟨fun b q => pw_or1 (h.run b q)⟩
theorem mw_and {m1 m2 : Option Bool} (h1 : MT X g B S e1 m1) (h2 : MW X g B S (.BoolOp .And (e2 :: es) pos) m2) : MW X g B S (.BoolOp .And (e1 :: e2 :: es) pos) (m1 >>= fun c => if c = true then m2 else some false) := by
  refine ⟨fun b q => ?_⟩
  obtain ⟨c, q1, q2⟩ := bind_some q
  cases c with
  | true =>
    rw [if_pos rfl] at q2
    refine pw_imp (pw_and (h1.run _ q1) (h2.run _ q2)) fun σ H Q ⟨I, hh, k⟩ => ⟨I, hh, fun I1 H1 x1 => ?_⟩
    exact iteT ⟨I1, hh.ext x1, fun I2 H2 x2 => k I2 H2 (x1.trans x2)⟩
  | false =>
    rw [if_neg Bool.false_ne_true] at q2
    cases q2
    refine pw_imp (pw_and (tB' := fun _ _ _ => False) (h1.run _ q1) ⟨fun _ _ _ _ _ _ _ z => z.elim⟩) fun σ H Q ⟨I, hh, k⟩ => ⟨I, hh, fun I1 H1 x1 => ?_⟩
    exact iteF (k I1 H1 x1)
theorem mw_or {m1 m2 : Option Bool} (h1 : MT X g B S e1 m1) (h2 : MW X g B S (.BoolOp .Or (e2 :: es) pos) m2) : MW X g B S (.BoolOp .Or (e1 :: e2 :: es) pos) (m1 >>= fun c => if c = true then some true else m2) := by
  refine ⟨fun b q => ?_⟩
  obtain ⟨c, q1, q2⟩ := bind_some q
  cases c with
  | false =>
    rw [if_neg Bool.false_ne_true] at q2
    refine pw_imp (pw_or (h1.run _ q1) (h2.run _ q2)) fun σ H Q ⟨I, hh, k⟩ => ⟨I, hh, fun I1 H1 x1 => ?_⟩
    exact iteF ⟨I1, hh.ext x1, fun I2 H2 x2 => k I2 H2 (x1.trans x2)⟩
  | true =>
    rw [if_pos rfl] at q2
    cases q2
    refine pw_imp (pw_or (tB' := fun _ _ _ => False) (h1.run _ q1) ⟨fun _ _ _ _ _ _ _ z => z.elim⟩) fun σ H Q ⟨I, hh, k⟩ => ⟨I, hh, fun I1 H1 x1 => ?_⟩
    exact iteT (k I1 H1 x1)
theorem MW.eq {m m' : Option Bool} (h : MW X g B S e m) (q : m = m') : MW X g B S e m' := q ▸ h
theorem mw_andP {a b : Bool} (h1 : MT X g B S e1 (some a)) (h2 : MW X g B S (.BoolOp .And (e2 :: es) pos) (some b)) : MW X g B S (.BoolOp .And (e1 :: e2 :: es) pos) (some (a && b)) := (mw_and h1 h2).eq (by cases a <;> rfl)
theorem mw_orP {a b : Bool} (h1 : MT X g B S e1 (some a)) (h2 : MW X g B S (.BoolOp .Or (e2 :: es) pos) (some b)) : MW X g B S (.BoolOp .Or (e1 :: e2 :: es) pos) (some (a || b)) := (mw_or h1 h2).eq (by cases a <;> rfl)
theorem mt_w {m : Option Bool} (h : MW X g B S e m) : MT X g B S e m := ⟨fun b q => (h.run b q).pt⟩
/-- and, or, not as values -/
theorem me_one {op} {m : Option Bool} (h : ME X g B S e m (KI g)) : ME X g B S (.BoolOp op [e] pos) m (KI g) := ⟨fun b q => pe_one (h.run b q)⟩
theorem me_and {m1 m2 : Option Bool} (h1 : ME X g B S e1 m1 (KI g)) (h2 : ME X g B S (.BoolOp .And (e2 :: es) pos) m2 (KI g)) : ME X g B S (.BoolOp .And (e1 :: e2 :: es) pos) (m1 >>= fun c => if c = true then m2 else some false) (KI g) := by
  refine ⟨fun b q => ?_⟩
  obtain ⟨c, q1, q2⟩ := bind_some q
  cases c with
  | true =>
    rw [if_pos rfl] at q2
    refine pe_imp (pe_and (h1.run _ q1) (h2.run _ q2)) fun σ H Q ⟨I, hh, k⟩ => ⟨I, hh, fun v I1 H1 x1 hv => ⟨true, hv, ?_⟩⟩
    exact iteT ⟨I1, hh.ext x1, fun w I2 H2 x2 hw => k w I2 H2 (x1.trans x2) hw⟩
  | false =>
    rw [if_neg Bool.false_ne_true] at q2
    cases q2
    refine pe_imp (pe_and (tb := fun _ _ _ => False) (h1.run _ q1) ⟨fun _ _ _ _ _ _ z => z.elim⟩) fun σ H Q ⟨I, hh, k⟩ => ⟨I, hh, fun v I1 H1 x1 hv => ⟨false, hv, ?_⟩⟩
    exact iteF (k _ I1 H1 x1 rfl)
theorem me_or {m1 m2 : Option Bool} (h1 : ME X g B S e1 m1 (KI g)) (h2 : ME X g B S (.BoolOp .Or (e2 :: es) pos) m2 (KI g)) : ME X g B S (.BoolOp .Or (e1 :: e2 :: es) pos) (m1 >>= fun c => if c = true then some true else m2) (KI g) := by
  refine ⟨fun b q => ?_⟩
  obtain ⟨c, q1, q2⟩ := bind_some q
  cases c with
  | false =>
    rw [if_neg Bool.false_ne_true] at q2
    refine pe_imp (pe_or (h1.run _ q1) (h2.run _ q2)) fun σ H Q ⟨I, hh, k⟩ => ⟨I, hh, fun v I1 H1 x1 hv => ⟨false, hv, ?_⟩⟩
    exact iteF ⟨I1, hh.ext x1, fun w I2 H2 x2 hw => k w I2 H2 (x1.trans x2) hw⟩
  | true =>
    rw [if_pos rfl] at q2
    cases q2
    refine pe_imp (pe_or (tb := fun _ _ _ => False) (h1.run _ q1) ⟨fun _ _ _ _ _ _ z => z.elim⟩) fun σ H Q ⟨I, hh, k⟩ => ⟨I, hh, fun v I1 H1 x1 hv => ⟨true, hv, ?_⟩⟩
    exact iteT (k _ I1 H1 x1 rfl)
theorem me_andP {a b : Bool} (h1 : ME X g B S e1 (some a) (KI g)) (h2 : ME X g B S (.BoolOp .And (e2 :: es) pos) (some b) (KI g)) : ME X g B S (.BoolOp .And (e1 :: e2 :: es) pos) (some (a && b)) (KI g) := (me_and h1 h2).eq (by cases a <;> rfl)
theorem me_orP {a b : Bool} (h1 : ME X g B S e1 (some a) (KI g)) (h2 : ME X g B S (.BoolOp .Or (e2 :: es) pos) (some b) (KI g)) : ME X g B S (.BoolOp .Or (e1 :: e2 :: es) pos) (some (a || b)) (KI g) := (me_or h1 h2).eq (by cases a <;> rfl)
theorem me_not {m : Option Bool} (h : ME X g B S e m (KI g)) : ME X g B S (.UnaryOp .Not e pos) (m >>= fun b => some (!b)) (KI g) := by
  refine ⟨fun b q => ?_⟩
  obtain ⟨c, q1, q2⟩ := bind_some q
  cases q2
  exact pe_imp (pe_not (h.run c q1)) fun σ H Q ⟨I, hh, k⟩ => ⟨I, hh, fun v I' H' x hv => ⟨c, hv, k _ I' H' x rfl⟩⟩
/-- a < b < c, of ints -/
theorem mc_chn {op op' : CmpOp} {f f' : Int → Int → Bool} {m1 m2 m3 : Option Int} (ho : OpR X (compareOp op) (rI0 fun i j => .bl (f i j))) (ho' : OpR X (compareOp op') (rI0 fun i j => .bl (f' i j)))
    (h1 : ME X g B S e1 m1 (KI g)) (h2 : ME X g B S e2 m2 (KI g)) (h3 : ME X g B S e3 m3 (KI g)) (hm : lastMarks [op, op'] [e2, e3] = false := by with_unfolding_all rfl) :
    MC X g B S (.Compare e1 [op, op'] [e2, e3] pos) (m1 >>= fun a => m2 >>= fun b => if f a b = true then m3 >>= fun c => some (f' b c) else some false) := by
  refine ⟨fun r q => ?_⟩
  obtain ⟨a, q1, q⟩ := bind_some q
  obtain ⟨b, q2, q⟩ := bind_some q
  by_cases hf : f a b = true
  · rw [if_pos hf] at q
    obtain ⟨c, q3, q⟩ := bind_some q
    cases q
    refine ⟨_, pe_chain ho ho' (h1.run a q1) (h2.run b q2) (h3.run c q3) hm, pt_chain ho ho' (h1.run a q1) (h2.run b q2) (h3.run c q3) hm, fun σ H Q ⟨I, hh, k⟩ => ⟨I, hh, fun v I1 H1 x1 v1 => ⟨I1, hh.ext x1, fun w I2 H2 x2 v2 => ?_⟩⟩⟩
    refine ⟨a, b, v1, v2, _, rfl, ?_⟩
    rw [if_pos hf]
    exact ⟨I2, hh.ext (x1.trans x2), fun u I3 H3 x3 v3 => ⟨b, c, v2, v3, k _ I3 H3 ((x1.trans x2).trans x3) rfl⟩⟩
  · rw [if_neg hf] at q
    cases q
    refine ⟨_, pe_chain (tc := fun _ _ _ => False) ho ho' (h1.run a q1) (h2.run b q2) ⟨fun _ _ _ _ _ _ z => z.elim⟩ hm, pt_chain (tc := fun _ _ _ => False) ho ho' (h1.run a q1) (h2.run b q2) ⟨fun _ _ _ _ _ _ z => z.elim⟩ hm, fun σ H Q ⟨I, hh, k⟩ => ⟨I, hh, fun v I1 H1 x1 v1 => ⟨I1, hh.ext x1, fun w I2 H2 x2 v2 => ?_⟩⟩⟩
    refine ⟨a, b, v1, v2, _, rfl, ?_⟩
    rw [if_neg hf]
    exact k _ I2 H2 (x1.trans x2) rfl
/-- is None, is not None -/
theorem mc_isN [Nz α] {j} {m : Option (Option α)} (h : ME X g B S e m (KI g)) : MC X g B S (.Compare e [.Is] [.Constant .none j pos'] pos) (m >>= fun o => some o.isNone) :=
  (mc_cmp op_isN h (me_unit (j := j) (pos := pos')) (f := fun o _ => some o.isNone) fun o _ c q v w I H H0 H1 Q s hv hw k => by
    cases q
    refine ⟨hw, ?_⟩
    cases o with
    | none =>
      cases hv
      exact k _ _ _ (Ext.refl s) rfl
    | some a =>
      rw [decide_eq_false (Nz.nz (α := α) hv)]
      exact k _ _ _ (Ext.refl s) rfl).eq (by cases m <;> rfl)
theorem mc_ntN [Nz α] {j} {m : Option (Option α)} (h : ME X g B S e m (KI g)) : MC X g B S (.Compare e [.IsNot] [.Constant .none j pos'] pos) (m >>= fun o => some o.isSome) :=
  (mc_cmp op_notN h (me_unit (j := j) (pos := pos')) (f := fun o _ => some o.isSome) fun o _ c q v w I H H0 H1 Q s hv hw k => by
    cases q
    refine ⟨hw, ?_⟩
    cases o with
    | none =>
      cases hv
      exact k _ _ _ (Ext.refl s) rfl
    | some a =>
      rw [decide_eq_false (Nz.nz (α := α) hv)]
      exact k _ _ _ (Ext.refl s) rfl).eq (by cases m <;> rfl)
theorem me_if {a' : Type} {mc : Option Bool} {m1 m2 : Option a'} {k : a' → RK} (hc : MT X g B S e mc) (h1 : ME X g B S e1 m1 k) (h2 : ME X g B S e2 m2 k) (hb : ∀ c, (k c).isB = false := by intro _; rfl) : ME X g B S (.IfExp e e1 e2 pos) (mc >>= fun b => if b = true then m1 else m2) k := by
  refine ⟨fun r q => ?_⟩
  obtain ⟨c, q1, q2⟩ := bind_some q
  cases c with
  | true =>
    rw [if_pos rfl] at q2
    refine pe_imp (pe_ifExp (tb := fun _ _ _ => False) (hc.run _ q1) (h1.run _ q2) ⟨fun _ _ _ _ _ _ z => z.elim⟩) fun σ H Q ⟨I, hh, k⟩ => ⟨I, hh, fun I1 H1 x1 => ?_⟩
    exact iteT ⟨I1, hh.ext x1, fun w I2 H2 x2 hw => k w I2 H2 (x1.trans x2) (RK.back (hb r) x1.h hw)⟩
  | false =>
    rw [if_neg Bool.false_ne_true] at q2
    refine pe_imp (pe_ifExp (ta := fun _ _ _ => False) (hc.run _ q1) ⟨fun _ _ _ _ _ _ z => z.elim⟩ (h2.run _ q2)) fun σ H Q ⟨I, hh, k⟩ => ⟨I, hh, fun I1 H1 x1 => ?_⟩
    exact iteF ⟨I1, hh.ext x1, fun w I2 H2 x2 hw => k w I2 H2 (x1.trans x2) (RK.back (hb r) x1.h hw)⟩
end

/-! arguments -/
def Args (g : Gb) (ks : List RK) (vs : List V) (I H : Hp) : Prop := Paired (fun k v => RK.holds g k H v I H) ks vs
def rdA {ι o : Type} (g : Gb) (B : Bs) (S : SL) (dvs : List V) (args : ι → List RK) (M : ι → Option o) (r : o) : TA := fun σ H Q => ∃ I, Hold g B S σ I H ∧ ∀ a vs I' H', M a = some r → Ext I H I' H' → Args g (args a) (vs ++ dvs) I' H' → Q vs H'
structure MA {ι o : Type} (X : Cx) (g : Gb) (B : Bs) (S : SL) (es : List Expr) (dvs : List V) (args : ι → List RK) (m : Option o) (M : ι → Option o) : Prop where
  run : ∀ r, m = some r → PA X es (rdA g B S dvs args M r)
def Coe {α : Type} (g : Gb) (k k' : α → RK) : Prop := ∀ a H0 v I H, Same I H → RK.holds g (k a) H0 v I H → RK.holds g (k' a) H v I H
section
variable {X : Cx} {g : Gb} {B : Bs} {S : SL} {e e1 e2 e3 : Expr} {es : List Expr} {pos pos' : Pos} {α β γ δ : Type} [Py α] [Py β] [Py γ] [Py δ]
theorem co_im : Coe (α := α) g (KI g) (KI g) := fun _ _ _ _ _ _ h => h
theorem co_bw {k : List α → RK} (h : LR g k) : Coe g k (fun a => .bw (rl g a)) := fun a H0 v I H s q => h a H0 v I H s q
theorem pa_imp {t t' : TA} (h : PA X es t) (f : ∀ σ H Q, t' σ H Q → t σ H Q) : PA X es t' := ⟨fun pos pins s σ H Q I hw => h.run pos pins s σ H Q I (f σ H Q hw)⟩
theorem ma_nil {o : Type} {M : Unit → Option o} : MA X g B S [] [] (fun _ : Unit => []) (M ()) M :=
  ⟨fun r q => pa_imp pa_nil fun σ H Q ⟨I, hh, k⟩ => k () [] I H q (Ext.refl hh.sub) .nil⟩
/-- the rest by defaults -/
theorem ma_dfl {ι o : Type} {dvs : List V} {args : ι → List RK} {M : ι → Option o} (a : ι) (h : ∀ I H, Args g (args a) dvs I H) : MA X g B S [] dvs args (M a) M :=
  ⟨fun r q => pa_imp pa_nil fun σ H Q ⟨I, hh, k⟩ => k a [] I H q (Ext.refl hh.sub) (h I H)⟩
theorem ma_cons {ι o α' : Type} {dvs : List V} {args : ι → List RK} {m1 : Option α'} {m2 : α' → Option o} {M : α' × ι → Option o} {k k' : α' → RK} (h : ME X g B S e m1 k) (c : Coe g k k') (t : ∀ a, MA X g B S es dvs args (m2 a) (fun b => M (a, b)))
    (hs : starEach (e :: es) X.env = (false, eval e X.env) :: starEach es X.env := by rfl) : MA X g B S (e :: es) dvs (fun p : α' × ι => k' p.1 :: args p.2) (m1 >>= m2) M := by
  refine ⟨fun r q => ?_⟩
  obtain ⟨a, q1, q2⟩ := bind_some q
  refine pa_imp (pa_cons (h.run a q1) ((t a).run r q2) hs) fun σ H Q ⟨I, hh, kk⟩ => ⟨I, hh, fun v I1 H1 x1 v1 => ⟨I1, hh.ext x1, fun b vs I2 H2 hM x2 hA => ?_⟩⟩
  exact kk (a, b) (v :: vs) I2 H2 hM (x1.trans x2) (.cons (c a _ _ _ _ x2.s (RK.ext v1 x2 hh.tb.has)) hA)
end
/-! the promise of a def: a typed one -/
def spT {ι β : Type} (g : Gb) (args : ι → List RK) (M : ι → Option β) (k : β → RK) : Sp := fun vs H Q _ => ∃ I a r, Same I H ∧ TbI I H ∧ Args g (args a) vs I H ∧ M a = some r ∧ ∀ v I' H', Ext I H I' H' → RK.holds g (k r) H v I' H' → Q v H'
section
variable {X : Cx} {g : Gb} {B : Bs} {S : SL} {e e1 e2 e3 : Expr} {es : List Expr} {pos pos' p : Pos} {ι β : Type} {args : ι → List RK} {M : ι → Option β} {k : β → RK} {m : Option β} {j kk : Nat} {f : Addr} {fd : FuncData} {ps : List Str} {x : Str} {dvs : List V} {ds : List Value}
theorem sp_use {H : Hp} {I : Hp} {Q : VK} {a : ι} {r : β} {vs : List V} (s : Same I H) (t : TbI I H) (hA : Args g (args a) vs I H) (hM : M a = some r) (q : ∀ v I' H', Ext I H I' H' → RK.holds g (k r) H v I' H' → Q v H') {E : XK} : spT g args M k vs H Q E := ⟨I, a, r, s, t, hA, hM, q⟩
theorem me_call (F : FnOk X.prog X.w X.K X.mg X.base CX0 j f fd ps (spT g args M k)) (hr : Room kk X.A) (hj : j ≤ kk) (hm : X.mg x = some (.ref f)) (hk : PySem.W.keepIn X.K (.ref f) = true) (hb : Binds X.K fd ps ds) (hd : Vals dvs ds)
    (ha : MA X g B S (e :: es) dvs args m M) (hg : Gl X x := by rfl) (hdb : (x == ("__debug__" : Str)) = false := by decide) (he : starEach (e :: es) X.env = (false, eval e X.env) :: starEach es X.env := by rfl) (hpl : (backTo pos (starEach es X.env)).any (·.1) = false := by rfl)
    (hbw : ∀ c, (k c).isB = false := by intro _; rfl) :
    ME X g B S (.Call (.Name x p) (e :: es) [] pos) m k := by
  refine ⟨fun r q => ?_⟩
  refine pe_imp (pe_call F (hr.mono hj) hg hm hk hb hd pass0 (ha.run r q) hdb he hpl) fun σ H Q ⟨I, hh, kc⟩ => ⟨I, hh, fun a vs I1 H1 hM x1 hA => ?_⟩
  exact sp_use x1.s (hh.tb.ext x1).to hA hM fun v I2 H2 x2 hv => kc v I2 H2 (x1.trans x2) (RK.back (hbw r) x1.h hv)
theorem me_call0 {M : Unit → Option β} (F : FnOk X.prog X.w X.K X.mg X.base CX0 j f fd [] (spT g (fun _ : Unit => []) M k)) (hr : Room kk X.A) (hj : j ≤ kk) (hm : X.mg x = some (.ref f)) (hk : PySem.W.keepIn X.K (.ref f) = true) (hb : Binds X.K fd [] [])
    (hg : Gl X x := by rfl) (hdb : (x == ("__debug__" : Str)) = false := by decide) : ME X g B S (.Call (.Name x p) [] [] pos) (M ()) k := by
  refine ⟨fun r q => ?_⟩
  refine pe_imp (pe_call0 F (hr.mono hj) hg hm hk hb .nil pass0 hdb) fun σ H Q ⟨I, hh, kc⟩ => ?_
  exact ⟨I, (), r, hh.sub, hh.tb.to, Paired.nil, q, fun v I2 H2 x2 hv => kc v I2 H2 x2 hv⟩
end
end T
set_option Elab.async false
set_option linter.all false
set_option maxRecDepth 100000
namespace T
variable [TabsC]
open PySem PySem.Spec PyProof.Rows L2

/-! blocks -/
/-- a base whose part that stays is known to hold J too -/
structure Ok (g : Gb) (B : Bs) (J : Hp) (S : SL) (σ : L2.St) (I H : Hp) : Prop where
  x : Ext B.I B.H I H
  j : Same J I
  h : Hold g B S σ I H
theorem Ok.ext {g : Gb} {B : Bs} {J : Hp} {S : SL} {σ : L2.St} {I H I' H' : Hp} (o : Ok g B J S σ I H) (x : Ext I H I' H') : Ok g B J S σ I' H' := ⟨o.x.trans x, o.j.trans x.i, o.h.ext x⟩
theorem Ok.put {g : Gb} {B : Bs} {J : Hp} {S : SL} {σ : L2.St} {I H I' H' : Hp} {i : Nat} {k : RK} {v : V} (o : Ok g B J S σ I H) (x : Ext I H I' H') (hk : k.slotty = true) (hv : RK.holds g k H v I' H') : Ok g B J (S.set i (some k)) (σ.set i (some v)) I' H' :=
  ⟨o.x.trans x, o.j.trans x.i, o.h.put x hk hv⟩
/-- less is known -/
inductive Wk : SL → SL → Prop
  | nil : Wk [] []
  | keep {k : Option RK} {S T : SL} : Wk S T → Wk (k :: S) (k :: T)
  | drop {k : Option RK} {S T : SL} : Wk S T → Wk (k :: S) (none :: T)
theorem Wk.len : ∀ {S T : SL}, Wk S T → S.length = T.length
  | _, _, .nil => rfl
  | _, _, .keep h => congrArg (· + 1) h.len
  | _, _, .drop h => congrArg (· + 1) h.len
theorem Wk.get : ∀ {S T : SL}, Wk S T → ∀ {i : Nat} {k : RK}, T[i]? = some (some k) → S[i]? = some (some k)
  | _, _, .nil, i, k, e => e
  | _, _, .keep h, 0, k, e => e
  | _, _, .keep h, i + 1, k, e => h.get (i := i) (by simpa using e)
  | _, _, .drop h, 0, k, e => by simp at e
  | _, _, .drop h, i + 1, k, e => h.get (i := i) (by simpa using e)
theorem Hold.wk {g : Gb} {B : Bs} {S T : SL} {σ : L2.St} {I H : Hp} (w : Wk S T) (h : Hold g B S σ I H) : Hold g B T σ I H :=
  h.elim fun Φ h => ⟨Φ, h.len.trans w.len, h.sub, h.base, h.tb, fun i k e => h.at_ i k (w.get e), h.fr, h.dj⟩
theorem Ok.wk {g : Gb} {B : Bs} {J : Hp} {S T : SL} {σ : L2.St} {I H : Hp} (w : Wk S T) (o : Ok g B J S σ I H) : Ok g B J T σ I H := ⟨o.x, o.j, o.h.wk w⟩
/-- what is to follow an outcome -/
abbrev KT (o : Type) := o → Ends → Prop
structure MB {o : Type} (X : Cx) (g : Gb) (B : Bs) (J : Hp) (S : SL) (sts : List Stmt) (m : Option o) (K : KT o) : Prop where
  run : ∀ r, m = some r → PSs X sts (fun D σ H => ∃ I, Ok g B J S σ I H ∧ K r D)
theorem MB.eq {o : Type} {X : Cx} {g : Gb} {B : Bs} {J : Hp} {S : SL} {sts : List Stmt} {m m' : Option o} {K : KT o} (h : MB X g B J S sts m K) (e : m = m') : MB X g B J S sts m' K := e ▸ h
theorem pss_imp {X : Cx} {sts : List Stmt} {t t' : TS} (h : PSs X sts t) (f : ∀ D σ H, t' D σ H → t D σ H) : PSs X sts t' := ⟨fun pins s σ H D I hw => h.run pins s σ H D I (f D σ H hw)⟩
/-- the def hands back a value; a block goes on; a turn of a loop -/
def Kt {β : Type} (g : Gb) (B : Bs) (k : β → RK) : KT β := fun r D => ∀ v I' H', Ext B.I B.H I' H' → RK.holds g (k r) B.H v I' H' → D.rt v H'
def Kn {β : Type} (g : Gb) (B : Bs) (J : Hp) (S' : β → SL) : KT β := fun b D => ∀ σ I H, Ok g B J (S' b) σ I H → D.nx σ H
inductive Ctl (β γ ρ : Type) where
  | nx (b : β) | rt (r : ρ) | ct (c : γ) | bk (c : γ)
def Kc {β γ ρ : Type} (g : Gb) (B : Bs) (J : Hp) (S' : β → SL) (T' : γ → SL) (k : ρ → RK) : KT (Ctl β γ ρ) := fun c D => match c with
  | .nx b => ∀ σ I H, Ok g B J (S' b) σ I H → D.nx σ H
  | .rt r => ∀ v I' H', Ext B.I B.H I' H' → RK.holds g (k r) B.H v I' H' → D.rt v H'
  | .ct b => ∀ σ I H, Ok g B J (T' b) σ I H → D.ct σ H
  | .bk b => ∀ σ I H, Ok g B J (T' b) σ I H → D.bk σ H
/-- what follows a statement that may leave: within a loop's turn; in a def -/
def Ctl.seq {β β2 γ ρ : Type} (f : β → Option (Ctl β2 γ ρ)) : Ctl β γ ρ → Option (Ctl β2 γ ρ)
  | .nx b => f b
  | .rt r => some (.rt r)
  | .ct c => some (.ct c)
  | .bk c => some (.bk c)
def Ctl.seqT {β γ ρ : Type} (f : β → Option ρ) : Ctl β γ ρ → Option ρ
  | .nx b => f b
  | .rt r => some r
  | .ct _ => none
  | .bk _ => none
def Ctl.isNx {β γ ρ : Type} : Ctl β γ ρ → Bool
  | .nx _ => true
  | _ => false
/-- K hands back r's value at (inj r) -/
def KR {ρ o : Type} (g : Gb) (B : Bs) (K : KT o) (inj : ρ → o) (k : ρ → RK) : Prop := ∀ r D, K (inj r) D → ∀ v I' H', Ext B.I B.H I' H' → RK.holds g (k r) B.H v I' H' → D.rt v H'
/-- K goes on in S' at (inj b) -/
def KX {β o : Type} (g : Gb) (B : Bs) (J : Hp) (K : KT o) (inj : β → o) (S' : β → SL) : Prop := ∀ b D, K (inj b) D → ∀ σ I H, Ok g B J (S' b) σ I H → D.nx σ H
section
variable {X : Cx} {g : Gb} {B : Bs} {J : Hp} {S : SL} {e e1 e2 e3 : Expr} {es : List Expr} {pos pos' p : Pos} {o α' β γ ρ : Type} {K : KT o} {rest : List Stmt}
theorem kr_t {k : ρ → RK} : KR g B (Kt g B k) (fun r => r) k := fun _ _ h => h
theorem kr_c {k : ρ → RK} {S' : β → SL} {T' : γ → SL} : KR g B (Kc g B J S' T' k) (fun r => Ctl.rt r) k := fun _ _ h => h
theorem kx_n {S' : β → SL} : KX g B J (Kn g B J S') (fun b => b) S' := fun _ _ h => h
theorem kx_c {k : ρ → RK} {S' : β → SL} {T' : γ → SL} : KX g B J (Kc g B J S' T' k) (fun b => Ctl.nx b) S' := fun _ _ h => h
/-- K looks at D through its four ends alone -/
theorem ps_imp {st : Stmt} {t t' : TS} (h : PS X st t) (f : ∀ D σ H, t' D σ H → t D σ H) : PS X st t' := ⟨fun pins s σ H D I hw => h.run pins s σ H D I (f D σ H hw)⟩

/-- the end of a block -/
theorem mb_nil {b : β} {S' : β → SL} {inj : β → o} (kx : KX g B J K inj S') (w : Wk S (S' b)) : MB X g B J S [] (some (inj b)) K := by
  refine ⟨fun r q => ?_⟩
  cases q
  exact pss_imp pss_nil fun D σ H ⟨I, ok, k⟩ => kx b D k σ I H (ok.wk w)
/-- a def's end -/
theorem mb_end {inj : Unit → o} (kr : ∀ r D, K (inj r) D → ∀ σ I H, Ok g B J S σ I H → D.nx σ H) : MB X g B J S [] (some (inj ())) K := by
  refine ⟨fun r q => ?_⟩
  cases q
  exact pss_imp pss_nil fun D σ H ⟨I, ok, k⟩ => kr () D k σ I H ok
/-- name = e -/
theorem mb_set (i : Nat) {x : Str} {m : Option α'} {k : α' → RK} {f : α' → Option o} (hN : X.N.Nodup) (he : ME X g B S e m k) (hb : ∀ a, MB X g B J (S.set i (some (k a))) rest (f a) K) (hk : ∀ a, (k a).slotty = true := by intro _; rfl)
    (hi : X.N[i]? = some x := by rfl) (hx : Loc X.env.scope x := by first | exact Or.inl rfl | exact Or.inr rfl) (hs : swapsWith e (some (.Name x pos')) pos.line X.env = pure false := by rfl)
    (hf : X.fn x = true ∨ X.env.scope.names.lookup x = some .local := by first | exact .inl rfl | exact .inr rfl) : MB X g B J S (.Assign [.Name x pos'] e pos :: rest) (m >>= f) K := by
  refine ⟨fun r q => ?_⟩
  obtain ⟨a, q1, q2⟩ := bind_some q
  refine pss_imp (pss_cons (ps_set hN hi hx (he.run a q1) hs hf) ((hb a).run r q2)) fun D σ H ⟨I, ok, kk⟩ => ?_
  exact ⟨I, ok.h, fun v I' H' x1 hv => ⟨I', ok.put x1 (hk a) hv, kk⟩⟩
/-- an expression alone -/
theorem mb_expr {m : Option α'} {k : α' → RK} {f : α' → Option o} (he : ME X g B S e m k) (hb : ∀ a, MB X g B J S rest (f a) K) (hs : swapsWith e none pos.line X.env = pure false := by rfl) : MB X g B J S (.Expr e pos :: rest) (m >>= f) K := by
  refine ⟨fun r q => ?_⟩
  obtain ⟨a, q1, q2⟩ := bind_some q
  refine pss_imp (pss_cons (ps_expr (he.run a q1) hs) ((hb a).run r q2)) fun D σ H ⟨I, ok, kk⟩ => ?_
  exact ⟨I, ok.h, fun v I' H' x1 hv => ⟨I', ok.ext x1, kk⟩⟩
/-- return e -/
theorem mb_ret {m : Option ρ} {k : ρ → RK} {inj : ρ → o} (kr : KR g B K inj k) (he : ME X g B S e m k) (hb : ∀ c, (k c).isB = false := by intro _; rfl) : MB X g B J S [.Return (some e) pos] (m >>= fun r => some (inj r)) K := by
  refine ⟨fun r q => ?_⟩
  obtain ⟨a, q1, q2⟩ := bind_some q
  cases q2
  refine pss_imp (pss_one (ps_ret (he.run a q1))) fun D σ H ⟨I, ok, kk⟩ => ?_
  exact ⟨I, ok.h, fun v I' H' x1 hv => kr a D kk v I' H' (ok.x.trans x1) (RK.back (hb a) ok.x.h hv)⟩
theorem mb_retT {m : Option ρ} {k : ρ → RK} (he : ME X g B S e m k) (hb : ∀ c, (k c).isB = false := by intro _; rfl) : MB X g B J S [.Return (some e) pos] m (Kt g B k) :=
  (mb_ret kr_t he hb).eq (by cases m <;> rfl)
/-- return an owned list -/
theorem mb_retO {α : Type} [Py α] (i : Nat) {x : Str} {as : List α} {inj : List α → o} (kr : KR g B K inj (fun as => .fr (rl g as))) (hS : S[i]? = some (some (.fr (rl g as))) := by rfl) (hN : X.N[i]? = some x := by rfl) (hv : Vis X.env.scope x := by first | exact Or.inl rfl | exact Or.inr (Or.inl rfl) | exact Or.inr (Or.inr rfl))
    (hd : (x == ("__debug__" : Str)) = false := by decide) (hcd : (x == ("__classdict__" : Str)) = false := by decide) : MB X g B J S [.Return (some (.Name x p)) pos] (some (inj as)) K := by
  refine ⟨fun r q => ?_⟩
  cases q
  refine pss_imp (pss_one (ps_ret (pe_var hN hv hd hcd))) fun D σ H ⟨I, ok, kk⟩ => ?_
  obtain ⟨v, e1, h1⟩ := ok.h.at_ i _ hS
  exact ⟨v, e1, kr as D kk v I H ok.x h1⟩
theorem mb_retN {inj : Unit → o} (kr : KR g B K inj (KI g)) : MB X g B J S [.Return none pos] (some (inj ())) K := by
  refine ⟨fun r q => ?_⟩
  cases q
  refine pss_imp (pss_one ps_retN) fun D σ H ⟨I, ok, kk⟩ => ?_
  exact kr () D kk .non I H ok.x rfl
theorem mb_brk {b : γ} {k : ρ → RK} {S' : β → SL} {T' : γ → SL} (w : Wk S (T' b)) : MB X g B J S [.Break pos] (some (Ctl.bk b)) (Kc g B J S' T' k) := by
  refine ⟨fun r q => ?_⟩
  cases q
  exact pss_imp (pss_one ps_break) fun D σ H ⟨I, ok, kk⟩ => kk σ I H (ok.wk w)
theorem mb_cnt {b : γ} {k : ρ → RK} {S' : β → SL} {T' : γ → SL} (w : Wk S (T' b)) : MB X g B J S [.Continue pos] (some (Ctl.ct b)) (Kc g B J S' T' k) := by
  refine ⟨fun r q => ?_⟩
  cases q
  exact pss_imp (pss_one ps_continue) fun D σ H ⟨I, ok, kk⟩ => kk σ I H (ok.wk w)
theorem mb_pass {m : Option o} (hb : MB X g B J S rest m K) : MB X g B J S (.Pass pos :: rest) m K := by
  refine ⟨fun r q => ?_⟩
  exact pss_imp (pss_cons ps_pass (hb.run r q)) fun D σ H ⟨I, ok, kk⟩ => ⟨I, ok, kk⟩
/-- how an owned thing is let go: a thing that stays -/
def Frz (o : OR) (p : PR) : Prop := ∀ I F v, (∀ a, F a ≠ none → I a = none) → o.p I F v → p.p (Un I F) v
/-- the heap of both -/
theorem frz_ok {i : Nat} {o : OR} {r : PR} {σ : L2.St} {I H : Hp} (z : Frz o r) (ok : Ok g B J S σ I H) (hS : ∀ v F, ∃ k, S[i]? = some (some k) ∧ (RK.inS g k B.H v I F → o.p I F v)) : ∃ I', Ok g B J (S.set i (some (.im r))) σ I' H := by
  obtain ⟨x, oj, Φ, h⟩ := ok
  obtain ⟨k, hk, _⟩ := hS .non (Φ i)
  obtain ⟨v, e1, q⟩ := h.at_ i k hk
  obtain ⟨k', hk', c⟩ := hS v (Φ i)
  rw [hk] at hk'
  cases hk'
  have q2 := c q
  have hd : ∀ a, Φ i a ≠ none → I a = none := fun a ha => (h.ne ha).2.1
  have sI : Same I (Un I (Φ i)) := un_l hd
  have x2 : Ext B.I B.H (Un I (Φ i)) H := ⟨x.i.trans sI, x.h, fun b ob eb => (un_some eb).elim (fun e => (h.fr i b ob e).1) fun e => x.s _ _ e.2, fun b n1 n2 => by
    cases e : Φ i b with
    | none => rw [un_none e]; exact x.n b n1 n2
    | some ob => exact absurd (h.fr i b ob e).2.2 n1⟩
  refine ⟨Un I (Φ i), x2, oj.trans sI, putF Φ i (fun _ => none), ?_⟩
  have hσ : σ.set i (some v) = σ := by
    apply List.ext_getElem?
    intro j
    by_cases hj : i = j
    · subst hj
      rw [List.getElem?_set_self (List.getElem?_eq_some_iff.mp e1).1, e1]
    · rw [List.getElem?_set_ne hj]
  have h2 : HoldF g B (S.set i (some (.im r))) (σ.set i (some v)) (Un I (Φ i)) H (putF Φ i (fun _ => none)) := by
    refine ⟨by rw [List.length_set, List.length_set, h.len], x2.s, h.base, h.tb.un (h.noT i), fun j k' e => ?_, fun j a ob e => ?_, fun j l a hj hl => ?_⟩
    · rcases set_some e with ⟨a, b, c⟩ | ⟨a, b⟩
      · subst a
        cases b
        exact ⟨v, List.getElem?_set_self (by rw [h.len]; exact c), z I (Φ i) v hd q2⟩
      · obtain ⟨u, e2, q⟩ := h.at_ j k' b
        exact ⟨u, by rw [List.getElem?_set_ne a]; exact e2, by rw [putF_ne (fun z => a z.symm)]; exact RK.inS_mono sI q⟩
    · by_cases hji : j = i
      · rw [hji, putF_same] at e; cases e
      · rw [putF_ne hji] at e
        obtain ⟨f1, f2, f3⟩ := h.fr j a ob e
        refine ⟨f1, ?_, f3⟩
        rw [un_none]
        · exact f2
        · cases e4 : Φ i a with
          | none => rfl
          | some ou => exact absurd (h.dj j i a (ne_of_some e) (ne_of_some e4)) hji
    · by_cases hji : j = i
      · rw [hji, putF_same] at hj; exact absurd rfl hj
      · by_cases hli : l = i
        · rw [hli, putF_same] at hl; exact absurd rfl hl
        · rw [putF_ne hji] at hj
          rw [putF_ne hli] at hl
          exact h.dj j l a hj hl
  rw [hσ] at h2
  exact h2
theorem frz_list {α : Type} [Py α] {as : List α} {I F : Hp} {l : Addr} {vs : List V} (hd : ∀ a, F a ≠ none → I a = none) (h1 : F l = some (.lst vs)) (h2 : (rl g as).p I vs) : (Py.r g as).p (Un I F) (.ref l) :=
  ⟨l, vs, rfl, SqL.of (un_r h1), (rl g as).mono (un_l hd) h2⟩
theorem mb_frz {α : Type} [Py α] (i : Nat) {as : List α} {sts : List Stmt} {m : Option o} (hS : S[i]? = some (some (.fr (rl g as)))) (hb : MB X g B J (S.set i (some (.im (Py.r g as)))) sts m K) : MB X g B J S sts m K := by
  refine ⟨fun r q => ?_⟩
  refine pss_imp (hb.run r q) fun D σ H ⟨I, ok, kk⟩ => ?_
  obtain ⟨I', ok'⟩ := frz_ok (i := i) (o := ⟨fun I F v => ∃ l vs, v = .ref l ∧ F l = some (.lst vs) ∧ (rl g as).p I vs, fun s ⟨l, vs, e, h3, h4⟩ => ⟨l, vs, e, h3, (rl g as).mono s h4⟩⟩) (r := Py.r g as)
    (fun I F v hd ⟨l, vs, e, h1, h2⟩ => by subst e; exact frz_list hd h1 h2) ok fun v F => ⟨_, hS, fun q => q⟩
  exact ⟨I', ok', kk⟩
/-- what is known less -/
theorem mb_wk {S1 : SL} {sts : List Stmt} {m : Option o} (w : Wk S S1) (hb : MB X g B J S1 sts m K) : MB X g B J S sts m K :=
  ⟨fun r q => pss_imp (hb.run r q) fun D σ H ⟨I, ok, kk⟩ => ⟨I, ok.wk w, kk⟩⟩

/-! if -/
/-- both ways end the block -/
theorem mb_if2 {mc : Option Bool} {m1 m2 : Option o} {b1 b2 : List Stmt} (hc : MT X g B S e mc) (h1 : MB X g B J S b1 m1 K) (h2 : MB X g B J S b2 m2 K) : MB X g B J S [.If e b1 b2 pos] (mc >>= fun b => if b = true then m1 else m2) K := by
  refine ⟨fun r q => ?_⟩
  obtain ⟨c, q1, q2⟩ := bind_some q
  cases c with
  | true =>
    rw [if_pos rfl] at q2
    exact pss_imp (pss_one (ps_if (hc.run _ q1) (h1.run r q2) (pss_never (sts := b2)))) fun D σ H ⟨I, ok, kk⟩ => ⟨I, ok.h, fun I1 H1 x1 => iteT ⟨I1, ok.ext x1, kk⟩⟩
  | false =>
    rw [if_neg Bool.false_ne_true] at q2
    exact pss_imp (pss_one (ps_if (hc.run _ q1) (pss_never (sts := b1)) (h2.run r q2))) fun D σ H ⟨I, ok, kk⟩ => ⟨I, ok.h, fun I1 H1 x1 => iteF ⟨I1, ok.ext x1, kk⟩⟩
/-- if c: (ends) ; rest -/
theorem mb_ift {mc : Option Bool} {m1 m2 : Option o} {b1 : List Stmt} (hc : MT X g B S e mc) (h1 : MB X g B J S b1 m1 K) (h2 : MB X g B J S rest m2 K) (hK : ∀ r D nx, m1 = some r → K r D → K r { D with nx := nx }) : MB X g B J S (.If e b1 [] pos :: rest) (mc >>= fun b => if b = true then m1 else m2) K := by
  refine ⟨fun r q => ?_⟩
  obtain ⟨c, q1, q2⟩ := bind_some q
  cases c with
  | true =>
    rw [if_pos rfl] at q2
    exact pss_imp (pss_cons (ps_if (hc.run _ q1) (h1.run r q2) (pss_never (sts := []))) (pss_never (sts := rest))) fun D σ H ⟨I, ok, kk⟩ => ⟨I, ok.h, fun I1 H1 x1 => iteT ⟨I1, ok.ext x1, hK r D _ q2 kk⟩⟩
  | false =>
    rw [if_neg Bool.false_ne_true] at q2
    exact pss_imp (pss_cons (ps_if (hc.run _ q1) (pss_never (sts := b1)) pss_nil) (h2.run r q2)) fun D σ H ⟨I, ok, kk⟩ => ⟨I, ok.h, fun I1 H1 x1 => iteF ⟨I1, ok.ext x1, kk⟩⟩
theorem hk_t {k : ρ → RK} {m1 : Option ρ} : ∀ r D nx, m1 = some r → Kt g B k r D → Kt g B k r { D with nx := nx } := fun _ _ _ _ h => h
/-- a block that never ends by itself -/
def NoNx {β γ ρ : Type} (m : Option (Ctl β γ ρ)) : Prop := ∀ r, m = some r → r.isNx = false
theorem nn_rt {r : ρ} : NoNx (some (Ctl.rt r : Ctl β γ ρ)) := fun _ q => by cases q; rfl
theorem nn_ct {r : γ} : NoNx (some (Ctl.ct r : Ctl β γ ρ)) := fun _ q => by cases q; rfl
theorem nn_bk {r : γ} : NoNx (some (Ctl.bk r : Ctl β γ ρ)) := fun _ q => by cases q; rfl
theorem nn_bind {m : Option α'} {f : α' → Option (Ctl β γ ρ)} (h : ∀ a, NoNx (f a)) : NoNx (m >>= f) := fun r q => by
  obtain ⟨a, _, q2⟩ := bind_some q
  exact h a r q2
theorem nn_ite {c : Prop} [Decidable c] {m1 m2 : Option (Ctl β γ ρ)} (h1 : NoNx m1) (h2 : NoNx m2) : NoNx (if c then m1 else m2) := by
  split
  · exact h1
  · exact h2
theorem hk_c {k : ρ → RK} {S' : β → SL} {T' : γ → SL} {m1 : Option (Ctl β γ ρ)} (h : NoNx m1) : ∀ r D nx, m1 = some r → Kc g B J S' T' k r D → Kc g B J S' T' k r { D with nx := nx } := fun r D nx e q => by
  have z := h r e
  cases r with
  | nx b => cases z
  | rt r => exact q
  | ct c => exact q
  | bk c => exact q
/-- if c: b1 else: b2 ; rest: a way may leave -/
theorem mb_ifc {β2 : Type} {mc : Option Bool} {m1 m2 : Option (Ctl β γ ρ)} {b1 b2 : List Stmt} {S' : β → SL} {S2 : β2 → SL} {T' : γ → SL} {k : ρ → RK} {f : β → Option (Ctl β2 γ ρ)} (hc : MT X g B S e mc) (h1 : MB X g B J S b1 m1 (Kc g B J S' T' k)) (h2 : MB X g B J S b2 m2 (Kc g B J S' T' k))
    (hb : ∀ b, MB X g B J (S' b) rest (f b) (Kc g B J S2 T' k)) : MB X g B J S (.If e b1 b2 pos :: rest) (mc >>= fun b => (if b = true then m1 else m2) >>= Ctl.seq f) (Kc g B J S2 T' k) := by
  refine ⟨fun r q => ?_⟩
  obtain ⟨c, q1, q2⟩ := bind_some q
  obtain ⟨b, q2, q3⟩ := bind_some q2
  have fin : ∀ {sts : List Stmt} {m : Option (Ctl β γ ρ)}, MB X g B J S sts m (Kc g B J S' T' k) → m = some b → ∃ u : TS, PSs X rest u ∧ PSs X sts (fun D σ H => ∃ I, Ok g B J S σ I H ∧ Kc g B J S' T' k b D) ∧ ∀ D, Kc g B J S2 T' k r D → Kc g B J S' T' k b { D with nx := u D } := fun {sts m} h e => by
    cases b with
    | nx b => exact ⟨_, (hb b).run r q3, h.run _ e, fun D kk σ I H ok => ⟨I, ok, kk⟩⟩
    | rt r' => cases q3; exact ⟨_, pss_never, h.run _ e, fun D kk => kk⟩
    | ct c => cases q3; exact ⟨_, pss_never, h.run _ e, fun D kk => kk⟩
    | bk c => cases q3; exact ⟨_, pss_never, h.run _ e, fun D kk => kk⟩
  cases c with
  | true =>
    rw [if_pos rfl] at q2
    obtain ⟨u, hu, hh, hk⟩ := fin h1 q2
    exact pss_imp (pss_cons (ps_if (hc.run _ q1) hh (pss_never (sts := b2))) hu) fun D σ H ⟨I, ok, kk⟩ => ⟨I, ok.h, fun I1 H1 x1 => iteT ⟨I1, ok.ext x1, hk D kk⟩⟩
  | false =>
    rw [if_neg Bool.false_ne_true] at q2
    obtain ⟨u, hu, hh, hk⟩ := fin h2 q2
    exact pss_imp (pss_cons (ps_if (hc.run _ q1) (pss_never (sts := b1)) hh) hu) fun D σ H ⟨I, ok, kk⟩ => ⟨I, ok.h, fun I1 H1 x1 => iteF ⟨I1, ok.ext x1, hk D kk⟩⟩
theorem mb_ifcT {mc : Option Bool} {m1 m2 : Option (Ctl β Empty ρ)} {b1 b2 : List Stmt} {S' : β → SL} {k : ρ → RK} {f : β → Option ρ} (hc : MT X g B S e mc) (h1 : MB X g B J S b1 m1 (Kc g B J S' (fun z => z.elim) k)) (h2 : MB X g B J S b2 m2 (Kc g B J S' (fun z => z.elim) k))
    (hb : ∀ b, MB X g B J (S' b) rest (f b) (Kt g B k)) : MB X g B J S (.If e b1 b2 pos :: rest) (mc >>= fun b => (if b = true then m1 else m2) >>= Ctl.seqT f) (Kt g B k) := by
  refine ⟨fun r q => ?_⟩
  obtain ⟨c, q1, q2⟩ := bind_some q
  obtain ⟨b, q2, q3⟩ := bind_some q2
  have fin : ∀ {sts : List Stmt} {m : Option (Ctl β Empty ρ)}, MB X g B J S sts m (Kc g B J S' (fun z => z.elim) k) → m = some b → ∃ u : TS, PSs X rest u ∧ PSs X sts (fun D σ H => ∃ I, Ok g B J S σ I H ∧ Kc g B J S' (fun z => z.elim) k b D) ∧ ∀ D, Kt g B k r D → Kc g B J S' (fun z => z.elim) k b { D with nx := u D } := fun {sts m} h e => by
    cases b with
    | nx b => exact ⟨_, (hb b).run r q3, h.run _ e, fun D kk σ I H ok => ⟨I, ok, kk⟩⟩
    | rt r' => cases q3; exact ⟨_, pss_never, h.run _ e, fun D kk => kk⟩
    | ct c => exact c.elim
    | bk c => exact c.elim
  cases c with
  | true =>
    rw [if_pos rfl] at q2
    obtain ⟨u, hu, hh, hk⟩ := fin h1 q2
    exact pss_imp (pss_cons (ps_if (hc.run _ q1) hh (pss_never (sts := b2))) hu) fun D σ H ⟨I, ok, kk⟩ => ⟨I, ok.h, fun I1 H1 x1 => iteT ⟨I1, ok.ext x1, hk D kk⟩⟩
  | false =>
    rw [if_neg Bool.false_ne_true] at q2
    obtain ⟨u, hu, hh, hk⟩ := fin h2 q2
    exact pss_imp (pss_cons (ps_if (hc.run _ q1) (pss_never (sts := b1)) hh) hu) fun D σ H ⟨I, ok, kk⟩ => ⟨I, ok.h, fun I1 H1 x1 => iteF ⟨I1, ok.ext x1, hk D kk⟩⟩
/-- if c: b1 else: b2 ; rest: both ways go on -/
theorem mb_if {mc : Option Bool} {m1 m2 : Option β} {b1 b2 : List Stmt} {S' : β → SL} {f : β → Option o} (hc : MT X g B S e mc) (h1 : MB X g B J S b1 m1 (Kn g B J S')) (h2 : MB X g B J S b2 m2 (Kn g B J S')) (hb : ∀ b, MB X g B J (S' b) rest (f b) K) :
    MB X g B J S (.If e b1 b2 pos :: rest) (mc >>= fun b => (if b = true then m1 else m2) >>= f) K := by
  refine ⟨fun r q => ?_⟩
  obtain ⟨c, q1, q2⟩ := bind_some q
  obtain ⟨b, q2, q3⟩ := bind_some q2
  cases c with
  | true =>
    rw [if_pos rfl] at q2
    exact pss_imp (pss_cons (ps_if (hc.run _ q1) (h1.run b q2) (pss_never (sts := b2))) ((hb b).run r q3)) fun D σ H ⟨I, ok, kk⟩ => ⟨I, ok.h, fun I1 H1 x1 => iteT ⟨I1, ok.ext x1, fun σ2 I2 H2 ok2 => ⟨I2, ok2, kk⟩⟩⟩
  | false =>
    rw [if_neg Bool.false_ne_true] at q2
    exact pss_imp (pss_cons (ps_if (hc.run _ q1) (pss_never (sts := b1)) (h2.run b q2)) ((hb b).run r q3)) fun D σ H ⟨I, ok, kk⟩ => ⟨I, ok.h, fun I1 H1 x1 => iteF ⟨I1, ok.ext x1, fun σ2 I2 H2 ok2 => ⟨I2, ok2, kk⟩⟩⟩
end
end T
set_option Elab.async false
set_option linter.all false
set_option maxRecDepth 100000
namespace T
variable [TabsC]
open PySem PySem.Spec PyProof.Rows L2

/-! loops -/
def loopC {α γ ρ : Type} (f : γ → α → Option (Ctl γ γ ρ)) : List α → γ → Option (Ctl γ Empty ρ)
  | [], s => some (.nx s)
  | x :: xs, s => f s x >>= fun c => match c with
    | .nx s' => loopC f xs s'
    | .ct s' => loopC f xs s'
    | .rt r => some (.rt r)
    | .bk s' => some (.nx s')
def loopN {α γ : Type} (f : γ → α → Option γ) : List α → γ → Option γ
  | [], s => some s
  | x :: xs, s => f s x >>= fun s' => loopN f xs s'
/-- lo, lo + 1, .. -/
def rng (lo : Int) (n : Nat) : List Int := (List.range n).map fun (i : Nat) => lo + (i : Int)
theorem rng_get {lo : Int} {n i : Nat} (h : i < n) : (rng lo n)[i]? = some (lo + (i : Int)) := by
  unfold rng
  rw [List.getElem?_map, List.getElem?_range h]
  rfl
theorem rng_len {lo : Int} {n : Nat} : (rng lo n).length = n := by
  unfold rng
  rw [List.length_map, List.length_range]
def rngOk (i j : Int) : Bool := decide (-(2 ^ 62) ≤ i ∧ i < 2 ^ 62 ∧ -(2 ^ 62) ≤ j ∧ j < 2 ^ 62) && decide ((j - i).toNat ≤ sizeLine)
@[irreducible] def rng1O (n : Int) : Option (List Int) := if rngOk 0 n = true then some (rng 0 n.toNat) else none
@[irreducible] def rng2O (a b : Int) : Option (List Int) := if rngOk a b = true then some (rng a (b - a).toNat) else none
theorem rngOk_1 {i j : Int} (h : rngOk i j = true) : -(2 ^ 62) ≤ i ∧ i < 2 ^ 62 ∧ -(2 ^ 62) ≤ j ∧ j < 2 ^ 62 := of_decide_eq_true (Bool.and_eq_true _ _ ▸ h).1
theorem rngOk_2 {i j : Int} (h : rngOk i j = true) : (j - i).toNat ≤ sizeLine := of_decide_eq_true (Bool.and_eq_true _ _ ▸ h).2
/-- what an iterator J walks: the typed items as, one after another, in every heap that goes on from I1 -/
structure WalkI {α : Type} [Py α] (g : Gb) (B : Bs) (J : It) (as : List α) (I1 : Hp) : Prop where
  go : ∀ i a I2 H2, as[i]? = some a → Same I1 I2 → Same I2 H2 → SW B.H H2 → J.go i H2
  yl : ∀ i a I2 H2 x H', as[i]? = some a → Same I1 I2 → Same I2 H2 → SW B.H H2 → J.yld i H2 x H' → ∃ I', Ext I2 H2 I' H' ∧ (Py.r g a).p I' x
  st : ∀ I2 H2, Same I1 I2 → Same I2 H2 → SW B.H H2 → J.stop as.length H2
  len : as.length ≤ sizeLine
def rdI {α : Type} [Py α] (g : Gb) (B : Bs) (S : SL) (as : List α) : TI := fun σ H R => ∃ I, Hold g B S σ I H ∧ ∀ (J : It) I' H', Ext I H I' H' → WalkI g B J as I' → R J H'
structure MI {α : Type} [Py α] (X : Cx) (g : Gb) (B : Bs) (S : SL) (tg e : Expr) (m : Option (List α)) : Prop where
  run : ∀ as, m = some as → PI X tg e (rdI g B S as)
theorem pi_imp {X : Cx} {tg e : Expr} {t t' : TI} (h : PI X tg e t) (f : ∀ σ H R, t' σ H R → t σ H R) : PI X tg e t' := ⟨fun pins s σ H R I hw => h.run pins s σ H R I (f σ H R hw)⟩
theorem walk_list {α : Type} [Py α] {g : Gb} {B : Bs} {as : List α} {a : Addr} {vs : List V} {I1 : Hp} (hL : SqL g.K I1 a vs ∨ SqL g.K B.H a vs) (hR : (rl g as).p I1 vs) : WalkI g B (Itl g.K a) as I1 where
  go := fun i x I2 H2 e s1 s2 s3 => by
    obtain ⟨v, e2, _⟩ := paired_get hR.2 e
    exact ⟨vs, v, hL.elim (fun z => s2.seq (s1.seq z)) fun z => s3.seq z, e2⟩
  yl := fun i x I2 H2 v H' e s1 s2 s3 y => by
    obtain ⟨u, e2, q⟩ := paired_get hR.2 e
    obtain ⟨rfl, y⟩ := y
    have e3 := y vs (hL.elim (fun z => s2.seq (s1.seq z)) fun z => s3.seq z)
    rw [e2] at e3
    cases e3
    exact ⟨I2, Ext.refl s2, (Py.r g x).mono s1 q⟩
  st := fun I2 H2 s1 s2 s3 => ⟨vs, hL.elim (fun z => s2.seq (s1.seq z)) fun z => s3.seq z, Nat.le_of_eq (rl_len hR)⟩
  len := hR.1
theorem walk_rng {g : Gb} {B : Bs} {lo : Int} {n : Nat} {I1 : Hp} (hn : n ≤ sizeLine) : WalkI g B (Itr lo n) (rng lo n) I1 where
  go := fun i x I2 H2 e _ _ _ => by
    have := (List.getElem?_eq_some_iff.mp e).1
    rw [rng_len] at this
    exact this
  yl := fun i x I2 H2 v H' e s1 s2 s3 y => by
    have hi := (List.getElem?_eq_some_iff.mp e).1
    rw [rng_len] at hi
    rw [rng_get hi] at e
    cases e
    obtain ⟨rfl, rfl⟩ := y
    exact ⟨I2, Ext.refl s2, rfl⟩
  st := fun I2 H2 _ _ _ => by
    rw [rng_len]
    exact Nat.le_refl _
  len := by
    rw [rng_len]
    exact hn
section
variable {X : Cx} {g : Gb} {B : Bs} {J : Hp} {S : SL} {e e1 e2 e3 tg : Expr} {es : List Expr} {pos pos' p : Pos} {o α' β γ ρ : Type} {K : KT o} {rest body : List Stmt} {α : Type} [Py α]
/-- a list that stays -/
theorem mi_im {m : Option (List α)} (h : ME X g B S e m (KI g)) (hg : X.K = g.K := by rfl) : MI X g B S tg e m := by
  refine ⟨fun as q => ?_⟩
  refine pi_imp (pi_list (h.run as q)) fun σ H R ⟨I, hh, k⟩ => ⟨I, hh, fun v I' H' x hv => ?_⟩
  obtain ⟨l, vs, rfl, h1, h2⟩ := hv
  rw [hg]
  exact ⟨l, rfl, ⟨vs, x.s.seq h1⟩, k _ I' H' x (walk_list (.inl h1) h2)⟩
/-- a borrowed list -/
theorem mi_bw (i : Nat) {x : Str} {as : List α} (hS : S[i]? = some (some (.bw (rl g as))) := by rfl) (hN : X.N[i]? = some x := by rfl) (hv : Vis X.env.scope x := by first | exact Or.inl rfl | exact Or.inr (Or.inl rfl) | exact Or.inr (Or.inr rfl))
    (hd : (x == ("__debug__" : Str)) = false := by decide) (hcd : (x == ("__classdict__" : Str)) = false := by decide) (hg : X.K = g.K := by rfl) : MI X g B S tg (.Name x pos) (some as) := by
  refine ⟨fun as' q => ?_⟩
  cases q
  refine pi_imp (pi_list (pe_var hN hv hd hcd)) fun σ H R ⟨I, hh, k⟩ => ?_
  obtain ⟨v, e1, l, vs, rfl, h3, h4⟩ := hh.at_ i _ hS
  rw [hg]
  exact ⟨_, e1, l, rfl, ⟨vs, hh.base.seq h3⟩, k _ I H (Ext.refl hh.sub) (walk_list (.inr h3) h4)⟩
theorem mi_rng1 {m : Option Int} (hm : X.mg "range" = none) (h : ME X g B S e m (KI g)) (hg : Gl X "range" := by rfl) (hs : starEach [e] X.env = [(false, eval e X.env)] := by rfl) : MI X g B S tg (.Call (.Name "range" p) [e] [] pos) (m >>= fun n => rng1O n) := by
  refine ⟨fun as q => ?_⟩
  obtain ⟨n, q1, q2⟩ := bind_some q
  unfold rng1O at q2
  by_cases hn : rngOk 0 n = true
  · rw [if_pos hn] at q2
    cases q2
    have hb := rngOk_1 hn
    have hz := rngOk_2 hn
    refine pi_imp (pi_range1 hg hm (pa_cons (h.run n q1) pa_nil hs) hs) fun σ H R ⟨I, hh, k⟩ => ⟨I, hh, fun v I' H' x hv => ⟨n, by cases hv; rfl, hb.2.2.1, hb.2.2.2, k _ I' H' x (walk_rng (by rw [Int.sub_zero] at hz; exact hz))⟩⟩
  · rw [if_neg hn] at q2
    cases q2
theorem mi_rng2 {m m2 : Option Int} (hm : X.mg "range" = none) (h : ME X g B S e m (KI g)) (h2 : ME X g B S e2 m2 (KI g)) (hg : Gl X "range" := by rfl) (hs : starEach [e, e2] X.env = [(false, eval e X.env), (false, eval e2 X.env)] := by rfl) (hs2 : starEach [e2] X.env = [(false, eval e2 X.env)] := by rfl) :
    MI X g B S tg (.Call (.Name "range" p) [e, e2] [] pos) (m >>= fun a => m2 >>= fun b => rng2O a b) := by
  refine ⟨fun as q => ?_⟩
  obtain ⟨a, q1, q⟩ := bind_some q
  obtain ⟨b, q2, q⟩ := bind_some q
  unfold rng2O at q
  by_cases hn : rngOk a b = true
  · rw [if_pos hn] at q
    cases q
    have hb := rngOk_1 hn
    have hz := rngOk_2 hn
    refine pi_imp (pi_range2 hg hm (pa_cons (h.run a q1) (pa_cons (h2.run b q2) pa_nil hs2) (by rw [hs, hs2])) hs hs2) fun σ H R ⟨I, hh, k⟩ => ⟨I, hh, fun v I' H' x hv => ⟨I', hh.ext x, fun w I2 H2 x2 hw => ⟨a, b, by cases hv; cases hw; rfl, hb, k _ I2 H2 (x.trans x2) (walk_rng hz)⟩⟩⟩
  · rw [if_neg hn] at q
    cases q
theorem wipe_get : ∀ (vs : List Nat) (σ : L2.St) (j : Nat), (wipe σ vs)[j]? = if j ∈ vs ∧ j < σ.length then some none else σ[j]?
  | [], σ, j => by rw [if_neg (by simp)]; rfl
  | v :: vs, σ, j => by
    show ((wipe σ vs).set v none)[j]? = _
    rw [List.getElem?_set, wipe_get vs σ j, wipe_length]
    by_cases hv : v = j
    · subst hv
      rw [if_pos rfl]
      by_cases hl : v < σ.length
      · rw [if_pos hl, if_pos ⟨List.mem_cons_self, hl⟩]
      · rw [if_neg hl, if_neg (fun z => hl z.2), List.getElem?_eq_none_iff.mpr (by omega)]
    · rw [if_neg hv]
      by_cases hj : j ∈ vs ∧ j < σ.length
      · rw [if_pos hj, if_pos ⟨List.mem_cons_of_mem _ hj.1, hj.2⟩]
      · rw [if_neg hj, if_neg (fun z => hj ⟨(List.mem_cons.mp z.1).resolve_left (fun q => hv q.symm), z.2⟩)]
theorem wipe_set {σ : L2.St} {i : Nat} {x : Option V} {vs : List Nat} (h : i ∈ vs) : wipe (σ.set i x) vs = wipe σ vs := by
  apply List.ext_getElem?
  intro j
  rw [wipe_get, wipe_get, List.length_set]
  by_cases hj : j ∈ vs ∧ j < σ.length
  · rw [if_pos hj, if_pos hj]
  · rw [if_neg hj, if_neg hj]
    by_cases hij : i = j
    · subst hij
      have hl : ¬ i < σ.length := fun z => hj ⟨h, z⟩
      rw [List.getElem?_eq_none_iff.mpr (by rw [List.length_set]; omega), List.getElem?_eq_none_iff.mpr (by omega)]
    · rw [List.getElem?_set_ne hij]
theorem wipe_wipe {σ : L2.St} {vs : List Nat} : wipe (wipe σ vs) vs = wipe σ vs := by
  apply List.ext_getElem?
  intro j
  rw [wipe_get vs (wipe σ vs) j, wipe_length, wipe_get vs σ j]
  by_cases hj : j ∈ vs ∧ j < σ.length
  · rw [if_pos hj, if_pos hj]
  · rw [if_neg hj]
/-- the target of a for, a typed item put into its slots ts -/
structure MG {α : Type} [Py α] (X : Cx) (g : Gb) (tg : Expr) (gt : TG) (put : α → SL → SL) (ts : List Nat) : Prop where
  pg : PG X tg gt
  ok : ∀ (B : Bs) (S : SL) (a : α) (v : V) σ I H Q, Hold g B S σ I H → (Py.r g a).p I v → (∀ σ', Hold g B (put a S) σ' I H → (∀ vs, (∀ t ∈ ts, t ∈ vs) → wipe σ' vs = wipe σ vs) → Q σ' H) → gt v σ H Q
theorem hold_put {a : α} {v : V} {i : Nat} {σ : L2.St} {I H : Hp} (h : Hold g B S σ I H) (hv : (Py.r g a).p I v) : Hold g B (S.set i (some (.im (Py.r g a)))) (σ.set i (some v)) I H := h.put (Ext.refl h.sub) rfl hv
theorem MG.oks {gt : TG} {put : α → SL → SL} {ts : List Nat} (h : MG X g tg gt put ts) {a : α} {v : V} {σ : L2.St} {I H : Hp} {Q : L2.St → Hp → Prop} (ok : Ok g B J S σ I H) (hv : (Py.r g a).p I v) (k : ∀ σ', Ok g B J (put a S) σ' I H → Q σ' H) : gt v σ H Q :=
  h.ok B S a v σ I H Q ok.h hv fun σ' h' _ => k σ' ⟨ok.x, ok.j, h'⟩
theorem mg_name (i : Nat) {x : Str} (hN : X.N.Nodup) (hi : X.N[i]? = some x := by rfl) (hx : Loc X.env.scope x := by first | exact Or.inl rfl | exact Or.inr rfl) (hf : X.fn x = true ∨ X.env.scope.names.lookup x = some .local := by first | exact .inl rfl | exact .inr rfl) :
    MG (α := α) X g (.Name x pos) (gName i) (fun a S => S.set i (some (.im (Py.r g a)))) [i] :=
  ⟨pg_name hN hi hx hf, fun B S a v σ I H Q h hv k => k _ (hold_put h hv) fun vs ht => wipe_set (ht i List.mem_cons_self)⟩
/-- a turn's reading, at all states and items at once -/
def turnN {α β : Type} [Py α] (g : Gb) (B : Bs) (put : α → SL → SL) (S' : β → SL) (fb : β → α → Option β) : TS := fun D σ H => ∃ J I s a s', Ok g B J (put a (S' s)) σ I H ∧ fb s a = some s' ∧ ∀ σ I H, Ok g B J (S' s') σ I H → D.nx σ H
def turnC {α γ ρ : Type} [Py α] (g : Gb) (B : Bs) (put : α → SL → SL) (S' : γ → SL) (k : ρ → RK) (fb : γ → α → Option (Ctl γ γ ρ)) : TS := fun D σ H => ∃ J I s a c, Ok g B J (put a (S' s)) σ I H ∧ fb s a = some c ∧ Kc g B J S' S' k c D
/-- for over a walk: Pv by the turn -/
theorem for_walk {J : It} {as : List α} {I1 : Hp} {gt : TG} {tb : TS} {D : Ends} {σ : L2.St} {H : Hp} (W : WalkI g B J as I1) (Pv : Nat → L2.St → Hp → Prop) (h0 : Pv 0 σ H)
    (hl : ∀ i σ H, Pv i σ H → ∃ I2, Same I1 I2 ∧ Same I2 H ∧ SW B.H H)
    (hs : ∀ i a σ H x H', as[i]? = some a → Pv i σ H → J.yld i H x H' → gt x σ H' fun σ2 H2 => tb { D with nx := Pv (i + 1), ct := Pv (i + 1), bk := D.nx } σ2 H2) (hd : ∀ σ H, Pv as.length σ H → D.nx σ H) :
    ∃ W : Nat → Nat → L2.St → Hp → Prop, (∃ m, W 0 m σ H) ∧ ∀ i m σ H, W i m σ H →
      (J.stop i H ∧ D.nx σ H) ∨ (J.go i H ∧ ∃ N : L2.St → Hp → Prop, (∀ σ' H', N σ' H' → ∃ m', m' < m ∧ W (i + 1) m' σ' H') ∧ ∀ x H', J.yld i H x H' → gt x σ H' fun σ2 H2 => tb { D with nx := N, ct := N, bk := D.nx } σ2 H2) := by
  refine ⟨fun i m σ H => m = as.length - i ∧ i ≤ as.length ∧ Pv i σ H, ⟨as.length, by simp, Nat.zero_le _, h0⟩, ?_⟩
  rintro i m σ H ⟨rfl, hi, p⟩
  obtain ⟨I2, s1, s2, s3⟩ := hl i σ H p
  by_cases hlt : i < as.length
  · have e : as[i]? = some as[i] := List.getElem?_eq_getElem hlt
    exact .inr ⟨W.go i _ I2 H e s1 s2 s3, Pv (i + 1), fun σ' H' p' => ⟨as.length - (i + 1), by omega, rfl, hlt, p'⟩, fun x H' y => hs i _ σ H x H' e p y⟩
  · have e : i = as.length := by omega
    subst e
    exact .inl ⟨W.st I2 H s1 s2 s3, hd σ H p⟩
theorem drop_at {as : List α} {i : Nat} {it : α} (hit : as[i]? = some it) : as.drop i = it :: as.drop (i + 1) := by
  have hlt : i < as.length := (List.getElem?_eq_some_iff.mp hit).1
  rw [List.drop_eq_getElem_cons hlt]
  rw [List.getElem?_eq_getElem hlt] at hit
  rw [Option.some.inj hit]
/-- for: every turn goes on -/
theorem mb_for {m : Option (List α)} {put : α → SL → SL} {S' : β → SL} {s0 : β} {fb : β → α → Option β} {f : β → Option o} (hp : PassesOwn (model X.prog X.w) X.A X.env X.xe) (hi : MI X g B S tg e m) {gt : TG} {ts : List Nat} (hG : MG X g tg gt put ts) (w : Wk S (S' s0))
    (hb : ∀ J s a, MB X g B J (put a (S' s)) body (fb s a) (Kn g B J S')) (hr : ∀ s, MB X g B J (S' s) rest (f s) K) (hc : X.calm = true := by rfl) (hs : ∀ x, foldedSetIterable e X.env x = pure x := by intro _; rfl) :
    MB X g B J S (.For tg e body [] pos :: rest) (m >>= fun as => loopN fb as s0 >>= f) K := by
  refine ⟨fun r q => ?_⟩
  obtain ⟨as, q1, q⟩ := bind_some q
  obtain ⟨s1, q2, q3⟩ := bind_some q
  have hg1 := hG.pg
  have hbody : PSs X body (turnN g B put S' fb) :=
    ⟨fun pins st σ H D inv ⟨J, I, s, a, s', ok, e1, k⟩ => ((hb J s a).run s' e1).run pins st σ H D inv ⟨I, ok, k⟩⟩
  refine pss_imp (pss_cons (ps_for hp hc (hi.run as q1) hg1 hbody hs) ((hr s1).run r q3)) fun D σ H ⟨I, ok, kk⟩ => ?_
  refine ⟨I, ok.h, fun J1 I1 H1 x1 hW => ?_⟩
  have F := for_walk (gt := gt) (tb := turnN g B put S' fb) (D := { D with nx := fun σ H => ∃ I, Ok g B J (S' s1) σ I H ∧ K r D }) (σ := σ) (H := H1) hW
    (fun i σ H => ∃ s I2, loopN fb (as.drop i) s = some s1 ∧ Same I1 I2 ∧ Ok g B J (S' s) σ I2 H) ⟨s0, I1, q2, Same.refl _, (ok.ext x1).wk w⟩ (fun i σ H ⟨s, I2, _, s2, ok2⟩ => ⟨I2, s2, ok2.h.sub, ok2.h.base⟩) (fun i it σ H x H' hit ⟨s, I2, hl, s2, ok2⟩ hy => ?_) (fun σ H ⟨s, I2, hl, s2, ok2⟩ => ?_)
  · exact F
  · obtain ⟨I3, x3, hv⟩ := hW.yl i it I2 H x H' hit s2 ok2.h.sub ok2.h.base hy
    rw [drop_at hit] at hl
    obtain ⟨s', e1, e2⟩ := bind_some (show (fb s it >>= fun s' => loopN fb (as.drop (i + 1)) s') = some s1 from hl)
    have ok3 : Ok g B I3 (S' s) σ I3 H' := ⟨ok2.x.trans x3, Same.refl _, ok2.h.ext x3⟩
    exact hG.oks ok3 hv fun σ' ok4 => ⟨I3, I3, s, it, s', ok4, e1, fun σ5 I5 H5 ok5 => ⟨s', I5, e2, (s2.trans x3.i).trans ok5.j, ⟨ok5.x, (ok2.j.trans x3.i).trans ok5.j, ok5.h⟩⟩⟩
  · rw [List.drop_of_length_le (Nat.le_refl _)] at hl
    cases hl
    exact ⟨I2, ok2, kk⟩
/-- a way out of the loop, as the block goes on from it -/
structure KL {γ ρ o : Type} (g : Gb) (B : Bs) (K : KT o) (k : ρ → RK) (inj : ρ → o) : Prop where
  rt : ∀ r D, K (inj r) D → ∀ v I' H', Ext B.I B.H I' H' → RK.holds g (k r) B.H v I' H' → D.rt v H'
/-- for: a turn may leave, go on ahead of its end, break -/
theorem mb_forC {m : Option (List α)} {put : α → SL → SL} {S' : γ → SL} {s0 : γ} {k : ρ → RK} {fb : γ → α → Option (Ctl γ γ ρ)} {f : Ctl γ Empty ρ → Option o} {f0 : γ → Option o} {inj : ρ → o} (kr : KR g B K inj k) (hp : PassesOwn (model X.prog X.w) X.A X.env X.xe) (hi : MI X g B S tg e m) {gt : TG} {ts : List Nat} (hG : MG X g tg gt put ts) (w : Wk S (S' s0))
    (hb : ∀ J s a, MB X g B J (put a (S' s)) body (fb s a) (Kc g B J S' S' k)) (hr : ∀ s, MB X g B J (S' s) rest (f0 s) K) (hf : ∀ s, f (.nx s) = f0 s) (hf2 : ∀ r, f (.rt r) = some (inj r)) (hc : X.calm = true := by rfl) (hs : ∀ x, foldedSetIterable e X.env x = pure x := by intro _; rfl) :
    MB X g B J S (.For tg e body [] pos :: rest) (m >>= fun as => loopC fb as s0 >>= f) K := by
  refine ⟨fun r q => ?_⟩
  obtain ⟨as, q1, q⟩ := bind_some q
  obtain ⟨c1, q2, q3⟩ := bind_some q
  have hg1 := hG.pg
  have hbody : PSs X body (turnC g B put S' k fb) :=
    ⟨fun pins st σ H D inv ⟨J, I, s, a, c, ok, e1, k⟩ => ((hb J s a).run c e1).run pins st σ H D inv ⟨I, ok, k⟩⟩
  obtain ⟨u, hu, hk⟩ : ∃ u : TS, PSs X rest u ∧ ∀ D, K r D → (∀ s1, c1 = .nx s1 → ∀ σ I H, Ok g B J (S' s1) σ I H → u D σ H) ∧ (∀ r1, c1 = .rt r1 → ∀ v I' H', Ext B.I B.H I' H' → RK.holds g (k r1) B.H v I' H' → D.rt v H') := by
    cases c1 with
    | nx s1 =>
      rw [hf] at q3
      exact ⟨_, (hr s1).run r q3, fun D kk => ⟨fun s2 e2 σ I H ok => (by cases e2; exact ⟨I, ok, kk⟩), fun r1 e2 => (by cases e2)⟩⟩
    | rt r1 =>
      rw [hf2] at q3
      cases q3
      exact ⟨_, pss_never, fun D kk => ⟨fun s2 e2 => (by cases e2), fun r2 e2 => (by cases e2; exact kr r1 D kk)⟩⟩
    | ct c => exact c.elim
    | bk c => exact c.elim
  refine pss_imp (pss_cons (ps_for hp hc (hi.run as q1) hg1 hbody hs) hu) fun D σ H ⟨I, ok, kk⟩ => ?_
  obtain ⟨hk1, hk2⟩ := hk D kk
  refine ⟨I, ok.h, fun J1 I1 H1 x1 hW => ?_⟩
  have F := for_walk (gt := gt) (tb := turnC g B put S' k fb) (D := { D with nx := u D }) (σ := σ) (H := H1) hW
    (fun i σ H => ∃ s I2, loopC fb (as.drop i) s = some c1 ∧ Same I1 I2 ∧ Ok g B J (S' s) σ I2 H) ⟨s0, I1, q2, Same.refl _, (ok.ext x1).wk w⟩ (fun i σ H ⟨s, I2, _, s2, ok2⟩ => ⟨I2, s2, ok2.h.sub, ok2.h.base⟩) (fun i it σ H x H' hit ⟨s, I2, hl, s2, ok2⟩ hy => ?_) (fun σ H ⟨s, I2, hl, s2, ok2⟩ => ?_)
  · exact F
  · obtain ⟨I3, x3, hv⟩ := hW.yl i it I2 H x H' hit s2 ok2.h.sub ok2.h.base hy
    rw [drop_at hit] at hl
    obtain ⟨c', e1, e2⟩ := bind_some hl
    have ok3 : Ok g B I3 (S' s) σ I3 H' := ⟨ok2.x.trans x3, Same.refl _, ok2.h.ext x3⟩
    refine hG.oks ok3 hv fun σ' ok4 => ⟨I3, I3, s, it, c', ok4, e1, ?_⟩
    cases c' with
    | nx s' => exact fun σ5 I5 H5 ok5 => ⟨s', I5, e2, (s2.trans x3.i).trans ok5.j, ⟨ok5.x, (ok2.j.trans x3.i).trans ok5.j, ok5.h⟩⟩
    | ct s' => exact fun σ5 I5 H5 ok5 => ⟨s', I5, e2, (s2.trans x3.i).trans ok5.j, ⟨ok5.x, (ok2.j.trans x3.i).trans ok5.j, ok5.h⟩⟩
    | rt r1 =>
      cases e2
      exact hk2 r1 rfl
    | bk s' =>
      cases e2
      exact fun σ5 I5 H5 ok5 => hk1 s' rfl σ5 I5 H5 ⟨ok5.x, (ok2.j.trans x3.i).trans ok5.j, ok5.h⟩
  · rw [List.drop_of_length_le (Nat.le_refl _)] at hl
    cases hl
    exact hk1 s rfl σ I2 H ok2
/-! while -/
def whileC {γ ρ : Type} (c : γ → Option Bool) (f : γ → Option (Ctl γ γ ρ)) : Nat → γ → Option (Ctl γ Empty ρ)
  | 0, _ => none
  | n + 1, s => c s >>= fun b => if b = true then (f s >>= fun c' => match c' with
    | .nx s' => whileC c f n s'
    | .ct s' => whileC c f n s'
    | .rt r => some (.rt r)
    | .bk s' => some (.nx s')) else some (.nx s)
def wtest {γ : Type} (g : Gb) (B : Bs) (S' : γ → SL) (cm : γ → Option Bool) : TT := fun σ H Q => ∃ s I b, Hold g B (S' s) σ I H ∧ cm s = some b ∧ ∀ I' H', Ext I H I' H' → Q b H'
def wturn {γ ρ : Type} (g : Gb) (B : Bs) (J : Hp) (S' : γ → SL) (k : ρ → RK) (fb : γ → Option (Ctl γ γ ρ)) : TS := fun D σ H => ∃ I s c, Ok g B J (S' s) σ I H ∧ fb s = some c ∧ Kc g B J S' S' k c D
theorem mb_while {c : Expr} (N : Nat) {S' : γ → SL} {s0 : γ} {k : ρ → RK} {cm : γ → Option Bool} {fb : γ → Option (Ctl γ γ ρ)} {f : Ctl γ Empty ρ → Option o} {f0 : γ → Option o} {inj : ρ → o} (kr : KR g B K inj k) (hp : PassesOwn (model X.prog X.w) X.A X.env X.xe) (w : Wk S (S' s0))
    (hc : ∀ s, MT X g B (S' s) c (cm s)) (hb : ∀ s, MB X g B J (S' s) body (fb s) (Kc g B J S' S' k)) (hr : ∀ s, MB X g B J (S' s) rest (f0 s) K) (hf : ∀ s, f (.nx s) = f0 s) (hf2 : ∀ r, f (.rt r) = some (inj r)) :
    MB X g B J S (.While c body [] pos :: rest) (whileC cm fb N s0 >>= f) K := by
  refine ⟨fun r q => ?_⟩
  obtain ⟨c1, q2, q3⟩ := bind_some q
  have htest : PT X c (wtest g B S' cm) := ⟨fun pins st σ H Q inv ⟨s, I, b, hh, e1, kq⟩ => ((hc s).run b e1).run pins st σ H Q inv ⟨I, hh, kq⟩⟩
  have hbody : PSs X body (wturn g B J S' k fb) := ⟨fun pins st σ H D inv ⟨I, s, c, ok, e1, kq⟩ => ((hb s).run c e1).run pins st σ H D inv ⟨I, ok, kq⟩⟩
  obtain ⟨u, hu, hk⟩ : ∃ u : TS, PSs X rest u ∧ ∀ D, K r D → (∀ s1, c1 = .nx s1 → ∀ σ I H, Ok g B J (S' s1) σ I H → u D σ H) ∧ (∀ r1, c1 = .rt r1 → ∀ v I' H', Ext B.I B.H I' H' → RK.holds g (k r1) B.H v I' H' → D.rt v H') := by
    cases c1 with
    | nx s1 =>
      rw [hf] at q3
      exact ⟨_, (hr s1).run r q3, fun D kk => ⟨fun s2 e2 σ I H ok => (by cases e2; exact ⟨I, ok, kk⟩), fun r1 e2 => (by cases e2)⟩⟩
    | rt r1 =>
      rw [hf2] at q3
      cases q3
      exact ⟨_, pss_never, fun D kk => ⟨fun s2 e2 => (by cases e2), fun r2 e2 => (by cases e2; exact kr r1 D kk)⟩⟩
    | ct c => exact c.elim
    | bk c => exact c.elim
  refine pss_imp (pss_cons (ps_while hp htest hbody) hu) fun D σ H ⟨I, ok, kk⟩ => ?_
  obtain ⟨hk1, hk2⟩ := hk D kk
  refine ⟨fun n σ H => ∃ s I2, whileC cm fb n s = some c1 ∧ Ok g B J (S' s) σ I2 H, ⟨N, s0, I, q2, ok.wk w⟩, ?_⟩
  rintro n σ H ⟨s, I2, hl, ok2⟩
  cases n with
  | zero => cases hl
  | succ n =>
    obtain ⟨b, e1, e2⟩ := bind_some hl
    refine ⟨s, I2, b, ok2.h, e1, fun I3 H3 x3 => ?_⟩
    cases b with
    | false =>
      rw [if_neg Bool.false_ne_true] at e2 ⊢
      cases e2
      exact hk1 s rfl σ I3 H3 (ok2.ext x3)
    | true =>
      rw [if_pos rfl] at e2 ⊢
      obtain ⟨c', e3, e4⟩ := bind_some e2
      refine ⟨fun σ' H' => ∃ s I2, whileC cm fb n s = some c1 ∧ Ok g B J (S' s) σ' I2 H', fun σ' H' h => ⟨n, Nat.lt_succ_self n, h⟩, I3, s, c', ok2.ext x3, e3, ?_⟩
      cases c' with
      | nx s' => exact fun σ5 I5 H5 ok5 => ⟨s', I5, e4, ok5⟩
      | ct s' => exact fun σ5 I5 H5 ok5 => ⟨s', I5, e4, ok5⟩
      | rt r1 =>
        cases e4
        exact hk2 r1 rfl
      | bk s' =>
        cases e4
        exact fun σ5 I5 H5 ok5 => hk1 s' rfl σ5 I5 H5 ok5
end
end T
set_option Elab.async false
set_option linter.all false
set_option maxRecDepth 100000
namespace T
variable [TabsC]
open PySem PySem.Spec PyProof.Rows L2

/-! a def -/
def S0 (N : List Str) (ks : List RK) : SL := ks.map some ++ List.replicate (N.length - ks.length) none
def RK.argy : RK → Bool
  | .im _ => true
  | .bw _ => true
  | _ => false
theorem hold_start {g : Gb} {N : List Str} {ks : List RK} {vs : List V} {I H : Hp} (hl : ks.length ≤ N.length) (s : Same I H) (tb : TbI I H) (hA : Args g ks vs I H) (hk : ks.all RK.argy = true) : Ok g ⟨I, H⟩ I (S0 N ks) (L2.start N vs) I H := by
  have hlen : ks.length = vs.length := Paired.length hA
  have arg : ∀ {i : Nat} {k : RK}, (S0 N ks)[i]? = some (some k) → ks[i]? = some k := fun {i k} e => by
    unfold S0 at e
    by_cases hi : i < ks.length
    · rw [List.getElem?_append_left (by rw [List.length_map]; exact hi), List.getElem?_map] at e
      cases q : ks[i]? with
      | none => rw [q] at e; cases e
      | some k' => rw [q] at e; cases e; rfl
    · rw [List.getElem?_append_right (by rw [List.length_map]; omega)] at e
      obtain ⟨h1, h2⟩ := List.getElem?_eq_some_iff.mp e
      rw [List.getElem_replicate] at h2
      cases h2
  refine ⟨Ext.refl s, Same.refl _, fun _ _ => none, ?_, s, SW.refl _, .of tb, fun i k e => ?_, fun i a o z => (by cases z), fun i j a z => absurd rfl z⟩
  · unfold S0 L2.start
    simp only [List.length_append, List.length_map, List.length_replicate]
    omega
  · obtain ⟨v, e2, q⟩ := paired_get hA (arg e)
    refine ⟨v, ?_, ?_⟩
    · unfold L2.start
      rw [List.getElem?_append_left (by rw [List.length_map]; exact (List.getElem?_eq_some_iff.mp e2).1), List.getElem?_map, e2]
      rfl
    · have ha := List.all_eq_true.mp hk _ (List.mem_of_getElem? (arg e))
      cases k with
      | im p => exact q
      | bw p => exact q
      | fr p => cases ha
      | rd p => cases ha
      | ow p => cases ha
section
variable {P : Program} {w : World} {K : PySem.W.Frag} {mg : Str → Option Value} {base : Heap} {ι β : Type} {args : ι → List RK} {M : ι → Option β} {kd : β → RK}
theorem fn_mk {x qual : Str} {st : Stmt} {f : Addr} {fd : FuncData} {N ps : List Str} {k : Nat} (F : Fun K x qual st f fd) (Sc : FnScope N ps (defScope st)) (hn : ∀ a, (args a).length = ps.length) (hk : ∀ a, (args a).all RK.argy = true) (hN : ps.length ≤ N.length)
    (body : ∀ (cdv : Value) (A : Around) (outer : List Env) (s : Shared) (H : Hp) (E : XK) (I : Hp) (a : ι), Room k (A.deeper (envOfC qual (defScope st) s.heap.objs.size f cdv)) →
      MB (cxOf CX0 P w K mg base N qual (defScope st) f cdv A outer s H E).nox ⟨K, mg⟩ ⟨I, H⟩ I (S0 N (args a)) (defBody st) (M a) (Kt ⟨K, mg⟩ ⟨I, H⟩ kd)) :
    FnOk P w K mg base CX0 (k + 1) f fd ps (spT ⟨K, mg⟩ args M kd) := by
  refine F.ok Sc (fun vs H Q E ⟨I, a, r, s, _, hA, _⟩ => ?_) (fun cdv A outer s H vs Q E hr ⟨I, a, r, si, tb, hA, hM, q⟩ => ?_)
  · rw [← Paired.length hA, hn]
  · exact ⟨_, (body cdv A outer s H E I a hr).run r hM, I, hold_start (by rw [hn]; exact hN) si tb hA (hk a), fun v I' H' x hv => q v I' H' x hv⟩
end

section
variable {X : Cx} {g : Gb} {B : Bs} {J : Hp} {S : SL} {e e1 e2 e3 tg : Expr} {es : List Expr} {pos pos' p : Pos} {o α' β' γ ρ : Type} {K : KT o} {rest body : List Stmt} {α β : Type} [Py α] [Py β] {m : Option (List α)} {k : List α → RK}
/-! built-ins -/
theorem me_len (hm : X.mg "len" = none) (h : ME X g B S e m k) (r : LR g k := by first | exact lr_im | exact lr_fr | exact lr_rd) (hg : Gl X "len" := by rfl) (hK : X.K = g.K := by rfl) (he : starEach [e] X.env = (false, eval e X.env) :: starEach [] X.env := by rfl) (hpl : (backTo pos (starEach [] X.env)).any (·.1) = false := by rfl) :
    ME X g B S (.Call (.Name "len" p) [e] [] pos) (m >>= fun xs => some (xs.length : Int)) (KI g) := by
  refine ⟨fun n q => ?_⟩
  obtain ⟨xs, q1, q2⟩ := bind_some q
  cases q2
  refine pe_imp (pe_callB call_len_seq hg hm PySem.boot_len (pa_cons (h.run xs q1) pa_nil he) (he := he) (hpl := hpl)) fun σ H Q ⟨I, hh, kk⟩ => ⟨I, hh, fun v I' H' x hv => ?_⟩
  obtain ⟨l, vs, rfl, h1, h2⟩ := r xs _ _ _ _ x.s hv
  refine ⟨l, vs, rfl, .inl (by rw [hK]; exact h1), ?_⟩
  rw [rl_len h2]
  exact kk _ I' H' x rfl
theorem me_sum {m : Option (List Int)} {k : List Int → RK} (hm : X.mg "sum" = none) (h : ME X g B S e m k) (r : LR g k := by first | exact lr_im | exact lr_fr | exact lr_rd) (hg : Gl X "sum" := by rfl) (hK : X.K = g.K := by rfl) (hc : X.calm = true := by rfl) (he : starEach [e] X.env = (false, eval e X.env) :: starEach [] X.env := by rfl) (hpl : (backTo pos (starEach [] X.env)).any (·.1) = false := by rfl) :
    ME X g B S (.Call (.Name "sum" p) [e] [] pos) (m >>= fun xs => some xs.sum) (KI g) := by
  refine ⟨fun n q => ?_⟩
  obtain ⟨xs, q1, q2⟩ := bind_some q
  cases q2
  refine pe_imp (pe_callB (cr_sum hc) hg hm (by decide +kernel) (pa_cons (h.run xs q1) pa_nil he) (he := he) (hpl := hpl)) fun σ H Q ⟨I, hh, kk⟩ => ⟨I, hh, fun v I' H' x hv => ?_⟩
  obtain ⟨l, vs, rfl, h1, h2⟩ := r xs _ _ _ _ x.s hv
  have e1 := vals_ints h2.2
  subst e1
  exact ⟨l, xs, rfl, by rw [hK]; exact h1, kk _ I' H' x rfl⟩
theorem me_call1B {id : String} {f x : Str} {rr : List V → Hp → VK → Prop} {m1 : Option α'} {k1 : α' → RK} {k2 : β' → RK} {fm : α' → Option β'} (hm : X.mg x = none) (hr : CallR X (.builtin id) rr) (hv : bootBuiltins x = some (.builtin id)) (h : ME X g B S e m1 k1)
    (hq : ∀ a b, fm a = some b → ∀ v H0 I H Q, Same I H → RK.holds g (k1 a) H0 v I H → (∀ u I' H', Ext I H I' H' → RK.holds g (k2 b) H u I' H' → Q u H') → rr [v] H Q) (hb : ∀ c, (k2 c).isB = false := by intro _; rfl)
    (hg : Gl X x := by rfl) (hn : x ≠ "__name__" := by decide) (hdb : (x == ("__debug__" : Str)) = false := by decide) (he : starEach [e] X.env = (false, eval e X.env) :: starEach [] X.env := by rfl) (hpl : (backTo pos (starEach [] X.env)).any (·.1) = false := by rfl) :
    ME X g B S (.Call (.Name x p) [e] [] pos) (m1 >>= fm) k2 := by
  refine ⟨fun n q => ?_⟩
  obtain ⟨a, q1, q2⟩ := bind_some q
  refine pe_imp (pe_callB hr hg hm hv (pa_cons (h.run a q1) pa_nil he) hn hdb he hpl) fun σ H Q ⟨I, hh, kk⟩ => ⟨I, hh, fun v I' H' x hv => ?_⟩
  exact hq a n q2 v H I' H' Q x.s hv fun u I2 H2 x2 hu => kk u I2 H2 (x.trans x2) (RK.back (hb n) x.h hu)
theorem me_call2B {id : String} {x : Str} {rr : List V → Hp → VK → Prop} {γ' : Type} {m1 : Option α'} {m2 : Option γ'} {k1 : α' → RK} {k2 : γ' → RK} {k3 : β' → RK} {fm : α' → γ' → Option β'} (hm : X.mg x = none) (hr : CallR X (.builtin id) rr) (hv : bootBuiltins x = some (.builtin id)) (h : ME X g B S e m1 k1) (h2 : ME X g B S e2 m2 k2)
    (hq : ∀ a c b, fm a c = some b → ∀ v w H0 H1 I H Q, Same I H → RK.holds g (k1 a) H0 v I H → RK.holds g (k2 c) H1 w I H → (∀ u I' H', Ext I H I' H' → RK.holds g (k3 b) H u I' H' → Q u H') → rr [v, w] H Q) (hb : ∀ c, (k3 c).isB = false := by intro _; rfl)
    (hg : Gl X x := by rfl) (hn : x ≠ "__name__" := by decide) (hdb : (x == ("__debug__" : Str)) = false := by decide) (he : starEach [e, e2] X.env = (false, eval e X.env) :: starEach [e2] X.env := by rfl) (he2 : starEach [e2] X.env = (false, eval e2 X.env) :: starEach [] X.env := by rfl) (hpl : (backTo pos (starEach [e2] X.env)).any (·.1) = false := by rfl) :
    ME X g B S (.Call (.Name x p) [e, e2] [] pos) (m1 >>= fun a => m2 >>= fun c => fm a c) k3 := by
  refine ⟨fun n q => ?_⟩
  obtain ⟨a, q1, q⟩ := bind_some q
  obtain ⟨c, q2, q3⟩ := bind_some q
  refine pe_imp (pe_callB hr hg hm hv (pa_cons (h.run a q1) (pa_cons (h2.run c q2) pa_nil he2) he) hn hdb he hpl) fun σ H Q ⟨I, hh, kk⟩ => ⟨I, hh, fun v I' H' x hv => ⟨I', hh.ext x, fun w I2 H2 x2 hw => ?_⟩⟩
  exact hq a c n q3 v w H H' I2 H2 Q x2.s (RK.ext hv x2 hh.tb.has) hw fun u I3 H3 x3 hu => kk u I3 H3 ((x.trans x2).trans x3) (RK.back (hb n) (x.trans x2).h hu)
theorem me_min {m1 m2 : Option Int} (hm : X.mg "min" = none) (h : ME X g B S e m1 (KI g)) (h2 : ME X g B S e2 m2 (KI g)) (hc : X.calm = true := by rfl) (hg : Gl X "min" := by rfl) (he : starEach [e, e2] X.env = (false, eval e X.env) :: starEach [e2] X.env := by rfl) (he2 : starEach [e2] X.env = (false, eval e2 X.env) :: starEach [] X.env := by rfl) (hpl : (backTo pos (starEach [e2] X.env)).any (·.1) = false := by rfl) :
    ME X g B S (.Call (.Name "min" p) [e, e2] [] pos) (m1 >>= fun a => m2 >>= fun c => some (min a c)) (KI g) :=
  me_call2B hm (call_min2 hc) (by decide +kernel) h h2 (fun a c b q v w H0 H1 I H Q s hv hw k => by
    cases q
    refine ⟨a, c, by cases hv; cases hw; rfl, ?_⟩
    have e : (if c < a then c else a) = min a c := by rw [Int.min_def]; split <;> split <;> omega
    rw [e]
    exact k _ _ _ (Ext.refl s) rfl) (hg := hg) (he := he) (he2 := he2) (hpl := hpl)
theorem me_max {m1 m2 : Option Int} (hm : X.mg "max" = none) (h : ME X g B S e m1 (KI g)) (h2 : ME X g B S e2 m2 (KI g)) (hc : X.calm = true := by rfl) (hg : Gl X "max" := by rfl) (he : starEach [e, e2] X.env = (false, eval e X.env) :: starEach [e2] X.env := by rfl) (he2 : starEach [e2] X.env = (false, eval e2 X.env) :: starEach [] X.env := by rfl) (hpl : (backTo pos (starEach [e2] X.env)).any (·.1) = false := by rfl) :
    ME X g B S (.Call (.Name "max" p) [e, e2] [] pos) (m1 >>= fun a => m2 >>= fun c => some (max a c)) (KI g) :=
  me_call2B hm (call_max2 hc) (by decide +kernel) h h2 (fun a c b q v w H0 H1 I H Q s hv hw k => by
    cases q
    refine ⟨a, c, by cases hv; cases hw; rfl, ?_⟩
    have e : (if c > a then c else a) = max a c := by rw [Int.max_def]; split <;> split <;> omega
    rw [e]
    exact k _ _ _ (Ext.refl s) rfl) (hg := hg) (he := he) (he2 := he2) (hpl := hpl)
theorem me_abs {m1 : Option Int} (hm : X.mg "abs" = none) (h : ME X g B S e m1 (KI g)) (hg : Gl X "abs" := by rfl) (he : starEach [e] X.env = (false, eval e X.env) :: starEach [] X.env := by rfl) (hpl : (backTo pos (starEach [] X.env)).any (·.1) = false := by rfl) :
    ME X g B S (.Call (.Name "abs" p) [e] [] pos) (m1 >>= fun a => some (a.natAbs : Int)) (KI g) :=
  me_call1B (f := "") hm call_abs (by decide +kernel) h (fun a b q v H0 I H Q s hv k => by
    cases q
    refine ⟨a, by cases hv; rfl, ?_⟩
    have e : (if a < 0 then -a else a) = (a.natAbs : Int) := by split <;> omega
    rw [e]
    exact k _ _ _ (Ext.refl s) rfl) (hg := hg) (he := he) (hpl := hpl)
theorem me_callTy1 {Ty : String} {x : Str} {rr : List V → Hp → VK → Prop} {m1 : Option α'} {k1 : α' → RK} {k2 : β' → RK} {fm : α' → Option β'} (hm : X.mg x = none) (hr : CallR X (.type Ty) rr) (hv : bootBuiltins x = some (.type Ty)) (h : ME X g B S e m1 k1)
    (hq : ∀ a b, fm a = some b → ∀ v H0 I H Q, Same I H → RK.holds g (k1 a) H0 v I H → (∀ u I' H', Ext I H I' H' → RK.holds g (k2 b) H u I' H' → Q u H') → rr [v] H Q) (hb : ∀ c, (k2 c).isB = false := by intro _; rfl)
    (hg : Gl X x := by rfl) (hn : x ≠ "__name__" := by decide) (hdb : (x == ("__debug__" : Str)) = false := by decide) (he : starEach [e] X.env = (false, eval e X.env) :: starEach [] X.env := by rfl) (hpl : (backTo pos (starEach [] X.env)).any (·.1) = false := by rfl) :
    ME X g B S (.Call (.Name x p) [e] [] pos) (m1 >>= fm) k2 := by
  refine ⟨fun n q => ?_⟩
  obtain ⟨a, q1, q2⟩ := bind_some q
  refine pe_imp (pe_callTy hr hg hm hv (pa_cons (h.run a q1) pa_nil he) hn hdb he hpl) fun σ H Q ⟨I, hh, kk⟩ => ⟨I, hh, fun v I' H' x hv => ?_⟩
  exact hq a n q2 v H I' H' Q x.s hv fun u I2 H2 x2 hu => kk u I2 H2 (x.trans x2) (RK.back (hb n) x.h hu)
/-- int(a truth) -/
def b2z (b : Bool) : Int := if b = true then 1 else 0
theorem me_intB {m1 : Option Bool} (hm : X.mg "int" = none) (h : ME X g B S e m1 (KI g)) (hg : Gl X "int" := by rfl) (he : starEach [e] X.env = (false, eval e X.env) :: starEach [] X.env := by rfl) (hpl : (backTo pos (starEach [] X.env)).any (·.1) = false := by rfl) :
    ME X g B S (.Call (.Name "int" p) [e] [] pos) (m1 >>= fun a => some (b2z a)) (KI g) :=
  me_callTy1 hm call_int1 (by decide +kernel) h (fun a b q v H0 I H Q s hv k => by
    cases q
    exact .inr ⟨a, by cases hv; rfl, k _ _ _ (Ext.refl s) rfl⟩) (hg := hg) (he := he) (hpl := hpl)
/-- a list laid anew -/
theorem new_fr {as : List α} {vs : List V} {I H : Hp} {Q : VK} (s : Same I H) (h : (rl g as).p I vs) (k : ∀ u I' H', Ext I H I' H' → RK.holds g (.fr (rl g as)) H u I' H' → Q u H') {l : Addr} (hl : H l = none) : Q (.ref l) (upd H l (.lst vs)) := by
  have hI : I l = none := s.free hl
  refine k (.ref l) I _ ⟨Same.refl _, SW.of (same_new hl), s.trans (same_new hl), fun _ _ h => h⟩ ⟨l, vs, rfl, hl, hI, upd_same, h⟩
theorem me_list (hm : X.mg "list" = none) (h : ME X g B S e m k) (r : LR g k := by first | exact lr_im | exact lr_fr | exact lr_rd) (hg : Gl X "list" := by rfl) (hK : X.K = g.K := by rfl) (he : starEach [e] X.env = (false, eval e X.env) :: starEach [] X.env := by rfl) (hpl : (backTo pos (starEach [] X.env)).any (·.1) = false := by rfl) :
    ME X g B S (.Call (.Name "list" p) [e] [] pos) (m >>= fun xs => some xs) (fun xs => .fr (rl g xs)) :=
  me_callTy1 hm call_list_of (by decide +kernel) h (fun a b q v H0 I H Q s hv kk => by
    cases q
    obtain ⟨l, vs, rfl, h1, h2⟩ := r a _ _ _ _ s hv
    exact ⟨l, vs, rfl, .inl (by rw [hK]; exact h1), fun p hp => new_fr s h2 kk hp⟩) (hg := hg) (he := he) (hpl := hpl)

/-! items -/
theorem me_ix {m2 : Option Int} (h1 : ME X g B S e1 m k) (h2 : ME X g B S e2 m2 (KI g)) (r : LR g k := by first | exact lr_im | exact lr_fr | exact lr_rd) (hK : X.K = g.K := by rfl) (hs : PlainIx e2 := by exact fun _ _ => rfl) : ME X g B S (.Subscript e1 e2 pos) (m >>= fun xs => m2 >>= fun i => atO xs i) (KI g) := by
  refine ⟨fun a q => ?_⟩
  obtain ⟨xs, q1, q⟩ := bind_some q
  obtain ⟨i, q2, q3⟩ := bind_some q
  rw [atO_eq] at q3
  refine pe_imp (pe_ix ix_list (h1.run xs q1) (h2.run i q2) hs) fun σ H Q ⟨I, hh, kk⟩ => ⟨I, hh, fun v I' H' x hv => ⟨I', hh.ext x, fun w I2 H2 x2 hw => ?_⟩⟩
  obtain ⟨l, vs, rfl, h3, h4⟩ := r xs _ _ _ _ x2.s (RK.ext hv x2 hh.tb.has)
  obtain ⟨u, hu, hq⟩ := paired_at h4.2 q3
  exact ⟨l, vs, i, u, rfl, hw, by rw [hK]; exact h3, hu, kk u I2 H2 (x.trans x2) hq⟩
/-- an item of a tuple at a written place -/
theorem me_tix {γ' : Type} [Py γ'] {m : Option γ'} (n : Nat) {j : Nat} {f : γ' → α} (h1 : ME X g B S e1 m (KI g)) (ht : ∀ (t : γ') I v, (Py.r g t).p I v → ∃ p vs u, v = .ref p ∧ SqT g.K I p vs ∧ vs[n]? = some u ∧ (Py.r g (f t)).p I u) (hK : X.K = g.K := by rfl) :
    ME X g B S (.Subscript e1 (.Constant (.int n) j pos') pos) (m >>= fun t => some (f t)) (KI g) := by
  refine ⟨fun a q => ?_⟩
  obtain ⟨t, q1, q⟩ := bind_some q
  cases q
  refine pe_imp (pe_ix ix_tup (h1.run t q1) pe_int (fun _ _ => rfl)) fun σ H Q ⟨I, hh, kk⟩ => ⟨I, hh, fun v I' H' x hv => ?_⟩
  obtain ⟨p, vs, u, rfl, h3, h4, h5⟩ := ht t _ _ hv
  exact ⟨p, vs, n, u, rfl, rfl, by rw [hK]; exact seqT x.s h3, atI_nat h4, kk u I' H' x h5⟩
end
section
variable {g : Gb} {α β γ δ : Type} [Py α] [Py β] [Py γ] [Py δ]
theorem t2_0 (t : T2 α β) (I v) (h : (Py.r g t).p I v) : ∃ p vs u, v = V.ref p ∧ SqT g.K I p vs ∧ vs[0]? = some u ∧ (Py.r g t.x0).p I u := by
  obtain ⟨p, a, b, rfl, h0, h1, h2⟩ := h; exact ⟨p, _, a, rfl, h0, rfl, h1⟩
theorem t2_1 (t : T2 α β) (I v) (h : (Py.r g t).p I v) : ∃ p vs u, v = V.ref p ∧ SqT g.K I p vs ∧ vs[1]? = some u ∧ (Py.r g t.x1).p I u := by
  obtain ⟨p, a, b, rfl, h0, h1, h2⟩ := h; exact ⟨p, _, b, rfl, h0, rfl, h2⟩
theorem t3_0 (t : T3 α β γ) (I v) (h : (Py.r g t).p I v) : ∃ p vs u, v = V.ref p ∧ SqT g.K I p vs ∧ vs[0]? = some u ∧ (Py.r g t.x0).p I u := by
  obtain ⟨p, a, b, c, rfl, h0, h1, h2, h3⟩ := h; exact ⟨p, _, a, rfl, h0, rfl, h1⟩
theorem t3_1 (t : T3 α β γ) (I v) (h : (Py.r g t).p I v) : ∃ p vs u, v = V.ref p ∧ SqT g.K I p vs ∧ vs[1]? = some u ∧ (Py.r g t.x1).p I u := by
  obtain ⟨p, a, b, c, rfl, h0, h1, h2, h3⟩ := h; exact ⟨p, _, b, rfl, h0, rfl, h2⟩
theorem t3_2 (t : T3 α β γ) (I v) (h : (Py.r g t).p I v) : ∃ p vs u, v = V.ref p ∧ SqT g.K I p vs ∧ vs[2]? = some u ∧ (Py.r g t.x2).p I u := by
  obtain ⟨p, a, b, c, rfl, h0, h1, h2, h3⟩ := h; exact ⟨p, _, c, rfl, h0, rfl, h3⟩
theorem t4_0 (t : T4 α β γ δ) (I v) (h : (Py.r g t).p I v) : ∃ p vs u, v = V.ref p ∧ SqT g.K I p vs ∧ vs[0]? = some u ∧ (Py.r g t.x0).p I u := by
  obtain ⟨p, a, b, c, d, rfl, h0, h1, h2, h3, h4⟩ := h; exact ⟨p, _, a, rfl, h0, rfl, h1⟩
theorem t4_1 (t : T4 α β γ δ) (I v) (h : (Py.r g t).p I v) : ∃ p vs u, v = V.ref p ∧ SqT g.K I p vs ∧ vs[1]? = some u ∧ (Py.r g t.x1).p I u := by
  obtain ⟨p, a, b, c, d, rfl, h0, h1, h2, h3, h4⟩ := h; exact ⟨p, _, b, rfl, h0, rfl, h2⟩
theorem t4_2 (t : T4 α β γ δ) (I v) (h : (Py.r g t).p I v) : ∃ p vs u, v = V.ref p ∧ SqT g.K I p vs ∧ vs[2]? = some u ∧ (Py.r g t.x2).p I u := by
  obtain ⟨p, a, b, c, d, rfl, h0, h1, h2, h3, h4⟩ := h; exact ⟨p, _, c, rfl, h0, rfl, h3⟩
theorem t4_3 (t : T4 α β γ δ) (I v) (h : (Py.r g t).p I v) : ∃ p vs u, v = V.ref p ∧ SqT g.K I p vs ∧ vs[3]? = some u ∧ (Py.r g t.x3).p I u := by
  obtain ⟨p, a, b, c, d, rfl, h0, h1, h2, h3, h4⟩ := h; exact ⟨p, _, d, rfl, h0, rfl, h4⟩
end
end T
set_option Elab.async false
set_option linter.all false
set_option maxRecDepth 100000
namespace T
variable [TabsC]
open PySem PySem.Spec PyProof.Rows L2

/-! displays -/
/-- the items of a display, all of one type -/
structure ML {α : Type} [Py α] (X : Cx) (g : Gb) (B : Bs) (S : SL) (es : List Expr) (m : Option (List α)) : Prop where
  run : ∀ as, m = some as → PA X es (fun σ H Q => ∃ I, Hold g B S σ I H ∧ ∀ vs I' H', Ext I H I' H' → Paired (fun a v => (Py.r g a).p I' v) as vs → Q vs H') ∧ as.length = es.length
section
variable {X : Cx} {g : Gb} {B : Bs} {J : Hp} {S : SL} {e e1 e2 e3 tg : Expr} {es : List Expr} {pos pos' p : Pos} {o α' β' γ' ρ : Type} {K : KT o} {rest body : List Stmt} {α β γ δ : Type} [Py α] [Py β] [Py γ] [Py δ] {m : Option (List α)} {k : List α → RK}
theorem ml_nil : ML X g B S [] (some ([] : List α)) := ⟨fun as q => by cases q; exact ⟨pa_imp pa_nil fun σ H Q ⟨I, hh, kk⟩ => kk [] I H (Ext.refl hh.sub) .nil, rfl⟩⟩
theorem ml_cons {m1 : Option α} {m2 : Option (List α)} (h : ME X g B S e m1 (KI g)) (t : ML X g B S es m2) (hs : starEach (e :: es) X.env = (false, eval e X.env) :: starEach es X.env := by rfl) : ML X g B S (e :: es) (m1 >>= fun a => m2 >>= fun as => some (a :: as)) := by
  refine ⟨fun as q => ?_⟩
  obtain ⟨a, q1, q⟩ := bind_some q
  obtain ⟨as', q2, q3⟩ := bind_some q
  cases q3
  obtain ⟨ht, hl⟩ := t.run as' q2
  refine ⟨pa_imp (pa_cons (h.run a q1) ht hs) fun σ H Q ⟨I, hh, kk⟩ => ⟨I, hh, fun v I1 H1 x1 hv => ⟨I1, hh.ext x1, fun vs I2 H2 x2 hvs => ?_⟩⟩, by rw [List.length_cons, List.length_cons, hl]⟩
  exact kk (v :: vs) I2 H2 (x1.trans x2) (.cons ((Py.r g a).mono x2.i hv) hvs)
theorem me_lst (h : ML X g B S es m) (hz : decide (es.length ≤ 1000) = true := by decide) : ME X g B S (.List es pos) m (fun xs => .fr (rl g xs)) := by
  refine ⟨fun as q => ?_⟩
  obtain ⟨ha, hl⟩ := h.run as q
  refine pe_imp (pe_lst ha) fun σ H Q ⟨I, hh, kk⟩ => ⟨I, hh, fun vs I1 H1 x1 hp => ?_⟩
  have hz' : as.length ≤ sizeLine := by rw [hl]; exact Nat.le_trans (of_decide_eq_true hz) (by decide)
  refine ⟨by rw [← Paired.length hp]; exact hz', fun l hl => new_fr (as := as) x1.s ⟨hz', hp⟩ (fun u I2 H2 x2 hu => kk u I2 H2 (x1.trans x2) (RK.back rfl x1.h hu)) hl⟩
theorem me_t2 {m1 : Option α} {m2 : Option β} {n : Nat} (h1 : ME X g B S e1 m1 (KI g)) (h2 : ME X g B S e2 m2 (KI g)) (hs : starEach [e1, e2] X.env = (false, eval e1 X.env) :: starEach [e2] X.env := by rfl) (hs2 : starEach [e2] X.env = (false, eval e2 X.env) :: starEach [] X.env := by rfl) :
    ME X g B S (.Tuple [e1, e2] n pos) (m1 >>= fun a => m2 >>= fun b => some (T2.mk a b)) (KI g) := by
  refine ⟨fun t q => ?_⟩
  obtain ⟨a, q1, q⟩ := bind_some q
  obtain ⟨b, q2, q3⟩ := bind_some q
  cases q3
  refine pe_imp (pe_tup (pa_cons (h1.run a q1) (pa_cons (h2.run b q2) pa_nil hs2) hs)) fun σ H Q ⟨I, hh, kk⟩ => ⟨I, hh, fun v I1 H1 x1 hv => ⟨I1, hh.ext x1, fun w I2 H2 x2 hw => ⟨by show 2 ≤ sizeLine; decide, fun l hl => ?_⟩⟩⟩
  have hI := x2.s.free hl
  refine kk _ (upd I2 l (.tup [v, w])) _ ((x1.trans x2).trans ⟨same_new hI, SW.of (same_new hl), fun b ob eb => ?_, fun b n1 n2 => ?_⟩) ⟨l, v, w, rfl, SqT.of upd_same, (Py.r g a).mono (x2.i.trans (same_new hI)) hv, (Py.r g b).mono (same_new hI) hw⟩
  · by_cases hb : b = l
    · subst hb; rw [upd_same] at eb ⊢; exact eb
    · rw [upd_ne hb] at eb ⊢; exact x2.s _ _ eb
  · rw [upd_ne (fun z => n1 (by rw [z]; exact hl))]; exact n2
theorem me_t3 {m1 : Option α} {m2 : Option β} {m3 : Option γ} {n : Nat} (h1 : ME X g B S e1 m1 (KI g)) (h2 : ME X g B S e2 m2 (KI g)) (h3 : ME X g B S e3 m3 (KI g)) (hs : starEach [e1, e2, e3] X.env = (false, eval e1 X.env) :: starEach [e2, e3] X.env := by rfl) (hs2 : starEach [e2, e3] X.env = (false, eval e2 X.env) :: starEach [e3] X.env := by rfl) (hs3 : starEach [e3] X.env = (false, eval e3 X.env) :: starEach [] X.env := by rfl) :
    ME X g B S (.Tuple [e1, e2, e3] n pos) (m1 >>= fun a => m2 >>= fun b => m3 >>= fun c => some (T3.mk a b c)) (KI g) := by
  refine ⟨fun t q => ?_⟩
  obtain ⟨a, q1, q⟩ := bind_some q
  obtain ⟨b, q2, q⟩ := bind_some q
  obtain ⟨c, q3, q4⟩ := bind_some q
  cases q4
  refine pe_imp (pe_tup (pa_cons (h1.run a q1) (pa_cons (h2.run b q2) (pa_cons (h3.run c q3) pa_nil hs3) hs2) hs)) fun σ H Q ⟨I, hh, kk⟩ => ⟨I, hh, fun v I1 H1 x1 hv => ⟨I1, hh.ext x1, fun w I2 H2 x2 hw => ⟨I2, (hh.ext x1).ext x2, fun u I3 H3 x3 hu => ⟨by show 3 ≤ sizeLine; decide, fun l hl => ?_⟩⟩⟩⟩
  have hI := x3.s.free hl
  refine kk _ (upd I3 l (.tup [v, w, u])) _ (((x1.trans x2).trans x3).trans ⟨same_new hI, SW.of (same_new hl), fun b ob eb => ?_, fun b n1 n2 => ?_⟩) ⟨l, v, w, u, rfl, SqT.of upd_same, (Py.r g a).mono ((x2.i.trans x3.i).trans (same_new hI)) hv, (Py.r g b).mono (x3.i.trans (same_new hI)) hw, (Py.r g c).mono (same_new hI) hu⟩
  · by_cases hb : b = l
    · subst hb; rw [upd_same] at eb ⊢; exact eb
    · rw [upd_ne hb] at eb ⊢; exact x3.s _ _ eb
  · rw [upd_ne (fun z => n1 (by rw [z]; exact hl))]; exact n2
theorem me_t4 {e4 : Expr} {m1 : Option α} {m2 : Option β} {m3 : Option γ} {m4 : Option δ} {n : Nat} (h1 : ME X g B S e1 m1 (KI g)) (h2 : ME X g B S e2 m2 (KI g)) (h3 : ME X g B S e3 m3 (KI g)) (h4 : ME X g B S e4 m4 (KI g)) (hs : starEach [e1, e2, e3, e4] X.env = (false, eval e1 X.env) :: starEach [e2, e3, e4] X.env := by rfl) (hs2 : starEach [e2, e3, e4] X.env = (false, eval e2 X.env) :: starEach [e3, e4] X.env := by rfl) (hs3 : starEach [e3, e4] X.env = (false, eval e3 X.env) :: starEach [e4] X.env := by rfl) (hs4 : starEach [e4] X.env = (false, eval e4 X.env) :: starEach [] X.env := by rfl) :
    ME X g B S (.Tuple [e1, e2, e3, e4] n pos) (m1 >>= fun a => m2 >>= fun b => m3 >>= fun c => m4 >>= fun d => some (T4.mk a b c d)) (KI g) := by
  refine ⟨fun t q => ?_⟩
  obtain ⟨a, q1, q⟩ := bind_some q
  obtain ⟨b, q2, q⟩ := bind_some q
  obtain ⟨c, q3, q⟩ := bind_some q
  obtain ⟨d, q4, q5⟩ := bind_some q
  cases q5
  refine pe_imp (pe_tup (pa_cons (h1.run a q1) (pa_cons (h2.run b q2) (pa_cons (h3.run c q3) (pa_cons (h4.run d q4) pa_nil hs4) hs3) hs2) hs)) fun σ H Q ⟨I, hh, kk⟩ => ⟨I, hh, fun v I1 H1 x1 hv => ⟨I1, hh.ext x1, fun w I2 H2 x2 hw => ⟨I2, (hh.ext x1).ext x2, fun u I3 H3 x3 hu => ⟨I3, ((hh.ext x1).ext x2).ext x3, fun y I4 H4 x4 hy => ⟨by show 4 ≤ sizeLine; decide, fun l hl => ?_⟩⟩⟩⟩⟩
  have hI := x4.s.free hl
  refine kk _ (upd I4 l (.tup [v, w, u, y])) _ ((((x1.trans x2).trans x3).trans x4).trans ⟨same_new hI, SW.of (same_new hl), fun b ob eb => ?_, fun b n1 n2 => ?_⟩) ⟨l, v, w, u, y, rfl, SqT.of upd_same, (Py.r g a).mono (((x2.i.trans x3.i).trans x4.i).trans (same_new hI)) hv, (Py.r g b).mono ((x3.i.trans x4.i).trans (same_new hI)) hw, (Py.r g c).mono (x4.i.trans (same_new hI)) hu, (Py.r g d).mono (same_new hI) hy⟩
  · by_cases hb : b = l
    · subst hb; rw [upd_same] at eb ⊢; exact eb
    · rw [upd_ne hb] at eb ⊢; exact x4.s _ _ eb
  · rw [upd_ne (fun z => n1 (by rw [z]; exact hl))]; exact n2
end

/-! slices, +, * of lists -/
/-- xs[lo:hi] -/
def cutO {α : Type} (xs : List α) (lo hi : Option Int) : List α := (xs.drop (HT.sIx xs.length 0 lo)).take (HT.sIx xs.length xs.length hi - HT.sIx xs.length 0 lo)
structure MO (X : Cx) (g : Gb) (B : Bs) (S : SL) (e : Option Expr) (m : Option (Option Int)) : Prop where
  run : ∀ i, m = some i → PO X e (fun σ H Q => ∃ I, Hold g B S σ I H ∧ ∀ I' H', Ext I H I' H' → Q i H')
def catOk (n k : Nat) : Bool := decide (n + k ≤ sizeLine)
@[irreducible] def catO {α : Type} (xs ys : List α) : Option (List α) := if catOk xs.length ys.length = true then some (xs ++ ys) else none
def repOk (n : Nat) (k : Int) : Bool := decide (-(2 ^ 63) ≤ k ∧ k < 2 ^ 63) && decide (n * k.toNat ≤ sizeLine)
@[irreducible] def repO {α : Type} (xs : List α) (k : Int) : Option (List α) := if repOk xs.length k = true then some (List.replicate k.toNat xs).flatten else none
section
variable {X : Cx} {g : Gb} {B : Bs} {J : Hp} {S : SL} {e e1 e2 e3 tg : Expr} {oe oe2 : Option Expr} {es : List Expr} {pos pos' p p2 : Pos} {o α' β' γ' ρ : Type} {K : KT o} {rest body : List Stmt} {α β γ δ : Type} [Py α] [Py β] [Py γ] [Py δ] {m : Option (List α)} {k k2 : List α → RK}
theorem po_imp {t t' : TO} (h : PO X oe t) (f : ∀ σ H Q, t' σ H Q → t σ H Q) : PO X oe t' := ⟨fun pins s σ H Q I hw => h.run pins s σ H Q I (f σ H Q hw)⟩
theorem mo_none : MO X g B S none (some none) := ⟨fun i q => by cases q; exact po_imp po_none fun σ H Q ⟨I, hh, kk⟩ => kk I H (Ext.refl hh.sub)⟩
theorem mo_some {m : Option Int} (h : ME X g B S e m (KI g)) : MO X g B S (some e) (m >>= fun i => some (some i)) := by
  refine ⟨fun i q => ?_⟩
  obtain ⟨a, q1, q2⟩ := bind_some q
  cases q2
  exact po_imp (po_some (h.run a q1)) fun σ H Q ⟨I, hh, kk⟩ => ⟨I, hh, fun v I' H' x hv => ⟨a, hv, kk I' H' x⟩⟩
theorem me_cut {m1 m2 : Option (Option Int)} (h : ME X g B S e m k) (h1 : MO X g B S oe m1) (h2 : MO X g B S oe2 m2) (r : LR g k := by first | exact lr_im | exact lr_fr | exact lr_rd) (hK : X.K = g.K := by rfl) :
    ME X g B S (.Subscript e (.Slice oe oe2 none p2) pos) (m >>= fun xs => m1 >>= fun lo => m2 >>= fun hi => some (cutO xs lo hi)) (fun xs => .fr (rl g xs)) := by
  refine ⟨fun as q => ?_⟩
  obtain ⟨xs, q1, q⟩ := bind_some q
  obtain ⟨lo, q2, q⟩ := bind_some q
  obtain ⟨hi, q3, q4⟩ := bind_some q
  cases q4
  refine pe_imp (pe_slice sl_list (h.run xs q1) (h1.run lo q2) (h2.run hi q3)) fun σ H Q ⟨I, hh, kk⟩ => ⟨I, hh, fun v I1 H1 x1 hv => ⟨I1, hh.ext x1, fun I2 H2 x2 => ⟨I2, (hh.ext x1).ext x2, fun I3 H3 x3 => ?_⟩⟩⟩
  obtain ⟨l, vs, rfl, h3, h4⟩ := r xs _ _ _ _ x3.s (RK.ext (RK.ext hv x2 hh.tb.has) x3 hh.tb.has)
  refine ⟨l, vs, rfl, by rw [hK]; exact h3, fun p hp => ?_⟩
  have hlen := rl_len h4
  refine new_fr (as := cutO xs lo hi) x3.s ?_ (fun u I4 H4 x4 hu => kk u I4 H4 (((x1.trans x2).trans x3).trans x4) (RK.back rfl ((x1.trans x2).trans x3).h hu)) hp
  unfold cutO cutV
  rw [hlen]
  refine ⟨?_, paired_take _ (paired_drop _ h4.2)⟩
  rw [List.length_take, List.length_drop]
  have := h4.1
  omega
theorem op_catS : OpR X (binaryOp .Add) (fun x y H Q => ∃ l b xs zs, x = .ref l ∧ y = .ref b ∧ SqL X.K H l xs ∧ SqL X.K H b zs ∧ xs.length + zs.length ≤ sizeLine ∧ ∀ p, H p = none → Q (.ref p) (upd H p (.lst (xs ++ zs)))) := by
  intro pins s σ H x y v u Q I rx ry h
  obtain ⟨l, b, xs, zs, rfl, rfl, hH, hB, hz, q⟩ := h
  cases rx
  cases ry
  obtain ⟨its, r, pl, z⟩ := I.list hH
  obtain ⟨its2, r2, pl2, z2⟩ := I.list hB
  have hl := r.length
  have hl2 := r2.length
  obtain ⟨⟨cls, dd, data, sl⟩, ho, hc, n, hd⟩ := pl.isList
  obtain ⟨⟨cls2, dd2, data2, sl2⟩, ho2, hc2, n2, hd2⟩ := pl2.isList
  simp only at hc hd hc2 hd2
  subst hc hd hc2 hd2
  have ea : its.toArray ++ its2.toArray = (its ++ its2).toArray := by simp
  refine concat_meets ⟨_, ho, rfl⟩ ⟨_, ho2, rfl⟩ noFill_list_add seq_list_add PySem.F.slot_list_add PySem.F.entry_list_add (PySem.F.args_list_add_2 _ _) (list_addW l b its.toArray its2.toArray n n2 dd dd2 sl sl2 (by rw [List.size_toArray, List.size_toArray]; omega)) ⟨ho, ho2, ?_⟩
  rw [ea]
  exact ⟨.ref _, _, I.lnew (t' := s.toks) (r.append r2) (by rw [List.length_append]; omega), rfl, q _ I.fresh⟩
theorem me_cat {m2 : Option (List α)} (h : ME X g B S e1 m k) (h2 : ME X g B S e2 m2 k2) (r : LR g k := by first | exact lr_im | exact lr_fr | exact lr_rd) (r2 : LR g k2 := by first | exact lr_im | exact lr_fr | exact lr_rd) (hK : X.K = g.K := by rfl) :
    ME X g B S (.BinOp e1 .Add e2 pos) (m >>= fun xs => m2 >>= fun ys => catO xs ys) (fun xs => .fr (rl g xs)) :=
  me_bin op_catS h h2 (fun a b c q v w I H H0 H1 Q s hv hw kk => by
    unfold catO at q
    by_cases hc : catOk a.length b.length = true
    · rw [if_pos hc] at q
      cases q
      obtain ⟨l, vs, rfl, h3, h4⟩ := r a _ _ _ _ s hv
      obtain ⟨l2, ws, rfl, h5, h6⟩ := r2 b _ _ _ _ s hw
      have hz : a.length + b.length ≤ sizeLine := of_decide_eq_true hc
      refine ⟨l, l2, vs, ws, rfl, rfl, by rw [hK]; exact h3, by rw [hK]; exact h5, by rw [rl_len h4, rl_len h6]; exact hz, fun p hp => new_fr (as := a ++ b) s ⟨by rw [List.length_append]; exact hz, paired_app h4.2 h6.2⟩ kk hp⟩
    · rw [if_neg hc] at q
      cases q)
theorem me_rep {m2 : Option Int} (h : ME X g B S e1 m (fun xs => .fr (rl g xs))) (h2 : ME X g B S e2 m2 (KI g)) :
    ME X g B S (.BinOp e1 .Mult e2 pos) (m >>= fun xs => m2 >>= fun n => repO xs n) (fun xs => .fr (rl g xs)) :=
  me_bin op_rep h h2 (fun a b c q v w I H H0 H1 Q s hv hw kk => by
    unfold repO at q
    by_cases hc : repOk a.length b = true
    · rw [if_pos hc] at q
      cases q
      obtain ⟨l, vs, rfl, _, _, h3, h4⟩ := hv
      unfold repOk at hc
      rw [Bool.and_eq_true, decide_eq_true_eq, decide_eq_true_eq] at hc
      have hl := rl_len h4
      refine ⟨l, b, vs, rfl, hw, h3, hc.1.1, hc.1.2, by rw [hl]; exact hc.2, fun p hp => new_fr (as := (List.replicate b.toNat a).flatten) s ⟨?_, paired_rep h4.2 _⟩ kk hp⟩
      rw [List.length_flatten, List.map_replicate, List.sum_replicate_nat, Nat.mul_comm]
      exact hc.2
    · rw [if_neg hc] at q
      cases q)
end
/-- xs.append(x) -/
@[irreducible] def appO {α : Type} (xs : List α) (x : α) : Option (List α) := if decide (xs.length < sizeLine) = true then some (xs ++ [x]) else none
@[irreducible] def setO {α : Type} (xs : List α) (i : Int) (x : α) : Option (List α) := (ixN xs.length i).bind fun j => some (xs.set j x)
section
variable {X : Cx} {g : Gb} {B : Bs} {J : Hp} {S : SL} {e e1 e2 e3 tg : Expr} {es : List Expr} {pos pos' p p2 p3 : Pos} {o α' β' γ' ρ : Type} {K : KT o} {rest body : List Stmt} {α β γ δ : Type} [Py α] [Py β] [Py γ] [Py δ]
/-- an owned fragment written: F becomes F', the heap H becomes H' -/
theorem Ok.wrt {σ : L2.St} {I H I' H' : Hp} {i : Nat} {k : RK} {v : V} {F' : Hp} (ok : Ok g B J S σ I H) (e1 : σ[i]? = some (some v)) (w : ∀ Φ, HoldF g B S σ I H Φ → Same I I' ∧ Same I' H' ∧ (∀ l, H l ≠ none → I l = none → I' l = none) ∧ (∀ a o, H a = some o → (Φ i a = none ∨ ∃ f, o = .ext f) → H' a = some o) ∧ Same F' H' ∧ (∀ a, F' a ≠ none → Φ i a ≠ none ∨ (H a = none ∧ I' a = none)) ∧ RK.inS g k B.H v I' F') :
    Ok g B J (S.set i (some k)) σ I' H' := by
  obtain ⟨x, oj, Φ, h⟩ := ok
  obtain ⟨sI, sH, n, keep, sF, nF, hv⟩ := w Φ h
  have other : ∀ a o, B.H a = some o → Φ i a = none := fun a o e => by
    cases q : Φ i a with
    | none => rfl
    | some u => have := (h.fr i a u q).2.2; rw [e] at this; cases this
  have tH : Tbs H' := h.tb.t.keep (fun p hp o e => keep _ o e (.inl (h.noT i p hp))) fun a f e => keep a _ e (.inr ⟨f, rfl⟩)
  have sB : SW B.H H' := h.base.kept tH fun a o o' e e' => keep a o' e' (.inl (other a o e))
  have hσ : σ.set i (some v) = σ := by
    apply List.ext_getElem?
    intro j
    by_cases hj : i = j
    · subst hj
      rw [List.getElem?_set_self (List.getElem?_eq_some_iff.mp e1).1, e1]
    · rw [List.getElem?_set_ne hj]
  have h1 : HoldF g B S σ I' H' (putF Φ i (fun _ => none)) → False → False := fun _ z => z
  refine ⟨⟨x.i.trans sI, sB, sH, fun l n1 n2 => ?_⟩, oj.trans sI, putF Φ i F', ?_⟩
  · cases e : B.H l with
    | none => exact absurd e n1
    | some o => exact n l (fun z => n1 (h.base.f l z)) (x.n l n1 n2)
  · have h2 : HoldF g B (S.set i (some k)) (σ.set i (some v)) I' H' (putF Φ i F') := by
      refine ⟨by rw [List.length_set, List.length_set, h.len], sH, sB, ⟨tH, h.tb.b, fun p hp => n _ (h.tb.t.ne hp) (h.tb.i p hp)⟩, fun j k' e => ?_, fun j a o e => ?_, fun j l a hj hl => ?_⟩
      · rcases set_some e with ⟨a, b, c⟩ | ⟨a, b⟩
        · subst a
          cases b
          exact ⟨v, List.getElem?_set_self (by rw [h.len]; exact c), by rw [putF_same]; exact hv⟩
        · obtain ⟨u, e2, q⟩ := h.at_ j k' b
          exact ⟨u, by rw [List.getElem?_set_ne a]; exact e2, by rw [putF_ne (fun z => a z.symm)]; exact RK.inS_mono sI q⟩
      · by_cases hji : j = i
        · rw [hji, putF_same] at e
          refine ⟨sF a o e, ?_⟩
          rcases nF a (ne_of_some e) with z | ⟨z1, z2⟩
          · obtain ⟨f1, f2, f3⟩ := h.ne z
            exact ⟨n a f1 f2, f3⟩
          · exact ⟨z2, h.base.free z1⟩
        · rw [putF_ne hji] at e
          obtain ⟨f1, f2, f3⟩ := h.fr j a o e
          refine ⟨keep a o f1 (.inl ?_), n a (ne_of_some f1) f2, f3⟩
          cases q : Φ i a with
          | none => rfl
          | some u => exact absurd (h.dj j i a (ne_of_some e) (ne_of_some q)) hji
      · have no : ∀ m, m ≠ i → F' a ≠ none → Φ m a ≠ none → False := fun m hm f1 f2 => by
          rcases nF a f1 with z | ⟨z1, _⟩
          · exact hm (h.dj m i a f2 z)
          · exact (h.ne f2).1 z1
        by_cases hji : j = i
        · by_cases hli : l = i
          · rw [hji, hli]
          · rw [hji, putF_same] at hj
            rw [putF_ne hli] at hl
            exact (no l hli hj hl).elim
        · by_cases hli : l = i
          · rw [hli, putF_same] at hl
            rw [putF_ne hji] at hj
            exact (no j hji hl hj).elim
          · rw [putF_ne hji] at hj
            rw [putF_ne hli] at hl
            exact h.dj j l a hj hl
    rw [hσ] at h2
    exact h2
/-- an owned list written -/
theorem Ok.write {σ : L2.St} {I H : Hp} {i : Nat} {l : Addr} {q0 : PL} {bs : List α} {ws : List V} (ok : Ok g B J S σ I H) (hS : S[i]? = some (some (.fr q0))) (e1 : σ[i]? = some (some (.ref l))) (hw : (rl g bs).p I ws) : Ok g B J (S.set i (some (.fr (rl g bs)))) σ I (upd H l (.lst ws)) := by
  have hsub := ok.h.sub
  refine ok.wrt e1 (F' := one1 l (.lst ws)) fun Φ h => ?_
  obtain ⟨v, e2, l', vs, e3, f1, f2⟩ := h.at_ i _ hS
  rw [e1] at e2
  cases e2
  cases e3
  obtain ⟨g1, g2, g3⟩ := h.fr i l _ f1
  refine ⟨Same.refl _, fun a o e => ?_, fun a _ z => z, fun a o e z => ?_, fun a o e => ?_, fun a ha => ?_, l, ws, rfl, one1_same, hw⟩
  · rw [upd_ne (ne_of_none e g2)]
    exact hsub a o e
  · have : a ≠ l := fun y => by
      rcases z with z | ⟨f, z⟩
      · rw [y, f1] at z; cases z
      · rw [y, g1, z] at e; cases e
    rw [upd_ne this]
    exact e
  · obtain ⟨y1, y2⟩ := one1_some e
    rw [y1, y2, upd_same]
  · rw [one1_ne ha]
    exact .inl (ne_of_some f1)
end
end T
set_option Elab.async false
set_option linter.all false
set_option maxRecDepth 100000
namespace T
variable [TabsC]
open PySem PySem.Spec PyProof.Rows L2

/-! lists that stand still through a loop: those that stay, and the caller's -/
structure MSt {α : Type} [Py α] (X : Cx) (g : Gb) (B : Bs) (S : SL) (e : Expr) (m : Option (List α)) : Prop where
  run : ∀ as, m = some as → PE X e (fun σ H Q => ∃ I, Hold g B S σ I H ∧ ∀ l vs I' H', Ext I H I' H' → (SqL g.K I' l vs ∨ SqL g.K B.H l vs) → (rl g as).p I' vs → Q (.ref l) H')
section
variable {X : Cx} {g : Gb} {B : Bs} {J : Hp} {S : SL} {e e1 e2 e3 tg : Expr} {oe oe2 : Option Expr} {es : List Expr} {pos pos' p p2 p3 apos cpos : Pos} {o α' β' γ' ρ : Type} {K : KT o} {rest body : List Stmt} {α β γ δ : Type} [Py α] [Py β] [Py γ] [Py δ] {m : Option (List α)} {k k2 : List α → RK}
theorem ms_im (h : ME X g B S e m (KI g)) : MSt X g B S e m :=
  ⟨fun as q => pe_imp (h.run as q) fun σ H Q ⟨I, hh, k⟩ => ⟨I, hh, fun v I' H' x ⟨l, vs, e, h1, h2⟩ => e ▸ k l vs I' H' x (.inl h1) h2⟩⟩
theorem ms_bw (i : Nat) {x : Str} {as : List α} (hS : S[i]? = some (some (.bw (rl g as))) := by rfl) (hN : X.N[i]? = some x := by rfl) (hv : Vis X.env.scope x := by first | exact Or.inl rfl | exact Or.inr (Or.inl rfl) | exact Or.inr (Or.inr rfl))
    (hd : (x == ("__debug__" : Str)) = false := by decide) (hcd : (x == ("__classdict__" : Str)) = false := by decide) : MSt X g B S (.Name x pos) (some as) := by
  refine ⟨fun as' q => ?_⟩
  cases q
  refine pe_imp (pe_var hN hv hd hcd) fun σ H Q ⟨I, hh, k⟩ => ?_
  obtain ⟨v, e1, l, vs, rfl, h3, h4⟩ := hh.at_ i _ hS
  exact ⟨_, e1, k l vs I H (Ext.refl hh.sub) (.inr h3) h4⟩
theorem sq_now {I1 I2 H2 BH : Hp} {K : PySem.W.Frag} {l : Addr} {vs : List V} (h : SqL K I1 l vs ∨ SqL K BH l vs) (s1 : Same I1 I2) (s2 : Same I2 H2) (s3 : SW BH H2) : SqL K H2 l vs := h.elim (fun z => s2.seq (s1.seq z)) fun z => s3.seq z
theorem mi_lst (h : MSt X g B S e m) (hg : X.K = g.K := by rfl) : MI X g B S tg e m := by
  refine ⟨fun as q => ?_⟩
  refine pi_imp (pi_list (h.run as q)) fun σ H R ⟨I, hh, k⟩ => ⟨I, hh, fun l vs I' H' x h1 h2 => ?_⟩
  rw [hg]
  exact ⟨l, rfl, ⟨vs, sq_now h1 (Same.refl _) x.s (hh.base.trans x.h)⟩, k _ I' H' x (walk_list h1 h2)⟩
/-- places and items -/
def enumL {α : Type} (as : List α) : List (T2 Int α) := (as.zipIdx).map fun p => T2.mk (p.2 : Int) p.1
theorem enum_get {as : List α} {i : Nat} {t : T2 Int α} (h : (enumL as)[i]? = some t) : ∃ a, as[i]? = some a ∧ t = T2.mk (i : Int) a := by
  unfold enumL at h
  rw [List.getElem?_map, List.getElem?_zipIdx] at h
  cases q : as[i]? with
  | none => rw [q] at h; cases h
  | some a =>
    rw [q] at h
    refine ⟨a, rfl, ?_⟩
    have := Option.some.inj h
    rw [← this]
    simp
theorem enum_len {as : List α} : (enumL as).length = as.length := by
  unfold enumL
  rw [List.length_map, List.length_zipIdx]
theorem new_tup {I H : Hp} {T : Addr} {xs : List V} (s : Same I H) (h : H T = none) : Ext I H (upd I T (.tup xs)) (upd H T (.tup xs)) := by
  have hI := s.free h
  refine ⟨same_new hI, SW.of (same_new h), fun b ob eb => ?_, fun b n1 n2 => ?_⟩
  · by_cases hb : b = T
    · subst hb; rw [upd_same] at eb ⊢; exact eb
    · rw [upd_ne hb] at eb ⊢; exact s _ _ eb
  · rw [upd_ne (fun z => n1 (by rw [z]; exact h))]; exact n2
theorem walk_enum {as : List α} {a : Addr} {vs : List V} {I1 : Hp} (hL : SqL g.K I1 a vs ∨ SqL g.K B.H a vs) (hR : (rl g as).p I1 vs) : WalkI g B (Ite g.K a) (enumL as) I1 where
  go := fun i x I2 H2 e s1 s2 s3 => by
    obtain ⟨b, e1, _⟩ := enum_get e
    obtain ⟨v, e2, _⟩ := paired_get hR.2 e1
    exact ⟨vs, v, sq_now hL s1 s2 s3, e2⟩
  yl := fun i x I2 H2 v H' e s1 s2 s3 y => by
    obtain ⟨b, e1, rfl⟩ := enum_get e
    obtain ⟨u, e2, q⟩ := paired_get hR.2 e1
    obtain ⟨T, x, rfl, hT, rfl, y⟩ := y
    have e3 := y vs (sq_now hL s1 s2 s3)
    rw [e2] at e3
    cases e3
    refine ⟨_, new_tup s2 hT, T, _, _, rfl, SqT.of upd_same, rfl, (Py.r g b).mono (s1.trans (same_new (s2.free hT))) q⟩
  st := fun I2 H2 s1 s2 s3 => ⟨vs, sq_now hL s1 s2 s3, by rw [enum_len]; exact Nat.le_of_eq (rl_len hR)⟩
  len := by rw [enum_len]; exact hR.1
theorem mi_enum {elts : List Expr} {kk : Nat} {tpos : Pos} (hm : X.mg "enumerate" = none) (h : MSt X g B S e m) (hg : Gl X "enumerate" := by rfl) (hK : X.K = g.K := by rfl) (hs : starEach [e] X.env = [(false, eval e X.env)] := by rfl) : MI X g B S (.Tuple elts kk tpos) (.Call (.Name "enumerate" p) [e] [] pos) (m >>= fun as => some (enumL as)) := by
  refine ⟨fun as q => ?_⟩
  obtain ⟨xs, q1, q2⟩ := bind_some q
  cases q2
  refine pi_imp (pi_enum hg hm (pa_cons (h.run xs q1) pa_nil hs) hs) fun σ H R ⟨I, hh, k⟩ => ⟨I, hh, fun l vs I' H' x h1 h2 => ?_⟩
  rw [hK]
  exact ⟨l, vs, rfl, sq_now h1 (Same.refl _) x.s (hh.base.trans x.h), k _ I' H' x (walk_enum h1 h2)⟩
/-- items in pairs -/
def zipL {α β : Type} (as : List α) (bs : List β) : List (T2 α β) := (as.zip bs).map fun p => T2.mk p.1 p.2
theorem zip_get {as : List α} {bs : List β} {i : Nat} {t : T2 α β} (h : (zipL as bs)[i]? = some t) : ∃ a b, as[i]? = some a ∧ bs[i]? = some b ∧ t = T2.mk a b := by
  unfold zipL at h
  rw [List.getElem?_map, Option.map_eq_some_iff] at h
  obtain ⟨⟨a, b⟩, h1, rfl⟩ := h
  obtain ⟨h2, h3⟩ := List.getElem?_zip_eq_some.mp h1
  exact ⟨a, b, h2, h3, rfl⟩
theorem zip_len {as : List α} {bs : List β} : (zipL as bs).length = min as.length bs.length := by
  unfold zipL
  rw [List.length_map, List.length_zip]
theorem walk_zip {as : List α} {bs : List β} {a b : Addr} {vs ws : List V} {I1 : Hp} (hL : SqL g.K I1 a vs ∨ SqL g.K B.H a vs) (hR : (rl g as).p I1 vs) (hL2 : SqL g.K I1 b ws ∨ SqL g.K B.H b ws) (hR2 : (rl g bs).p I1 ws) : WalkI g B (Itz g.K a b) (zipL as bs) I1 where
  go := fun i x I2 H2 e s1 s2 s3 => by
    obtain ⟨c, d, e1, e2, _⟩ := zip_get e
    obtain ⟨v, e3, _⟩ := paired_get hR.2 e1
    obtain ⟨w, e4, _⟩ := paired_get hR2.2 e2
    exact ⟨vs, ws, v, w, sq_now hL s1 s2 s3, sq_now hL2 s1 s2 s3, e3, e4⟩
  yl := fun i x I2 H2 v H' e s1 s2 s3 y => by
    obtain ⟨c, d, e1, e2, rfl⟩ := zip_get e
    obtain ⟨u, e3, q⟩ := paired_get hR.2 e1
    obtain ⟨u2, e4, q2⟩ := paired_get hR2.2 e2
    obtain ⟨T, x, x2, rfl, hT, rfl, y1, y2⟩ := y
    have e5 := y1 vs (sq_now hL s1 s2 s3)
    have e6 := y2 ws (sq_now hL2 s1 s2 s3)
    rw [e3] at e5
    rw [e4] at e6
    cases e5
    cases e6
    have sT := s1.trans (same_new (o := .tup [u, u2]) (s2.free hT))
    exact ⟨_, new_tup s2 hT, T, _, _, rfl, SqT.of upd_same, (Py.r g c).mono sT q, (Py.r g d).mono sT q2⟩
  st := fun I2 H2 s1 s2 s3 => ⟨vs, ws, sq_now hL s1 s2 s3, sq_now hL2 s1 s2 s3, by
    rw [zip_len, rl_len hR, rl_len hR2]
    omega⟩
  len := by
    rw [zip_len]
    have := hR.1
    omega
theorem mi_zip {elts : List Expr} {kk : Nat} {tpos : Pos} {m2 : Option (List β)} (hm : X.mg "zip" = none) (h : MSt X g B S e m) (h2 : MSt X g B S e2 m2) (hg : Gl X "zip" := by rfl) (hK : X.K = g.K := by rfl) (hs : starEach [e, e2] X.env = (false, eval e X.env) :: starEach [e2] X.env := by rfl) (hs2 : starEach [e2] X.env = (false, eval e2 X.env) :: starEach [] X.env := by rfl) (hpl : (backTo pos (starEach [e2] X.env)).any (·.1) = false := by rfl) :
    MI X g B S (.Tuple elts kk tpos) (.Call (.Name "zip" p) [e, e2] [] pos) (m >>= fun as => m2 >>= fun bs => some (zipL as bs)) := by
  refine ⟨fun as q => ?_⟩
  obtain ⟨xs, q1, q⟩ := bind_some q
  obtain ⟨ys, q2, q3⟩ := bind_some q
  cases q3
  refine pi_imp (pi_zip hg hm (pa_cons (h.run xs q1) (pa_cons (h2.run ys q2) pa_nil hs2) hs) hs hpl) fun σ H R ⟨I, hh, k⟩ => ⟨I, hh, fun l vs I1 H1 x1 h1 hr => ⟨I1, hh.ext x1, fun l2 ws I2 H2 x2 h3 hr2 => ?_⟩⟩
  rw [hK]
  have h1' : SqL g.K I2 l vs ∨ SqL g.K B.H l vs := h1.imp (fun z => x2.i.seq z) id
  have sb := (hh.base.trans x1.h).trans x2.h
  exact ⟨l, l2, vs, ws, rfl, sq_now h1' (Same.refl _) x2.s sb, sq_now h3 (Same.refl _) x2.s sb, k _ I2 H2 (x1.trans x2) (walk_zip h1' ((rl g xs).mono x2.i hr) h3 hr2)⟩

/-! targets -/
theorem mg_t2 (i j : Nat) {x y : Str} {k : Nat} (hN : X.N.Nodup) (hi : X.N[i]? = some x := by rfl) (hj : X.N[j]? = some y := by rfl) (hx : Loc X.env.scope x := by first | exact Or.inl rfl | exact Or.inr rfl) (hy : Loc X.env.scope y := by first | exact Or.inl rfl | exact Or.inr rfl) (hf : X.fn x = true ∨ X.env.scope.names.lookup x = some .local := by first | exact .inl rfl | exact .inr rfl) (hf2 : X.fn y = true ∨ X.env.scope.names.lookup y = some .local := by first | exact .inl rfl | exact .inr rfl)
    (hc : X.calm = true := by rfl) (hK : X.K = g.K := by rfl) (hn : (assignEach [Expr.Name x p, Expr.Name y p2] X.env).length = 2 := by rfl) (hst : (assignEach [Expr.Name x p, Expr.Name y p2] X.env).findIdx? (·.1) = none := by rfl) (hs : (assignEach [Expr.Name x p, Expr.Name y p2] X.env).map (·.2) = assign (.Name x p) X.env :: (assignEach [Expr.Name y p2] X.env).map (·.2) := by rfl) (hs2 : (assignEach [Expr.Name y p2] X.env).map (·.2) = assign (.Name y p2) X.env :: (assignEach [] X.env).map (·.2) := by rfl) :
    MG (α := T2 α β) X g (.Tuple [.Name x p, .Name y p2] k pos) (gTup g.K 2 (gCons (gName i) (gCons (gName j) gNil))) (fun t S => (S.set i (some (.im (Py.r g t.x0)))).set j (some (.im (Py.r g t.x1)))) [i, j] :=
  ⟨by rw [← hK]; exact pg_tup hc (pgs_cons (pg_name hN hi hx hf) (pgs_cons (pg_name hN hj hy hf2) pgs_nil hs2) hs) hn hst, fun B S t v σ I H Q h ⟨q, a, b, e, h0, h1, h2⟩ k => ⟨q, [a, b], e, seqT h.sub h0, rfl, a, [b], rfl, b, [], rfl, rfl, k _ (hold_put (hold_put h h1) h2) fun vs ht => (wipe_set (ht j (by simp))).trans (wipe_set (ht i (by simp)))⟩⟩
theorem mg_t3 (i j l : Nat) {x y z : Str} {k : Nat} (hN : X.N.Nodup) (hi : X.N[i]? = some x := by rfl) (hj : X.N[j]? = some y := by rfl) (hl : X.N[l]? = some z := by rfl) (hx : Loc X.env.scope x := by first | exact Or.inl rfl | exact Or.inr rfl) (hy : Loc X.env.scope y := by first | exact Or.inl rfl | exact Or.inr rfl) (hz : Loc X.env.scope z := by first | exact Or.inl rfl | exact Or.inr rfl) (hf : X.fn x = true ∨ X.env.scope.names.lookup x = some .local := by first | exact .inl rfl | exact .inr rfl) (hf2 : X.fn y = true ∨ X.env.scope.names.lookup y = some .local := by first | exact .inl rfl | exact .inr rfl) (hf3 : X.fn z = true ∨ X.env.scope.names.lookup z = some .local := by first | exact .inl rfl | exact .inr rfl)
    (hc : X.calm = true := by rfl) (hK : X.K = g.K := by rfl) (hn : (assignEach [Expr.Name x p, Expr.Name y p2, Expr.Name z p3] X.env).length = 3 := by rfl) (hst : (assignEach [Expr.Name x p, Expr.Name y p2, Expr.Name z p3] X.env).findIdx? (·.1) = none := by rfl) (hs : (assignEach [Expr.Name x p, Expr.Name y p2, Expr.Name z p3] X.env).map (·.2) = assign (.Name x p) X.env :: (assignEach [Expr.Name y p2, Expr.Name z p3] X.env).map (·.2) := by rfl) (hs2 : (assignEach [Expr.Name y p2, Expr.Name z p3] X.env).map (·.2) = assign (.Name y p2) X.env :: (assignEach [Expr.Name z p3] X.env).map (·.2) := by rfl) (hs3 : (assignEach [Expr.Name z p3] X.env).map (·.2) = assign (.Name z p3) X.env :: (assignEach [] X.env).map (·.2) := by rfl) :
    MG (α := T3 α β γ) X g (.Tuple [.Name x p, .Name y p2, .Name z p3] k pos) (gTup g.K 3 (gCons (gName i) (gCons (gName j) (gCons (gName l) gNil)))) (fun t S => ((S.set i (some (.im (Py.r g t.x0)))).set j (some (.im (Py.r g t.x1)))).set l (some (.im (Py.r g t.x2)))) [i, j, l] :=
  ⟨by rw [← hK]; exact pg_tup hc (pgs_cons (pg_name hN hi hx hf) (pgs_cons (pg_name hN hj hy hf2) (pgs_cons (pg_name hN hl hz hf3) pgs_nil hs3) hs2) hs) hn hst, fun B S t v σ I H Q h ⟨q, a, b, c, e, h0, h1, h2, h3⟩ k => ⟨q, [a, b, c], e, seqT h.sub h0, rfl, a, [b, c], rfl, b, [c], rfl, c, [], rfl, rfl, k _ (hold_put (hold_put (hold_put h h1) h2) h3) fun vs ht => (wipe_set (ht l (by simp))).trans ((wipe_set (ht j (by simp))).trans (wipe_set (ht i (by simp))))⟩⟩
/-- target = e -/
theorem mb_asg {m : Option α} {put : α → SL → SL} {f : α → Option o} {gt : TG} {ts : List Nat} (he : ME X g B S e m (KI g)) (hG : MG X g tg gt put ts) (hb : ∀ a, MB X g B J (put a S) rest (f a) K) (hs : swapsWithSole [tg] e pos.line X.env = pure false := by rfl) (hw : swappedStores [tg] e X.env = pure none := by rfl) (h1 : (assignEach [tg] X.env).map (·.2) = [assign tg X.env] := by rfl) :
    MB X g B J S (.Assign [tg] e pos :: rest) (m >>= f) K := by
  refine ⟨fun r q => ?_⟩
  obtain ⟨a, q1, q2⟩ := bind_some q
  refine pss_imp (pss_cons (ps_asg (he.run a q1) hG.pg hs hw h1) ((hb a).run r q2)) fun D σ H ⟨I, ok, kk⟩ => ?_
  exact ⟨I, ok.h, fun v I' H' x hv => hG.oks (ok.ext x) hv fun σ' ok' => ⟨I', ok', kk⟩⟩
/-- name op= e, of ints -/
theorem mb_aug (i : Nat) {x : Str} {a : Int} {op : Operator} {fi : Int → Int → Int} {m : Option Int} {f : Int → Option o} (hp : PIp X op (ipI fi)) (hN : X.N.Nodup) (he : ME X g B S e m (KI g)) (hb : ∀ b, MB X g B J (S.set i (some (.im (Py.r g b)))) rest (f b) K) (hS : S[i]? = some (some (.im (Py.r g a))) := by rfl)
    (hi : X.N[i]? = some x := by rfl) (hx : Loc X.env.scope x := by first | exact Or.inl rfl | exact Or.inr rfl) (hf : X.fn x = true ∨ X.env.scope.names.lookup x = some .local := by first | exact .inl rfl | exact .inr rfl) : MB X g B J S (.AugAssign (.Name x pos') op e pos :: rest) (m >>= fun b => f (fi a b)) K := by
  refine ⟨fun r q => ?_⟩
  obtain ⟨b, q1, q2⟩ := bind_some q
  refine pss_imp (pss_cons (ps_aug hN hi hx (he.run b q1) hp hf) ((hb (fi a b)).run r q2)) fun D σ H ⟨I, ok, kk⟩ => ?_
  obtain ⟨v, e1, h1⟩ := ok.h.at_ i _ hS
  exact ⟨v, e1, I, ok.h, fun w I' H' x hw => ⟨a, b, h1, hw, I', ok.put (k := .im (Py.r g (fi a b))) x rfl rfl, kk⟩⟩

/-! lists written -/
theorem mb_app (i : Nat) {x : Str} {as : List α} {m : Option α} {f : List α → Option o} (he : ME X g B S e m (KI g)) (hb : ∀ bs, MB X g B J (S.set i (some (.fr (rl g bs)))) rest (f bs) K) (hS : S[i]? = some (some (.fr (rl g as))) := by rfl) (hN : X.N[i]? = some x := by rfl)
    (hv : Vis X.env.scope x := by first | exact Or.inl rfl | exact Or.inr (Or.inl rfl) | exact Or.inr (Or.inr rfl)) (hs : swapsWith (.Call (.Attribute (.Name x p) "append" apos) [e] [] cpos) none pos.line X.env = pure false := by rfl) (hst : starEach [e] X.env = (false, eval e X.env) :: starEach [] X.env := by rfl)
    (hbase : attributeBase (.Name x p) "append" X.env (eval (.Name x p) X.env) = eval (.Name x p) X.env := by rfl)
    (hfew : ((backTo cpos (starEach [e] X.env)).all (fun x => !x.1) && (backToKw cpos (keywordEach [] X.env)).all (fun x => x.1.isSome) && decide ([e].length + ([] : List Keyword).length + (if ([] : List Keyword).isEmpty then 0 else 1) < 30)) = true := by rfl)
    (hline : (apos.endLine == cpos.line) = true := by rfl) (hplain : (backTo cpos (starEach [] X.env)).any (·.1) = false := by rfl)
    (hd : (x == ("__debug__" : Str)) = false := by decide) (hcd : (x == ("__classdict__" : Str)) = false := by decide) :
    MB X g B J S (.Expr (.Call (.Attribute (.Name x p) "append" apos) [e] [] cpos) pos :: rest) (m >>= fun a => appO as a >>= f) K := by
  refine ⟨fun r q => ?_⟩
  obtain ⟨a, q1, q⟩ := bind_some q
  obtain ⟨bs, q2, q3⟩ := bind_some q
  unfold appO at q2
  by_cases hz : decide (as.length < sizeLine) = true
  · rw [if_pos hz] at q2
    cases q2
    have hz' := of_decide_eq_true hz
    refine pss_imp (pss_cons (ps_expr (pe_bm PySem.F.plainAttrs_list PySem.F.slot_list_append PySem.F.type_list_append mt_append (pe_var hN hv hd hcd) (pa_cons (he.run a q1) pa_nil hst) hbase hfew hline hst hplain) hs) ((hb _).run r q3)) fun D σ H ⟨I, ok, kk⟩ => ?_
    obtain ⟨v, e1, l, vs, rfl, h1, h2, h3, h4⟩ := ok.h.at_ i _ hS
    refine ⟨_, e1, .inl ⟨rfl, _, SqL.of h3⟩, I, ok.h, fun w I' H' x hw => ⟨l, vs, w, rfl, rfl, x.h.get _ _ h3, by rw [rl_len h4]; exact hz', I', (ok.ext x).write hS e1 ⟨?_, paired_app ((rl g as).mono x.i h4).2 (.cons hw .nil)⟩, kk⟩⟩
    rw [List.length_append, List.length_singleton]
    omega
  · rw [if_neg hz] at q2
    cases q2
theorem mb_seti (i : Nat) {x : Str} {as : List α} {m1 : Option Int} {m : Option α} {f : List α → Option o} (he : ME X g B S e m (KI g)) (h1 : ME X g B S e1 m1 (KI g)) (hb : ∀ bs, MB X g B J (S.set i (some (.fr (rl g bs)))) rest (f bs) K) (hS : S[i]? = some (some (.fr (rl g as))) := by rfl) (hN : X.N[i]? = some x := by rfl)
    (hv : Vis X.env.scope x := by first | exact Or.inl rfl | exact Or.inr (Or.inl rfl) | exact Or.inr (Or.inr rfl)) (hs : swapsWithSole [.Subscript (.Name x p) e1 apos] e pos.line X.env = pure false := by rfl) (hw : swappedStores [.Subscript (.Name x p) e1 apos] e X.env = pure none := by rfl)
    (h1' : (assignEach [Expr.Subscript (.Name x p) e1 apos] X.env).map (·.2) = [assign (.Subscript (.Name x p) e1 apos) X.env] := by rfl)
    (ha : ∀ v, assign (.Subscript (.Name x p) e1 apos) X.env v = (do
      let ov ← holding [v] (eval (.Name x p) X.env)
      let iv ← holding [v, ov] (eval e1 X.env)
      standAt apos
      holding [v, ov, iv] (setItem ov iv v)
      release [v, ov, iv] []) := by intro _; rfl)
    (hd : (x == ("__debug__" : Str)) = false := by decide) (hcd : (x == ("__classdict__" : Str)) = false := by decide) :
    MB X g B J S (.Assign [.Subscript (.Name x p) e1 apos] e pos :: rest) (m >>= fun a => m1 >>= fun n => setO as n a >>= f) K := by
  refine ⟨fun r q => ?_⟩
  obtain ⟨a, q1, q⟩ := bind_some q
  obtain ⟨n, q2, q⟩ := bind_some q
  obtain ⟨bs, q3, q4⟩ := bind_some q
  unfold setO at q3
  cases hj : ixN as.length n with
  | none => rw [hj] at q3; cases q3
  | some j =>
    rw [hj] at q3
    cases q3
    refine pss_imp (pss_cons (ps_asg (he.run a q1) (pg_sub (pe_var hN hv hd hcd) (h1.run n q2) set_list ha) hs hw h1') ((hb _).run r q4)) fun D σ H ⟨I, ok, kk⟩ => ?_
    obtain ⟨v, e1, l, vs, rfl, h1, h2, h3, h4⟩ := ok.h.at_ i _ hS
    refine ⟨I, ok.h, fun w I1 H1 x1 hw => ⟨_, e1, I1, ok.h.ext x1, fun y I2 H2 x2 hy => ⟨l, vs, n, j, rfl, hy, x2.h.get _ _ (x1.h.get _ _ h3), by rw [rl_len h4]; exact hj, I2, ((ok.ext x1).ext x2).write hS e1 ⟨?_, paired_set (F := fun a v => (Py.r g a).p I2 v) ((Py.r g a).mono x2.i hw) _ ((rl g as).mono (x1.i.trans x2.i) h4).2⟩, kk⟩⟩⟩
    rw [List.length_set]
    exact h4.1
end
end T
set_option Elab.async false
set_option linter.all false
set_option maxRecDepth 100000
namespace T
variable [TabsC]
open PySem PySem.Spec PyProof.Rows L2

/-! comprehensions -/
def lcM {α β : Type} (f : α → Option β) : List α → Option (List β)
  | [] => some []
  | a :: as => f a >>= fun b => lcM f as >>= fun bs => some (b :: bs)
def lcF {α β : Type} (t : α → Option Bool) (f : α → Option β) : List α → Option (List β)
  | [] => some []
  | a :: as => t a >>= fun b => if b = true then (f a >>= fun y => lcF t f as >>= fun ys => some (y :: ys)) else lcF t f as
theorem lcF_all {α β : Type} (f : α → Option β) : ∀ as : List α, lcF (fun _ => some true) f as = lcM f as
  | [] => rfl
  | a :: as => by
    have e : lcF (fun _ => some true) f (a :: as) = (f a >>= fun y => lcF (fun _ => some true) f as >>= fun ys => some (y :: ys)) := rfl
    rw [e, lcF_all f as]
    rfl
/-- the tests of a comprehension -/
structure MTs (X : Cx) (g : Gb) (B : Bs) (S : SL) (ifs : List Expr) (m : Option Bool) : Prop where
  run : ∀ b, m = some b → PTs X ifs (rdT g B S b)
def wipeS (S : SL) : List Nat → SL
  | [] => S
  | v :: vs => (wipeS S vs).set v none
theorem wipeS_length (S : SL) : ∀ vs, (wipeS S vs).length = S.length
  | [] => rfl
  | v :: vs => by
    show ((wipeS S vs).set v none).length = _
    rw [List.length_set, wipeS_length S vs]
theorem wipeS_some {S : SL} {i : Nat} {k : RK} : ∀ {vs : List Nat}, (wipeS S vs)[i]? = some (some k) → S[i]? = some (some k) ∧ i ∉ vs
  | [], h => ⟨h, by simp⟩
  | v :: vs, h => by
    rcases set_some h with ⟨_, z, _⟩ | ⟨h1, h2⟩
    · cases z
    · obtain ⟨h3, h4⟩ := wipeS_some h2
      exact ⟨h3, fun z => (List.mem_cons.mp z).elim (fun q => h1 q.symm) h4⟩
theorem Hold.wipe {g : Gb} {B : Bs} {S : SL} {σ : L2.St} {I H : Hp} (h : Hold g B S σ I H) (vs : List Nat) : Hold g B (wipeS S vs) (wipe σ vs) I H := by
  have at' : ∀ {i : Nat} {x : V}, (L2.wipe σ vs)[i]? = some (some x) → σ[i]? = some (some x) := fun e => (wipe_some e).1
  obtain ⟨Φ, h⟩ := h
  refine ⟨Φ, by rw [wipe_length, wipeS_length, h.len], h.sub, h.base, h.tb, fun i k e => ?_, h.fr, h.dj⟩
  obtain ⟨e1, e2⟩ := wipeS_some e
  obtain ⟨v, e3, q⟩ := h.at_ i k e1
  exact ⟨v, by rw [wipe_out e2]; exact e3, q⟩
section
variable {X : Cx} {g : Gb} {B : Bs} {J : Hp} {S : SL} {e e1 e2 e3 tg elt iter : Expr} {es ifs : List Expr} {pos pos' p p2 p3 apos cpos : Pos} {o α' β' γ' ρ : Type} {K : KT o} {rest body : List Stmt} {α β γ δ : Type} [Py α] [Py β] [Py γ] [Py δ]
theorem mts_nil : MTs X g B S [] (some true) := ⟨fun b q => by
  cases q
  exact ⟨fun pins s σ H Q I ⟨I', hh, k⟩ => pts_nil.run pins s σ H Q I (k I' H (Ext.refl hh.sub))⟩⟩
theorem mts_one {m : Option Bool} (h : MT X g B S e m) : MTs X g B S [e] m := ⟨fun b q => pts_one (h.run b q)⟩
def rdTs {α : Type} [Py α] (g : Gb) (B : Bs) (Sp : α → SL) (t : α → Option Bool) : TT := fun σ H Q => ∃ a b I, t a = some b ∧ Hold g B (Sp a) σ I H ∧ ∀ I' H', Ext I H I' H' → Q b H'
def rdEs {α β : Type} [Py α] [Py β] (g : Gb) (B : Bs) (Sp : α → SL) (f : α → Option β) : TE := fun σ H Q => ∃ a b I, f a = some b ∧ Hold g B (Sp a) σ I H ∧ ∀ v I' H', Ext I H I' H' → (Py.r g b).p I' v → Q v H'
/-- the heart of a comprehension's reading -/
theorem lc_use {gt : TG} {put : α → SL → SL} {ts vs : List Nat} {t : α → Option Bool} {f : α → Option β} {as : List α} {bs : List β} {σ : L2.St} {H : Hp} {Q : VK} (hts : ∀ i ∈ ts, i ∈ vs)
    (hG : ∀ (B : Bs) (S : SL) (a : α) (v : V) σ I H Q, Hold g B S σ I H → (Py.r g a).p I v → (∀ σ', Hold g B (put a S) σ' I H → (∀ vs, (∀ t ∈ ts, t ∈ vs) → wipe σ' vs = wipe σ vs) → Q σ' H) → gt v σ H Q)
    (hbs : lcF t f as = some bs) (hq : ∃ I, Hold g B S σ I H ∧ ∀ v I' H', Ext I H I' H' → RK.holds g (.fr (rl g bs)) H v I' H' → Q v H') :
    tLc (rdI g B S as) gt (rdTs g B (fun a => put a (wipeS S vs)) t) (rdEs g B (fun a => put a (wipeS S vs)) f) vs σ H Q := by
  obtain ⟨I, hh, kk⟩ := hq
  refine ⟨I, hh, fun J1 I1 H1 x1 hW => ?_⟩
  intro D hD
  have hI1 : I1 D = none := x1.s.free hD
  refine ⟨fun i m H => m = as.length - i ∧ i ≤ as.length ∧ ∃ I2 ds ws rs, lcF t f (as.drop i) = some rs ∧ ds ++ rs = bs ∧ Ext I1 H1 I2 H ∧ I2 D = none ∧ H D = some (.lst ws) ∧ Paired (fun b v => (Py.r g b).p I2 v) ds ws ∧ ds.length ≤ i,
    ⟨as.length, by simp, Nat.zero_le _, I1, [], [], bs, hbs, rfl, ⟨Same.refl _, SW.of (same_new hD), x1.s.trans (same_new hD), fun _ _ h => h⟩, hI1, upd_same, .nil, Nat.le_refl _⟩, ?_⟩
  rintro i m H2 ⟨rfl, hi, I2, ds, ws, rs, hrs, hds, x2, hI2, hH2, hp, hdl⟩
  have hh2 : Hold g B S σ I2 H2 := (hh.ext x1).ext x2
  by_cases hlt : i < as.length
  · have hit : as[i]? = some as[i] := List.getElem?_eq_getElem hlt
    refine .inr ⟨hW.go i _ I2 H2 hit x2.i x2.s hh2.base, fun H => i + 1 ≤ as.length ∧ ∃ I2 ds ws rs, lcF t f (as.drop (i + 1)) = some rs ∧ ds ++ rs = bs ∧ Ext I1 H1 I2 H ∧ I2 D = none ∧ H D = some (.lst ws) ∧ Paired (fun b v => (Py.r g b).p I2 v) ds ws ∧ ds.length ≤ i + 1, fun H' h => ⟨as.length - (i + 1), by omega, rfl, h.1, h.2⟩, fun x H3 hy => ?_⟩
    obtain ⟨I3, x3, hv⟩ := hW.yl i _ I2 H2 x H3 hit x2.i x2.s hh2.base hy
    have hI3 : I3 D = none := x3.n D (by rw [hH2]; simp) hI2
    rw [drop_at hit] at hrs
    obtain ⟨b, e1, e2⟩ := bind_some (show (t as[i] >>= fun b => if b = true then (f as[i] >>= fun y => lcF t f (as.drop (i + 1)) >>= fun ys => some (y :: ys)) else lcF t f (as.drop (i + 1))) = some rs from hrs)
    refine hG B (wipeS S vs) as[i] x (wipe σ vs) I3 H3 _ ((hh2.ext x3).wipe vs) hv fun σ4 h4 hw => ⟨(hw vs hts).trans wipe_wipe, as[i], b, I3, e1, h4, fun I5 H5 x5 => ?_⟩
    have hI5 : I5 D = none := x5.n D (by rw [x3.h.get _ _ hH2]; simp) hI3
    have hH5 : H5 D = some (.lst ws) := x5.h.get _ _ (x3.h.get _ _ hH2)
    cases b with
    | true =>
      rw [if_pos rfl] at e2
      refine iteT ?_
      obtain ⟨y, e3, e4⟩ := bind_some e2
      obtain ⟨ys, e5, e6⟩ := bind_some e4
      cases e6
      refine ⟨as[i], y, I5, e3, h4.ext x5, fun u I6 H6 x6 hu => ⟨ws, x6.h.get _ _ hH5, ?_, hlt, I6, ds ++ [y], ws ++ [u], ys, e5, by rw [List.append_assoc]; exact hds, ?_, x6.n D (by rw [hH5]; simp) hI5, upd_same, ?_, ?_⟩⟩
      · have := hW.len
        rw [← Paired.length hp]
        omega
      · have x16 := ((x2.trans x3).trans x5).trans x6
        refine ⟨x16.i, x16.h.put hD (x6.h.get _ _ hH5), fun c ob ec => ?_, x16.n⟩
        · rw [upd_ne (ne_of_none ec (x6.n D (by rw [hH5]; simp) hI5))]
          exact x16.s _ _ ec
      · exact paired_app (L2.Paired.mapP hp fun c d q => (Py.r g c).mono ((x3.i.trans x5.i).trans x6.i) q) (.cons hu .nil)
      · rw [List.length_append, List.length_singleton]
        omega
    | false =>
      rw [if_neg Bool.false_ne_true] at e2
      refine iteF ?_
      exact ⟨hlt, I5, ds, ws, rs, e2, hds, (x2.trans x3).trans x5, hI5, hH5, L2.Paired.mapP hp fun c d q => (Py.r g c).mono (x3.i.trans x5.i) q, by omega⟩
  · have e : i = as.length := by omega
    subst e
    rw [List.drop_of_length_le (Nat.le_refl _)] at hrs
    cases hrs
    rw [List.append_nil] at hds
    subst hds
    refine .inl ⟨hW.st I2 H2 x2.i x2.s hh2.base, kk _ I2 H2 (x1.trans x2) ⟨D, ws, rfl, x1.h.free hD, hI2, hH2, ?_, hp⟩⟩
    have := hW.len
    omega
/-- [elt for tg in iter if ..] -/
theorem me_lcF {scope : Scope} {own : List (Str × Nat)} {m : Option (List α)} {gt : TG} {put : α → SL → SL} {ts : List Nat} {t : α → Option Bool} {f : α → Option β} (hN : X.N.Nodup) (hi : MI X g B S tg iter m) (hb : blkC X.N X.env.scope scope own = true) (hts : ∀ i ∈ ts, i ∈ own.map (·.2))
    (hG : ∀ (s : Shared) (H : Hp) (C : Addr) (cl : List (Str × Addr)) (fp : List Addr), MG (X.blk s H scope (compEnvC scope cl C X.env) fp) g tg gt put ts)
    (ht : ∀ (s : Shared) (H : Hp) (C : Addr) (cl : List (Str × Addr)) (fp : List Addr) (a : α), MTs (X.blk s H scope (compEnvC scope cl C X.env) fp) g B (put a (wipeS S (own.map (·.2)))) ifs (t a))
    (he : ∀ (s : Shared) (H : Hp) (C : Addr) (cl : List (Str × Addr)) (fp : List Addr) (a : α), ME (X.blk s H scope (compEnvC scope cl C X.env) fp) g B (put a (wipeS S (own.map (·.2)))) elt (f a) (KI g)) (hc : X.calm = true := by rfl) (hs : ∀ x, foldedSetIterable iter X.env x = pure x := by intro _; rfl) :
    ME X g B S (.ListComp elt [⟨tg, iter, ifs, 0⟩] scope pos) (m >>= fun as => lcF t f as) (fun bs => .fr (rl g bs)) := by
  refine ⟨fun bs q => ?_⟩
  obtain ⟨as, q1, q2⟩ := bind_some q
  refine pe_imp (pe_lc (g := gt) (tt := rdTs g B (fun a => put a (wipeS S (own.map (·.2)))) t) (te := rdEs g B (fun a => put a (wipeS S (own.map (·.2)))) f) hc hN (hi.run as q1) (blkOk_by hb) (fun s H C cl fp => (hG s H C cl fp).pg)
    (fun s H C cl fp => ⟨fun pins st σ H Q I ⟨a, b, I2, e1, h, k⟩ => ((ht _ _ C cl fp a).run b e1).run pins st σ H Q I ⟨I2, h, k⟩⟩)
    (fun s H C cl fp => ⟨fun pins st σ H Q I ⟨a, b, I2, e1, h, k⟩ => ((he _ _ C cl fp a).run b e1).run pins st σ H Q I ⟨I2, h, k⟩⟩) hs) fun σ H Q hq => ?_
  exact lc_use hts (hG X.s_0 X.H_0 0 [] []).ok q2 hq
theorem me_lc {scope : Scope} {own : List (Str × Nat)} {m : Option (List α)} {gt : TG} {put : α → SL → SL} {ts : List Nat} {f : α → Option β} (hN : X.N.Nodup) (hi : MI X g B S tg iter m) (hb : blkC X.N X.env.scope scope own = true) (hts : ∀ i ∈ ts, i ∈ own.map (·.2))
    (hG : ∀ (s : Shared) (H : Hp) (C : Addr) (cl : List (Str × Addr)) (fp : List Addr), MG (X.blk s H scope (compEnvC scope cl C X.env) fp) g tg gt put ts)
    (he : ∀ (s : Shared) (H : Hp) (C : Addr) (cl : List (Str × Addr)) (fp : List Addr) (a : α), ME (X.blk s H scope (compEnvC scope cl C X.env) fp) g B (put a (wipeS S (own.map (·.2)))) elt (f a) (KI g)) (hc : X.calm = true := by rfl) (hs : ∀ x, foldedSetIterable iter X.env x = pure x := by intro _; rfl) :
    ME X g B S (.ListComp elt [⟨tg, iter, [], 0⟩] scope pos) (m >>= fun as => lcM f as) (fun bs => .fr (rl g bs)) :=
  (me_lcF (t := fun _ => some true) hN hi hb hts hG (fun _ _ _ _ _ _ => mts_nil) he hc hs).eq (by cases m with
    | none => rfl
    | some as => exact lcF_all f as)
/-- name = [..] on one line -/
theorem mb_setLcF (i : Nat) {x : Str} {scope : Scope} {own : List (Str × Nat)} {m : Option (List α)} {gt : TG} {put : α → SL → SL} {ts : List Nat} {t : α → Option Bool} {f : α → Option β} {fr : List β → Option o} (hN : X.N.Nodup) (hx : X.env.scope.names.lookup x = some .local) (hsw : swapsWith (.ListComp elt [⟨tg, iter, ifs, 0⟩] scope pos) (some (.Name x p)) pos'.line X.env = pure true) (hi : MI X g B S tg iter m) (hb : blkC X.N X.env.scope scope own = true) (hts : ∀ i ∈ ts, i ∈ own.map (·.2))
    (hG : ∀ (s : Shared) (H : Hp) (C : Addr) (cl : List (Str × Addr)) (fp : List Addr), MG (X.blk s H scope (compEnvC scope cl C X.env) fp) g tg gt put ts)
    (ht : ∀ (s : Shared) (H : Hp) (C : Addr) (cl : List (Str × Addr)) (fp : List Addr) (a : α), MTs (X.blk s H scope (compEnvC scope cl C X.env) fp) g B (put a (wipeS S (own.map (·.2)))) ifs (t a))
    (he : ∀ (s : Shared) (H : Hp) (C : Addr) (cl : List (Str × Addr)) (fp : List Addr) (a : α), ME (X.blk s H scope (compEnvC scope cl C X.env) fp) g B (put a (wipeS S (own.map (·.2)))) elt (f a) (KI g))
    (hr : ∀ bs, MB X g B J (S.set i (some (.fr (rl g bs)))) rest (fr bs) K) (hy : X.N[i]? = some x := by rfl) (hc : X.calm = true := by rfl) (hs : ∀ x, foldedSetIterable iter X.env x = pure x := by intro _; rfl) :
    MB X g B J S (.Assign [.Name x p] (.ListComp elt [⟨tg, iter, ifs, 0⟩] scope pos) pos' :: rest) (m >>= fun as => lcF t f as >>= fr) K := by
  refine ⟨fun r q => ?_⟩
  obtain ⟨as, q1, q⟩ := bind_some q
  obtain ⟨bs, q2, q3⟩ := bind_some q
  refine pss_imp (pss_cons (ps_setLc (i := i) (g := gt) (tt := rdTs g B (fun a => put a (wipeS S (own.map (·.2)))) t) (te := rdEs g B (fun a => put a (wipeS S (own.map (·.2)))) f) hc hN hy hx hsw (hi.run as q1) (blkOk_by hb) (fun s H C cl fp => (hG s H C cl fp).pg)
    (fun s H C cl fp => ⟨fun pins st σ H Q I ⟨a, b, I2, e1, h, k⟩ => ((ht _ _ C cl fp a).run b e1).run pins st σ H Q I ⟨I2, h, k⟩⟩)
    (fun s H C cl fp => ⟨fun pins st σ H Q I ⟨a, b, I2, e1, h, k⟩ => ((he _ _ C cl fp a).run b e1).run pins st σ H Q I ⟨I2, h, k⟩⟩) hs) ((hr bs).run r q3)) fun D σ H ⟨I, ok, kk⟩ => ?_
  exact lc_use (Q := fun x H1 => gName i x σ H1 (fun σ H => ∃ I, Ok g B J (List.set S i (some (RK.fr (rl g bs)))) σ I H ∧ K r D)) hts (hG X.s_0 X.H_0 0 [] []).ok q2 ⟨I, ok.h, fun v I' H' x hv => ⟨I', ok.put x rfl hv, kk⟩⟩
theorem mb_setLc (i : Nat) {x : Str} {scope : Scope} {own : List (Str × Nat)} {m : Option (List α)} {gt : TG} {put : α → SL → SL} {ts : List Nat} {f : α → Option β} {fr : List β → Option o} (hN : X.N.Nodup) (hx : X.env.scope.names.lookup x = some .local) (hsw : swapsWith (.ListComp elt [⟨tg, iter, [], 0⟩] scope pos) (some (.Name x p)) pos'.line X.env = pure true) (hi : MI X g B S tg iter m) (hb : blkC X.N X.env.scope scope own = true) (hts : ∀ i ∈ ts, i ∈ own.map (·.2))
    (hG : ∀ (s : Shared) (H : Hp) (C : Addr) (cl : List (Str × Addr)) (fp : List Addr), MG (X.blk s H scope (compEnvC scope cl C X.env) fp) g tg gt put ts)
    (he : ∀ (s : Shared) (H : Hp) (C : Addr) (cl : List (Str × Addr)) (fp : List Addr) (a : α), ME (X.blk s H scope (compEnvC scope cl C X.env) fp) g B (put a (wipeS S (own.map (·.2)))) elt (f a) (KI g))
    (hr : ∀ bs, MB X g B J (S.set i (some (.fr (rl g bs)))) rest (fr bs) K) (hy : X.N[i]? = some x := by rfl) (hc : X.calm = true := by rfl) (hs : ∀ x, foldedSetIterable iter X.env x = pure x := by intro _; rfl) :
    MB X g B J S (.Assign [.Name x p] (.ListComp elt [⟨tg, iter, [], 0⟩] scope pos) pos' :: rest) (m >>= fun as => lcM f as >>= fr) K :=
  (mb_setLcF (t := fun _ => some true) i hN hx hsw hi hb hts hG (fun _ _ _ _ _ _ => mts_nil) he hr hy hc hs).eq (by cases m with
    | none => rfl
    | some as => exact congrArg (fun z => z >>= fr) (lcF_all f as))
end
end T
set_option Elab.async false
set_option linter.all false
set_option maxRecDepth 100000
namespace T
variable [TabsC]
open PySem PySem.Spec PyProof.Rows L2

/-- behind a loop that may leave, within a turn of another -/
def Ctl.up {β β2 γ ρ : Type} (f : β → Option (Ctl β2 γ ρ)) : Ctl β Empty ρ → Option (Ctl β2 γ ρ)
  | .nx b => f b
  | .rt r => some (.rt r)
  | .ct c => c.elim
  | .bk c => c.elim
theorem loopN_pure {α γ : Type} (f : γ → α → γ) : ∀ (as : List α) (s : γ), loopN (fun s a => some (f s a)) as s = some (as.foldl f s)
  | [], s => rfl
  | a :: as, s => loopN_pure f as (f s a)
theorem lcM_pure {α β : Type} (f : α → β) : ∀ as : List α, lcM (fun a => some (f a)) as = some (as.map f)
  | [] => rfl
  | a :: as => by
    show (lcM (fun a => some (f a)) as >>= fun bs => some (f a :: bs)) = _
    rw [lcM_pure f as]; rfl
theorem lcF_pure {α β : Type} (t : α → Bool) (f : α → β) : ∀ as : List α, lcF (fun a => some (t a)) (fun a => some (f a)) as = some ((as.filter t).map f)
  | [] => rfl
  | a :: as => by
    show (if t a = true then (lcF (fun a => some (t a)) (fun a => some (f a)) as >>= fun ys => some (f a :: ys)) else lcF (fun a => some (t a)) (fun a => some (f a)) as) = _
    rw [lcF_pure t f as, List.filter_cons]
    cases h : t a with
    | true => rw [if_pos rfl, if_pos rfl]; rfl
    | false => rw [if_neg Bool.false_ne_true, if_neg Bool.false_ne_true]
/-- lo, lo + c, .. -/
def rng3 (lo c : Int) (n : Nat) : List Int := (List.range n).map fun (i : Nat) => lo + (i : Int) * c
def rng3Ok (i j c : Int) : Bool := decide (0 < c ∧ c < 1073741824) && Builtin.Range.small i j c && decide ((Builtin.Range.rangeSize i j c).toNat ≤ sizeLine)
@[irreducible] def rng3O (i j c : Int) : Option (List Int) := if rng3Ok i j c = true then some (rng3 i c (Builtin.Range.rangeSize i j c).toNat) else none
theorem rng3_get {lo c : Int} {n i : Nat} (h : i < n) : (rng3 lo c n)[i]? = some (lo + (i : Int) * c) := by
  unfold rng3
  rw [List.getElem?_map, List.getElem?_range h]
  rfl
theorem rng3_len {lo c : Int} {n : Nat} : (rng3 lo c n).length = n := by
  unfold rng3
  rw [List.length_map, List.length_range]
theorem walk_rng3 {g : Gb} {B : Bs} {lo c : Int} {n : Nat} {I1 : Hp} (hn : n ≤ sizeLine) : WalkI g B (Itc lo c n) (rng3 lo c n) I1 where
  go := fun i x I2 H2 e _ _ _ => by
    have := (List.getElem?_eq_some_iff.mp e).1
    rw [rng3_len] at this
    exact this
  yl := fun i x I2 H2 v H' e s1 s2 s3 y => by
    have hi := (List.getElem?_eq_some_iff.mp e).1
    rw [rng3_len] at hi
    rw [rng3_get hi] at e
    cases e
    obtain ⟨rfl, rfl⟩ := y
    exact ⟨I2, Ext.refl s2, rfl⟩
  st := fun I2 H2 _ _ _ => by
    rw [rng3_len]
    exact Nat.le_refl _
  len := by
    rw [rng3_len]
    exact hn
/-! isinstance: known by the kind of thing -/
/-- things of one built-in type -/
class IsT (α : Type) [Py α] where
  ty : String
  ok : ∀ {g : Gb} {a : α} {I : Hp} {v : V}, (Py.r g a).p I v → TyX g.K I v (.type ty)
theorem tyx_sq {K : PySem.W.Frag} {H : Hp} {l : Addr} {vs : List V} (h : SqL K H l vs) : TyX K H (.ref l) (.type "list") := by
  rcases h with (h | ⟨o, h⟩) | ⟨o, its, n, h1, h2, _⟩
  · exact .base (.lst h)
  · exact .base (.frz h)
  · exact .kList h1 h2
theorem tyx_tq {K : PySem.W.Frag} {H : Hp} {l : Addr} {vs : List V} (h : SqT K H l vs) : TyX K H (.ref l) (.type "tuple") := by
  rcases h with (h | ⟨o, h⟩) | ⟨o, its, n, h1, h2, _⟩
  · exact .base (.tup h)
  · exact .fTuple h
  · exact .kTuple h1 h2
instance : IsT Int := ⟨"int", fun h => by cases h; exact .base (.int _)⟩
instance : IsT Bool := ⟨"bool", fun h => by cases h; exact .base (.bl _)⟩
instance : IsT Str := ⟨"str", fun h => by cases h; exact .base (.str _)⟩
section
variable {α β γ δ : Type} [Py α] [Py β] [Py γ] [Py δ]
instance : IsT (T2 α β) := ⟨"tuple", fun h => by obtain ⟨_, _, _, rfl, h, _⟩ := h; exact tyx_tq h⟩
instance : IsT (T3 α β γ) := ⟨"tuple", fun h => by obtain ⟨_, _, _, _, rfl, h, _⟩ := h; exact tyx_tq h⟩
instance : IsT (T4 α β γ δ) := ⟨"tuple", fun h => by obtain ⟨_, _, _, _, _, rfl, h, _⟩ := h; exact tyx_tq h⟩
theorem tyx_mono {K : PySem.W.Frag} {H H' : Hp} {v : V} {t : Value} (s : Same H H') (h : TyX K H v t) : TyX K H' v t := by
  cases h with
  | base h =>
    cases h with
    | non => exact .base .non
    | bl x => exact .base (.bl x)
    | int x => exact .base (.int x)
    | str x => exact .base (.str x)
    | flt x => exact .base (.flt x)
    | lst e => exact .base (.lst (s _ _ e))
    | frz e => exact .base (.frz (s _ _ e))
    | tup e => exact .base (.tup (s _ _ e))
    | dK e => exact .base (.dK (s _ _ e))
    | dT e => exact .base (.dT (s _ _ e))
    | ins e cl ha hn htk hm => exact .base (.ins (s _ _ e) cl ha hn htk hm)
  | byt b => exact .byt b
  | set e => exact .set (s _ _ e)
  | kList e c => exact .kList e c
  | kTuple e c => exact .kTuple e c
  | kDict e c => exact .kDict e c
  | fTuple e => exact .fTuple (s _ _ e)
  | fDict e => exact .fDict (s _ _ e)
end
/-- a thing of kind k is of the type t -/
def TR {α' : Type} (g : Gb) (k : α' → RK) (t : Value) : Prop := ∀ a H0 v I H, Same I H → RK.holds g (k a) H0 v I H → TyX g.K H v t
section
variable {X : Cx} {g : Gb} {B : Bs} {J : Hp} {S : SL} {e e1 e2 e3 tg : Expr} {es : List Expr} {pos pos' p p2 : Pos} {o α' β' γ' ρ : Type} {K : KT o} {rest body : List Stmt} {α β : Type} [Py α] [Py β] {m : Option (List α)} {k : List α → RK}
theorem tr_im [i : IsT α] : TR (α' := α) g (KI g) (.type i.ty) := fun a H0 v I H s h => tyx_mono s (IsT.ok h)
theorem tr_lr {k : List α → RK} (h : LR g k) : TR g k (.type "list") := fun a H0 v I H s q => by
  obtain ⟨l, vs, rfl, h1, _⟩ := h a H0 v I H s q
  exact tyx_sq h1
theorem me_isi {m1 : Option α'} {k1 : α' → RK} {x : Str} {t Ty : String} {b : Bool} (hm : X.mg "isinstance" = none) (hm2 : X.mg x = none) (h : ME X g B S e m1 k1) (hT : TR g k1 (.type t)) (hk : kitB t Ty = some b) (hv : bootBuiltins x = some (.type Ty)) (hg : Gl X "isinstance" := by rfl) (hg2 : Gl X x := by rfl) (hK : X.K = g.K := by rfl) (hn : x ≠ "__name__" := by decide) (hd : (x == ("__debug__" : Str)) = false := by decide)
    (he : starEach [e, .Name x p2] X.env = (false, eval e X.env) :: starEach [.Name x p2] X.env := by rfl) (he2 : starEach [.Name x p2] X.env = (false, eval (.Name x p2) X.env) :: starEach [] X.env := by rfl) (hpl : (backTo pos (starEach [.Name x p2] X.env)).any (·.1) = false := by rfl) :
    ME X g B S (.Call (.Name "isinstance" p) [e, .Name x p2] [] pos) (m1 >>= fun _ => some b) (KI g) := by
  refine ⟨fun n q => ?_⟩
  obtain ⟨a, q1, q2⟩ := bind_some q
  cases q2
  refine pe_imp (pe_callB call_isi hg hm (by decide +kernel) (pa_cons (h.run a q1) (pa_cons (pe_bltn (v := .ty Ty) hg2 hm2 hv rfl hn hd) pa_nil he2) he) (he := he) (hpl := hpl)) fun σ H Q ⟨I, hh, kk⟩ => ⟨I, hh, fun v I' H' xx hv => ?_⟩
  exact ⟨v, .ty Ty, .type t, .type Ty, b, rfl, .ty Ty, by rw [hK]; exact hT a _ _ _ _ xx.s hv, by rw [hK]; exact kit_ty hk, kk _ I' H' xx rfl⟩
theorem mi_rng3 {m1 m2 m3 : Option Int} (hm : X.mg "range" = none) (h1 : ME X g B S e1 m1 (KI g)) (h2 : ME X g B S e2 m2 (KI g)) (h3 : ME X g B S e3 m3 (KI g)) (hg : Gl X "range" := by rfl) (hs : starEach [e1, e2, e3] X.env = (false, eval e1 X.env) :: starEach [e2, e3] X.env := by rfl) (hs2 : starEach [e2, e3] X.env = (false, eval e2 X.env) :: starEach [e3] X.env := by rfl) (hs3 : starEach [e3] X.env = (false, eval e3 X.env) :: starEach [] X.env := by rfl) (hpl : (backTo pos (starEach [e2, e3] X.env)).any (·.1) = false := by rfl) :
    MI X g B S tg (.Call (.Name "range" p) [e1, e2, e3] [] pos) (m1 >>= fun a => m2 >>= fun b => m3 >>= fun c => rng3O a b c) := by
  refine ⟨fun as q => ?_⟩
  obtain ⟨a, q1, q⟩ := bind_some q
  obtain ⟨b, q2, q⟩ := bind_some q
  obtain ⟨c, q3, q⟩ := bind_some q
  unfold rng3O at q
  by_cases hn : rng3Ok a b c = true
  · rw [if_pos hn] at q
    cases q
    unfold rng3Ok at hn
    rw [Bool.and_eq_true, Bool.and_eq_true, decide_eq_true_eq, decide_eq_true_eq] at hn
    obtain ⟨⟨hc, hs'⟩, hz⟩ := hn
    refine pi_imp (pi_range3 hg hm (pa_cons (h1.run a q1) (pa_cons (h2.run b q2) (pa_cons (h3.run c q3) pa_nil hs3) hs2) hs) hs hpl) fun σ H R ⟨I, hh, k⟩ => ⟨I, hh, fun v I1 H1 x1 hv => ⟨I1, hh.ext x1, fun w I2 H2 x2 hw => ⟨I2, (hh.ext x1).ext x2, fun u I3 H3 x3 hu => ⟨a, b, c, (Builtin.Range.rangeSize a b c).toNat, by cases hv; cases hw; cases hu; rfl, ⟨by omega, by omega, hs', ?_⟩, k _ I3 H3 ((x1.trans x2).trans x3) (walk_rng3 hz)⟩⟩⟩⟩
    have : 0 ≤ Builtin.Range.rangeSize a b c := by
      unfold Builtin.Range.rangeSize
      split
      · split
        · have := Int.ediv_nonneg (a := b - a - 1) (b := c) (by omega) (by omega)
          omega
        · omega
      · first | omega | (split <;> omega)
    omega
  · rw [if_neg hn] at q
    cases q
/-- is, is not a written truth -/
theorem mc_isB {j : Nat} {c : Bool} {m1 : Option Bool} (h : ME X g B S e m1 (KI g)) : MC X g B S (.Compare e [.Is] [.Constant (.bool c) j pos'] pos) (m1 >>= fun a => some (a == c)) :=
  (mc_cmp (m2 := some c) op_isBl h (me_bl (b := c)) (f := fun a b => some (a == b)) (fun a b c q v w I H H0 H1 Q s hv hw kk => by
    cases q
    cases hv
    cases hw
    refine ⟨a, b, rfl, rfl, ?_⟩
    have e : decide (a = b) = (a == b) := by cases a <;> cases b <;> rfl
    rw [e]
    exact kk _ _ _ (Ext.refl s) rfl)).eq (by cases m1 <;> rfl)
theorem mc_ntB {j : Nat} {c : Bool} {m1 : Option Bool} (h : ME X g B S e m1 (KI g)) : MC X g B S (.Compare e [.IsNot] [.Constant (.bool c) j pos'] pos) (m1 >>= fun a => some (!(a == c))) :=
  (mc_cmp (m2 := some c) op_notBl h (me_bl (b := c)) (f := fun a b => some (!(a == b))) (fun a b c q v w I H H0 H1 Q s hv hw kk => by
    cases q
    cases hv
    cases hw
    refine ⟨a, b, rfl, rfl, ?_⟩
    have e : decide (a = b) = (a == b) := by cases a <;> cases b <;> rfl
    rw [e]
    exact kk _ _ _ (Ext.refl s) rfl)).eq (by cases m1 <;> rfl)
theorem me_any {m : Option (List Bool)} {k : List Bool → RK} (hm : X.mg "any" = none) (h : ME X g B S e m k) (r : LR g k := by first | exact lr_im | exact lr_fr | exact lr_rd) (hg : Gl X "any" := by rfl) (hK : X.K = g.K := by rfl) (hc : X.calm = true := by rfl) (he : starEach [e] X.env = (false, eval e X.env) :: starEach [] X.env := by rfl) (hpl : (backTo pos (starEach [] X.env)).any (·.1) = false := by rfl) :
    ME X g B S (.Call (.Name "any" p) [e] [] pos) (m >>= fun xs => some (xs.any id)) (KI g) := by
  refine ⟨fun n q => ?_⟩
  obtain ⟨xs, q1, q2⟩ := bind_some q
  cases q2
  refine pe_imp (pe_callB (cr_any hc) hg hm (by decide +kernel) (pa_cons (h.run xs q1) pa_nil he) (he := he) (hpl := hpl)) fun σ H Q ⟨I, hh, kk⟩ => ⟨I, hh, fun v I' H' x hv => ?_⟩
  obtain ⟨l, vs, rfl, h1, h2⟩ := r xs _ _ _ _ x.s hv
  have e1 := vals_bls h2.2
  subst e1
  exact ⟨l, xs, rfl, by rw [hK]; exact h1, kk _ I' H' x rfl⟩
theorem me_all {m : Option (List Bool)} {k : List Bool → RK} (hm : X.mg "all" = none) (h : ME X g B S e m k) (r : LR g k := by first | exact lr_im | exact lr_fr | exact lr_rd) (hg : Gl X "all" := by rfl) (hK : X.K = g.K := by rfl) (hc : X.calm = true := by rfl) (he : starEach [e] X.env = (false, eval e X.env) :: starEach [] X.env := by rfl) (hpl : (backTo pos (starEach [] X.env)).any (·.1) = false := by rfl) :
    ME X g B S (.Call (.Name "all" p) [e] [] pos) (m >>= fun xs => some (xs.all id)) (KI g) := by
  refine ⟨fun n q => ?_⟩
  obtain ⟨xs, q1, q2⟩ := bind_some q
  cases q2
  refine pe_imp (pe_callB (cr_all hc) hg hm (by decide +kernel) (pa_cons (h.run xs q1) pa_nil he) (he := he) (hpl := hpl)) fun σ H Q ⟨I, hh, kk⟩ => ⟨I, hh, fun v I' H' x hv => ?_⟩
  obtain ⟨l, vs, rfl, h1, h2⟩ := r xs _ _ _ _ x.s hv
  have e1 := vals_bls h2.2
  subst e1
  exact ⟨l, xs, rfl, by rw [hK]; exact h1, kk _ I' H' x rfl⟩
end
end T
set_option Elab.async false
set_option linter.all false
set_option maxRecDepth 100000
namespace T
variable [TabsC]
open PySem PySem.Spec PyProof.Rows L2
/-! the same rules where nothing can fail -/
section
variable {X : Cx} {g : Gb} {B : Bs} {J : Hp} {S : SL} {e e1 e2 e3 tg elt iter : Expr} {es ifs : List Expr} {pos pos' p p2 p3 apos cpos : Pos} {o α' β' γ' ρ : Type} {K : KT o} {rest body : List Stmt} {α β γ δ : Type} [Py α] [Py β] [Py γ] [Py δ]
theorem me_ifP {a' : Type} {c : Bool} {a b : a'} {k : a' → RK} (hc : MT X g B S e (some c)) (h1 : ME X g B S e1 (some a) k) (h2 : ME X g B S e2 (some b) k) (hb : ∀ c, (k c).isB = false := by intro _; rfl) : ME X g B S (.IfExp e e1 e2 pos) (some (if c = true then a else b)) k :=
  (me_if hc h1 h2 hb).eq (by cases c <;> rfl)
theorem mc_chnP {op op' : CmpOp} {f f' : Int → Int → Bool} {a b c : Int} (ho : OpR X (compareOp op) (rI0 fun i j => .bl (f i j))) (ho' : OpR X (compareOp op') (rI0 fun i j => .bl (f' i j)))
    (h1 : ME X g B S e1 (some a) (KI g)) (h2 : ME X g B S e2 (some b) (KI g)) (h3 : ME X g B S e3 (some c) (KI g)) (hm : lastMarks [op, op'] [e2, e3] = false := by with_unfolding_all rfl) :
    MC X g B S (.Compare e1 [op, op'] [e2, e3] pos) (some (f a b && f' b c)) :=
  (mc_chn ho ho' h1 h2 h3 hm).eq (by
    show (if f a b = true then some (f' b c) else some false) = _
    cases f a b <;> rfl)
theorem mb_if2P {c : Bool} {a b : o} {b1 b2 : List Stmt} (hc : MT X g B S e (some c)) (h1 : MB X g B J S b1 (some a) K) (h2 : MB X g B J S b2 (some b) K) : MB X g B J S [.If e b1 b2 pos] (some (if c = true then a else b)) K :=
  (mb_if2 hc h1 h2).eq (by cases c <;> rfl)
theorem mb_iftP {c : Bool} {a b : o} {b1 : List Stmt} (hc : MT X g B S e (some c)) (h1 : MB X g B J S b1 (some a) K) (h2 : MB X g B J S rest (some b) K) (hK : ∀ r D nx, some a = some r → K r D → K r { D with nx := nx }) : MB X g B J S (.If e b1 [] pos :: rest) (some (if c = true then a else b)) K :=
  (mb_ift hc h1 h2 hK).eq (by cases c <;> rfl)
theorem mb_ifP {c : Bool} {a1 a2 : β'} {b1 b2 : List Stmt} {S' : β' → SL} {f : β' → Option o} (hc : MT X g B S e (some c)) (h1 : MB X g B J S b1 (some a1) (Kn g B J S')) (h2 : MB X g B J S b2 (some a2) (Kn g B J S')) (hb : ∀ b, MB X g B J (S' b) rest (f b) K) :
    MB X g B J S (.If e b1 b2 pos :: rest) (f (if c = true then a1 else a2)) K :=
  (mb_if hc h1 h2 hb).eq (by cases c <;> rfl)
theorem mb_forP {m : Option (List α)} {put : α → SL → SL} {S' : β' → SL} {s0 : β'} {fb : β' → α → β'} {f : β' → Option o} (hp : PassesOwn (model X.prog X.w) X.A X.env X.xe) (hi : MI X g B S tg e m) {gt : TG} {ts : List Nat} (hG : MG X g tg gt put ts) (w : Wk S (S' s0))
    (hb : ∀ J s a, MB X g B J (put a (S' s)) body (some (fb s a)) (Kn g B J S')) (hr : ∀ s, MB X g B J (S' s) rest (f s) K) (hc : X.calm = true := by rfl) (hs : ∀ x, foldedSetIterable e X.env x = pure x := by intro _; rfl) :
    MB X g B J S (.For tg e body [] pos :: rest) (m >>= fun as => f (as.foldl fb s0)) K :=
  (mb_for hp hi hG w hb hr hc hs).eq (by
    cases m with
    | none => rfl
    | some as =>
      show (loopN (fun s a => some (fb s a)) as s0 >>= f) = f (as.foldl fb s0)
      rw [loopN_pure]; rfl)
theorem me_lcFP {scope : Scope} {own : List (Str × Nat)} {m : Option (List α)} {gt : TG} {put : α → SL → SL} {ts : List Nat} {t : α → Bool} {f : α → β} (hN : X.N.Nodup) (hi : MI X g B S tg iter m) (hb : blkC X.N X.env.scope scope own = true) (hts : ∀ i ∈ ts, i ∈ own.map (·.2))
    (hG : ∀ (s : Shared) (H : Hp) (C : Addr) (cl : List (Str × Addr)) (fp : List Addr), MG (X.blk s H scope (compEnvC scope cl C X.env) fp) g tg gt put ts)
    (ht : ∀ (s : Shared) (H : Hp) (C : Addr) (cl : List (Str × Addr)) (fp : List Addr) (a : α), MTs (X.blk s H scope (compEnvC scope cl C X.env) fp) g B (put a (wipeS S (own.map (·.2)))) ifs (some (t a)))
    (he : ∀ (s : Shared) (H : Hp) (C : Addr) (cl : List (Str × Addr)) (fp : List Addr) (a : α), ME (X.blk s H scope (compEnvC scope cl C X.env) fp) g B (put a (wipeS S (own.map (·.2)))) elt (some (f a)) (KI g)) (hc : X.calm = true := by rfl) (hs : ∀ x, foldedSetIterable iter X.env x = pure x := by intro _; rfl) :
    ME X g B S (.ListComp elt [⟨tg, iter, ifs, 0⟩] scope pos) (m >>= fun as => some ((as.filter t).map f)) (fun bs => .fr (rl g bs)) :=
  (me_lcF hN hi hb hts hG ht he hc hs).eq (by cases m with
    | none => rfl
    | some as => exact lcF_pure t f as)
theorem me_lcP {scope : Scope} {own : List (Str × Nat)} {m : Option (List α)} {gt : TG} {put : α → SL → SL} {ts : List Nat} {f : α → β} (hN : X.N.Nodup) (hi : MI X g B S tg iter m) (hb : blkC X.N X.env.scope scope own = true) (hts : ∀ i ∈ ts, i ∈ own.map (·.2))
    (hG : ∀ (s : Shared) (H : Hp) (C : Addr) (cl : List (Str × Addr)) (fp : List Addr), MG (X.blk s H scope (compEnvC scope cl C X.env) fp) g tg gt put ts)
    (he : ∀ (s : Shared) (H : Hp) (C : Addr) (cl : List (Str × Addr)) (fp : List Addr) (a : α), ME (X.blk s H scope (compEnvC scope cl C X.env) fp) g B (put a (wipeS S (own.map (·.2)))) elt (some (f a)) (KI g)) (hc : X.calm = true := by rfl) (hs : ∀ x, foldedSetIterable iter X.env x = pure x := by intro _; rfl) :
    ME X g B S (.ListComp elt [⟨tg, iter, [], 0⟩] scope pos) (m >>= fun as => some (as.map f)) (fun bs => .fr (rl g bs)) :=
  (me_lc hN hi hb hts hG he hc hs).eq (by cases m with
    | none => rfl
    | some as => exact lcM_pure f as)
theorem mb_setLcFP (i : Nat) {x : Str} {scope : Scope} {own : List (Str × Nat)} {m : Option (List α)} {gt : TG} {put : α → SL → SL} {ts : List Nat} {t : α → Bool} {f : α → β} {fr : List β → Option o} (hN : X.N.Nodup) (hx : X.env.scope.names.lookup x = some .local) (hsw : swapsWith (.ListComp elt [⟨tg, iter, ifs, 0⟩] scope pos) (some (.Name x p)) pos'.line X.env = pure true) (hi : MI X g B S tg iter m) (hb : blkC X.N X.env.scope scope own = true) (hts : ∀ i ∈ ts, i ∈ own.map (·.2))
    (hG : ∀ (s : Shared) (H : Hp) (C : Addr) (cl : List (Str × Addr)) (fp : List Addr), MG (X.blk s H scope (compEnvC scope cl C X.env) fp) g tg gt put ts)
    (ht : ∀ (s : Shared) (H : Hp) (C : Addr) (cl : List (Str × Addr)) (fp : List Addr) (a : α), MTs (X.blk s H scope (compEnvC scope cl C X.env) fp) g B (put a (wipeS S (own.map (·.2)))) ifs (some (t a)))
    (he : ∀ (s : Shared) (H : Hp) (C : Addr) (cl : List (Str × Addr)) (fp : List Addr) (a : α), ME (X.blk s H scope (compEnvC scope cl C X.env) fp) g B (put a (wipeS S (own.map (·.2)))) elt (some (f a)) (KI g))
    (hr : ∀ bs, MB X g B J (S.set i (some (.fr (rl g bs)))) rest (fr bs) K) (hy : X.N[i]? = some x := by rfl) (hc : X.calm = true := by rfl) (hs : ∀ x, foldedSetIterable iter X.env x = pure x := by intro _; rfl) :
    MB X g B J S (.Assign [.Name x p] (.ListComp elt [⟨tg, iter, ifs, 0⟩] scope pos) pos' :: rest) (m >>= fun as => fr ((as.filter t).map f)) K :=
  (mb_setLcF i hN hx hsw hi hb hts hG ht he hr hy hc hs).eq (by cases m with
    | none => rfl
    | some as =>
      show (lcF (fun a => some (t a)) (fun a => some (f a)) as >>= fr) = _
      rw [lcF_pure]; rfl)
theorem mb_setLcP (i : Nat) {x : Str} {scope : Scope} {own : List (Str × Nat)} {m : Option (List α)} {gt : TG} {put : α → SL → SL} {ts : List Nat} {f : α → β} {fr : List β → Option o} (hN : X.N.Nodup) (hx : X.env.scope.names.lookup x = some .local) (hsw : swapsWith (.ListComp elt [⟨tg, iter, [], 0⟩] scope pos) (some (.Name x p)) pos'.line X.env = pure true) (hi : MI X g B S tg iter m) (hb : blkC X.N X.env.scope scope own = true) (hts : ∀ i ∈ ts, i ∈ own.map (·.2))
    (hG : ∀ (s : Shared) (H : Hp) (C : Addr) (cl : List (Str × Addr)) (fp : List Addr), MG (X.blk s H scope (compEnvC scope cl C X.env) fp) g tg gt put ts)
    (he : ∀ (s : Shared) (H : Hp) (C : Addr) (cl : List (Str × Addr)) (fp : List Addr) (a : α), ME (X.blk s H scope (compEnvC scope cl C X.env) fp) g B (put a (wipeS S (own.map (·.2)))) elt (some (f a)) (KI g))
    (hr : ∀ bs, MB X g B J (S.set i (some (.fr (rl g bs)))) rest (fr bs) K) (hy : X.N[i]? = some x := by rfl) (hc : X.calm = true := by rfl) (hs : ∀ x, foldedSetIterable iter X.env x = pure x := by intro _; rfl) :
    MB X g B J S (.Assign [.Name x p] (.ListComp elt [⟨tg, iter, [], 0⟩] scope pos) pos' :: rest) (m >>= fun as => fr (as.map f)) K :=
  (mb_setLc i hN hx hsw hi hb hts hG he hr hy hc hs).eq (by cases m with
    | none => rfl
    | some as =>
      show (lcM (fun a => some (f a)) as >>= fr) = _
      rw [lcM_pure]; rfl)
end
end T
set_option Elab.async false
set_option linter.all false
set_option maxRecDepth 100000
namespace T
variable [TabsC]
open PySem PySem.Spec PyProof.Rows L2
/-- behind a loop that no value leaves -/
def Ctl.upN {β β2 : Type} (f : β → Option β2) : Ctl β Empty Empty → Option β2
  | .nx b => f b
  | .rt r => r.elim
  | .ct c => c.elim
  | .bk c => c.elim
theorem kr_n {g : Gb} {B : Bs} {o : Type} {K : KT o} {k : Empty → RK} : KR g B K (fun r : Empty => r.elim) k := fun r => r.elim
theorem bindP {α β : Type} (a : α) (f : α → Option β) : ((some a : Option α) >>= f) = f a := rfl
section
variable {X : Cx} {g : Gb} {B : Bs} {J : Hp} {S : SL} {e tg c : Expr} {pos : Pos} {o α β β2 γ γ2 ρ : Type} {K : KT o} {rest body : List Stmt} [Py α]
/-- loops that may be left: at a def's level; within a turn or a part that may leave; where only their own turns are left -/
theorem mb_forT {m : Option (List α)} {put : α → SL → SL} {S' : γ → SL} {s0 : γ} {k : ρ → RK} {fb : γ → α → Option (Ctl γ γ ρ)} {f : γ → Option ρ} (hi : MI X g B S tg e m) {gt : TG} {ts : List Nat} (hG : MG X g tg gt put ts) (w : Wk S (S' s0))
    (hb : ∀ J s a, MB X g B J (put a (S' s)) body (fb s a) (Kc g B J S' S' k)) (hr : ∀ s, MB X g B J (S' s) rest (f s) (Kt g B k)) (hp : PassesOwn (model X.prog X.w) X.A X.env X.xe := by exact PassesOwn.never) (hc : X.calm = true := by rfl) (hs : ∀ x, foldedSetIterable e X.env x = pure x := by intro _; rfl) :
    MB X g B J S (.For tg e body [] pos :: rest) (m >>= fun as => loopC fb as s0 >>= Ctl.seqT f) (Kt g B k) :=
  mb_forC kr_t hp hi hG w hb hr (fun _ => rfl) (fun _ => rfl) hc hs
theorem mb_forU {m : Option (List α)} {put : α → SL → SL} {S' : γ → SL} {S2 : β2 → SL} {T2 : γ2 → SL} {s0 : γ} {k : ρ → RK} {fb : γ → α → Option (Ctl γ γ ρ)} {f : γ → Option (Ctl β2 γ2 ρ)} (hi : MI X g B S tg e m) {gt : TG} {ts : List Nat} (hG : MG X g tg gt put ts) (w : Wk S (S' s0))
    (hb : ∀ J s a, MB X g B J (put a (S' s)) body (fb s a) (Kc g B J S' S' k)) (hr : ∀ s, MB X g B J (S' s) rest (f s) (Kc g B J S2 T2 k)) (hp : PassesOwn (model X.prog X.w) X.A X.env X.xe := by exact PassesOwn.never) (hc : X.calm = true := by rfl) (hs : ∀ x, foldedSetIterable e X.env x = pure x := by intro _; rfl) :
    MB X g B J S (.For tg e body [] pos :: rest) (m >>= fun as => loopC fb as s0 >>= Ctl.up f) (Kc g B J S2 T2 k) :=
  mb_forC kr_c hp hi hG w hb hr (fun _ => rfl) (fun _ => rfl) hc hs
theorem mb_forN {m : Option (List α)} {put : α → SL → SL} {S' : γ → SL} {s0 : γ} {fb : γ → α → Option (Ctl γ γ Empty)} {f : γ → Option o} (hi : MI X g B S tg e m) {gt : TG} {ts : List Nat} (hG : MG X g tg gt put ts) (w : Wk S (S' s0))
    (hb : ∀ J s a, MB X g B J (put a (S' s)) body (fb s a) (Kc g B J S' S' (fun z : Empty => z.elim))) (hr : ∀ s, MB X g B J (S' s) rest (f s) K) (hp : PassesOwn (model X.prog X.w) X.A X.env X.xe := by exact PassesOwn.never) (hc : X.calm = true := by rfl) (hs : ∀ x, foldedSetIterable e X.env x = pure x := by intro _; rfl) :
    MB X g B J S (.For tg e body [] pos :: rest) (m >>= fun as => loopC fb as s0 >>= Ctl.upN f) K :=
  mb_forC (inj := fun r : Empty => r.elim) kr_n hp hi hG w hb hr (fun _ => rfl) (fun r => r.elim) hc hs
theorem mb_whileT (N : Nat) {S' : γ → SL} {s0 : γ} {k : ρ → RK} {cm : γ → Option Bool} {fb : γ → Option (Ctl γ γ ρ)} {f : γ → Option ρ} (w : Wk S (S' s0)) (hc : ∀ s, MT X g B (S' s) c (cm s)) (hb : ∀ s, MB X g B J (S' s) body (fb s) (Kc g B J S' S' k)) (hr : ∀ s, MB X g B J (S' s) rest (f s) (Kt g B k))
    (hp : PassesOwn (model X.prog X.w) X.A X.env X.xe := by exact PassesOwn.never) : MB X g B J S (.While c body [] pos :: rest) (whileC cm fb N s0 >>= Ctl.seqT f) (Kt g B k) :=
  mb_while N kr_t hp w hc hb hr (fun _ => rfl) (fun _ => rfl)
theorem mb_whileU (N : Nat) {S' : γ → SL} {S2 : β2 → SL} {T2 : γ2 → SL} {s0 : γ} {k : ρ → RK} {cm : γ → Option Bool} {fb : γ → Option (Ctl γ γ ρ)} {f : γ → Option (Ctl β2 γ2 ρ)} (w : Wk S (S' s0)) (hc : ∀ s, MT X g B (S' s) c (cm s)) (hb : ∀ s, MB X g B J (S' s) body (fb s) (Kc g B J S' S' k)) (hr : ∀ s, MB X g B J (S' s) rest (f s) (Kc g B J S2 T2 k))
    (hp : PassesOwn (model X.prog X.w) X.A X.env X.xe := by exact PassesOwn.never) : MB X g B J S (.While c body [] pos :: rest) (whileC cm fb N s0 >>= Ctl.up f) (Kc g B J S2 T2 k) :=
  mb_while N kr_c hp w hc hb hr (fun _ => rfl) (fun _ => rfl)
theorem mb_whileN (N : Nat) {S' : γ → SL} {s0 : γ} {cm : γ → Option Bool} {fb : γ → Option (Ctl γ γ Empty)} {f : γ → Option o} (w : Wk S (S' s0)) (hc : ∀ s, MT X g B (S' s) c (cm s)) (hb : ∀ s, MB X g B J (S' s) body (fb s) (Kc g B J S' S' (fun z : Empty => z.elim))) (hr : ∀ s, MB X g B J (S' s) rest (f s) K)
    (hp : PassesOwn (model X.prog X.w) X.A X.env X.xe := by exact PassesOwn.never) : MB X g B J S (.While c body [] pos :: rest) (whileC cm fb N s0 >>= Ctl.upN f) K :=
  mb_while (inj := fun r : Empty => r.elim) N kr_n hp w hc hb hr (fun _ => rfl) (fun r => r.elim)
end
end T
set_option Elab.async false
set_option linter.all false
set_option maxRecDepth 100000
namespace T
variable [TabsC]
open PySem PySem.Spec PyProof.Rows L2
/-! what is known ahead of a step is put in -/
section
variable {X : Cx} {g : Gb} {B : Bs} {J : Hp} {S : SL} {e tg : Expr} {oe : Option Expr} {es ifs : List Expr} {sts : List Stmt} {α β γ δ ε : Type}
theorem ME.p1 {a : α} {f : α → Option δ} {r : Option δ} {k : δ → RK} (h : ME X g B S e (some a >>= f) k) (q : f a = r := by exact rfl) : ME X g B S e r k := q ▸ h
theorem ME.p2 {m : Option α} {b : β} {f : α → β → Option δ} {r : Option δ} {k : δ → RK} (h : ME X g B S e (m >>= fun a => some b >>= f a) k) (q : (m >>= fun a => f a b) = r := by exact rfl) : ME X g B S e r k := q ▸ h
theorem ME.p3 {m : Option α} {m2 : α → Option β} {c : γ} {f : α → β → γ → Option δ} {r : Option δ} {k : δ → RK} (h : ME X g B S e (m >>= fun a => m2 a >>= fun b => some c >>= f a b) k) (q : (m >>= fun a => m2 a >>= fun b => f a b c) = r := by exact rfl) : ME X g B S e r k := q ▸ h
theorem MT.p1 {a : α} {f : α → Option Bool} {r : Option Bool} (h : MT X g B S e (some a >>= f)) (q : f a = r := by exact rfl) : MT X g B S e r := q ▸ h
theorem MT.p2 {m : Option α} {b : β} {f : α → β → Option Bool} {r : Option Bool} (h : MT X g B S e (m >>= fun a => some b >>= f a)) (q : (m >>= fun a => f a b) = r := by exact rfl) : MT X g B S e r := q ▸ h
theorem MT.p3 {m : Option α} {m2 : α → Option β} {c : γ} {f : α → β → γ → Option Bool} {r : Option Bool} (h : MT X g B S e (m >>= fun a => m2 a >>= fun b => some c >>= f a b)) (q : (m >>= fun a => m2 a >>= fun b => f a b c) = r := by exact rfl) : MT X g B S e r := q ▸ h
theorem MC.p1 {a : α} {f : α → Option Bool} {r : Option Bool} (h : MC X g B S e (some a >>= f)) (q : f a = r := by exact rfl) : MC X g B S e r := q ▸ h
theorem MC.p2 {m : Option α} {b : β} {f : α → β → Option Bool} {r : Option Bool} (h : MC X g B S e (m >>= fun a => some b >>= f a)) (q : (m >>= fun a => f a b) = r := by exact rfl) : MC X g B S e r := q ▸ h
theorem MC.p3 {m : Option α} {m2 : α → Option β} {c : γ} {f : α → β → γ → Option Bool} {r : Option Bool} (h : MC X g B S e (m >>= fun a => m2 a >>= fun b => some c >>= f a b)) (q : (m >>= fun a => m2 a >>= fun b => f a b c) = r := by exact rfl) : MC X g B S e r := q ▸ h
theorem MW.p1 {a : α} {f : α → Option Bool} {r : Option Bool} (h : MW X g B S e (some a >>= f)) (q : f a = r := by exact rfl) : MW X g B S e r := q ▸ h
theorem MW.p2 {m : Option α} {b : β} {f : α → β → Option Bool} {r : Option Bool} (h : MW X g B S e (m >>= fun a => some b >>= f a)) (q : (m >>= fun a => f a b) = r := by exact rfl) : MW X g B S e r := q ▸ h
theorem MW.p3 {m : Option α} {m2 : α → Option β} {c : γ} {f : α → β → γ → Option Bool} {r : Option Bool} (h : MW X g B S e (m >>= fun a => m2 a >>= fun b => some c >>= f a b)) (q : (m >>= fun a => m2 a >>= fun b => f a b c) = r := by exact rfl) : MW X g B S e r := q ▸ h
theorem MTs.p1 {a : α} {f : α → Option Bool} {r : Option Bool} (h : MTs X g B S ifs (some a >>= f)) (q : f a = r := by exact rfl) : MTs X g B S ifs r := q ▸ h
theorem MTs.p2 {m : Option α} {b : β} {f : α → β → Option Bool} {r : Option Bool} (h : MTs X g B S ifs (m >>= fun a => some b >>= f a)) (q : (m >>= fun a => f a b) = r := by exact rfl) : MTs X g B S ifs r := q ▸ h
theorem MTs.p3 {m : Option α} {m2 : α → Option β} {c : γ} {f : α → β → γ → Option Bool} {r : Option Bool} (h : MTs X g B S ifs (m >>= fun a => m2 a >>= fun b => some c >>= f a b)) (q : (m >>= fun a => m2 a >>= fun b => f a b c) = r := by exact rfl) : MTs X g B S ifs r := q ▸ h
theorem MI.p1 [Py δ] {a : α} {f : α → Option (List δ)} {r : Option (List δ)} (h : MI X g B S tg e (some a >>= f)) (q : f a = r := by exact rfl) : MI X g B S tg e r := q ▸ h
theorem MI.p2 [Py δ] {m : Option α} {b : β} {f : α → β → Option (List δ)} {r : Option (List δ)} (h : MI X g B S tg e (m >>= fun a => some b >>= f a)) (q : (m >>= fun a => f a b) = r := by exact rfl) : MI X g B S tg e r := q ▸ h
theorem MI.p3 [Py δ] {m : Option α} {m2 : α → Option β} {c : γ} {f : α → β → γ → Option (List δ)} {r : Option (List δ)} (h : MI X g B S tg e (m >>= fun a => m2 a >>= fun b => some c >>= f a b)) (q : (m >>= fun a => m2 a >>= fun b => f a b c) = r := by exact rfl) : MI X g B S tg e r := q ▸ h
theorem MSt.p1 [Py δ] {a : α} {f : α → Option (List δ)} {r : Option (List δ)} (h : MSt X g B S e (some a >>= f)) (q : f a = r := by exact rfl) : MSt X g B S e r := q ▸ h
theorem MSt.p2 [Py δ] {m : Option α} {b : β} {f : α → β → Option (List δ)} {r : Option (List δ)} (h : MSt X g B S e (m >>= fun a => some b >>= f a)) (q : (m >>= fun a => f a b) = r := by exact rfl) : MSt X g B S e r := q ▸ h
theorem MSt.p3 [Py δ] {m : Option α} {m2 : α → Option β} {c : γ} {f : α → β → γ → Option (List δ)} {r : Option (List δ)} (h : MSt X g B S e (m >>= fun a => m2 a >>= fun b => some c >>= f a b)) (q : (m >>= fun a => m2 a >>= fun b => f a b c) = r := by exact rfl) : MSt X g B S e r := q ▸ h
theorem ML.p1 [Py δ] {a : α} {f : α → Option (List δ)} {r : Option (List δ)} (h : ML X g B S es (some a >>= f)) (q : f a = r := by exact rfl) : ML X g B S es r := q ▸ h
theorem ML.p2 [Py δ] {m : Option α} {b : β} {f : α → β → Option (List δ)} {r : Option (List δ)} (h : ML X g B S es (m >>= fun a => some b >>= f a)) (q : (m >>= fun a => f a b) = r := by exact rfl) : ML X g B S es r := q ▸ h
theorem ML.p3 [Py δ] {m : Option α} {m2 : α → Option β} {c : γ} {f : α → β → γ → Option (List δ)} {r : Option (List δ)} (h : ML X g B S es (m >>= fun a => m2 a >>= fun b => some c >>= f a b)) (q : (m >>= fun a => m2 a >>= fun b => f a b c) = r := by exact rfl) : ML X g B S es r := q ▸ h
theorem MO.p1 {a : α} {f : α → Option (Option Int)} {r : Option (Option Int)} (h : MO X g B S oe (some a >>= f)) (q : f a = r := by exact rfl) : MO X g B S oe r := q ▸ h
theorem MO.p2 {m : Option α} {b : β} {f : α → β → Option (Option Int)} {r : Option (Option Int)} (h : MO X g B S oe (m >>= fun a => some b >>= f a)) (q : (m >>= fun a => f a b) = r := by exact rfl) : MO X g B S oe r := q ▸ h
theorem MO.p3 {m : Option α} {m2 : α → Option β} {c : γ} {f : α → β → γ → Option (Option Int)} {r : Option (Option Int)} (h : MO X g B S oe (m >>= fun a => m2 a >>= fun b => some c >>= f a b)) (q : (m >>= fun a => m2 a >>= fun b => f a b c) = r := by exact rfl) : MO X g B S oe r := q ▸ h
theorem MB.p1 {a : α} {f : α → Option δ} {r : Option δ} {K : KT δ} (h : MB X g B J S sts (some a >>= f) K) (q : f a = r := by exact rfl) : MB X g B J S sts r K := q ▸ h
theorem MB.p2 {m : Option α} {b : β} {f : α → β → Option δ} {r : Option δ} {K : KT δ} (h : MB X g B J S sts (m >>= fun a => some b >>= f a) K) (q : (m >>= fun a => f a b) = r := by exact rfl) : MB X g B J S sts r K := q ▸ h
theorem MB.p3 {m : Option α} {m2 : α → Option β} {c : γ} {f : α → β → γ → Option δ} {r : Option δ} {K : KT δ} (h : MB X g B J S sts (m >>= fun a => m2 a >>= fun b => some c >>= f a b) K) (q : (m >>= fun a => m2 a >>= fun b => f a b c) = r := by exact rfl) : MB X g B J S sts r K := q ▸ h
theorem MA.p1 {ι : Type} {dvs : List V} {args : ι → List RK} {a : α} {f : α → Option δ} {r : Option δ} {M : ι → Option δ} (h : MA X g B S es dvs args (some a >>= f) M) (q : f a = r := by exact rfl) : MA X g B S es dvs args r M := q ▸ h
theorem ma_nl {o : Type} {M : Unit → Option o} {r : Option o} (q : M () = r := by exact rfl) : MA X g B S [] [] (fun _ : Unit => []) r M := q ▸ ma_nil
end
theorem paired_ints {g : Gb} {I : Hp} : ∀ ns : List Int, Paired (fun a v => (Py.r g a).p I v) ns (ns.map V.int)
  | [] => .nil
  | _ :: ns => .cons rfl (paired_ints ns)
/-- the heap without the tables -/
def noT (H : Hp) : Hp := fun b => if (TabsC.T.any fun p => decide (p.1 = b)) = true then none else H b
theorem noT_at {H : Hp} {p : Addr × Str} (hp : p ∈ TabsC.T) : noT H p.1 = none := by
  unfold noT
  rw [if_pos (List.any_eq_true.mpr ⟨p, hp, by simp⟩)]
theorem noT_of {H : Hp} {b : Addr} {o : HO} (t : Tbs H) (e : H b = some o) (hn : nt o = true) : noT H b = some o := by
  unfold noT
  rw [if_neg]
  · exact e
  · intro z
    obtain ⟨p, hp, e2⟩ := List.any_eq_true.mp z
    obtain ⟨ps, h, _⟩ := t p hp
    rw [of_decide_eq_true e2, e] at h
    cases h
    cases hn
theorem noT_same {H : Hp} : Same (noT H) H := fun b o e => by
  unfold noT at e
  split at e
  · cases e
  · exact e
theorem noT_seq {K : PySem.W.Frag} {H : Hp} {a : Addr} {xs : List V} (t : Tbs H) (h : SqL K H a xs) : SqL K (noT H) a xs := by
  rcases h with (h | ⟨o, h⟩) | h
  · exact .inl (.inl (noT_of t h rfl))
  · exact .inl (.inr ⟨o, noT_of t h rfl⟩)
  · exact .inr h
/-- a law's own promise -/
def spL (K : PySem.W.Frag) : Sp := fun vs H Q _ => Tbs H ∧ ∃ (a : Addr) (ns : List Int), vs = [.ref a] ∧ SqL K H a (ns.map V.int) ∧ ns.length ≤ 63 ∧ ∀ H', Q (.bl true) H'
theorem fin_bw {P : Program} {w : World} {K : PySem.W.Frag} {mg : Str → Option Value} {base : Heap} {k : Nat} {f : Addr} {fd : FuncData} {ps : List Str} {M : List Int → Option Bool} (hM : ∀ ns : List Int, ns.length ≤ 63 → M ns = some true)
    (F : FnOk P w K mg base CX0 k f fd ps (spT (Gb.mk K mg) (fun p : List Int × Unit => [.bw (rl (Gb.mk K mg) p.1)]) (fun p => M p.1) (fun r => .im (Py.r (Gb.mk K mg) (r : Bool))))) : FnOk P w K mg base CX0 k f fd ps (spL K) :=
  F.imp fun vs H Q E ⟨tb, a, ns, e, hS, hl, q⟩ => by
    subst e
    exact ⟨noT H, (ns, ()), true, noT_same, ⟨tb, fun _ hp => noT_at hp⟩, .cons ⟨a, _, rfl, hS, Nat.le_trans hl (by decide), paired_ints ns⟩ .nil, hM ns hl, fun v I' H' _ hv => by cases hv; exact q H'⟩
theorem fin_im {P : Program} {w : World} {K : PySem.W.Frag} {mg : Str → Option Value} {base : Heap} {k : Nat} {f : Addr} {fd : FuncData} {ps : List Str} {M : List Int → Option Bool} (hM : ∀ ns : List Int, ns.length ≤ 63 → M ns = some true)
    (F : FnOk P w K mg base CX0 k f fd ps (spT (Gb.mk K mg) (fun p : List Int × Unit => [.im (Py.r (Gb.mk K mg) p.1)]) (fun p => M p.1) (fun r => .im (Py.r (Gb.mk K mg) (r : Bool))))) : FnOk P w K mg base CX0 k f fd ps (spL K) :=
  F.imp fun vs H Q E ⟨tb, a, ns, e, hS, hl, q⟩ => by
    subst e
    exact ⟨noT H, (ns, ()), true, noT_same, ⟨tb, fun _ hp => noT_at hp⟩, .cons ⟨a, _, rfl, noT_seq tb hS, Nat.le_trans hl (by decide), paired_ints ns⟩ .nil, hM ns hl, fun v I' H' _ hv => by cases hv; exact q H'⟩
end T
set_option Elab.async false
set_option linter.all false
set_option maxRecDepth 100000
namespace T
variable [TabsC]
open PySem PySem.Spec PyProof.Rows L2
/-! owned trees -/
def oI (r : PR) : OR := ⟨fun I _ v => r.p I v, fun s h => r.mono s h⟩
def oF (q : PL) : OR := ⟨fun I F v => ∃ l vs, v = .ref l ∧ F l = some (.lst vs) ∧ q.p I vs, fun s ⟨l, vs, e, h, q'⟩ => ⟨l, vs, e, h, q.mono s q'⟩⟩
/-- children side by side in F, none at the root -/
structure Kids (os : List OR) (I F : Hp) (vs : List V) (l : Addr) : Prop where
  len : os.length = vs.length
  ex : ∃ Ψ : Nat → Hp, (∀ (j : Nat) (o : OR) (v : V), os[j]? = some o → vs[j]? = some v → o.p I (Ψ j) v) ∧ (∀ j, Same (Ψ j) F) ∧ (∀ j, Ψ j l = none) ∧ (∀ i j a, Ψ i a ≠ none → Ψ j a ≠ none → i = j)
theorem Kids.mono {os : List OR} {I I' F : Hp} {vs : List V} {l : Addr} (s : Same I I') (h : Kids os I F vs l) : Kids os I' F vs l := by
  obtain ⟨h1, Ψ, a, b⟩ := h
  exact ⟨h1, Ψ, fun j o v e1 e2 => o.mono s (a j o v e1 e2), b⟩
def oC (W : List V → HO → Prop) (os : List OR) : OR := ⟨fun I F v => ∃ l ob vs, v = .ref l ∧ F l = some ob ∧ W vs ob ∧ Kids os I F vs l, fun s ⟨l, ob, vs, e, h, w, k⟩ => ⟨l, ob, vs, e, h, w, k.mono s⟩⟩
def wL : List V → HO → Prop := fun vs ob => ob = .lst vs ∧ vs.length ≤ sizeLine
def wT : List V → HO → Prop := fun vs ob => ob = .tup vs
def wI (g : Gb) (c : Str) (names : List Str) : List V → HO → Prop := fun vs ob => ∃ C dx, g.mg c = some (.ref C) ∧ ob = .ins C dx (names.zip vs) ∧ names.length = vs.length
/-- an instance that stays -/
def rIns (g : Gb) (c : Str) (names : List Str) (rs : List PR) : PR where
  p := fun I v => ∃ l C dx vs, v = .ref l ∧ g.mg c = some (.ref C) ∧ I l = some (.ins C dx (names.zip vs)) ∧ names.length = vs.length ∧ Paired (fun (r : PR) v => r.p I v) rs vs
  mono := fun s ⟨l, C, dx, vs, e, h1, h2, h3, h4⟩ => ⟨l, C, dx, vs, e, h1, s _ _ h2, h3, L2.Paired.mapP h4 fun r _ q => r.mono s q⟩
/-! let go -/
theorem frz_I {r : PR} : Frz (oI r) r := fun I F v hd h => r.mono (un_l hd) h
theorem frz_F {g : Gb} {α : Type} [Py α] {as : List α} : Frz (oF (rl g as)) (Py.r g as) := fun I F v hd ⟨l, vs, e, h1, h2⟩ => by subst e; exact frz_list hd h1 h2
theorem un_same {I F Ψ : Hp} (hd : ∀ a, F a ≠ none → I a = none) (s : Same Ψ F) : Same (Un I Ψ) (Un I F) := fun a o e => by
  rcases un_some e with e | ⟨e1, e2⟩
  · exact un_r (s a o e)
  · cases q : F a with
    | none => rw [un_none q]; exact e2
    | some u => have := hd a (ne_of_some q); rw [this] at e2; cases e2
theorem kids_frz {g : Gb} {os : List OR} {rs : List PR} {I F : Hp} {vs : List V} {l : Addr} (hd : ∀ a, F a ≠ none → I a = none) (z : Paired Frz os rs) (h : Kids os I F vs l) : Paired (fun (r : PR) v => r.p (Un I F) v) rs vs := by
  obtain ⟨hl, Ψ, h1, h2, _, _⟩ := h
  have key : ∀ (os : List OR) (rs : List PR) (vs : List V) (Ψ : Nat → Hp), Paired Frz os rs → os.length = vs.length → (∀ (j : Nat) (o : OR) (v : V), os[j]? = some o → vs[j]? = some v → o.p I (Ψ j) v) → (∀ j, Same (Ψ j) F) → Paired (fun (r : PR) v => r.p (Un I F) v) rs vs := by
    intro os rs vs Ψ z
    induction z generalizing vs Ψ with
    | nil =>
      intro hl _ _
      cases vs with
      | nil => exact .nil
      | cons _ _ => cases hl
    | cons zf _ ih =>
      intro hl h1 h2
      cases vs with
      | nil => cases hl
      | cons v vs =>
        refine .cons ?_ (ih vs (fun j => Ψ (j + 1)) (by simpa using hl) (fun j o v e1 e2 => h1 (j + 1) o v (by simpa using e1) (by simpa using e2)) fun j => h2 (j + 1))
        have hp := h1 0 _ v rfl rfl
        have hd0 : ∀ a, Ψ 0 a ≠ none → I a = none := fun a ha => hd a (same_ne (h2 0) ha)
        exact PR.mono _ (un_same hd (h2 0)) (zf I (Ψ 0) v hd0 hp)
  exact key os rs vs Ψ z hl h1 h2
theorem frz_C {g : Gb} {c : Str} {names : List Str} {os : List OR} {rs : List PR} (z : Paired Frz os rs) : Frz (oC (wI g c names) os) (rIns g c names rs) := fun I F v hd ⟨l, ob, vs, e, h, ⟨C, dx, h1, h2, h3⟩, k⟩ => by
  subst e h2
  exact ⟨l, C, dx, vs, rfl, h1, un_r h, h3, kids_frz (g := g) hd z k⟩
theorem paired_map {α : Type} {g : Gb} [Py α] {k : α → OR} (z : ∀ a, Frz (k a) (Py.r g a)) : ∀ as : List α, Paired Frz (as.map k) (as.map (Py.r g))
  | [] => .nil
  | a :: as => .cons (z a) (paired_map z as)
theorem paired_unmap {α β γ : Type} {F : β → γ → Prop} {f : α → β} : ∀ {as : List α} {vs : List γ}, Paired F (as.map f) vs → Paired (fun a v => F (f a) v) as vs
  | [], _, .nil => .nil
  | _ :: _, _, .cons h t => .cons h (paired_unmap t)
theorem frz_L {α : Type} {g : Gb} [Py α] {k : α → OR} (z : ∀ a, Frz (k a) (Py.r g a)) {as : List α} : Frz (oC wL (as.map k)) (Py.r g as) := fun I F v hd ⟨l, ob, vs, e, h, ⟨h2, h3⟩, kd⟩ => by
  subst e h2
  have hl : as.length = vs.length := by have := kd.len; rwa [List.length_map] at this
  exact ⟨l, vs, rfl, SqL.of (un_r h), by omega, paired_unmap (kids_frz (g := g) hd (paired_map z as) kd)⟩
section
variable {g : Gb} {α β γ δ : Type} [Py α] [Py β] [Py γ] [Py δ] {o0 o1 o2 o3 : OR}
theorem frz_T2 {t : T2 α β} (z0 : Frz o0 (Py.r g t.x0)) (z1 : Frz o1 (Py.r g t.x1)) : Frz (oC wT [o0, o1]) (Py.r g t) := fun I F v hd ⟨l, ob, vs, e, h, h2, kd⟩ => by
  subst e h2
  have hp := kids_frz (g := g) hd (.cons z0 (.cons z1 .nil)) kd
  cases hp with
  | cons p0 hp =>
    cases hp with
    | cons p1 hp =>
      cases hp
      exact ⟨l, _, _, rfl, SqT.of (un_r h), p0, p1⟩
theorem frz_T3 {t : T3 α β γ} (z0 : Frz o0 (Py.r g t.x0)) (z1 : Frz o1 (Py.r g t.x1)) (z2 : Frz o2 (Py.r g t.x2)) : Frz (oC wT [o0, o1, o2]) (Py.r g t) := fun I F v hd ⟨l, ob, vs, e, h, h2, kd⟩ => by
  subst e h2
  have hp := kids_frz (g := g) hd (.cons z0 (.cons z1 (.cons z2 .nil))) kd
  cases hp with
  | cons p0 hp =>
    cases hp with
    | cons p1 hp =>
      cases hp with
      | cons p2 hp =>
        cases hp
        exact ⟨l, _, _, _, rfl, SqT.of (un_r h), p0, p1, p2⟩
end
/-- a kind as an owned one -/
def RK.orOf : RK → OR
  | .im p => oI p
  | .fr q => oF q
  | .ow o => o
  | .bw q => oF q
  | .rd q => oF q
theorem RK.fragO {g : Gb} {k : RK} {H : Hp} {v : V} {I' H' : Hp} (hk : k.slotty = true) (h : RK.holds g k H v I' H') : ∃ F : Hp, (∀ a, F a ≠ none → H a = none ∧ I' a = none) ∧ Same F H' ∧ k.orOf.p I' F v := by
  obtain ⟨F, f1, f2, f3⟩ := RK.frag hk h
  refine ⟨F, f1, f2, ?_⟩
  have f4 := f3 H
  cases k with
  | im p => exact f4
  | fr q => exact f4
  | ow o => exact f4
  | bw q => cases hk
  | rd q => cases hk
/-! a part of an owned tree -/
def Rp (F F1 F1' : Hp) : Hp := fun a => match F1' a with
  | some o => some o
  | none => match F1 a with
    | some _ => none
    | none => F a
theorem rp_new {F F1 F1' : Hp} {a : Addr} {o : HO} (h : F1' a = some o) : Rp F F1 F1' a = some o := by unfold Rp; rw [h]
theorem rp_gone {F F1 F1' : Hp} {a : Addr} (h : F1' a = none) (h2 : F1 a ≠ none) : Rp F F1 F1' a = none := by
  unfold Rp
  rw [h]
  cases q : F1 a with
  | none => exact absurd q h2
  | some o => rfl
theorem rp_old {F F1 F1' : Hp} {a : Addr} (h : F1' a = none) (h2 : F1 a = none) : Rp F F1 F1' a = F a := by unfold Rp; rw [h, h2]
theorem rp_self {F F' : Hp} : Rp F F F' = F' := by
  funext a
  cases q : F' a with
  | some o => exact rp_new q
  | none =>
    cases r : F a with
    | none => rw [rp_old q r, r]
    | some o => exact rp_gone q (ne_of_some r)
theorem rp_ne {F F1 F1' : Hp} {a : Addr} (h : Rp F F1 F1' a ≠ none) : F1' a ≠ none ∨ F a ≠ none := by
  cases q : F1' a with
  | some o => exact .inl (by simp)
  | none =>
    cases r : F1 a with
    | none => rw [rp_old q r] at h; exact .inr h
    | some o => rw [rp_gone q (ne_of_some r)] at h; exact absurd rfl h
/-- v1 is the part of v that o1 tells; mk says what the whole is with another part -/
def FocAt (o1 : OR) (mk : OR → OR) (I F : Hp) (v v1 : V) : Prop := ∃ F1, Same F1 F ∧ o1.p I F1 v1 ∧ ∀ (o' : OR) (I' F1' : Hp), Same I I' → (∀ a, F1' a ≠ none → F1 a ≠ none ∨ F a = none) → o'.p I' F1' v1 → (mk o').p I' (Rp F F1 F1') v
theorem FocAt.mono {o1 : OR} {mk : OR → OR} {I I' F : Hp} {v v1 : V} (s : Same I I') (h : FocAt o1 mk I F v v1) : FocAt o1 mk I' F v v1 := by
  obtain ⟨F1, h1, h2, h3⟩ := h
  exact ⟨F1, h1, o1.mono s h2, fun o' I2 F1' s2 => h3 o' I2 F1' (s.trans s2)⟩
theorem foc_self {o : OR} {I F : Hp} {v : V} (h : o.p I F v) : FocAt o (fun o => o) I F v v := ⟨F, Same.refl _, h, fun o' I' F1' _ _ h' => by rw [rp_self]; exact h'⟩
theorem set_get {α : Type} {xs : List α} {j i : Nat} {x y : α} (h : (xs.set j x)[i]? = some y) : (i = j ∧ y = x) ∨ (i ≠ j ∧ xs[i]? = some y) := by
  rcases set_some h with ⟨a, b, _⟩ | ⟨a, b⟩
  · exact .inl ⟨a.symm, b.symm⟩
  · exact .inr ⟨fun z => a z.symm, b⟩
theorem foc_kid {W : List V → HO → Prop} {os : List OR} {mk : OR → OR} {I F : Hp} {v v1 : V} {j : Nat} {oj : OR} (hj : os[j]? = some oj) (h : FocAt (oC W os) mk I F v v1) : ∃ l ob vs uj, v1 = .ref l ∧ F l = some ob ∧ W vs ob ∧ os.length = vs.length ∧ vs[j]? = some uj ∧ FocAt oj (fun o' => mk (oC W (os.set j o'))) I F v uj := by
  obtain ⟨F1, s1, ⟨l, ob, vs, e, hl, w, hlen, Ψ, k1, k2, k3, k4⟩, h3⟩ := h
  have hjl : j < vs.length := by rw [← hlen]; exact (List.getElem?_eq_some_iff.mp hj).1
  have hu : vs[j]? = some vs[j] := List.getElem?_eq_getElem hjl
  refine ⟨l, ob, vs, vs[j], e, s1 _ _ hl, w, hlen, hu, Ψ j, (k2 j).trans s1, k1 j oj _ hj hu, fun o' I' F2 sI nF ho => ?_⟩
  have F2l : F2 l = none := by
    cases q : F2 l with
    | none => rfl
    | some u =>
      rcases nF l (ne_of_some q) with z | z
      · exact absurd (k3 j) z
      · rw [s1 _ _ hl] at z; cases z
  have apart : ∀ i a, i ≠ j → Ψ i a ≠ none → F2 a = none := fun i a hi ha => by
    cases q : F2 a with
    | none => rfl
    | some u =>
      rcases nF a (ne_of_some q) with z | z
      · exact absurd (k4 i j a ha z) hi
      · exact absurd z (same_ne ((k2 i).trans s1) ha)
  have hp : (oC W (os.set j o')).p I' (Rp F1 (Ψ j) F2) v1 := by
    refine ⟨l, ob, vs, e, ?_, w, ?_, putF Ψ j F2, fun i o u e1 e2 => ?_, fun i a o e => ?_, fun i => ?_, fun i m a e1 e2 => ?_⟩
    · rw [rp_old F2l (k3 j)]; exact hl
    · rw [List.length_set]; exact hlen
    · rcases set_get e1 with ⟨a, b⟩ | ⟨a, b⟩
      · subst a b
        rw [hu] at e2
        cases e2
        rw [putF_same]; exact ho
      · rw [putF_ne a]; exact o.mono sI (k1 i o u b e2)
    · by_cases hi : i = j
      · rw [hi, putF_same] at e
        exact rp_new e
      · rw [putF_ne hi] at e
        have hn := ne_of_some e
        have hj0 : Ψ j a = none := by
          cases q : Ψ j a with
          | none => rfl
          | some u => exact absurd (k4 i j a hn (ne_of_some q)) hi
        rw [rp_old (apart i a hi hn) hj0]
        exact k2 i a o e
    · by_cases hi : i = j
      · rw [hi, putF_same]; exact F2l
      · rw [putF_ne hi]; exact k3 i
    · by_cases hi : i = j
      · by_cases hm : m = j
        · rw [hi, hm]
        · rw [hi, putF_same] at e1
          rw [putF_ne hm] at e2
          exact absurd (apart m a hm e2) e1
      · by_cases hm : m = j
        · rw [hm, putF_same] at e2
          rw [putF_ne hi] at e1
          exact absurd (apart i a hi e1) e2
        · rw [putF_ne hi] at e1
          rw [putF_ne hm] at e2
          exact k4 i m a e1 e2
  have h4 := h3 (oC W (os.set j o')) I' (Rp F1 (Ψ j) F2) sI (fun a ha => by
    rcases rp_ne ha with z | z
    · rcases nF a z with y | y
      · exact .inl (same_ne (k2 j) y)
      · exact .inr y
    · exact .inl z) hp
  have e5 : Rp F F1 (Rp F1 (Ψ j) F2) = Rp F (Ψ j) F2 := by
    funext a
    cases q : F2 a with
    | some o => rw [rp_new (rp_new q), rp_new q]
    | none =>
      cases r : Ψ j a with
      | some o =>
        rw [rp_gone (F := F) q (ne_of_some r), rp_gone (rp_gone q (ne_of_some r)) (same_ne (k2 j) (ne_of_some r))]
      | none =>
        rw [rp_old (F := F) q r]
        cases t : F1 a with
        | some o => rw [rp_new (by rw [rp_old q r]; exact t), s1 _ _ t]
        | none => rw [rp_old (by rw [rp_old q r]; exact t) t]
  rw [e5] at h4
  exact h4
end T
set_option Elab.async false
set_option linter.all false
set_option maxRecDepth 100000
namespace T
variable [TabsC]
open PySem PySem.Spec PyProof.Rows L2
/-! writing into an owned tree -/
def NewF (F : Hp) (l : Addr) (ob : HO) (F' : Hp) : Hp := fun a => if a = l then some ob else match F' a with
  | some o => some o
  | none => F a
theorem newF_root {F F' : Hp} {l : Addr} {ob : HO} : NewF F l ob F' l = some ob := by unfold NewF; rw [if_pos rfl]
theorem newF_new {F F' : Hp} {l a : Addr} {ob o : HO} (h : a ≠ l) (e : F' a = some o) : NewF F l ob F' a = some o := by unfold NewF; rw [if_neg h, e]
theorem newF_old {F F' : Hp} {l a : Addr} {ob : HO} (h : a ≠ l) (e : F' a = none) : NewF F l ob F' a = F a := by unfold NewF; rw [if_neg h, e]
theorem newF_ne {F F' : Hp} {l a : Addr} {ob : HO} (h : NewF F l ob F' a ≠ none) : a = l ∨ F' a ≠ none ∨ F a ≠ none := by
  by_cases e : a = l
  · exact .inl e
  · cases q : F' a with
    | some o => exact .inr (.inl (by simp))
    | none => rw [newF_old e q] at h; exact .inr (.inr h)
theorem rp_newF {F F1 F' : Hp} {l : Addr} {ob ob0 : HO} (s : Same F1 F) (hl : F1 l = some ob0) : Rp F F1 (NewF F1 l ob F') = NewF F l ob F' := by
  funext a
  by_cases e : a = l
  · subst e; rw [rp_new newF_root, newF_root]
  · cases q : F' a with
    | some o => rw [rp_new (newF_new e q), newF_new e q]
    | none =>
      rw [newF_old e q]
      cases r : F1 a with
      | some o => rw [rp_new (by rw [newF_old e q]; exact r), s _ _ r]
      | none => rw [rp_old (by rw [newF_old e q]; exact r) r]
theorem foc_root {W : List V → HO → Prop} {os : List OR} {mk : OR → OR} {I F : Hp} {v v1 : V} (h : FocAt (oC W os) mk I F v v1) : ∃ l ob vs, v1 = .ref l ∧ F l = some ob ∧ W vs ob ∧ os.length = vs.length ∧
    ∀ (W' : List V → HO → Prop) (os' : List OR) (vs' : List V) (ob' : HO) (j : Nat) (I' F' : Hp), Same I I' → (∀ a, F' a ≠ none → F a = none) → W' vs' ob' → os'.length = vs'.length →
      (∀ i o u, os'[i]? = some o → vs'[i]? = some u → if i = j then o.p I' F' u else os[i]? = some o ∧ vs[i]? = some u) → (mk (oC W' os')).p I' (NewF F l ob' F') v := by
  obtain ⟨F1, s1, ⟨l, ob, vs, e, hl, w, hlen, Ψ, k1, k2, k3, k4⟩, h3⟩ := h
  refine ⟨l, ob, vs, e, s1 _ _ hl, w, hlen, fun W' os' vs' ob' j I' F' sI nF w' hlen' hk => ?_⟩
  have F'l : F' l = none := by
    cases q : F' l with
    | none => rfl
    | some u => have := nF l (ne_of_some q); rw [s1 _ _ hl] at this; cases this
  have apart : ∀ i a, Ψ i a ≠ none → F' a = none := fun i a ha => by
    cases q : F' a with
    | none => rfl
    | some u => exact absurd (nF a (ne_of_some q)) (same_ne ((k2 i).trans s1) ha)
  rw [← rp_newF (F' := F') (ob := ob') s1 hl]
  refine h3 (oC W' os') I' _ sI (fun a ha => ?_) ⟨l, ob', vs', e, newF_root, w', hlen', putF Ψ j F', fun i o u e1 e2 => ?_, fun i a o ea => ?_, fun i => ?_, fun i m a e1 e2 => ?_⟩
  · rcases newF_ne ha with z | z | z
    · subst z; exact .inl (ne_of_some hl)
    · exact .inr (nF a z)
    · exact .inl z
  · have := hk i o u e1 e2
    by_cases hi : i = j
    · rw [if_pos hi] at this
      rw [hi, putF_same]; exact this
    · rw [if_neg hi] at this
      rw [putF_ne hi]
      exact o.mono sI (k1 i o u this.1 this.2)
  · by_cases hi : i = j
    · rw [hi, putF_same] at ea
      exact newF_new (fun z => by rw [z, F'l] at ea; cases ea) ea
    · rw [putF_ne hi] at ea
      have hn := ne_of_some ea
      rw [newF_old (fun z => by rw [z, k3 i] at ea; cases ea) (apart i a hn)]
      exact k2 i a o ea
  · by_cases hi : i = j
    · rw [hi, putF_same]; exact F'l
    · rw [putF_ne hi]; exact k3 i
  · by_cases hi : i = j
    · by_cases hm : m = j
      · rw [hi, hm]
      · rw [hi, putF_same] at e1
        rw [putF_ne hm] at e2
        exact absurd (apart m a e2) e1
    · by_cases hm : m = j
      · rw [hm, putF_same] at e2
        rw [putF_ne hi] at e1
        exact absurd (apart i a e1) e2
      · rw [putF_ne hi] at e1
        rw [putF_ne hm] at e2
        exact k4 i m a e1 e2
theorem foc_leaf {q : PL} {mk : OR → OR} {I F : Hp} {v v1 : V} (h : FocAt (oF q) mk I F v v1) : ∃ l vs, v1 = .ref l ∧ F l = some (.lst vs) ∧ q.p I vs ∧ ∀ (q' : PL) (vs' : List V) (I' : Hp), Same I I' → q'.p I' vs' → (mk (oF q')).p I' (NewF F l (.lst vs') fun _ => none) v := by
  obtain ⟨F1, s1, ⟨l, vs, e, hl, hq⟩, h3⟩ := h
  refine ⟨l, vs, e, s1 _ _ hl, hq, fun q' vs' I' sI hq' => ?_⟩
  rw [← rp_newF (F' := fun _ => none) (ob := .lst vs') s1 hl]
  refine h3 (oF q') I' _ sI (fun a ha => ?_) ⟨l, vs', e, newF_root, hq'⟩
  rcases newF_ne ha with z | z | z
  · subst z; exact .inl (ne_of_some hl)
  · exact absurd rfl z
  · exact .inl z
section
variable {X : Cx} {g : Gb} {B : Bs} {J : Hp} {S : SL} {σ : L2.St} {I H : Hp} {Φ : Nat → Hp} {i : Nat} {k : RK} {v : V}
/-- the heap is written within slot i's fragment -/
theorem HoldF.okw {H' F' : Hp} (x : Ext B.I B.H I H) (oj : Same J I) (h : HoldF g B S σ I H Φ) (e1 : σ[i]? = some (some v)) (sH : Same I H') (keep : ∀ a o, H a = some o → (Φ i a = none ∨ ∃ f, o = .ext f) → H' a = some o) (sF : Same F' H') (nF : ∀ a, F' a ≠ none → Φ i a ≠ none ∨ (I a = none ∧ B.H a = none ∧ ∀ j, Φ j a = none)) (hv : RK.inS g k B.H v I F') :
    Ok g B J (S.set i (some k)) σ I H' := by
  have other : ∀ a o, B.H a = some o → Φ i a = none := fun a o e => by
    cases q : Φ i a with
    | none => rfl
    | some u => have := (h.fr i a u q).2.2; rw [e] at this; cases this
  have tH : Tbs H' := h.tb.t.keep (fun p hp o e => keep _ o e (.inl (h.noT i p hp))) fun a f e => keep a _ e (.inr ⟨f, rfl⟩)
  have sB : SW B.H H' := h.base.kept tH fun a o o' e e' => keep a o' e' (.inl (other a o e))
  have hσ : σ.set i (some v) = σ := by
    apply List.ext_getElem?
    intro j
    by_cases hj : i = j
    · subst hj
      rw [List.getElem?_set_self (List.getElem?_eq_some_iff.mp e1).1, e1]
    · rw [List.getElem?_set_ne hj]
  refine ⟨⟨x.i, sB, sH, x.n⟩, oj, putF Φ i F', ?_⟩
  have h2 : HoldF g B (S.set i (some k)) (σ.set i (some v)) I H' (putF Φ i F') := by
    refine ⟨by rw [List.length_set, List.length_set, h.len], sH, sB, ⟨tH, h.tb.b, h.tb.i⟩, fun j k' e => ?_, fun j a o e => ?_, fun j l a hj hl => ?_⟩
    · rcases set_some e with ⟨a, b, c⟩ | ⟨a, b⟩
      · subst a
        cases b
        exact ⟨v, List.getElem?_set_self (by rw [h.len]; exact c), by rw [putF_same]; exact hv⟩
      · obtain ⟨u, e2, q⟩ := h.at_ j k' b
        exact ⟨u, by rw [List.getElem?_set_ne a]; exact e2, by rw [putF_ne (fun z => a z.symm)]; exact q⟩
    · by_cases hji : j = i
      · rw [hji, putF_same] at e
        refine ⟨sF a o e, ?_⟩
        rcases nF a (ne_of_some e) with z | ⟨z1, z2, _⟩
        · exact (h.ne z).2
        · exact ⟨z1, z2⟩
      · rw [putF_ne hji] at e
        obtain ⟨f1, f2, f3⟩ := h.fr j a o e
        refine ⟨keep a o f1 (.inl ?_), f2, f3⟩
        cases q : Φ i a with
        | none => rfl
        | some u => exact absurd (h.dj j i a (ne_of_some e) (ne_of_some q)) hji
    · have no : ∀ m, m ≠ i → F' a ≠ none → Φ m a ≠ none → False := fun m hm f1 f2 => by
        rcases nF a f1 with z | ⟨_, _, z3⟩
        · exact hm (h.dj m i a f2 z)
        · exact f2 (z3 m)
      by_cases hji : j = i
      · by_cases hli : l = i
        · rw [hji, hli]
        · rw [hji, putF_same] at hj
          rw [putF_ne hli] at hl
          exact (no l hli hj hl).elim
      · by_cases hli : l = i
        · rw [hli, putF_same] at hl
          rw [putF_ne hji] at hj
          exact (no j hji hl hj).elim
        · rw [putF_ne hji] at hj
          rw [putF_ne hli] at hl
          exact h.dj j l a hj hl
  rw [hσ] at h2
  exact h2
/-- one object of slot i's fragment gets new contents; F' comes along -/
theorem HoldF.store {l : Addr} {ob ob0 : HO} {F' : Hp} {o : OR} (x : Ext B.I B.H I H) (oj : Same J I) (h : HoldF g B S σ I H Φ) (e1 : σ[i]? = some (some v)) (hl : Φ i l = some ob0) (sF : Same F' H) (nF : ∀ a, F' a ≠ none → I a = none ∧ B.H a = none ∧ ∀ j, Φ j a = none) (hv : o.p I (NewF (Φ i) l ob F') v) (hx : nx ob0 = true := by rfl) :
    Ok g B J (S.set i (some (.ow o))) σ I (upd H l ob) := by
  obtain ⟨f1, f2, f3⟩ := h.fr i l _ hl
  refine h.okw x oj e1 (F' := NewF (Φ i) l ob F') (fun a o e => ?_) (fun a o e z => ?_) (fun a o e => ?_) (fun a ha => ?_) hv
  · rw [upd_ne (ne_of_none e f2)]
    exact h.sub a o e
  · rw [upd_ne (fun y => by
      rcases z with z | ⟨f, z⟩
      · rw [y, hl] at z; cases z
      · rw [y, f1] at e
        cases e
        rw [z] at hx; cases hx)]
    exact e
  · by_cases hal : a = l
    · subst hal
      rw [newF_root] at e
      rw [upd_same]; exact e
    · rw [upd_ne hal]
      cases q : F' a with
      | some u =>
        rw [newF_new hal q] at e
        cases e
        exact sF a _ q
      | none =>
        rw [newF_old hal q] at e
        exact (h.fr i a o e).1
  · rcases newF_ne ha with z | z | z
    · subst z; exact .inl (ne_of_some hl)
    · exact .inr (nF a z)
    · exact .inl z
end
/-- e is a place in the tree of slot i -/
structure MP {ι : Type} (X : Cx) (g : Gb) (B : Bs) (S : SL) (i : Nat) (e : Expr) (m : Option ι) (o1 : ι → OR) (mk : ι → OR → OR) : Prop where
  run : ∀ x, m = some x → PE X e (fun σ H Q => ∃ I Φ, HoldF g B S σ I H Φ ∧ ∀ v1 I' H', Ext I H I' H' → (∃ v, σ[i]? = some (some v) ∧ FocAt (o1 x) (mk x) I' (Φ i) v v1) → Q v1 H')
def fidx : List Str → Str → Option Nat
  | [], _ => none
  | n :: ns, f => if (f == n) = true then some 0 else (fidx ns f).map (· + 1)
theorem lookup_zip {f : Str} : ∀ {names : List Str} {vs : List V} {j : Nat}, fidx names f = some j → names.length = vs.length → (names.zip vs).lookup f = vs[j]?
  | [], _, j, h, _ => by cases h
  | n :: ns, [], j, _, hl => by cases hl
  | n :: ns, v :: vs, j, h, hl => by
    unfold fidx at h
    show List.lookup f ((n, v) :: ns.zip vs) = _
    cases hb : f == n with
    | true =>
      rw [hb, if_pos rfl] at h
      cases h
      simp only [List.lookup, hb]; rfl
    | false =>
      rw [hb, if_neg Bool.false_ne_true] at h
      obtain ⟨j', e1, e2⟩ := Option.map_eq_some_iff.mp h
      subst e2
      simp only [List.lookup, hb]
      rw [lookup_zip e1 (by simpa using hl)]; rfl
theorem lookup_zip_no {f : Str} : ∀ {names : List Str} {vs : List V}, fidx names f = none → (names.zip vs).lookup f = none
  | [], _, _ => rfl
  | n :: ns, [], _ => rfl
  | n :: ns, v :: vs, h => by
    unfold fidx at h
    show List.lookup f ((n, v) :: ns.zip vs) = _
    cases hb : f == n with
    | true => rw [hb, if_pos rfl] at h; cases h
    | false =>
      rw [hb, if_neg Bool.false_ne_true] at h
      simp only [List.lookup, hb]
      exact lookup_zip_no (Option.map_eq_none_iff.mp h)
theorem putF_zip {f : Str} {w : V} : ∀ {names : List Str} {vs : List V} {j : Nat}, fidx names f = some j → names.length = vs.length → L2.putF f w (names.zip vs) = names.zip (vs.set j w)
  | [], _, j, h, _ => by cases h
  | n :: ns, [], j, _, hl => by cases hl
  | n :: ns, v :: vs, j, h, hl => by
    unfold fidx at h
    show L2.putF f w ((n, v) :: ns.zip vs) = _
    unfold L2.putF
    by_cases hb : n = f
    · subst hb
      rw [if_pos (beq_self_eq_true n)] at h
      cases h
      rw [if_pos rfl]; rfl
    · have hb2 : (f == n) = false := beq_eq_false_iff_ne.mpr fun z => hb z.symm
      rw [hb2, if_neg Bool.false_ne_true] at h
      obtain ⟨j', e1, e2⟩ := Option.map_eq_some_iff.mp h
      subst e2
      rw [if_neg hb, putF_zip e1 (by simpa using hl)]; rfl
theorem putF_zip_no {f : Str} {w : V} : ∀ {names : List Str} {vs : List V}, fidx names f = none → names.length = vs.length → L2.putF f w (names.zip vs) = (names ++ [f]).zip (vs ++ [w])
  | [], [], _, _ => rfl
  | [], _ :: _, _, hl => by cases hl
  | n :: ns, [], _, hl => by cases hl
  | n :: ns, v :: vs, h, hl => by
    unfold fidx at h
    show L2.putF f w ((n, v) :: ns.zip vs) = _
    unfold L2.putF
    by_cases hb : n = f
    · subst hb
      rw [if_pos (beq_self_eq_true n)] at h
      cases h
    · have hb2 : (f == n) = false := beq_eq_false_iff_ne.mpr fun z => hb z.symm
      rw [hb2, if_neg Bool.false_ne_true] at h
      rw [if_neg hb, putF_zip_no (Option.map_eq_none_iff.mp h) (by simpa using hl)]; rfl
/-- a class of the program's own, plain, which has not the name f -/
def Cf (X : Cx) (g : Gb) (c f : Str) : Prop := ∃ C, g.mg c = some (.ref C) ∧ Cls X.K C ∧ NoAttr X.K C f
/-- the place of an item, and the item -/
@[irreducible] def plO {α : Type} (xs : List α) (n : Int) : Option (Nat × α) := (ixN xs.length n).bind fun j => xs[j]?.map fun a => (j, a)
theorem plO_some {α : Type} {xs : List α} {n : Int} {r : Nat × α} (h : plO xs n = some r) : ixN xs.length n = some r.1 ∧ xs[r.1]? = some r.2 := by
  unfold plO at h
  obtain ⟨j, e1, e2⟩ := Option.bind_eq_some_iff.mp h
  obtain ⟨a, e3, e4⟩ := Option.map_eq_some_iff.mp e2
  subst e4
  exact ⟨e1, e3⟩
section
variable {X : Cx} {g : Gb} {B : Bs} {J : Hp} {S : SL} {e e1 e2 e3 : Expr} {pos pos' p p2 p3 apos cpos : Pos} {i : Nat} {o ι : Type} {K : KT o} {rest : List Stmt} {α β : Type} [Py α] [Py β] {m : Option ι} {mk : ι → OR → OR}
theorem mp_ow (i : Nat) {x : Str} {o1 : OR} (hS : S[i]? = some (some (.ow o1)) := by rfl) (hN : X.N[i]? = some x := by rfl) (hv : Vis X.env.scope x := by first | exact Or.inl rfl | exact Or.inr (Or.inl rfl) | exact Or.inr (Or.inr rfl))
    (hd : (x == ("__debug__" : Str)) = false := by decide) (hcd : (x == ("__classdict__" : Str)) = false := by decide) : MP X g B S i (.Name x pos) (some ()) (fun _ => o1) (fun _ o' => o') := by
  refine ⟨fun _ _ => pe_imp (pe_var hN hv hd hcd) fun σ H Q ⟨I, Φ, h, q⟩ => ?_⟩
  obtain ⟨v, e1, h1⟩ := h.at_ i _ hS
  exact ⟨v, e1, q v I H (Ext.refl h.sub) ⟨v, e1, foc_self h1⟩⟩
theorem mp_fr (i : Nat) {x : Str} {as : List α} (hS : S[i]? = some (some (.fr (rl g as))) := by rfl) (hN : X.N[i]? = some x := by rfl) (hv : Vis X.env.scope x := by first | exact Or.inl rfl | exact Or.inr (Or.inl rfl) | exact Or.inr (Or.inr rfl))
    (hd : (x == ("__debug__" : Str)) = false := by decide) (hcd : (x == ("__classdict__" : Str)) = false := by decide) : MP X g B S i (.Name x pos) (some ()) (fun _ => oF (rl g as)) (fun _ o' => o') := by
  refine ⟨fun _ _ => pe_imp (pe_var hN hv hd hcd) fun σ H Q ⟨I, Φ, h, q⟩ => ?_⟩
  obtain ⟨v, e1, h1⟩ := h.at_ i _ hS
  exact ⟨v, e1, q v I H (Ext.refl h.sub) ⟨v, e1, foc_self h1⟩⟩
theorem mp_fld {c f : Str} {names : List Str} {os : ι → List OR} {oj : ι → OR} (j : Nat) (h : MP X g B S i e m (fun x => oC (wI g c names) (os x)) mk) (hC : Cf X g c f) (hj : fidx names f = some j := by decide +kernel) (ho : ∀ x, (os x)[j]? = some (oj x) := by intro _; rfl) (hb : attributeBase e f X.env (eval e X.env) = eval e X.env := by rfl) :
    MP X g B S i (.Attribute e f pos) m oj (fun x o' => mk x (oC (wI g c names) ((os x).set j o'))) := by
  refine ⟨fun x q => pe_imp (pe_fld (h.run x q) hb) fun σ H Q ⟨I, Φ, hh, kk⟩ => ⟨I, Φ, hh, fun v1 I' H' x1 ⟨v, e1, fc⟩ => ?_⟩⟩
  obtain ⟨l, ob, vs, uj, rfl, hl, ⟨C, dx, c1, c2, c3⟩, c4, hu, fc'⟩ := foc_kid (ho x) fc
  subst c2
  obtain ⟨C', d1, d2, d3⟩ := hC
  rw [c1] at d1
  cases d1
  exact ⟨l, _, dx, _, uj, rfl, x1.h.get _ _ (hh.fr i l _ hl).1, d2, d3, by rw [lookup_zip hj c3]; exact hu, kk uj I' H' x1 ⟨v, e1, fc'⟩⟩
theorem mp_tix {os : ι → List OR} {oj : ι → OR} (n : Nat) {z : Nat} (h : MP X g B S i e m (fun x => oC wT (os x)) mk) (ho : ∀ x, (os x)[n]? = some (oj x) := by intro _; rfl) (hK : X.K = g.K := by rfl) :
    MP X g B S i (.Subscript e (.Constant (.int (n : Int)) z pos') pos) m oj (fun x o' => mk x (oC wT ((os x).set n o'))) := by
  refine ⟨fun x q => pe_imp (pe_ix ix_tup (h.run x q) pe_int (fun _ _ => rfl)) fun σ H Q ⟨I, Φ, hh, kk⟩ => ⟨I, Φ, hh, fun v1 I' H' x1 ⟨v, e1, fc⟩ => ?_⟩⟩
  obtain ⟨l, ob, vs, uj, rfl, hl, c2, c4, hu, fc'⟩ := foc_kid (ho x) fc
  have c2' : ob = .tup vs := c2
  subst c2'
  exact ⟨l, vs, (n : Int), uj, rfl, rfl, SqT.of (x1.h.get _ _ (hh.fr i l _ hl).1), atI_nat hu, kk uj I' H' x1 ⟨v, e1, fc'⟩⟩
theorem mp_lix {as : ι → List α} {k : α → OR} {m2 : Option Int} (h : MP X g B S i e m (fun x => oC wL ((as x).map k)) mk) (h2 : ME X g B S e2 m2 (KI g)) (hs : PlainIx e2 := by exact fun _ _ => rfl) :
    MP X g B S i (.Subscript e e2 pos) (m >>= fun x => m2 >>= fun n => plO (as x) n >>= fun r => some (x, r)) (fun z => k z.2.2) (fun z o' => mk z.1 (oC wL (((as z.1).map k).set z.2.1 o'))) := by
  refine ⟨fun z q => ?_⟩
  obtain ⟨x, q1, q⟩ := bind_some q
  obtain ⟨n, q2, q⟩ := bind_some q
  obtain ⟨r, q3, q4⟩ := bind_some q
  cases q4
  obtain ⟨p1, p2⟩ := plO_some q3
  refine pe_imp (pe_ix ix_list (h.run x q1) (h2.run n q2) hs) fun σ H Q ⟨I, Φ, hh, kk⟩ => ⟨I, Φ, hh, fun v1 I' H' x1 ⟨v, e1, fc⟩ => ⟨I', ⟨Φ, hh.ext x1⟩, fun w I2 H2 x2 hw => ?_⟩⟩
  obtain ⟨l, ob, vs, uj, rfl, hl, ⟨c2, c3⟩, c4, hu, fc'⟩ := foc_kid (j := r.1) (oj := k r.2) (by rw [List.getElem?_map, p2]; rfl) fc
  subst c2
  rw [List.length_map] at c4
  refine ⟨l, vs, n, uj, rfl, hw, SqL.of (x2.h.get _ _ (x1.h.get _ _ (hh.fr i l _ hl).1)), ?_, kk uj I2 H2 (x1.trans x2) ⟨v, e1, fc'.mono x2.i⟩⟩
  unfold atI
  rw [← c4, p1]; exact hu
/-! statements at a place -/
/-- place.append(e2) -/
theorem mb_appP {as : ι → List α} {m2 : Option α} {f : ι → List α → Option o} (h : MP X g B S i e m (fun x => oF (rl g (as x))) mk) (he : ME X g B S e2 m2 (KI g)) (hb : ∀ x bs, MB X g B J (S.set i (some (.ow (mk x (oF (rl g bs)))))) rest (f x bs) K)
    (hs : swapsWith (.Call (.Attribute e "append" apos) [e2] [] cpos) none pos.line X.env = pure false := by rfl) (hst : starEach [e2] X.env = (false, eval e2 X.env) :: starEach [] X.env := by rfl)
    (hbase : attributeBase e "append" X.env (eval e X.env) = eval e X.env := by rfl)
    (hfew : ((backTo cpos (starEach [e2] X.env)).all (fun x => !x.1) && (backToKw cpos (keywordEach [] X.env)).all (fun x => x.1.isSome) && decide ([e2].length + ([] : List Keyword).length + (if ([] : List Keyword).isEmpty then 0 else 1) < 30)) = true := by rfl)
    (hline : (apos.endLine == cpos.line) = true := by rfl) (hplain : (backTo cpos (starEach [] X.env)).any (·.1) = false := by rfl) :
    MB X g B J S (.Expr (.Call (.Attribute e "append" apos) [e2] [] cpos) pos :: rest) (m >>= fun x => m2 >>= fun a => appO (as x) a >>= fun bs => f x bs) K := by
  refine ⟨fun r q => ?_⟩
  obtain ⟨x, q1, q⟩ := bind_some q
  obtain ⟨a, q2, q⟩ := bind_some q
  obtain ⟨bs, q3, q4⟩ := bind_some q
  unfold appO at q3
  by_cases hz : decide ((as x).length < sizeLine) = true
  · rw [if_pos hz] at q3
    cases q3
    have hz' := of_decide_eq_true hz
    refine pss_imp (pss_cons (ps_expr (pe_bm PySem.F.plainAttrs_list PySem.F.slot_list_append PySem.F.type_list_append mt_append (h.run x q1) (pa_cons (he.run a q2) pa_nil hst) hbase hfew hline hst hplain) hs) ((hb x _).run r q4)) fun D σ H ⟨I, ok, kk⟩ => ?_
    obtain ⟨x0, oj, Φ, hh⟩ := ok
    refine ⟨I, Φ, hh, fun v1 I1 H1 x1 ⟨v, e1, fc⟩ => ?_⟩
    obtain ⟨l, vs, rfl, hl, hq, put⟩ := foc_leaf fc
    have h1 := x1.h.get _ _ (hh.fr i l _ hl).1
    refine ⟨.inl ⟨rfl, _, SqL.of h1⟩, I1, ⟨Φ, hh.ext x1⟩, fun w I2 H2 x2 hw => ⟨l, vs, w, rfl, rfl, x2.h.get _ _ h1, by rw [rl_len hq]; exact hz', I2, ?_, kk⟩⟩
    have x12 := x1.trans x2
    refine HoldF.store (x0.trans x12) (oj.trans x12.i) (hh.ext x12) e1 hl (F' := fun _ => none) (fun _ _ z => by cases z) (fun a z => absurd rfl z) (put (rl g _) _ I2 x2.i ⟨?_, paired_app ((rl g (as x)).mono x2.i hq).2 (.cons hw .nil)⟩)
    rw [List.length_append, List.length_singleton]
    omega
  · rw [if_neg hz] at q3
    cases q3
/-- place[e1] = e2 -/
theorem mb_setiP {as : ι → List α} {m1 : Option Int} {m2 : Option α} {f : ι → List α → Option o} (he : ME X g B S e2 m2 (KI g)) (h : MP X g B S i e m (fun x => oF (rl g (as x))) mk) (h1 : ME X g B S e1 m1 (KI g)) (hb : ∀ x bs, MB X g B J (S.set i (some (.ow (mk x (oF (rl g bs)))))) rest (f x bs) K)
    (hs : swapsWithSole [.Subscript e e1 apos] e2 pos.line X.env = pure false := by rfl) (hw : swappedStores [.Subscript e e1 apos] e2 X.env = pure none := by rfl)
    (h1' : (assignEach [Expr.Subscript e e1 apos] X.env).map (·.2) = [assign (.Subscript e e1 apos) X.env] := by rfl)
    (ha : ∀ v, assign (.Subscript e e1 apos) X.env v = (do
      let ov ← holding [v] (eval e X.env)
      let iv ← holding [v, ov] (eval e1 X.env)
      standAt apos
      holding [v, ov, iv] (setItem ov iv v)
      release [v, ov, iv] []) := by intro _; rfl) :
    MB X g B J S (.Assign [.Subscript e e1 apos] e2 pos :: rest) (m2 >>= fun a => m >>= fun x => m1 >>= fun n => setO (as x) n a >>= fun bs => f x bs) K := by
  refine ⟨fun r q => ?_⟩
  obtain ⟨a, q2, q⟩ := bind_some q
  obtain ⟨x, q1, q⟩ := bind_some q
  obtain ⟨n, qn, q⟩ := bind_some q
  obtain ⟨bs, q3, q4⟩ := bind_some q
  unfold setO at q3
  cases hj : ixN (as x).length n with
  | none => rw [hj] at q3; cases q3
  | some j =>
    rw [hj] at q3
    cases q3
    refine pss_imp (pss_cons (ps_asg (he.run a q2) (pg_sub (h.run x q1) (h1.run n qn) set_list ha) hs hw h1') ((hb x _).run r q4)) fun D σ H ⟨I, ok, kk⟩ => ?_
    obtain ⟨x0, oj, Φ, hh⟩ := ok
    refine ⟨I, ⟨Φ, hh⟩, fun w I1 H1 x1 hw => ⟨I1, Φ, hh.ext x1, fun v1 I2 H2 x2 ⟨v, e1, fc⟩ => ⟨I2, ⟨Φ, (hh.ext x1).ext x2⟩, fun y I3 H3 x3 hy => ?_⟩⟩⟩
    obtain ⟨l, vs, rfl, hl, hq, put⟩ := foc_leaf fc
    have x13 := (x1.trans x2).trans x3
    have hl3 := x13.h.get _ _ (hh.fr i l _ hl).1
    refine ⟨l, vs, n, j, rfl, hy, hl3, by rw [rl_len hq]; exact hj, I3, ?_, kk⟩
    refine HoldF.store (x0.trans x13) (oj.trans x13.i) (hh.ext x13) e1 hl (F' := fun _ => none) (fun _ _ z => by cases z) (fun a z => absurd rfl z) (put (rl g _) _ I3 x3.i ⟨?_, paired_set (F := fun a v => (Py.r g a).p I3 v) ((Py.r g a).mono (x2.i.trans x3.i) hw) _ ((rl g (as x)).mono x3.i hq).2⟩)
    rw [List.length_set]
    exact hq.1
/-- place.f = value: a field that is there -/
theorem mb_fldP {a' : Type} {c f : Str} {names : List Str} {os : ι → List OR} {m2 : Option a'} {k : a' → RK} {fn : ι → a' → Option o} (j : Nat) (hv : ME X g B S e2 m2 k) (h : MP X g B S i e m (fun x => oC (wI g c names) (os x)) mk) (hC : Cf X g c f)
    (hb : ∀ x a, MB X g B J (S.set i (some (.ow (mk x (oC (wI g c names) ((os x).set j (k a).orOf)))))) rest (fn x a) K) (hj : fidx names f = some j := by decide +kernel) (hk : ∀ a, (k a).slotty = true := by intro _; rfl) (hn : names.length < 1000 := by decide)
    (hs : swapsWith e2 (some (.Attribute e f apos)) pos.line X.env = pure false := by rfl) : MB X g B J S (.Assign [.Attribute e f apos] e2 pos :: rest) (m2 >>= fun a => m >>= fun x => fn x a) K := by
  refine ⟨fun r q => ?_⟩
  obtain ⟨a, q2, q⟩ := bind_some q
  obtain ⟨x, q1, q3⟩ := bind_some q
  refine pss_imp (pss_cons (ps_fld (h.run x q1) (hv.run a q2) hs) ((hb x a).run r q3)) fun D σ H ⟨I, ok, kk⟩ => ?_
  obtain ⟨x0, oj, Φ, hh⟩ := ok
  refine ⟨I, ⟨Φ, hh⟩, fun w I1 H1 x1 hw => ⟨I1, Φ, hh.ext x1, fun v1 I2 H2 x2 ⟨v, e1, fc⟩ => ?_⟩⟩
  obtain ⟨F', f1, f2, f3⟩ := RK.fragO (hk a) (RK.ext hw x2 hh.tb.has)
  obtain ⟨l, ob, vs, rfl, hl, ⟨C, dx, c1, c2, c3⟩, c4, put⟩ := foc_root fc
  subst c2
  obtain ⟨C', d1, d2, d3⟩ := hC
  rw [c1] at d1
  cases d1
  have x12 := x1.trans x2
  have hl2 := x12.h.get _ _ (hh.fr i l _ hl).1
  have none_of : ∀ a, F' a ≠ none → ∀ j, Φ j a = none := fun a ha j => by
    cases q : Φ j a with
    | none => rfl
    | some u => exact absurd (f1 a ha).1 (ne_of_some (hh.fr j a u q).1)
  refine ⟨l, _, dx, _, rfl, hl2, d2, d3, ?_, I2, ?_, kk⟩
  · rw [List.length_zip, c3, Nat.min_self, ← c3]; exact hn
  · rw [putF_zip hj c3]
    refine HoldF.store (x0.trans x12) (oj.trans x12.i) (hh.ext x12) e1 hl (F' := F') f2 (fun a ha => ⟨(f1 a ha).2, hh.base.free (f1 a ha).1, none_of a ha⟩) ?_
    refine put (wI g c names) ((os x).set j (k a).orOf) (vs.set j w) _ j I2 F' (Same.refl _) (fun a ha => none_of a ha i) ⟨_, dx, c1, rfl, by rw [List.length_set]; exact c3⟩ (by rw [List.length_set, List.length_set]; exact c4) fun i' o' u e1 e2 => ?_
    rcases set_get e1 with ⟨y1, y2⟩ | ⟨y1, y2⟩
    · subst y1 y2
      rcases set_get e2 with ⟨_, z⟩ | ⟨z, _⟩
      · rw [if_pos rfl, z]; exact f3
      · exact absurd rfl z
    · rcases set_get e2 with ⟨z, _⟩ | ⟨_, z⟩
      · exact absurd z y1
      · rw [if_neg y1]; exact ⟨y2, z⟩
/-- place.f = value: a new field -/
theorem mb_fldN {a' : Type} {c f : Str} {names : List Str} {os : ι → List OR} {m2 : Option a'} {k : a' → RK} {fn : ι → a' → Option o} (hv : ME X g B S e2 m2 k) (h : MP X g B S i e m (fun x => oC (wI g c names) (os x)) mk) (hC : Cf X g c f)
    (hb : ∀ x a, MB X g B J (S.set i (some (.ow (mk x (oC (wI g c (names ++ [f])) (os x ++ [(k a).orOf])))))) rest (fn x a) K) (hj : fidx names f = none := by decide +kernel) (hk : ∀ a, (k a).slotty = true := by intro _; rfl) (hn : names.length < 1000 := by decide)
    (hs : swapsWith e2 (some (.Attribute e f apos)) pos.line X.env = pure false := by rfl) : MB X g B J S (.Assign [.Attribute e f apos] e2 pos :: rest) (m2 >>= fun a => m >>= fun x => fn x a) K := by
  refine ⟨fun r q => ?_⟩
  obtain ⟨a, q2, q⟩ := bind_some q
  obtain ⟨x, q1, q3⟩ := bind_some q
  refine pss_imp (pss_cons (ps_fld (h.run x q1) (hv.run a q2) hs) ((hb x a).run r q3)) fun D σ H ⟨I, ok, kk⟩ => ?_
  obtain ⟨x0, oj, Φ, hh⟩ := ok
  refine ⟨I, ⟨Φ, hh⟩, fun w I1 H1 x1 hw => ⟨I1, Φ, hh.ext x1, fun v1 I2 H2 x2 ⟨v, e1, fc⟩ => ?_⟩⟩
  obtain ⟨F', f1, f2, f3⟩ := RK.fragO (hk a) (RK.ext hw x2 hh.tb.has)
  obtain ⟨l, ob, vs, rfl, hl, ⟨C, dx, c1, c2, c3⟩, c4, put⟩ := foc_root fc
  subst c2
  obtain ⟨C', d1, d2, d3⟩ := hC
  rw [c1] at d1
  cases d1
  have x12 := x1.trans x2
  have hl2 := x12.h.get _ _ (hh.fr i l _ hl).1
  have none_of : ∀ a, F' a ≠ none → ∀ j, Φ j a = none := fun a ha j => by
    cases q : Φ j a with
    | none => rfl
    | some u => exact absurd (f1 a ha).1 (ne_of_some (hh.fr j a u q).1)
  refine ⟨l, _, dx, _, rfl, hl2, d2, d3, ?_, I2, ?_, kk⟩
  · rw [List.length_zip, c3, Nat.min_self, ← c3]; exact hn
  · rw [putF_zip_no hj c3]
    refine HoldF.store (x0.trans x12) (oj.trans x12.i) (hh.ext x12) e1 hl (F' := F') f2 (fun a ha => ⟨(f1 a ha).2, hh.base.free (f1 a ha).1, none_of a ha⟩) ?_
    refine put (wI g c (names ++ [f])) (os x ++ [(k a).orOf]) (vs ++ [w]) _ (os x).length I2 F' (Same.refl _) (fun a ha => none_of a ha i) ⟨_, dx, c1, rfl, by simp [c3]⟩ (by simp [c4]) fun i' o' u e1 e2 => ?_
    by_cases hi : i' < (os x).length
    · rw [List.getElem?_append_left hi] at e1
      rw [List.getElem?_append_left (by omega)] at e2
      rw [if_neg (by omega)]
      exact ⟨e1, e2⟩
    · have hlt := (List.getElem?_eq_some_iff.mp e1).1
      rw [List.length_append, List.length_singleton] at hlt
      have hi2 : i' = (os x).length := by omega
      subst hi2
      rw [List.getElem?_append_right (Nat.le_refl _), Nat.sub_self] at e1
      rw [c4, List.getElem?_append_right (Nat.le_refl _), Nat.sub_self] at e2
      cases e1
      cases e2
      rw [if_pos rfl]; exact f3
end
end T
set_option Elab.async false
set_option linter.all false
set_option maxRecDepth 100000
namespace T
variable [TabsC]
open PySem PySem.Spec PyProof.Rows L2
/-! defs that change what they are handed -/
/-- an owned thing that is the value v0 -/
def oP (v0 : V) (o : OR) : OR := ⟨fun I F v => v = v0 ∧ o.p I F v, fun s h => ⟨h.1, o.mono s h.2⟩⟩
def RK.pin (v0 : V) : RK → RK
  | .ow o => .ow (oP v0 o)
  | k => k
def pinL (u : Nat → V) : List RK → Nat → List RK
  | [], _ => []
  | k :: ks, n => k.pin (u n) :: pinL u ks (n + 1)
structure ArgsF (g : Gb) (ks : List RK) (vs : List V) (I R H : Hp) (Φ : Nat → Hp) : Prop where
  len : ks.length = vs.length
  at_ : ∀ (i : Nat) (k : RK) (v : V), ks[i]? = some k → vs[i]? = some v → RK.inS g k R v I (Φ i)
  fr : ∀ (i : Nat) (a : Addr) (o : HO), Φ i a = some o → H a = some o ∧ I a = none ∧ R a = none
  dj : ∀ (i j : Nat) (a : Addr), Φ i a ≠ none → Φ j a ≠ none → i = j
/-- what holds behind the call: the value v with its fragment F, what was handed in with the fragments Φ' -/
structure Post (g : Gb) (I R : Hp) (k : RK) (outs : List (Nat × OR)) (vs : Nat → Option V) (v : V) (I' H' F : Hp) (Φ' : Nat → Hp) : Prop where
  i : Same I I'
  s : Same I' H'
  h : SW R H'
  tb : Tbs H'
  n : ∀ l, R l ≠ none → I l = none → I' l = none
  fF : ∀ b, F b ≠ none → R b = none ∧ I' b = none
  sF : Same F H'
  val : RK.inS g k R v I' F
  out : ∀ p ∈ outs, ∃ u, vs p.1 = some u ∧ p.2.p I' (Φ' p.1) u
  fr : ∀ (i : Nat) (a : Addr) (o : HO), Φ' i a = some o → H' a = some o ∧ I' a = none ∧ R a = none
  dj : ∀ (i j : Nat) (a : Addr), Φ' i a ≠ none → Φ' j a ≠ none → i = j
  dv : ∀ (i : Nat) (a : Addr), Φ' i a ≠ none → F a = none
def spIO {ι β : Type} (g : Gb) (args : ι → List RK) (M : ι → Option β) (k : β → RK) (outs : β → List (Nat × OR)) : Sp := fun vs H Q _ => ∃ I R Φ a r, Same I H ∧ Same R H ∧ TbH R I H ∧ ArgsF g (args a) vs I R H Φ ∧ M a = some r ∧
  ∀ v I' H' F Φ', Post g I R (k r) (outs r) (fun i => vs[i]?) v I' H' F Φ' → Q v H'
/-- the ends of such a def: it hands back a value; it falls off its end -/
def Kio {β : Type} (g : Gb) (B : Bs) (u : Nat → V) (k : β → RK) (outs : β → List (Nat × OR)) : KT β := fun r D => (∀ v I' H' F Φ', Post g B.I B.H (k r) (outs r) (fun i => some (u i)) v I' H' F Φ' → D.rt v H')
def KioU {β : Type} (g : Gb) (B : Bs) (u : Nat → V) (outs : β → List (Nat × OR)) : KT β := fun r D => (∀ I' H' F Φ' σ, Post g B.I B.H (.im (Py.r g ())) (outs r) (fun i => some (u i)) .non I' H' F Φ' → D.nx σ H' ∧ D.rt .non H')
section
variable {P : Program} {w : World} {K : PySem.W.Frag} {mg : Str → Option Value} {base : Heap} {ι β : Type} {args : ι → List RK} {M : ι → Option β} {kd : β → RK} {outs : β → List (Nat × OR)}
def RK.argio : RK → Bool
  | .im _ => true
  | .bw _ => true
  | .ow _ => true
  | _ => false
theorem pinL_get {u : Nat → V} : ∀ {ks : List RK} {n i : Nat} {k : RK}, (pinL u ks n)[i]? = some k → ∃ k0, ks[i]? = some k0 ∧ k = k0.pin (u (n + i))
  | [], _, _, _, h => by simp [pinL] at h
  | k0 :: ks, n, 0, k, h => by
    cases h
    exact ⟨k0, rfl, rfl⟩
  | k0 :: ks, n, i + 1, k, h => by
    obtain ⟨k1, e1, e2⟩ := pinL_get (ks := ks) (n := n + 1) (i := i) (by simpa [pinL] using h)
    exact ⟨k1, by simpa using e1, by rw [e2]; congr 2; omega⟩
theorem pinL_len {u : Nat → V} : ∀ {ks : List RK} {n : Nat}, (pinL u ks n).length = ks.length
  | [], _ => rfl
  | _ :: ks, n => by
    show (pinL u ks (n + 1)).length + 1 = ks.length + 1
    rw [pinL_len]
theorem holdF_start {g : Gb} {N : List Str} {ks : List RK} {vs : List V} {I R H : Hp} {Φ : Nat → Hp} (hl : ks.length ≤ N.length) (s : Same I H) (sR : Same R H) (tb : TbH R I H) (hA : ArgsF g ks vs I R H Φ) (hI : ∀ a o, I a = some o → H a = some o) :
    Hold g ⟨I, R⟩ (S0 N (pinL (fun i => vs.getD i .non) ks 0)) (L2.start N vs) I H := by
  have arg : ∀ {i : Nat} {k : RK}, (S0 N (pinL (fun i => vs.getD i .non) ks 0))[i]? = some (some k) → (pinL (fun i => vs.getD i .non) ks 0)[i]? = some k := fun {i k} e => by
    unfold S0 at e
    by_cases hi : i < (pinL (fun i => vs.getD i .non) ks 0).length
    · rw [List.getElem?_append_left (by rw [List.length_map]; exact hi), List.getElem?_map] at e
      cases q : (pinL (fun i => vs.getD i .non) ks 0)[i]? with
      | none => rw [q] at e; cases e
      | some k' => rw [q] at e; cases e; rfl
    · rw [List.getElem?_append_right (by rw [List.length_map]; omega)] at e
      obtain ⟨h1, h2⟩ := List.getElem?_eq_some_iff.mp e
      rw [List.getElem_replicate] at h2
      cases h2
  have hlen := hA.len
  refine ⟨Φ, ?_, s, sR, tb, fun i k e => ?_, hA.fr, hA.dj⟩
  · unfold S0 L2.start
    simp only [List.length_append, List.length_map, List.length_replicate, pinL_len]
    omega
  · obtain ⟨k0, e1, e2⟩ := pinL_get (arg e)
    have hi : i < vs.length := by rw [← hlen]; exact (List.getElem?_eq_some_iff.mp e1).1
    have e3 : vs[i]? = some vs[i] := List.getElem?_eq_getElem hi
    refine ⟨vs[i], ?_, ?_⟩
    · unfold L2.start
      rw [List.getElem?_append_left (by rw [List.length_map]; exact hi), List.getElem?_map, e3]
      rfl
    · have q := hA.at_ i k0 _ e1 e3
      subst e2
      cases k0 with
      | ow o =>
        refine ⟨?_, q⟩
        show _ = vs.getD (0 + i) .non
        rw [Nat.zero_add, List.getD_eq_getElem?_getD, e3]; rfl
      | im p => exact q
      | bw p => exact q
      | fr p => exact q
      | rd p => exact q
theorem post_u {g : Gb} {I R : Hp} {k : RK} {outs : List (Nat × OR)} {vs : List V} {v : V} {I' H' F : Hp} {Φ' : Nat → Hp} (ho : ∀ p ∈ outs, p.1 < vs.length) (h : Post g I R k outs (fun i => some (vs.getD i .non)) v I' H' F Φ') : Post g I R k outs (fun i => vs[i]?) v I' H' F Φ' :=
  ⟨h.i, h.s, h.h, h.tb, h.n, h.fF, h.sF, h.val, fun p hp => by
    obtain ⟨u, e1, e2⟩ := h.out p hp
    have hl := ho p hp
    have e3 : vs[p.1]? = some vs[p.1] := List.getElem?_eq_getElem hl
    refine ⟨u, ?_, e2⟩
    show vs[p.1]? = some u
    rw [← e1, e3, List.getD_eq_getElem?_getD, e3]; rfl, h.fr, h.dj, h.dv⟩
/-- what a def's facts are: with or without defaults -/
structure FunX (K : PySem.W.Frag) (x qual : Str) (st : Stmt) (f : Addr) (fd : FuncData) : Prop where
  ex : ∃ (oc : Value) (od : Option Addr) (dV kV doc pm : Value) (an : Option Addr) (cdv ct : Value) (osl : Array (Option Value)),
    fd = PySem.W.fnOf x qual (defArgs st) (defBody st) (defScope st) dV kV doc pm an cdv ct ∧ K.lookup f = some ⟨oc, od, .func fd, osl⟩ ∧ PySem.W.codeIn K cdv qual = true
  kp : PySem.W.keepIn K (.ref f) = true
theorem FunX.ok {x qual : Str} {st : Stmt} {f : Addr} {fd : FuncData} {N ps : List Str} {k : Nat} {sp : Sp} (F : FunX K x qual st f fd) (S : FnScope N ps (defScope st)) (len : ∀ vs H Q E, sp vs H Q E → vs.length = ps.length)
    (hbody : ∀ (cdv : Value) (A : Around) (outer : List Env) (s : Shared) (H : Hp) (vs : List V) (Q : VK) (E : XK), Room k (A.deeper (envOfC qual (defScope st) s.heap.objs.size f cdv)) → sp vs H Q E →
      ∃ t, PSs (cxOf CX0 P w K mg base N qual (defScope st) f cdv A outer s H E).nox (defBody st) t ∧ t { nx := fun _ H' => Q .non H', rt := Q } (start N vs) H) : FnOk P w K mg base CX0 (k + 1) f fd ps sp := by
  obtain ⟨oc, od, dV, kV, doc, pm, an, cdv, ct, osl, rfl, lk, hcd⟩ := F.ex
  refine fn_of lk hcd S len fun A outer s H vs Q E hr hsp => ?_
  obtain ⟨t, h, q⟩ := hbody cdv A outer s H vs Q E hr hsp
  exact ⟨t, h.nox, q⟩
theorem fnx_mk {x qual : Str} {st : Stmt} {f : Addr} {fd : FuncData} {N ps : List Str} {k : Nat} (F : FunX K x qual st f fd) (Sc : FnScope N ps (defScope st)) (hn : ∀ a, (args a).length = ps.length) (hk : ∀ a, (args a).all RK.argy = true) (hN : ps.length ≤ N.length)
    (body : ∀ (cdv : Value) (A : Around) (outer : List Env) (s : Shared) (H : Hp) (E : XK) (I : Hp) (a : ι), Room k (A.deeper (envOfC qual (defScope st) s.heap.objs.size f cdv)) →
      MB (cxOf CX0 P w K mg base N qual (defScope st) f cdv A outer s H E).nox ⟨K, mg⟩ ⟨I, H⟩ I (S0 N (args a)) (defBody st) (M a) (Kt ⟨K, mg⟩ ⟨I, H⟩ kd)) :
    FnOk P w K mg base CX0 (k + 1) f fd ps (spT ⟨K, mg⟩ args M kd) := by
  refine F.ok Sc (fun vs H Q E ⟨I, a, r, s, _, hA, _⟩ => ?_) (fun cdv A outer s H vs Q E hr ⟨I, a, r, si, tb, hA, hM, q⟩ => ?_)
  · rw [← Paired.length hA, hn]
  · exact ⟨_, (body cdv A outer s H E I a hr).run r hM, I, hold_start (by rw [hn]; exact hN) si tb hA (hk a), fun v I' H' x hv => q v I' H' x hv⟩
/-- a def that hands back a value -/
theorem fio_mk {x qual : Str} {st : Stmt} {f : Addr} {fd : FuncData} {N ps : List Str} {k : Nat} (F : FunX K x qual st f fd) (Sc : FnScope N ps (defScope st)) (hn : ∀ a, (args a).length = ps.length) (hN : ps.length ≤ N.length) (ho : ∀ r, ∀ p ∈ outs r, p.1 < ps.length)
    (body : ∀ (cdv : Value) (A : Around) (outer : List Env) (s : Shared) (H : Hp) (E : XK) (I R : Hp) (u : Nat → V) (a : ι), Room k (A.deeper (envOfC qual (defScope st) s.heap.objs.size f cdv)) →
      MB (cxOf CX0 P w K mg base N qual (defScope st) f cdv A outer s H E).nox ⟨K, mg⟩ ⟨I, R⟩ I (S0 N (pinL u (args a) 0)) (defBody st) (M a) (Kio ⟨K, mg⟩ ⟨I, R⟩ u kd outs)) :
    FnOk P w K mg base CX0 (k + 1) f fd ps (spIO ⟨K, mg⟩ args M kd outs) := by
  refine F.ok Sc (fun vs H Q E ⟨I, R, Φ, a, r, s, _, _, hA, _⟩ => ?_) (fun cdv A outer s H vs Q E hr ⟨I, R, Φ, a, r, si, sR, tb, hA, hM, q⟩ => ?_)
  · rw [← hA.len, hn]
  · have hl : vs.length = ps.length := by rw [← hA.len, hn]
    refine ⟨_, (body cdv A outer s H E I R (fun i => vs.getD i .non) a hr).run r hM, I, ⟨⟨Same.refl _, SW.of sR, si, fun _ _ z => z⟩, Same.refl _, holdF_start (by rw [hn]; exact hN) si sR tb hA si⟩, fun v I' H' F Φ' h => q v I' H' F Φ' (post_u (fun p hp => by rw [hl]; exact ho r p hp) h)⟩
/-- a def that hands back nothing -/
theorem fiu_mk {x qual : Str} {st : Stmt} {f : Addr} {fd : FuncData} {N ps : List Str} {k : Nat} (F : FunX K x qual st f fd) (Sc : FnScope N ps (defScope st)) (hn : ∀ a, (args a).length = ps.length) (hN : ps.length ≤ N.length) (ho : ∀ r, ∀ p ∈ outs r, p.1 < ps.length)
    (body : ∀ (cdv : Value) (A : Around) (outer : List Env) (s : Shared) (H : Hp) (E : XK) (I R : Hp) (u : Nat → V) (a : ι), Room k (A.deeper (envOfC qual (defScope st) s.heap.objs.size f cdv)) →
      MB (cxOf CX0 P w K mg base N qual (defScope st) f cdv A outer s H E).nox ⟨K, mg⟩ ⟨I, R⟩ I (S0 N (pinL u (args a) 0)) (defBody st) (M a) (KioU ⟨K, mg⟩ ⟨I, R⟩ u outs)) :
    FnOk P w K mg base CX0 (k + 1) f fd ps (spIO ⟨K, mg⟩ args M (fun _ => .im (Py.r ⟨K, mg⟩ ())) outs) := by
  refine F.ok Sc (fun vs H Q E ⟨I, R, Φ, a, r, s, _, _, hA, _⟩ => ?_) (fun cdv A outer s H vs Q E hr ⟨I, R, Φ, a, r, si, sR, tb, hA, hM, q⟩ => ?_)
  · rw [← hA.len, hn]
  · have hl : vs.length = ps.length := by rw [← hA.len, hn]
    refine ⟨_, (body cdv A outer s H E I R (fun i => vs.getD i .non) a hr).run r hM, I, ⟨⟨Same.refl _, SW.of sR, si, fun _ _ z => z⟩, Same.refl _, holdF_start (by rw [hn]; exact hN) si sR tb hA si⟩, fun I' H' F Φ' σ h => ⟨q .non I' H' F Φ' (post_u (fun p hp => by rw [hl]; exact ho r p hp) h), q .non I' H' F Φ' (post_u (fun p hp => by rw [hl]; exact ho r p hp) h)⟩⟩
end
/-- the slots of what was handed in, at an end -/
inductive Outs (u : Nat → V) (S : SL) : List (Nat × OR) → Prop
  | nil : Outs u S []
  | cons {i : Nat} {o : OR} {l : List (Nat × OR)} (h : S[i]? = some (some (.ow (oP (u i) o)))) (t : Outs u S l) : Outs u S ((i, o) :: l)
theorem Outs.get {u : Nat → V} {S : SL} : ∀ {l : List (Nat × OR)}, Outs u S l → ∀ p ∈ l, S[p.1]? = some (some (.ow (oP (u p.1) p.2)))
  | _, .nil, p, h => by cases h
  | _, .cons h t, p, hp => by
    rcases List.mem_cons.mp hp with z | z
    · subst z; exact h
    · exact t.get p z
section
variable {X : Cx} {g : Gb} {B : Bs} {J : Hp} {S : SL} {e e1 e2 e3 : Expr} {es : List Expr} {pos pos' p apos cpos : Pos} {i : Nat} {o ι ρ β : Type} {K : KT o} {rest : List Stmt} {u : Nat → V} {outs : β → List (Nat × OR)} {k : β → RK}
theorem post_at {I I' H H' F : Hp} {v : V} {l : List (Nat × OR)} {r : RK} {σ : L2.St} (x : Ext B.I B.H I H) (h : Hold g B S σ I H) (ho : Outs u S l) (x2 : Ext I H I' H') (f1 : ∀ a, F a ≠ none → H a = none ∧ I' a = none) (f2 : Same F H') (hv : RK.inS g r B.H v I' F) : ∃ Φ', Post g B.I B.H r l (fun i => some (u i)) v I' H' F Φ' := by
  obtain ⟨Φ, h⟩ := h
  have h2 := h.ext x2
  have x02 := x.trans x2
  refine ⟨Φ, x02.i, x02.s, x02.h, h2.tb.t, x02.n, fun b hb => ⟨h.base.free (f1 b hb).1, (f1 b hb).2⟩, f2, hv, fun p hp => ?_, h2.fr, h2.dj, fun i a ha => ?_⟩
  · obtain ⟨v, e1, q⟩ := h2.at_ p.1 _ (ho.get p hp)
    obtain ⟨q1, q2⟩ := q
    exact ⟨u p.1, rfl, q1 ▸ q2⟩
  · cases q : F a with
    | none => rfl
    | some y => exact absurd (f1 a (ne_of_some q)).1 ((h.ne ha).1)
/-- the end of a def that hands back nothing -/
theorem mb_endU {b : β} (ho : Outs u S (outs b)) : MB X g B J S [] (some b) (KioU g B u outs) := by
  refine ⟨fun r q => ?_⟩
  cases q
  refine pss_imp pss_nil fun D σ H ⟨I, ok, kk⟩ => ?_
  obtain ⟨Φ', hp⟩ := post_at (F := fun _ => none) (r := .im (Py.r g ())) (v := .non) ok.x ok.h ho (Ext.refl ok.h.sub) (fun a z => absurd rfl z) (fun _ _ z => by cases z) rfl
  exact (kk I H (fun _ => none) Φ' σ hp).1
/-- return e, of a def that changes what it is handed -/
theorem mb_retIO {m : Option ρ} {kv : ρ → RK} {f : ρ → β} (he : ME X g B S e m kv) (ho : ∀ a, Outs u S (outs (f a))) (hk : ∀ a, kv a = k (f a) := by intro _; rfl) (hs : ∀ a, (kv a).slotty = true := by intro _; rfl) : MB X g B J S [.Return (some e) pos] (m >>= fun a => some (f a)) (Kio g B u k outs) := by
  refine ⟨fun r q => ?_⟩
  obtain ⟨a, q1, q2⟩ := bind_some q
  cases q2
  refine pss_imp (pss_one (ps_ret (he.run a q1))) fun D σ H ⟨I, ok, kk⟩ => ?_
  refine ⟨I, ok.h, fun v I' H' x1 hv => ?_⟩
  obtain ⟨F, f1, f2, f3⟩ := RK.frag (hs a) hv
  obtain ⟨Φ', hp⟩ := post_at ok.x ok.h (ho a) x1 f1 f2 (f3 B.H)
  rw [hk a] at hp
  exact kk v I' H' F Φ' hp
end
/-! a place in what was handed in -/
section
variable {X : Cx} {g : Gb} {B : Bs} {J : Hp} {S : SL} {e e1 e2 e3 : Expr} {es : List Expr} {pos pos' p apos cpos : Pos} {i : Nat} {o ι ρ β : Type} {K : KT o} {rest : List Stmt}
theorem foc_pin {v0 : V} {o1 : OR} {I F : Hp} {v : V} (h : (oP v0 o1).p I F v) : FocAt o1 (fun o' => oP v0 o') I F v v := ⟨F, Same.refl _, h.2, fun o' I' F1' _ _ h' => ⟨h.1, by rw [rp_self]; exact h'⟩⟩
theorem mp_pin (i : Nat) {x : Str} {v0 : V} {o1 : OR} (hS : S[i]? = some (some (.ow (oP v0 o1))) := by rfl) (hN : X.N[i]? = some x := by rfl) (hv : Vis X.env.scope x := by first | exact Or.inl rfl | exact Or.inr (Or.inl rfl) | exact Or.inr (Or.inr rfl))
    (hd : (x == ("__debug__" : Str)) = false := by decide) (hcd : (x == ("__classdict__" : Str)) = false := by decide) : MP X g B S i (.Name x pos) (some ()) (fun _ => o1) (fun _ o' => oP v0 o') := by
  refine ⟨fun _ _ => pe_imp (pe_var hN hv hd hcd) fun σ H Q ⟨I, Φ, h, q⟩ => ?_⟩
  obtain ⟨v, e1, h1⟩ := h.at_ i _ hS
  exact ⟨v, e1, q v I H (Ext.refl h.sub) ⟨v, e1, foc_pin h1⟩⟩
end
/-! an instance made -/
section
variable {X : Cx} {g : Gb} {B : Bs} {J : Hp} {S : SL} {e : Expr} {es : List Expr} {pos p : Pos} {ι β : Type} {args : ι → List RK} {M : ι → Option β} {outs : β → List (Nat × OR)} {m : Option β} {j kk : Nat} {f C : Addr} {fd : FuncData} {ps : List Str} {x : Str} {dvs : List V} {ds : List Value}
theorem make_use {I1 H1 : Hp} {vs : List V} {x dx C : Addr} {cn : Str} {outs : β → List (Nat × OR)} {or : β → OR} {a : ι} {r : β} {Q : V → Hp → Prop} {E : XK} (hC : g.mg cn = some (.ref C)) (s1 : Same I1 H1) (tb : TbI I1 H1) (hA : Args g (args a) vs I1 H1) (hM : M a = some r) (hx : H1 x = none) (hdx : H1 dx = none) (hne : dx ≠ x)
    (hout : outs r = [(0, or r)]) (harg : (args a).all RK.argy = true) (q : ∀ v I' H', Ext I1 H1 I' H' → RK.holds g (.ow (or r)) H1 v I' H' → Q v H') :
    spIO g (fun a => .ow (oC (wI g cn []) []) :: args a) M (fun _ => .im (Py.r g ())) outs (.ref x :: vs) (upd (upd H1 dx (.own x)) x (.ins C dx [])) (fun v H2 => v = .non ∧ Q (.ref x) H2) E := by
  have Rx : (upd H1 dx (.own x)) x = none := by rw [upd_ne (fun z => hne z.symm)]; exact hx
  have sR : Same H1 (upd H1 dx (.own x)) := same_new hdx
  have i_ne : ∀ a, I1 a ≠ none → a ≠ x ∧ a ≠ dx := fun a ha => by
    have h1 := same_ne s1 ha
    exact ⟨fun z => h1 (z ▸ hx), fun z => h1 (z ▸ hdx)⟩
  refine ⟨I1, upd H1 dx (.own x), fun n => if n = 0 then one1 x (.ins C dx []) else fun _ => none, a, r, fun b o e => ?_, same_new Rx, ⟨?_, fun p hp => ?_, tb.2⟩, ⟨by rw [List.length_cons, List.length_cons, Paired.length hA], fun n k v e1 e2 => ?_, fun n b o e => ?_, fun n1 n2 b e1 e2 => ?_⟩, hM, fun v I' H' F Φ' hp => ?_⟩
  · have := i_ne b (ne_of_some e)
    rw [upd_ne this.1, upd_ne this.2]
    exact s1 b o e
  · exact (SW.of (sR.trans (same_new Rx))).t tb.1
  · rw [upd_ne (fun z => tb.1.ne hp (by rw [z]; exact hdx))]
    exact tb.1.ne hp
  · cases n with
    | zero =>
      cases e1
      cases e2
      rw [if_pos rfl]
      refine ⟨x, _, [], rfl, one1_same, ⟨C, dx, hC, rfl, rfl⟩, rfl, fun _ _ => none, fun j o v z => by simp at z, fun _ _ _ z => (by cases z), fun _ => rfl, fun _ _ _ z => absurd rfl z⟩
    | succ n =>
      rw [if_neg (by omega)]
      obtain ⟨v', e3, q'⟩ := paired_get hA (i := n) (by simpa using e1)
      have e4 : vs[n]? = some v := by simpa using e2
      rw [e4] at e3
      cases e3
      have ha := List.all_eq_true.mp harg _ (List.mem_of_getElem? (show (args a)[n]? = some k by simpa using e1))
      cases k with
      | im p => exact q'
      | bw p =>
        obtain ⟨l, ws, z1, z2, z3⟩ := q'
        exact ⟨l, ws, z1, sR.seq z2, z3⟩
      | fr p => cases ha
      | rd p => cases ha
      | ow p => cases ha
  · by_cases hn : n = 0
    · rw [if_pos hn] at e
      obtain ⟨z1, z2⟩ := one1_some e
      subst z1 z2
      exact ⟨upd_same, s1.free hx, Rx⟩
    · rw [if_neg hn] at e; cases e
  · by_cases h1 : n1 = 0
    · by_cases h2 : n2 = 0
      · rw [h1, h2]
      · rw [if_neg h2] at e2; exact absurd rfl e2
    · rw [if_neg h1] at e1; exact absurd rfl e1
  · have hv : v = .non := hp.val
    refine ⟨hv, q (.ref x) I' H' ⟨hp.i, (SW.of sR).trans hp.h, hp.s, fun l n1 n2 => hp.n l (same_ne sR n1) n2⟩ ?_⟩
    obtain ⟨u, e1, e2⟩ := hp.out (0, or r) (by rw [hout]; exact List.mem_singleton.mpr rfl)
    cases e1
    exact ⟨Φ' 0, fun b hb => by
      cases z : Φ' 0 b with
      | none => exact absurd z hb
      | some o =>
        obtain ⟨_, z2, z3⟩ := hp.fr 0 b o z
        exact ⟨sR.free z3, z2⟩, fun b o z => (hp.fr 0 b o z).1, e2⟩
theorem me_make {or : β → OR} (F : FnOk X.prog X.w X.K X.mg X.base CX0 j f fd ps (spIO g (fun a => .ow (oC (wI g x []) []) :: args a) M (fun _ => .im (Py.r g ())) outs)) (hr : Room kk X.A) (hj : j + 1 ≤ kk) (Mk : Mk X.K C f) (hm : X.mg x = some (.ref C)) (hb : Binds X.K fd ps ds) (hd : Vals dvs ds)
    (ha : MA X g B S (e :: es) dvs args m M) (hout : ∀ r, outs r = [(0, or r)] := by intro _; rfl) (harg : ∀ a, (args a).all RK.argy = true := by intro _; rfl) (hmg : X.mg = g.mg := by rfl) (hg : Gl X x := by rfl) (hdb : (x == ("__debug__" : Str)) = false := by decide) (he : starEach (e :: es) X.env = (false, eval e X.env) :: starEach es X.env := by rfl) (hpl : (backTo pos (starEach es X.env)).any (·.1) = false := by rfl) :
    ME X g B S (.Call (.Name x p) (e :: es) [] pos) m (fun r => .ow (or r)) := by
  refine ⟨fun r q => ?_⟩
  refine pe_imp (pe_make Mk F (hr.mono hj) hg hm hb hd pass0 (ha.run r q) hdb he hpl) fun σ H Q ⟨I, hh, kc⟩ => ⟨I, hh, fun a vs I1 H1 hM x1 hA y dy hy hdy hne => ?_⟩
  exact make_use (by rw [← hmg]; exact hm) x1.s (hh.tb.ext x1).to hA hM hy hdy hne (hout r) (harg a) fun v I' H' x2 hv => kc v I' H' (x1.trans x2) (RK.back rfl x1.h hv)
theorem me_make0 {or : β → OR} (a : ι) (F : FnOk X.prog X.w X.K X.mg X.base CX0 j f fd ps (spIO g (fun a => .ow (oC (wI g x []) []) :: args a) M (fun _ => .im (Py.r g ())) outs)) (hr : Room kk X.A) (hj : j + 1 ≤ kk) (Mk : Mk X.K C f) (hm : X.mg x = some (.ref C)) (hb : Binds X.K fd ps ds) (hd : Vals dvs ds)
    (ha : ∀ I H, Args g (args a) dvs I H) (hout : ∀ r, outs r = [(0, or r)] := by intro _; rfl) (harg : ∀ a, (args a).all RK.argy = true := by intro _; rfl) (hmg : X.mg = g.mg := by rfl) (hg : Gl X x := by rfl) (hdb : (x == ("__debug__" : Str)) = false := by decide) :
    ME X g B S (.Call (.Name x p) [] [] pos) (M a) (fun r => .ow (or r)) := by
  refine ⟨fun r q => ?_⟩
  refine pe_imp (pe_make0 Mk F (hr.mono hj) hg hm hb hd pass0 hdb) fun σ H Q ⟨I, hh, kc⟩ => fun y dy hy hdy hne => ?_
  exact make_use (by rw [← hmg]; exact hm) hh.sub hh.tb.to (ha I H) q hy hdy hne (hout r) (harg a) fun v I' H' x2 hv => kc v I' H' x2 hv
/-- let go, of an expression -/
theorem me_frzO {α : Type} [Py α] {or : α → OR} {m : Option α} (z : ∀ a, Frz (or a) (Py.r g a)) (h : ME X g B S e m (fun a => .ow (or a))) : ME X g B S e m (KI g) := by
  refine ⟨fun a q => pe_imp (h.run a q) fun σ H Q ⟨I, hh, k⟩ => ⟨I, hh, fun v I' H' x hv => ?_⟩⟩
  obtain ⟨F, h1, h2, h3⟩ := hv
  have hd : ∀ b, F b ≠ none → I' b = none := fun b hb => (h1 b hb).2
  refine k v (Un I' F) H' ⟨x.i.trans (un_l hd), x.h, fun b ob eb => (un_some eb).elim (fun e => h2 _ _ e) fun e => x.s _ _ e.2, fun b n1 n2 => ?_⟩ (z a I' F v hd h3)
  cases e4 : F b with
  | none => rw [un_none e4]; exact x.n b n1 n2
  | some ob => exact absurd (h1 b (ne_of_some e4)).1 n1
theorem mb_frzO {α o : Type} [Py α] {K : KT o} (i : Nat) {a : α} {or : OR} {sts : List Stmt} {m : Option o} (z : Frz or (Py.r g a)) (hS : S[i]? = some (some (.ow or))) (hb : MB X g B J (S.set i (some (.im (Py.r g a)))) sts m K) : MB X g B J S sts m K := by
  refine ⟨fun r q => ?_⟩
  refine pss_imp (hb.run r q) fun D σ H ⟨I, ok, kk⟩ => ?_
  obtain ⟨I', ok'⟩ := frz_ok (i := i) z ok fun v F => ⟨_, hS, fun q => q⟩
  exact ⟨I', ok', kk⟩
end
end T
set_option Elab.async false
set_option linter.all false
set_option maxRecDepth 100000
namespace T
variable [TabsC]
open PySem PySem.Spec PyProof.Rows L2
/-! fields and methods of instances that stay -/
def FldR {δ β : Type} [Py δ] [Py β] (X : Cx) (g : Gb) (f : Str) (pr : δ → β) : Prop := ∀ d I v, (Py.r g d).p I v → ∃ a C dx fs u, v = .ref a ∧ I a = some (.ins C dx fs) ∧ Cls X.K C ∧ NoAttr X.K C f ∧ fs.lookup f = some u ∧ (Py.r g (pr d)).p I u
theorem rIns_fld {X : Cx} {g : Gb} {c f : Str} {names : List Str} {rs : List PR} {r : PR} {I : Hp} {v : V} (j : Nat) (hC : Cf X g c f) (h : (rIns g c names rs).p I v) (hr : rs[j]? = some r := by rfl) (hj : fidx names f = some j := by decide +kernel) :
    ∃ a C dx fs u, v = .ref a ∧ I a = some (.ins C dx fs) ∧ Cls X.K C ∧ NoAttr X.K C f ∧ fs.lookup f = some u ∧ r.p I u := by
  obtain ⟨l, C, dx, vs, rfl, h1, h2, h3, h4⟩ := h
  obtain ⟨C', d1, d2, d3⟩ := hC
  rw [h1] at d1
  cases d1
  obtain ⟨u, e1, e2⟩ := paired_get h4 hr
  exact ⟨l, _, dx, _, u, rfl, h2, d2, d3, by rw [lookup_zip hj h3]; exact e1, e2⟩
/-- the method name of the thing d -/
def MethR {δ ι β : Type} [Py δ] (X : Cx) (g : Gb) (name : Str) (kk : Nat) (d : δ) (args : ι → List RK) (M : ι → Option β) (k : β → RK) : Prop :=
  ∃ C f fd ps j, Cls X.K C ∧ Meth X.K C name f ∧ j ≤ kk ∧ FnOk X.prog X.w X.K X.mg X.base CX0 j f fd ps (spT g (fun p : ι => .im (Py.r g d) :: args p) M k) ∧ Binds X.K fd ps [] ∧ ∀ I v, (Py.r g d).p I v → ∃ a dx fs, v = .ref a ∧ I a = some (.ins C dx fs) ∧ fs.lookup name = none
theorem rIns_no {g : Gb} {c name : Str} {names : List Str} {rs : List PR} {C : Addr} (hC : g.mg c = some (.ref C)) (hn : fidx names name = none) (I : Hp) (v : V) (h : (rIns g c names rs).p I v) : ∃ a dx fs, v = .ref a ∧ I a = some (.ins C dx fs) ∧ fs.lookup name = none := by
  obtain ⟨l, C', dx, vs, rfl, h1, h2, h3, h4⟩ := h
  rw [h1] at hC
  cases hC
  exact ⟨l, dx, _, rfl, h2, lookup_zip_no hn⟩
theorem sp_self {P : Program} {w : World} {K : PySem.W.Frag} {mg : Str → Option Value} {base : Heap} {g : Gb} {j : Nat} {f : Addr} {fd : FuncData} {ps : List Str} {δ ι β : Type} [Py δ] {args : ι → List RK} {M : δ × ι → Option β} {k : β → RK} (d : δ)
    (F : FnOk P w K mg base CX0 j f fd ps (spT g (fun p : δ × ι => .im (Py.r g p.1) :: args p.2) M k)) : FnOk P w K mg base CX0 j f fd ps (spT g (fun p : ι => .im (Py.r g d) :: args p) (fun p => M (d, p)) k) :=
  F.imp fun vs H Q E ⟨I, a, r, s, tb, hA, hM, q⟩ => ⟨I, (d, a), r, s, tb, hA, hM, q⟩
section
variable {X : Cx} {g : Gb} {B : Bs} {J : Hp} {S : SL} {e e1 e2 e3 : Expr} {es : List Expr} {pos p apos : Pos} {α β γ δ ι β' : Type} [Py α] [Py β] [Py γ] [Py δ] {args : ι → List RK} {k : β' → RK} {kk : Nat} {name : Str}
theorem me_fld {m : Option δ} {f : Str} {pr : δ → β} (h : ME X g B S e m (KI g)) (hf : FldR X g f pr) (hb : attributeBase e f X.env (eval e X.env) = eval e X.env := by rfl) : ME X g B S (.Attribute e f pos) (m >>= fun d => some (pr d)) (KI g) := by
  refine ⟨fun r q => ?_⟩
  obtain ⟨d, q1, q2⟩ := bind_some q
  cases q2
  refine pe_imp (pe_fld (h.run d q1) hb) fun σ H Q ⟨I, hh, kk⟩ => ⟨I, hh, fun v I' H' x hv => ?_⟩
  obtain ⟨a, C, dx, fs, u, rfl, h1, h2, h3, h4, h5⟩ := hf d I' v hv
  exact ⟨a, C, dx, fs, u, rfl, x.s _ _ h1, h2, h3, h4, kk u I' H' x h5⟩
theorem me_meth {pl : Sem Bool} {m0 : Option δ} {m1 : δ → Option β'} {M : δ → ι → Option β'} (h0 : ME X g B S e1 m0 (KI g)) (hm : ∀ d, MethR X g name kk d args (M d) k) (hr : Room kk X.A) (ha : ∀ d, MA X g B S (e :: es) [] args (m1 d) (M d))
    (hbw : ∀ c, (k c).isB = false := by intro _; rfl) (hst : starEach (e :: es) X.env = (false, eval e X.env) :: starEach es X.env := by rfl) (hpl : (backTo pos (starEach es X.env)).any (·.1) = false := by rfl)
    (ht : eval (.Call (.Attribute e1 name apos) (e :: es) [] pos) X.env = (do
      let ov ← eval e1 X.env
      standAt apos.atName
      let (f, first) ← holding [ov] (getMethod ov name pl)
      callWith pos f first (backTo pos (starEach (e :: es) X.env)) (backToKw pos (keywordEach [] X.env))) := by rfl) :
    ME X g B S (.Call (.Attribute e1 name apos) (e :: es) [] pos) (m0 >>= m1) k := by
  refine ⟨fun r q => ?_⟩
  obtain ⟨d, q1, q2⟩ := bind_some q
  obtain ⟨C, f, fd, ps, j, c1, c2, c3, F, hb, hi⟩ := hm d
  refine pe_imp (pe_meth (pl := pl) (h0.run d q1) c1 c2 F (hr.mono c3) hb .nil pass0 ((ha d).run r q2) hst hpl ht) fun σ H Q ⟨I, hh, kc⟩ => ⟨I, hh, fun v I1 H1 x1 hv => ?_⟩
  obtain ⟨a, dx, fs, rfl, h1, h2⟩ := hi I1 v hv
  refine ⟨a, dx, fs, rfl, x1.s _ _ h1, h2, I1, hh.ext x1, fun b vs I2 H2 hM x2 hA => ?_⟩
  have hA' : Args g (RK.im (Py.r g d) :: args b) (.ref a :: (vs ++ [])) I2 H2 := .cons ((Py.r g d).mono x2.i hv) hA
  exact sp_use (args := fun p => RK.im (Py.r g d) :: args p) (a := b) x2.s (hh.tb.ext (x1.trans x2)).to hA' hM fun u I3 H3 x3 hu => kc u I3 H3 ((x1.trans x2).trans x3) (RK.back (hbw r) (x1.trans x2).h hu)
theorem me_meth0 {pl : Sem Bool} {m0 : Option δ} {M : δ → Unit → Option β'} (h0 : ME X g B S e1 m0 (KI g)) (hm : ∀ d, MethR X g name kk d (fun _ : Unit => []) (M d) k) (hr : Room kk X.A)
    (hbw : ∀ c, (k c).isB = false := by intro _; rfl)
    (ht : eval (.Call (.Attribute e1 name apos) [] [] pos) X.env = (do
      let ov ← eval e1 X.env
      standAt apos.atName
      let (f, first) ← holding [ov] (getMethod ov name pl)
      callWith pos f first (backTo pos (starEach [] X.env)) (backToKw pos (keywordEach [] X.env))) := by rfl) :
    ME X g B S (.Call (.Attribute e1 name apos) [] [] pos) (m0 >>= fun d => M d ()) k := by
  refine ⟨fun r q => ?_⟩
  obtain ⟨d, q1, q2⟩ := bind_some q
  obtain ⟨C, f, fd, ps, j, c1, c2, c3, F, hb, hi⟩ := hm d
  refine pe_imp (pe_meth0 (pl := pl) (h0.run d q1) c1 c2 F (hr.mono c3) hb .nil pass0 ht) fun σ H Q ⟨I, hh, kc⟩ => ⟨I, hh, fun v I1 H1 x1 hv => ?_⟩
  obtain ⟨a, dx, fs, rfl, h1, h2⟩ := hi I1 v hv
  refine ⟨a, dx, fs, rfl, x1.s _ _ h1, h2, ?_⟩
  have hA' : Args g [RK.im (Py.r g d)] (.ref a :: ([] ++ [])) I1 H1 := .cons hv .nil
  exact ⟨I1, (), r, x1.s, (hh.tb.ext x1).to, hA', q2, fun u I3 H3 x3 hu => kc u I3 H3 (x1.trans x3) (RK.back (hbw r) x1.h hu)⟩
/-- a thing seen as one of a wider kind -/
theorem me_up {m : Option α} {f : α → β} (h : ME X g B S e m (KI g)) (hf : ∀ a, Py.r g (f a) = Py.r g a := by intro _; rfl) : ME X g B S e (m >>= fun a => some (f a)) (KI g) := by
  refine ⟨fun r q => ?_⟩
  obtain ⟨a, q1, q2⟩ := bind_some q
  cases q2
  refine pe_imp (h.run a q1) fun σ H Q ⟨I, hh, kk⟩ => ⟨I, hh, fun v I' H' x hv => kk v I' H' x ?_⟩
  show (Py.r g (f a)).p I' v
  rw [hf a]; exact hv
/-! owned tuples -/
theorem kids_nil {I F : Hp} {l : Addr} : Kids [] I F [] l := ⟨rfl, fun _ _ => none, fun j o v h => by simp at h, fun _ _ _ z => (by cases z), fun _ => rfl, fun _ _ _ z => absurd rfl z⟩
def pk2 (F1 F2 : Hp) : Nat → Hp
  | 0 => F1
  | 1 => F2
  | _ => fun _ => none
theorem me_t2O {α' β'' : Type} {m1 : Option α'} {m2 : Option β''} {k1 : α' → RK} {k2 : β'' → RK} {n : Nat} (h1 : ME X g B S e1 m1 k1) (h2 : ME X g B S e2 m2 k2) (s1 : ∀ a, (k1 a).slotty = true := by intro _; rfl) (s2 : ∀ a, (k2 a).slotty = true := by intro _; rfl)
    (hs : starEach [e1, e2] X.env = (false, eval e1 X.env) :: starEach [e2] X.env := by rfl) (hs2 : starEach [e2] X.env = (false, eval e2 X.env) :: starEach [] X.env := by rfl) :
    ME X g B S (.Tuple [e1, e2] n pos) (m1 >>= fun a => m2 >>= fun b => some (T2.mk a b)) (fun t => .ow (oC wT [(k1 t.x0).orOf, (k2 t.x1).orOf])) := by
  refine ⟨fun t q => ?_⟩
  obtain ⟨a, q1, q⟩ := bind_some q
  obtain ⟨b, q2, q3⟩ := bind_some q
  cases q3
  refine pe_imp (pe_tup (pa_cons (h1.run a q1) (pa_cons (h2.run b q2) pa_nil hs2) hs)) fun σ H Q ⟨I, hh, kk⟩ => ⟨I, hh, fun v I1 H1 x1 hv => ⟨I1, hh.ext x1, fun w I2 H2 x2 hw => ⟨by show 2 ≤ sizeLine; decide, fun l hl => ?_⟩⟩⟩
  obtain ⟨F1, f1, f2, f3⟩ := RK.fragO (s1 a) hv
  obtain ⟨F2, g1, g2, g3⟩ := RK.fragO (s2 b) hw
  have hI := x2.s.free hl
  have f2' := x2.h.part f2 (frag_noT hh.tb.has f1)
  have F1l : F1 l = none := f2'.free hl
  have F2l : F2 l = none := g2.free hl
  have dis : ∀ c, F2 c ≠ none → F1 c = none := fun c hc => f2.free (g1 c hc).1
  have hU : ∀ c o, Un F1 F2 c = some o → H2 c = some o := fun c o e => (un_some e).elim (fun z => g2 _ _ z) fun z => f2' _ _ z.2
  refine kk _ I2 _ ((x1.trans x2).trans ⟨Same.refl _, SW.of (same_new hl), x2.s.trans (same_new hl), fun _ _ z => z⟩) ⟨NewF (Un F1 F2) l (.tup [v, w]) fun _ => none, fun c hc => ?_, fun c o e => ?_, l, _, [v, w], rfl, newF_root, rfl, rfl, pk2 F1 F2, fun n o u e1 e2 => ?_, fun n c o e => ?_, fun n => ?_, fun n n2 c e1 e2 => ?_⟩
  · rcases newF_ne hc with z | z | z
    · subst z; exact ⟨x1.h.free (x2.h.free hl), hI⟩
    · exact absurd rfl z
    · cases q : F2 c with
      | some o => exact ⟨x1.h.free (g1 c (ne_of_some q)).1, (g1 c (ne_of_some q)).2⟩
      | none =>
        rw [un_none q] at z
        exact ⟨(f1 c z).1, x2.n c (same_ne f2 z) (f1 c z).2⟩
  · by_cases hc : c = l
    · subst hc
      rw [newF_root] at e
      rw [upd_same]; exact e
    · rw [newF_old hc rfl] at e
      rw [upd_ne hc]
      exact hU c o e
  · match n, e1, e2 with
    | 0, e1, e2 =>
      cases e1
      cases e2
      exact OR.mono _ x2.i f3
    | 1, e1, e2 =>
      cases e1
      cases e2
      exact g3
    | n + 2, e1, e2 => simp at e1
  · match n, e with
    | 0, e =>
      have e' : F1 c = some o := e
      rw [newF_old (fun z => by rw [z, F1l] at e'; cases e') rfl]
      cases hq : F2 c with
      | none => rw [un_none hq]; exact e'
      | some y => rw [dis c (ne_of_some hq)] at e'; cases e'
    | 1, e =>
      have e' : F2 c = some o := e
      rw [newF_old (fun z => by rw [z, F2l] at e'; cases e') rfl]
      exact un_r e'
    | n + 2, e => cases e
  · match n with
    | 0 => exact F1l
    | 1 => exact F2l
    | n + 2 => rfl
  · match n, n2, e1, e2 with
    | 0, 0, _, _ => rfl
    | 1, 1, _, _ => rfl
    | 0, 1, e1, e2 => exact absurd (dis c e2) e1
    | 1, 0, e1, e2 => exact absurd (dis c e1) e2
    | 0, n + 2, e1, e2 => exact absurd rfl e2
    | 1, n + 2, e1, e2 => exact absurd rfl e2
    | n + 2, _, e1, _ => exact absurd rfl e1
end
/-! an owned thing looked at, within an expression whose value holds no address -/
def Flat (k : RK) : Prop := ∃ r : PR, k = .im r ∧ ∀ I I' v, r.p I v → r.p I' v
section
variable {X : Cx} {g : Gb} {B : Bs} {J : Hp} {S : SL} {e : Expr} {α β' : Type} [Py α] {k : β' → RK}
theorem view_ok {i : Nat} {o : OR} {r : PR} {σ : L2.St} {I H : Hp} {Φ : Nat → Hp} (z : Frz o r) (h : HoldF g B S σ I H Φ) (hS : S[i]? = some (some (.ow o))) : Hold g B (S.set i (some (.im r))) σ (Un I (Φ i)) H := by
  obtain ⟨v, e1, q⟩ := h.at_ i _ hS
  have hd : ∀ a, Φ i a ≠ none → I a = none := fun a ha => (h.ne ha).2.1
  have sI : Same I (Un I (Φ i)) := un_l hd
  have hσ : σ.set i (some v) = σ := by
    apply List.ext_getElem?
    intro j
    by_cases hj : i = j
    · subst hj
      rw [List.getElem?_set_self (List.getElem?_eq_some_iff.mp e1).1, e1]
    · rw [List.getElem?_set_ne hj]
  refine ⟨putF Φ i (fun _ => none), ?_⟩
  have h2 : HoldF g B (S.set i (some (.im r))) (σ.set i (some v)) (Un I (Φ i)) H (putF Φ i (fun _ => none)) := by
    refine ⟨by rw [List.length_set, List.length_set, h.len], fun b ob eb => (un_some eb).elim (fun e => (h.fr i b ob e).1) fun e => h.sub _ _ e.2, h.base, h.tb.un (h.noT i), fun j k' e => ?_, fun j a ob e => ?_, fun j l a hj hl => ?_⟩
    · rcases set_some e with ⟨a, b, c⟩ | ⟨a, b⟩
      · subst a
        cases b
        exact ⟨v, List.getElem?_set_self (by rw [h.len]; exact c), z I (Φ i) v hd q⟩
      · obtain ⟨u, e2, q⟩ := h.at_ j k' b
        exact ⟨u, by rw [List.getElem?_set_ne a]; exact e2, by rw [putF_ne (fun z => a z.symm)]; exact RK.inS_mono sI q⟩
    · by_cases hji : j = i
      · rw [hji, putF_same] at e; cases e
      · rw [putF_ne hji] at e
        obtain ⟨f1, f2, f3⟩ := h.fr j a ob e
        refine ⟨f1, ?_, f3⟩
        rw [un_none]
        · exact f2
        · cases e4 : Φ i a with
          | none => rfl
          | some ou => exact absurd (h.dj j i a (ne_of_some e) (ne_of_some e4)) hji
    · by_cases hji : j = i
      · rw [hji, putF_same] at hj; exact absurd rfl hj
      · by_cases hli : l = i
        · rw [hli, putF_same] at hl; exact absurd rfl hl
        · rw [putF_ne hji] at hj
          rw [putF_ne hli] at hl
          exact h.dj j l a hj hl
  rw [hσ] at h2
  exact h2
theorem me_view {a : α} {o : OR} {m : Option β'} (i : Nat) (z : Frz o (Py.r g a)) (hS : S[i]? = some (some (.ow o))) (h : ME X g B (S.set i (some (.im (Py.r g a)))) e m k) (hf : ∀ r, Flat (k r)) : ME X g B S e m k := by
  refine ⟨fun r q => pe_imp (h.run r q) fun σ H Q ⟨I, ⟨Φ, hh⟩, kk⟩ => ⟨_, view_ok z hh hS, fun v I' H' x hv => ?_⟩⟩
  obtain ⟨pr, e1, e2⟩ := hf r
  refine kk v I H' ⟨Same.refl _, x.h, x.h.part hh.sub hh.tb.i, fun _ _ z => z⟩ ?_
  rw [e1] at hv ⊢
  exact e2 _ _ _ hv
theorem mt_view {a : α} {o : OR} {m : Option Bool} (i : Nat) (z : Frz o (Py.r g a)) (hS : S[i]? = some (some (.ow o))) (h : MT X g B (S.set i (some (.im (Py.r g a)))) e m) : MT X g B S e m := by
  refine ⟨fun r q => pt_imp (h.run r q) fun σ H Q ⟨I, ⟨Φ, hh⟩, kk⟩ => ⟨_, view_ok z hh hS, fun I' H' x => kk I H' ⟨Same.refl _, x.h, x.h.part hh.sub hh.tb.i, fun _ _ z => z⟩⟩⟩
/-- the same of a new list -/
theorem fr_ow {as : List α} {i : Nat} {σ : L2.St} {I H : Hp} (h : Hold g B S σ I H) (hS : S[i]? = some (some (.fr (rl g as)))) : Hold g B (S.set i (some (.ow (oF (rl g as))))) σ I H := by
  obtain ⟨Φ, h⟩ := h
  refine ⟨Φ, by rw [List.length_set]; exact h.len, h.sub, h.base, h.tb, fun j k' e => ?_, h.fr, h.dj⟩
  rcases set_some e with ⟨a, b, c⟩ | ⟨a, b⟩
  · subst a
    cases b
    obtain ⟨v, e1, q⟩ := h.at_ i _ hS
    exact ⟨v, e1, q⟩
  · exact h.at_ j k' b
theorem set_set' {S : SL} {i : Nat} {x y : Option RK} : (S.set i x).set i y = S.set i y := by rw [List.set_set]
theorem me_viewF {as : List α} {m : Option β'} (i : Nat) (hS : S[i]? = some (some (.fr (rl g as)))) (h : ME X g B (S.set i (some (.im (Py.r g as)))) e m k) (hf : ∀ r, Flat (k r)) : ME X g B S e m k := by
  have hlt : i < S.length := (List.getElem?_eq_some_iff.mp hS).1
  have h2 := me_view (S := S.set i (some (.ow (oF (rl g as))))) i (frz_F (g := g) (as := as)) (List.getElem?_set_self hlt) (by rw [set_set']; exact h) hf
  exact ⟨fun r q => pe_imp (h2.run r q) fun σ H Q ⟨I, hh, kk⟩ => ⟨I, fr_ow hh hS, kk⟩⟩
theorem mt_viewF {as : List α} {m : Option Bool} (i : Nat) (hS : S[i]? = some (some (.fr (rl g as)))) (h : MT X g B (S.set i (some (.im (Py.r g as)))) e m) : MT X g B S e m := by
  have hlt : i < S.length := (List.getElem?_eq_some_iff.mp hS).1
  have h2 := mt_view (S := S.set i (some (.ow (oF (rl g as))))) i (frz_F (g := g) (as := as)) (List.getElem?_set_self hlt) (by rw [set_set']; exact h)
  exact ⟨fun r q => pt_imp (h2.run r q) fun σ H Q ⟨I, hh, kk⟩ => ⟨I, fr_ow hh hS, kk⟩⟩
theorem flat_int : ∀ r : Int, Flat (KI g r) := fun r => ⟨_, rfl, fun _ _ _ h => h⟩
theorem flat_bool : ∀ r : Bool, Flat (KI g r) := fun r => ⟨_, rfl, fun _ _ _ h => h⟩
theorem flat_str : ∀ r : Str, Flat (KI g r) := fun r => ⟨_, rfl, fun _ _ _ h => h⟩
theorem flat_oint : ∀ r : Option Int, Flat (KI g r) := fun r => ⟨_, rfl, fun _ _ _ h => by cases r <;> exact h⟩
end
end T
set_option Elab.async false
set_option linter.all false
set_option maxRecDepth 100000
namespace T
variable [TabsC]
open PySem PySem.Spec PyProof.Rows L2 ClX
/-! a def called that changes the thing of a slot -/
def Rest (H F : Hp) : Hp := fun a => match F a with
  | some _ => none
  | none => H a
theorem rest_some {H F : Hp} {a : Addr} {o : HO} (h : Rest H F a = some o) : F a = none ∧ H a = some o := by
  unfold Rest at h
  cases q : F a with
  | some u => rw [q] at h; cases h
  | none => rw [q] at h; exact ⟨rfl, h⟩
theorem rest_none {H F : Hp} {a : Addr} (h : F a ≠ none) : Rest H F a = none := by
  unfold Rest
  cases q : F a with
  | some u => rfl
  | none => exact absurd q h
theorem rest_of {H F : Hp} {a : Addr} (h : F a = none) : Rest H F a = H a := by unfold Rest; rw [h]
def RK.isIm : RK → Bool
  | .im _ => true
  | _ => false
def f0 (F : Hp) : Nat → Hp
  | 0 => F
  | _ => fun _ => none
section
variable {X : Cx} {g : Gb} {B : Bs} {J : Hp} {S : SL} {σ : L2.St} {I H : Hp} {Φ : Nat → Hp} {i : Nat} {k : RK} {v : V} {o0 op : OR}
theorem io_pre {ks : List RK} {vs : List V} (h : HoldF g B S σ I H Φ) (hv : o0.p I (Φ i) v) (hA : Args g ks vs I H) (him : ks.all RK.isIm = true) : Same (Rest H (Φ i)) H ∧ ArgsF g (.ow o0 :: ks) (v :: vs) I (Rest H (Φ i)) H (f0 (Φ i)) := by
  refine ⟨fun a o e => (rest_some e).2, by rw [List.length_cons, List.length_cons, Paired.length hA], fun n k u e1 e2 => ?_, fun n a o e => ?_, fun n1 n2 a e1 e2 => ?_⟩
  · match n, e1, e2 with
    | 0, e1, e2 =>
      cases e1
      cases e2
      exact hv
    | n + 1, e1, e2 =>
      obtain ⟨u', e3, q⟩ := paired_get hA (i := n) (by simpa using e1)
      have e4 : vs[n]? = some u := by simpa using e2
      rw [e4] at e3
      cases e3
      have ha := List.all_eq_true.mp him _ (List.mem_of_getElem? (show ks[n]? = some k by simpa using e1))
      cases k with
      | im p => exact q
      | fr p => cases ha
      | bw p => cases ha
      | rd p => cases ha
      | ow p => cases ha
  · match n, e with
    | 0, e =>
      obtain ⟨f1, f2, _⟩ := h.fr i a o e
      exact ⟨f1, f2, rest_none (ne_of_some e)⟩
    | n + 1, e => cases e
  · match n1, n2, e1, e2 with
    | 0, 0, _, _ => rfl
    | 0, n + 1, _, e2 => exact absurd rfl e2
    | n + 1, _, e1, _ => exact absurd rfl e1
theorem io_post {o' : OR} {vs : Nat → Option V} {w : V} {I' H' F : Hp} {Φ' : Nat → Hp} (x : Ext B.I B.H I H) (oj : Same J I) (h : HoldF g B S σ I H Φ) (e1 : σ[i]? = some (some v)) (hvs : vs 0 = some v) (hp : Post g I (Rest H (Φ i)) k [(0, o')] vs w I' H' F Φ') (pin : ∀ F', o'.p I' F' v → op.p I' F' v) :
    Ext B.I B.H I' H' ∧ Same J I' ∧ ∃ Φ2, HoldF g B (S.set i (some (.ow op))) σ I' H' Φ2 ∧ (∀ j a, F a ≠ none → Φ2 j a = none) := by
  have other : ∀ j a, j ≠ i → Φ j a ≠ none → Φ i a = none := fun j a hj ha => by
    cases q : Φ i a with
    | none => rfl
    | some o => exact absurd (h.dj j i a ha (ne_of_some q)) hj
  have off : ∀ a, B.H a ≠ none → Φ i a = none := fun a e => by
    cases q : Φ i a with
    | none => rfl
    | some y => exact absurd (h.fr i a y q).2.2 e
  have base : ∀ a, B.H a ≠ none → Rest H (Φ i) a ≠ none := fun a e => by
    rw [rest_of (off a e)]
    exact fun z => e (h.base.f a z)
  have sB : SW B.H H' := ⟨fun a o e => by
    rcases h.base.k a o e with z | z
    · exact hp.h.k a o (by rw [rest_of (off a (ne_of_some e))]; exact z)
    · exact .inr z, fun a e => by
    cases q : B.H a with
    | none => rfl
    | some o => exact absurd (hp.h.f a e) (base a (ne_of_some q)), fun _ => hp.tb⟩
  have x' : Ext B.I B.H I' H' := ⟨x.i.trans hp.i, sB, hp.s, fun l n1 n2 => by
    cases e : B.H l with
    | none => exact absurd e n1
    | some o => exact hp.n l (base l n1) (x.n l n1 n2)⟩
  obtain ⟨u, z1, z2⟩ := hp.out (0, o') (List.mem_singleton.mpr rfl)
  rw [hvs] at z1
  cases z1
  have hσ : σ.set i (some v) = σ := by
    apply List.ext_getElem?
    intro j
    by_cases hj : i = j
    · subst hj
      rw [List.getElem?_set_self (List.getElem?_eq_some_iff.mp e1).1, e1]
    · rw [List.getElem?_set_ne hj]
  have hR : ∀ j a, j ≠ i → Φ j a ≠ none → Rest H (Φ i) a ≠ none := fun j a hj ha => by
    rw [rest_of (other j a hj ha)]
    exact (h.ne ha).1
  refine ⟨x', oj.trans hp.i, putF Φ i (Φ' 0), ?_, fun j a ha => ?_⟩
  · have h2 : HoldF g B (S.set i (some (.ow op))) (σ.set i (some v)) I' H' (putF Φ i (Φ' 0)) := by
      refine ⟨by rw [List.length_set, List.length_set, h.len], hp.s, sB, ⟨hp.tb, h.tb.b, fun p hp' => hp.n _ (base _ (h.tb.b p hp')) (h.tb.i p hp')⟩, fun j k' e => ?_, fun j a o e => ?_, fun j l a hj hl => ?_⟩
      · rcases set_some e with ⟨a, b, c⟩ | ⟨a, b⟩
        · subst a
          cases b
          exact ⟨v, List.getElem?_set_self (by rw [h.len]; exact c), by rw [putF_same]; exact pin _ z2⟩
        · obtain ⟨u, e2, q⟩ := h.at_ j k' b
          exact ⟨u, by rw [List.getElem?_set_ne a]; exact e2, by rw [putF_ne (fun z => a z.symm)]; exact RK.inS_mono hp.i q⟩
      · by_cases hji : j = i
        · rw [hji, putF_same] at e
          obtain ⟨y1, y2, y3⟩ := hp.fr 0 a o e
          refine ⟨y1, y2, ?_⟩
          cases q : B.H a with
          | none => rfl
          | some y => exact absurd y3 (base a (ne_of_some q))
        · rw [putF_ne hji] at e
          obtain ⟨f1, f2, f3⟩ := h.fr j a o e
          have hr := hR j a hji (ne_of_some e)
          refine ⟨hp.h.at_ ?_ (fun p hp' z => by rw [← z, h.noT j p hp'] at e; cases e), hp.n a hr f2, f3⟩
          rw [rest_of (other j a hji (ne_of_some e))]; exact f1
      · have no : ∀ m, m ≠ i → Φ' 0 a ≠ none → Φ m a ≠ none → False := fun m hm f1 f2 => by
          cases q : Φ' 0 a with
          | none => exact f1 q
          | some y => exact hR m a hm f2 (hp.fr 0 a y q).2.2
        by_cases hji : j = i
        · by_cases hli : l = i
          · rw [hji, hli]
          · rw [hji, putF_same] at hj
            rw [putF_ne hli] at hl
            exact (no l hli hj hl).elim
        · by_cases hli : l = i
          · rw [hli, putF_same] at hl
            rw [putF_ne hji] at hj
            exact (no j hji hl hj).elim
          · rw [putF_ne hji] at hj
            rw [putF_ne hli] at hl
            exact h.dj j l a hj hl
    rw [hσ] at h2
    exact h2
  · by_cases hji : j = i
    · rw [hji, putF_same]
      cases q : Φ' 0 a with
      | none => rfl
      | some y => exact absurd (hp.dv 0 a (ne_of_some q)) ha
    · rw [putF_ne hji]
      cases q : Φ j a with
      | none => rfl
      | some y => exact absurd (hp.fF a ha).1 (hR j a hji (ne_of_some q))
end
/-! C.m(self, ..): a function read off a class of the program's own -/
def tClsFn (C : Addr) (sp : Sp) (dvs : List V) (E : XK) (ta : TE) (t : TA) : TE := fun σ H Q => ta σ H fun x H1 => x = .ref C ∧ t σ H1 fun vs H2 => sp (vs ++ dvs) H2 Q E
theorem pe_clsFn {X : Cx} {CX : CXT} {k : Nat} {C f : Addr} {fd : FuncData} {ps : List Str} {mc : Value} {sp : Sp} {E : XK} {dvs : List V} {ds : List Value} {o e : Expr} {es : List Expr} {m : Str} {pos apos : Pos} {ta : TE} {t : TA} {pl : Sem Bool} (he : PE X o ta) (r : CRead X.K C mc) (c : CVal X.K C mc m (.ref f) (.ref f)) (hk : PySem.W.keepIn X.K (.ref f) = true)
    (F : FnOk X.prog X.w X.K X.mg X.base CX k f fd ps sp) (hr : Room k X.A) (hb : Binds X.K fd ps ds) (hd : Vals dvs ds) (hx : Passes CX X E) (ha : PA X (e :: es) t)
    (hst : starEach (e :: es) X.env = (false, eval e X.env) :: starEach es X.env := by rfl) (hpl : (backTo pos (starEach es X.env)).any (·.1) = false := by rfl)
    (ht : eval (.Call (.Attribute o m apos) (e :: es) [] pos) X.env = (do
      let ov ← eval o X.env
      standAt apos.atName
      let (f, first) ← holding [ov] (getMethod ov m pl)
      callWith pos f first (backTo pos (starEach (e :: es) X.env)) (backToKw pos (keywordEach [] X.env))) := by rfl) :
    PE X (.Call (.Attribute o m apos) (e :: es) [] pos) (tClsFn C sp dvs E ta t) := by
  refine ⟨fun pins s σ H Q I h => ?_⟩
  refine PySem.W.methodCall_KW (pl := pl) (thn (he.run pins s σ H _ I h) fun u s1 ⟨x, H1, I1, rx, ex, q⟩ => ?_) ht
  subst ex
  obtain rfl : u = Value.ref C := rx
  refine PySem.W.method_cls I1.kIn r.ga (getcval_ok I1 r c fun s2 I2 => ?_)
  exact PySem.W.callWith_K (h₀ := X.base) I2.ok.mod.kin hk (thn (ha.run pos pins s2 σ H1 _ I2 q) fun us s3 ⟨vs, H2, I3, rv, q2⟩ => ⟨I3.kIn, run_fn F hr hb hd hx I3 rv q2⟩) hst hpl
section
variable {X : Cx} {g : Gb} {B : Bs} {J : Hp} {S : SL} {e : Expr} {es : List Expr} {pos p p2 apos cpos : Pos} {o ι β : Type} {K : KT o} {rest : List Stmt} {args : ι → List RK} {M : ι → Option β} {outs : β → List (Nat × OR)} {m : Option β} {j kk : Nat} {f C : Addr} {fd : FuncData} {ps : List Str} {x cn mn : Str} {mc : Value} {dvs : List V} {ds : List Value} {fn : β → Option o}
/-- C.m(x, ..) alone, x an owned slot -/
theorem mb_clsInit {pl : Sem Bool} {o0 : OR} {or : β → OR} {u0 : V} (i : Nat) (F : FnOk X.prog X.w X.K X.mg X.base CX0 j f fd ps (spIO g (fun a => .ow o0 :: args a) M (fun _ => .im (Py.r g ())) outs)) (hr : Room kk X.A) (hj : j ≤ kk) (hm : X.mg cn = some (.ref C)) (r : CRead X.K C mc) (c : CVal X.K C mc mn (.ref f) (.ref f)) (hk : PySem.W.keepIn X.K (.ref f) = true) (hb : Binds X.K fd ps ds) (hd : Vals dvs ds)
    (ha : MA X g B S es dvs args m M) (hrest : ∀ r, MB X g B J (S.set i (some (.ow (oP u0 (or r))))) rest (fn r) K) (hS : S[i]? = some (some (.ow (oP u0 o0))) := by rfl) (hN : X.N[i]? = some x := by rfl) (hv : Vis X.env.scope x := by first | exact Or.inl rfl | exact Or.inr (Or.inl rfl) | exact Or.inr (Or.inr rfl))
    (hout : ∀ r, outs r = [(0, or r)] := by intro _; rfl) (harg : ∀ a, (args a).all RK.isIm = true := by intro _; rfl) (hg : Gl X cn := by rfl) (hdb : (cn == ("__debug__" : Str)) = false := by decide)
    (hdx : (x == ("__debug__" : Str)) = false := by decide) (hcd : (x == ("__classdict__" : Str)) = false := by decide)
    (hst : starEach (.Name x p :: es) X.env = (false, eval (.Name x p) X.env) :: starEach es X.env := by rfl) (hpl : (backTo cpos (starEach es X.env)).any (·.1) = false := by rfl)
    (ht : eval (.Call (.Attribute (.Name cn p2) mn apos) (.Name x p :: es) [] cpos) X.env = (do
      let ov ← eval (.Name cn p2) X.env
      standAt apos.atName
      let (f, first) ← holding [ov] (getMethod ov mn pl)
      callWith cpos f first (backTo cpos (starEach (.Name x p :: es) X.env)) (backToKw cpos (keywordEach [] X.env))) := by rfl)
    (hs : swapsWith (.Call (.Attribute (.Name cn p2) mn apos) (.Name x p :: es) [] cpos) none pos.line X.env = pure false := by rfl) :
    MB X g B J S (.Expr (.Call (.Attribute (.Name cn p2) mn apos) (.Name x p :: es) [] cpos) pos :: rest) (m >>= fn) K := by
  refine ⟨fun r' q => ?_⟩
  obtain ⟨b, q1, q2⟩ := bind_some q
  refine pss_imp (pss_cons (ps_expr (pe_clsFn (pl := pl) (pe_glob (v := .ref C) hg hm rfl hdb) r c hk F (hr.mono hj) hb hd pass0 (pa_cons (pe_var hN hv hdx hcd) (ha.run b q1) hst) hst hpl ht) hs) ((hrest b).run r' q2)) fun D σ H ⟨I, ok, kk⟩ => ?_
  obtain ⟨x0, oj, Φ, hh⟩ := ok
  obtain ⟨v, e1, e2, e3⟩ := hh.at_ i _ hS
  refine ⟨rfl, v, e1, I, ⟨Φ, hh⟩, fun a vs I1 H1 hM x1 hA => ?_⟩
  have hh1 := hh.ext x1
  obtain ⟨sR, hAF⟩ := io_pre (i := i) (o0 := o0) (v := v) hh1 (OR.mono _ x1.i e3) hA (harg a)
  refine ⟨I1, Rest H1 (Φ i), f0 (Φ i), a, b, x1.s, sR, ⟨hh1.tb.t, fun p hp => ?_, hh1.tb.i⟩, hAF, hM, fun w I2 H2 F2 Φ2 hp => ?_⟩
  · rw [rest_of (hh1.noT i p hp)]
    exact hh1.tb.t.ne hp
  rw [hout b] at hp
  obtain ⟨y1, y2, Φ3, y3, _⟩ := io_post (op := oP u0 (or b)) (x0.trans x1) (oj.trans x1.i) hh1 e1 rfl hp (fun F' z => ⟨e2, z⟩)
  exact ⟨I2, ⟨y1, y2, Φ3, y3⟩, kk⟩
end
end T
set_option Elab.async false
set_option linter.all false
set_option maxRecDepth 100000
namespace T
variable [TabsC]
open PySem PySem.Spec PyProof.Rows L2 C8
theorem rIns_at {g : Gb} {c : Str} {names : List Str} {rs : List PR} {C : Addr} (hC : g.mg c = some (.ref C)) (I : Hp) (v : V) (h : (rIns g c names rs).p I v) : ∃ a dx fs, v = .ref a ∧ I a = some (.ins C dx fs) := by
  obtain ⟨l, C', dx, vs, rfl, h1, h2, h3, h4⟩ := h
  rw [h1] at hC
  cases hC
  exact ⟨l, dx, _, rfl, h2⟩
theorem rIns_nz {g : Gb} {c : Str} {names : List Str} {rs : List PR} {I : Hp} {v : V} (h : (rIns g c names rs).p I v) : v ≠ .non := by
  obtain ⟨l, _, _, _, rfl, _⟩ := h
  exact fun z => by cases z
section
variable {X : Cx} {g : Gb} {B : Bs} {S : SL} {e : Expr} {pos p p2 : Pos} {δ : Type} [Py δ] {cn : Str} {C : Addr} {m : Option δ}
theorem me_isiC (hm0 : X.mg "isinstance" = none) (h : ME X g B S e m (KI g)) (hm : X.mg cn = some (.ref C)) (ic : InsC X.K C) (hi : ∀ (d : δ) I v, (Py.r g d).p I v → ∃ a dx fs, v = .ref a ∧ I a = some (.ins C dx fs)) (hg : Gl X "isinstance" := by rfl) (hg2 : Gl X cn := by rfl) (hd : (cn == ("__debug__" : Str)) = false := by decide)
    (he : starEach [e, .Name cn p2] X.env = (false, eval e X.env) :: starEach [.Name cn p2] X.env := by rfl) (he2 : starEach [.Name cn p2] X.env = (false, eval (.Name cn p2) X.env) :: starEach [] X.env := by rfl) (hpl : (backTo pos (starEach [.Name cn p2] X.env)).any (·.1) = false := by rfl) :
    ME X g B S (.Call (.Name "isinstance" p) [e, .Name cn p2] [] pos) (m >>= fun _ => some true) (KI g) := by
  refine ⟨fun n q => ?_⟩
  obtain ⟨a, q1, q2⟩ := bind_some q
  cases q2
  refine pe_imp (pe_callB (call_isC ic) hg hm0 (by decide +kernel) (pa_cons (h.run a q1) (pa_cons (pe_glob (v := .ref C) hg2 hm rfl hd) pa_nil he2) he) (he := he) (hpl := hpl)) fun σ H Q ⟨I, hh, kk⟩ => ⟨I, hh, fun v I' H' x hv => ?_⟩
  obtain ⟨b, dx, fs, rfl, h1⟩ := hi a I' v hv
  exact ⟨b, dx, fs, rfl, x.s _ _ h1, kk _ I' H' x rfl⟩
end
/-! lists changed by their methods -/
section
variable {X : Cx} {g : Gb} {B : Bs} {J : Hp} {S : SL} {e e1 e2 e3 tg : Expr} {es : List Expr} {pos pos' p apos cpos : Pos} {o ι : Type} {K : KT o} {rest : List Stmt} {α β : Type} [Py α] [Py β] {m : Option ι} {mk : ι → OR → OR} {i : Nat}
/-- place.m() of a list -/
theorem mb_m0P {as : ι → List α} {fm : List α → Option (List α)} {f : ι → List α → Option o} {name : Str} {id : String} {r : V → List V → Hp → VK → Prop} (pa : PlainAttrs "list") (slot : Slot "list" name id) (hty : typeOf (.builtin id) = pure (.type "method_descriptor")) (hm : MtR X id r)
    (hr : ∀ (xs bs : List α), fm xs = some bs → ∀ (I : Hp) (vs : List V), (rl g xs).p I vs → ∃ ws, (rl g bs).p I ws ∧ ∀ (l : Addr) (H : Hp) (Q : VK), H l = some (.lst vs) → (∀ u, Q u (upd H l (.lst ws))) → r (.ref l) [] H Q)
    (h : MP X g B S i e m (fun x => oF (rl g (as x))) mk) (hb : ∀ x bs, MB X g B J (S.set i (some (.ow (mk x (oF (rl g bs)))))) rest (f x bs) K)
    (hs : swapsWith (.Call (.Attribute e name apos) [] [] cpos) none pos.line X.env = pure false := by rfl) (hbase : attributeBase e name X.env (eval e X.env) = eval e X.env := by rfl) (hline : (apos.endLine == cpos.line) = true := by rfl) :
    MB X g B J S (.Expr (.Call (.Attribute e name apos) [] [] cpos) pos :: rest) (m >>= fun x => fm (as x) >>= fun bs => f x bs) K := by
  refine ⟨fun r' q => ?_⟩
  obtain ⟨x, q1, q⟩ := bind_some q
  obtain ⟨bs, q3, q4⟩ := bind_some q
  refine pss_imp (pss_cons (ps_expr (pe_bm0 pa slot hty hm (h.run x q1) hbase hline) hs) ((hb x bs).run r' q4)) fun D σ H ⟨I, ok, kk⟩ => ?_
  obtain ⟨x0, oj, Φ, hh⟩ := ok
  refine ⟨I, Φ, hh, fun v1 I1 H1 x1 ⟨v, e1, fc⟩ => ?_⟩
  obtain ⟨l, vs, rfl, hl, hq, put⟩ := foc_leaf fc
  have h1 := x1.h.get _ _ (hh.fr i l _ hl).1
  obtain ⟨ws, w1, w2⟩ := hr _ _ q3 I1 vs hq
  refine ⟨.inl ⟨rfl, _, SqL.of h1⟩, w2 l H1 _ h1 fun u => ⟨I1, ?_, kk⟩⟩
  exact HoldF.store (x0.trans x1) (oj.trans x1.i) (hh.ext x1) e1 hl (F' := fun _ => none) (fun _ _ z => by cases z) (fun a z => absurd rfl z) (put (rl g bs) ws I1 (Same.refl _) w1)
theorem mb_clearP {as : ι → List α} {f : ι → List α → Option o} (h : MP X g B S i e m (fun x => oF (rl g (as x))) mk) (hb : ∀ x bs, MB X g B J (S.set i (some (.ow (mk x (oF (rl g bs)))))) rest (f x bs) K)
    (hs : swapsWith (.Call (.Attribute e "clear" apos) [] [] cpos) none pos.line X.env = pure false := by rfl) (hbase : attributeBase e "clear" X.env (eval e X.env) = eval e X.env := by rfl) (hline : (apos.endLine == cpos.line) = true := by rfl) :
    MB X g B J S (.Expr (.Call (.Attribute e "clear" apos) [] [] cpos) pos :: rest) (m >>= fun x => some ([] : List α) >>= fun bs => f x bs) K :=
  mb_m0P (fm := fun _ => some []) PySem.F.plainAttrs_list PySem.F.slot_list_clear PySem.F.type_list_clear mt_clear (fun xs bs q I vs h => by
    cases q
    exact ⟨[], ⟨Nat.zero_le _, .nil⟩, fun l H Q hl hQ => ⟨l, vs, rfl, rfl, hl, hQ _⟩⟩) h hb hs hbase hline
theorem mb_revP {as : ι → List α} {f : ι → List α → Option o} (h : MP X g B S i e m (fun x => oF (rl g (as x))) mk) (hb : ∀ x bs, MB X g B J (S.set i (some (.ow (mk x (oF (rl g bs)))))) rest (f x bs) K)
    (hs : swapsWith (.Call (.Attribute e "reverse" apos) [] [] cpos) none pos.line X.env = pure false := by rfl) (hbase : attributeBase e "reverse" X.env (eval e X.env) = eval e X.env := by rfl) (hline : (apos.endLine == cpos.line) = true := by rfl) :
    MB X g B J S (.Expr (.Call (.Attribute e "reverse" apos) [] [] cpos) pos :: rest) (m >>= fun x => some (as x).reverse >>= fun bs => f x bs) K :=
  mb_m0P (fm := fun xs => some xs.reverse) PySem.F.plainAttrs_list PySem.F.slot_list_reverse PySem.F.type_list_reverse mt_reverse (fun xs bs q I vs h => by
    cases q
    exact ⟨vs.reverse, ⟨by rw [List.length_reverse]; exact h.1, paired_rev h.2⟩, fun l H Q hl hQ => ⟨l, vs, rfl, rfl, hl, hQ _⟩⟩) h hb hs hbase hline
@[irreducible] def popO {α : Type} (xs : List α) : Option (List α) := if xs.isEmpty = true then none else some xs.dropLast
theorem paired_dropLast {α β : Type} {F : α → β → Prop} {a : List α} {b : List β} (h : Paired F a b) : Paired F a.dropLast b.dropLast := by
  rw [List.dropLast_eq_take, List.dropLast_eq_take, Paired.length h]
  exact paired_take _ h
theorem mb_popP {as : ι → List α} {f : ι → List α → Option o} (h : MP X g B S i e m (fun x => oF (rl g (as x))) mk) (hb : ∀ x bs, MB X g B J (S.set i (some (.ow (mk x (oF (rl g bs)))))) rest (f x bs) K)
    (hs : swapsWith (.Call (.Attribute e "pop" apos) [] [] cpos) none pos.line X.env = pure false := by rfl) (hbase : attributeBase e "pop" X.env (eval e X.env) = eval e X.env := by rfl) (hline : (apos.endLine == cpos.line) = true := by rfl) :
    MB X g B J S (.Expr (.Call (.Attribute e "pop" apos) [] [] cpos) pos :: rest) (m >>= fun x => popO (as x) >>= fun bs => f x bs) K :=
  mb_m0P (fm := popO) PySem.F.plainAttrs_list PySem.F.slot_list_pop PySem.F.type_list_pop mt_pop (fun xs bs q I vs h => by
    unfold popO at q
    by_cases hz : xs.isEmpty = true
    · rw [if_pos hz] at q; cases q
    · rw [if_neg hz] at q
      cases q
      have hl := rl_len h
      have hx : 0 < vs.length := by
        cases xs with
        | nil => exact absurd rfl hz
        | cons _ _ => rw [hl]; simp
      exact ⟨vs.dropLast, ⟨by rw [List.length_dropLast]; exact Nat.le_trans (Nat.sub_le _ _) h.1, paired_dropLast h.2⟩, fun l H Q hl hQ => ⟨l, vs, vs[vs.length - 1], rfl, rfl, hl, List.getElem?_eq_getElem (by omega), hQ _⟩⟩) h hb hs hbase hline
/-- place.insert(e1, e2) -/
@[irreducible] def insO {α : Type} (xs : List α) (n : Int) (x : α) : Option (List α) := if decide (0 ≤ n ∧ n < 1000000000 ∧ xs.length < sizeLine) = true then some (xs.take n.toNat ++ [x] ++ xs.drop n.toNat) else none
theorem mb_insP {as : ι → List α} {m1 : Option Int} {m2 : Option α} {f : ι → List α → Option o} (h : MP X g B S i e m (fun x => oF (rl g (as x))) mk) (h1 : ME X g B S e1 m1 (KI g)) (he : ME X g B S e2 m2 (KI g)) (hb : ∀ x bs, MB X g B J (S.set i (some (.ow (mk x (oF (rl g bs)))))) rest (f x bs) K)
    (hs : swapsWith (.Call (.Attribute e "insert" apos) [e1, e2] [] cpos) none pos.line X.env = pure false := by rfl) (hst : starEach [e1, e2] X.env = (false, eval e1 X.env) :: starEach [e2] X.env := by rfl) (hst2 : starEach [e2] X.env = (false, eval e2 X.env) :: starEach [] X.env := by rfl)
    (hbase : attributeBase e "insert" X.env (eval e X.env) = eval e X.env := by rfl)
    (hfew : ((backTo cpos (starEach [e1, e2] X.env)).all (fun x => !x.1) && (backToKw cpos (keywordEach [] X.env)).all (fun x => x.1.isSome) && decide ([e1, e2].length + ([] : List Keyword).length + (if ([] : List Keyword).isEmpty then 0 else 1) < 30)) = true := by rfl)
    (hline : (apos.endLine == cpos.line) = true := by rfl) (hplain : (backTo cpos (starEach [e2] X.env)).any (·.1) = false := by rfl) :
    MB X g B J S (.Expr (.Call (.Attribute e "insert" apos) [e1, e2] [] cpos) pos :: rest) (m >>= fun x => m1 >>= fun n => m2 >>= fun a => insO (as x) n a >>= fun bs => f x bs) K := by
  refine ⟨fun r q => ?_⟩
  obtain ⟨x, q1, q⟩ := bind_some q
  obtain ⟨n, qn, q⟩ := bind_some q
  obtain ⟨a, q2, q⟩ := bind_some q
  obtain ⟨bs, q3, q4⟩ := bind_some q
  unfold insO at q3
  by_cases hz : decide (0 ≤ n ∧ n < 1000000000 ∧ (as x).length < sizeLine) = true
  · rw [if_pos hz] at q3
    cases q3
    obtain ⟨z0, z1, z2⟩ := of_decide_eq_true hz
    refine pss_imp (pss_cons (ps_expr (pe_bm PySem.F.plainAttrs_list PySem.F.slot_list_insert PySem.F.type_list_insert mt_insert (h.run x q1) (pa_cons (h1.run n qn) (pa_cons (he.run a q2) pa_nil hst2) hst) hbase hfew hline hst hplain) hs) ((hb x _).run r q4)) fun D σ H ⟨I, ok, kk⟩ => ?_
    obtain ⟨x0, oj, Φ, hh⟩ := ok
    refine ⟨I, Φ, hh, fun v1 I1 H1 x1 ⟨v, e1, fc⟩ => ?_⟩
    obtain ⟨l, vs, rfl, hl, hq, put⟩ := foc_leaf fc
    have h1 := x1.h.get _ _ (hh.fr i l _ hl).1
    refine ⟨.inl ⟨rfl, _, SqL.of h1⟩, I1, ⟨Φ, hh.ext x1⟩, fun w I2 H2 x2 hw => ⟨I2, ⟨Φ, (hh.ext x1).ext x2⟩, fun y I3 H3 x3 hy => ⟨l, vs, n, y, rfl, by cases hw; rfl, x3.h.get _ _ (x2.h.get _ _ h1), by rw [rl_len hq]; exact z2, z0, by omega, I3, ?_, kk⟩⟩⟩
    have x13 := (x1.trans x2).trans x3
    have hq3 := ((rl g (as x)).mono (x2.i.trans x3.i) hq).2
    refine HoldF.store (x0.trans x13) (oj.trans x13.i) (hh.ext x13) e1 hl (F' := fun _ => none) (fun _ _ z => by cases z) (fun a z => absurd rfl z) (put (rl g _) _ I3 (x2.i.trans x3.i) ⟨?_, paired_app (paired_app (paired_take _ hq3) (.cons hy .nil)) (paired_drop _ hq3)⟩)
    simp only [List.length_append, List.length_take, List.length_drop, List.length_singleton]
    omega
  · rw [if_neg hz] at q3
    cases q3
/-- list(reversed(xs)) -/
theorem walk_rev {as : List α} {a : Addr} {vs : List V} {I1 : Hp} (hL : SqL g.K I1 a vs ∨ SqL g.K B.H a vs) (hR : (rl g as).p I1 vs) : WalkI g B (Itv g.K a vs.length) as.reverse I1 where
  go := fun i x I2 H2 e s1 s2 s3 => by
    have hi : i < as.reverse.length := (List.getElem?_eq_some_iff.mp e).1
    rw [List.length_reverse] at hi
    have hl := rl_len hR
    have hlt : vs.length - 1 - i < vs.length := by omega
    exact ⟨by omega, vs, vs[vs.length - 1 - i], sq_now hL s1 s2 s3, List.getElem?_eq_getElem hlt⟩
  yl := fun i x I2 H2 v H' e s1 s2 s3 y => by
    have hi : i < as.reverse.length := (List.getElem?_eq_some_iff.mp e).1
    rw [List.length_reverse] at hi
    have hl := rl_len hR
    obtain ⟨rfl, y⟩ := y
    have e3 := y vs (sq_now hL s1 s2 s3)
    rw [List.getElem?_reverse hi] at e
    rw [hl] at e3
    obtain ⟨u, e4, q⟩ := paired_get hR.2 e
    rw [e4] at e3
    cases e3
    exact ⟨I2, Ext.refl s2, (Py.r g x).mono s1 q⟩
  st := fun I2 H2 s1 s2 s3 => by
    show vs.length ≤ as.reverse.length
    rw [List.length_reverse, rl_len hR]; exact Nat.le_refl _
  len := by rw [List.length_reverse]; exact hR.1
theorem mi_rev {m : Option (List α)} (hm : X.mg "reversed" = none) (h : MSt X g B S e m) (hg : Gl X "reversed" := by rfl) (hK : X.K = g.K := by rfl) (hs : starEach [e] X.env = [(false, eval e X.env)] := by rfl) : MI X g B S tg (.Call (.Name "reversed" p) [e] [] pos) (m >>= fun as => some as.reverse) := by
  refine ⟨fun as q => ?_⟩
  obtain ⟨xs, q1, q2⟩ := bind_some q
  cases q2
  refine pi_imp (pi_reversed hg hm (pa_cons (h.run xs q1) pa_nil hs) hs) fun σ H R ⟨I, hh, k⟩ => ⟨I, hh, fun l vs I' H' x h1 h2 => ?_⟩
  rw [hK]
  exact ⟨l, vs, rfl, sq_now h1 (Same.refl _) x.s (hh.base.trans x.h), k _ I' H' x (walk_rev h1 h2)⟩
end
end T
set_option Elab.async false
set_option linter.all false
set_option maxRecDepth 100000
namespace T
variable [TabsC]
open PySem PySem.Spec PyProof.Rows L2
theorem MA.eqm {ι o : Type} {X : Cx} {g : Gb} {B : Bs} {S : SL} {es : List Expr} {dvs : List V} {args : ι → List RK} {m m' : Option o} {M : ι → Option o} (h : MA X g B S es dvs args m M) (e : m = m') : MA X g B S es dvs args m' M := e ▸ h
section
variable {o : Type} {X : Cx} {g : Gb} {B : Bs} {J : Hp} {S : SL} {sts : List Stmt} {m : Option o} {K : KT o}
/-- an owned thing that is a list alone, as an own list -/
theorem mb_unow {α : Type} [Py α] (i : Nat) {as : List α} (hS : S[i]? = some (some (.ow (oF (rl g as))))) (hb : MB X g B J (S.set i (some (.fr (rl g as)))) sts m K) : MB X g B J S sts m K := by
  refine ⟨fun r q => pss_imp (hb.run r q) fun D σ H ⟨I, ok, kk⟩ => ⟨I, ⟨ok.x, ok.j, ?_⟩, kk⟩⟩
  obtain ⟨Φ, h⟩ := ok.h
  refine ⟨Φ, by rw [h.len, List.length_set], h.sub, h.base, h.tb, fun j k e => ?_, h.fr, h.dj⟩
  by_cases hj : i = j
  · subst hj
    have hl : i < S.length := by
      rcases Nat.lt_or_ge i S.length with z | z
      · exact z
      · rw [List.getElem?_eq_none z] at hS; cases hS
    rw [List.getElem?_set_self hl] at e
    cases e
    obtain ⟨v, e1, e2⟩ := h.at_ i _ hS
    exact ⟨v, e1, e2⟩
  · rw [List.getElem?_set_ne hj] at e
    exact h.at_ j k e
end
end T
set_option Elab.async false
set_option linter.all false
set_option maxRecDepth 100000
/-! list(reversed(list)) -/
namespace RL
open PySem PySem.Spec PyProof.Rows RT
section
variable {prog : Program} {w : World} {A : Around} {E : Value → Shared → Prop} {s : Shared}
theorem wpAny_extend_rev {R : Result → Shared → Prop} {it l : Addr} {items : Array Value} (hh : A.handled = none) (hit : s.heap.IsRevIter it l ((items.size : Int) - 1)) (hl : s.heap.IsList l items) (hne : l ≠ it) (hn : items.size ≤ sizeLine)
    (S : Addr) (hSl : S ≠ l) (hSi : S ≠ it) (res : Value) (c₀ : Nat) (hS : s.heap.get? S = some { cls := .type "list", data := .seq #[] c₀ })
    (hR : ∀ h' tk acc' c', (∀ b o, b ≠ S → b ≠ it → s.heap.get? b = some o → h'.get? b = some o) → h'.get? S = some { cls := .type "list", dict := none, data := .seq acc' c', slots := #[] } →
      ItemsOf (fun i v => items[items.size - 1 - i]? = some v) acc' items.size → R (.ok (.ret res)) { s with heap := h', toks := tk }) :
    wpAny (model prog w) A.in1 (Builtin.List.listExtendWith (.ref S) (.ref it) res)
      (fun fin s' => match fin with | .done f => R (.ok f) s' | .again c' => c'.quiet = true ∧ codeAny (model prog w) A c' R s') (fun e s' => R (.error e) s') s := by
  have W := (Walks.listRev (prog := prog) (w := w) (A := A.in1) hh it l hne items).toS
  have hSf : S ∉ [it, l] := by simp only [List.mem_cons, List.not_mem_nil, or_false, not_or]; exact ⟨hSi, hSl⟩
  have hT : s.TypeIs (.ref it) "list_reverseiterator" := Heap.IsRevIter.typeIs hit
  have h1 : Builtin.List.listSameRef (.ref S) (.ref it) = false := by simp [Builtin.List.listSameRef, hSi]
  unfold Builtin.List.listExtendWith
  refine wpAny_bind (wpAny_typeOf hT ?_)
  rw [if_neg (by rw [h1]; decide)]
  refine wpAny_bind (wpAny_pyIter_revIter hit ?_)
  refine wpAny_bind (wpAny_holding ?_)
  unfold Builtin.List.listLengthHint
  refine wpAny_bind (wpAny_specialOf hT nolen_lri ?_)
  show wpAny _ A.in1 (specialOf (Value.ref it) (Str.ofString "__length_hint__") >>= _) _ _ _
  refine wpAny_bind (wpAny_specialOf hT hint_lri ?_)
  generalize hid : ("list_reverseiterator.__length_hint__" : String) = id0
  wp_delta
  rw [show splitId id0 = some ("list_reverseiterator", "__length_hint__") from by subst hid; decide +kernel]
  subst hid
  refine wpAny_bind (wpAny_isInstance (b := true) hT (by rw [isSubtype_type]; kernel_rfl) ?_)
  refine wpAny_pure ?_
  rw [if_neg (by decide)]
  have e0 : ((items.size : Nat) : Int) - 1 - ((0 : Nat) : Int) = (items.size : Int) - 1 := by omega
  refine wpAny_pure ⟨plainId_quiet F.plain_extend_loop _, codeAny_extend_loopS W hn S hSf res items.size 0 _ _ _ rfl (Nat.zero_le _) ⟨Nat.zero_le _, by rw [e0]; exact hit, hl⟩ hS (ItemsOf.nil _) fun s' acc' c' hm hS' hacc => ?_⟩
  rw [Moved.eq_with hm]
  refine hR s'.heap s'.toks acc' c' (fun b o hb hb2 e => hm.heap b o (fun hmem => ?_) e) hS' hacc
  rcases List.mem_cons.mp hmem with e' | hmem
  · exact hb e'
  · exact hb2 (List.mem_singleton.mp hmem)
theorem call_list_rev {it l : Addr} {items : Array Value} {Q : Value → Shared → Prop} (hh : A.handled = none) (hit : s.heap.IsRevIter it l ((items.size : Int) - 1)) (hl : s.heap.IsList l items) (hne : l ≠ it) (hn : items.size ≤ sizeLine)
    (hQ : ∀ h' tk acc' c', (∀ b o, b ≠ it → s.heap.get? b = some o → h'.get? b = some o) → h'.get? s.heap.objs.size = some { cls := .type "list", dict := none, data := .seq acc' c', slots := #[] } →
      ItemsOf (fun i v => items[items.size - 1 - i]? = some v) acc' items.size → Q (.ref s.heap.objs.size) { s with heap := h', toks := tk }) :
    wpAny (model prog w) A (call (.type "list") [.ref it]) Q E s := by
  refine callType_codes (Q₁ := fun obj s₁ => obj = .ref s.heap.objs.size ∧ s₁ = { s with heap := s.heap.push { cls := .type "list", data := .seq #[] } }) F.called_list (F.typeCall_list_1 _) F.entry_list_init
    (code_list_new _ ⟨rfl, rfl⟩) fun obj s₁ h₁ => ?_
  obtain ⟨rfl, rfl⟩ := h₁
  obtain ⟨oi, hoi, _⟩ := id hit
  obtain ⟨ol, hol, _⟩ := id hl
  have hSi : s.heap.objs.size ≠ it := Nat.ne_of_gt (Heap.lt_size hoi)
  have hSl : s.heap.objs.size ≠ l := Nat.ne_of_gt (Heap.lt_size hol)
  have hS : (s.heap.push { cls := .type "list", data := .seq #[] }).get? s.heap.objs.size = some { cls := .type "list", data := .seq #[] } := Heap.get?_push_size _ rfl
  have oth : ∀ b o, b ≠ s.heap.objs.size → (s.heap.push { cls := .type "list", data := .seq #[] }).get? b = some o → ((s.heap.push { cls := .type "list", data := .seq #[] }).update s.heap.objs.size (Obj.mapSeq (fun _ => (#[] : Array Value)))).get? b = some o :=
    fun b o hb e => (Heap.get?_update_other _ _ (Ne.symm hb)).trans e
  refine ⟨⟨_, hS, rfl⟩, F.args_list_init_2 _ _, ?_⟩
  show wpAny _ _ (do let old ← Builtin.List.listItems (.ref s.heap.objs.size); Builtin.List.listUpdate (.ref s.heap.objs.size) (fun _ => #[]); letGo old.toList.reverse; Builtin.List.listExtendWith (.ref s.heap.objs.size) (.ref it) .none) _ _ _
  refine wpAny_bind ?_
  unfold Builtin.List.listItems
  refine wpAny_bind (wpAny_seqItems hS rfl (wpAny_pure ?_))
  show wpAny _ _ (updateSeq s.heap.objs.size (fun _ => #[]) >>= fun _ => letGo (#[] : Array Value).toList.reverse >>= fun _ => Builtin.List.listExtendWith (.ref s.heap.objs.size) (.ref it) .none) _ _ _
  refine wpAny_bind (wpAny_updateSeq hS rfl ?_)
  have hS₂ := Heap.get?_update_self (Obj.mapSeq (fun _ => (#[] : Array Value))) hS rfl
  refine wpAny_bind (wpAny_letGo ?_)
  have hit2 : ((s.heap.push { cls := .type "list", data := .seq #[] }).update s.heap.objs.size (Obj.mapSeq (fun _ => (#[] : Array Value)))).IsRevIter it l ((items.size : Int) - 1) := hit.at fun o e => oth _ _ (Ne.symm hSi) (Heap.get?_push_of_some _ e)
  have hl2 : ((s.heap.push { cls := .type "list", data := .seq #[] }).update s.heap.objs.size (Obj.mapSeq (fun _ => (#[] : Array Value)))).IsList l items := (hl.push _).at fun o e => oth _ _ (Ne.symm hSl) e
  refine wpAny_extend_rev (A := A.in1) hh hit2 hl2 hne hn s.heap.objs.size hSl hSi .none _ hS₂ fun h' tk acc' c' hk hS' hacc => ?_
  exact ⟨rfl, hQ h' tk acc' c' (fun b o hb e => hk b o (Nat.ne_of_lt (Heap.lt_size e)) hb (oth b o (Nat.ne_of_lt (Heap.lt_size e)) (Heap.get?_push_of_some _ e))) hS' hacc⟩
end
section
open L2
variable {X : Cx}
def tListRev (K : PySem.W.Frag) (te : TE) : TE := fun σ H Q => te σ H fun v H1 => ∃ (a : Addr) (xs : List V), v = .ref a ∧ SqL K H1 a xs ∧ ∀ q, H1 q = none → Q (.ref q) (upd H1 q (.lst xs.reverse))
theorem pe_listRev {e : Expr} {te : TE} {p p2 pos pos2 : Pos} (hc : X.calm = true) (hg : Gl X "list") (hm : X.mg "list" = none) (hg2 : Gl X "reversed") (hm2 : X.mg "reversed" = none) (he : PE X e te)
    (hs : starEach [e] X.env = (false, eval e X.env) :: starEach [] X.env := by rfl)
    (hs2 : starEach [.Call (.Name "reversed" p2) [e] [] pos2] X.env = (false, eval (.Call (.Name "reversed" p2) [e] [] pos2) X.env) :: starEach [] X.env := by rfl) :
    PE X (.Call (.Name "list" p) [.Call (.Name "reversed" p2) [e] [] pos2] [] pos) (tListRev X.K te) := by
  refine ⟨fun pins s σ H Q I h => ?_⟩
  refine Call_ (ld_blt I hg hm boot_list (PyProof.Rows.callWith_type1 (args_cons (Call_ (ld_blt I hg2 hm2 PyProof.Rows.boot_reversed (PyProof.Rows.callWith_type1 (args_cons (thn (he.run pins s σ H _ I h) fun u s1 ⟨v, H1, I1, r1, q1⟩ => args_nil ?_) hs) hs rfl))) hs2) hs2 rfl))
  obtain ⟨a, xs, ev, hq, q⟩ := q1
  subst ev
  obtain rfl : u = Value.ref a := r1
  obtain ⟨its, rv, p', hz⟩ := I1.list hq
  refine call_reversed_list p'.isList (args_nil ?_)
  have k0 : ∀ b o, s1.heap.get? b = some o → (s1.heap.push (revObj a ((its.toArray.size : Int) - 1))).get? b = some o := fun b o e => Heap.get?_push_of_some _ e
  have I2 : Inv X pins σ H1 { s1 with heap := s1.heap.push (revObj a ((its.toArray.size : Int) - 1)) } := I1.kept (t' := s1.toks) k0
  obtain ⟨f0, f1, f2, f3, f4, f5⟩ := I1.fpOk (H' := H1) (b := s1.heap.objs.size) (Nat.le_refl _) (I1.hok.fresh (Nat.le_refl _))
  have hl := p'.isList
  obtain ⟨ol, hol, _⟩ := id hl
  have hne : a ≠ s1.heap.objs.size := Nat.ne_of_lt (Heap.lt_size hol)
  have hn : its.toArray.size ≤ sizeLine := by rw [List.size_toArray, ← rv.length]; exact hz
  have hfr := I2.hok.fresh (Nat.le_refl (s1.heap.push (revObj a ((its.toArray.size : Int) - 1))).objs.size)
  refine call_list_rev (s := { s1 with heap := s1.heap.push (revObj a ((its.toArray.size : Int) - 1)) }) (I1.ok.hd hc) ⟨_, Heap.get?_push_size _ rfl, rfl, rfl⟩ (hl.push _) hne hn fun h' tk acc c' hk hS' hi => ?_
  have hsz : s1.heap.objs.size ≤ (s1.heap.push (revObj a ((its.toArray.size : Int) - 1))).objs.size := by rw [Heap.size_push]; exact Nat.le_succ _
  refine ⟨.ref (s1.heap.push (revObj a ((its.toArray.size : Int) - 1))).objs.size, upd H1 (s1.heap.push (revObj a ((its.toArray.size : Int) - 1))).objs.size (.lst xs.reverse), I1.laid (t' := tk) (fun b o e => hk b o (Nat.ne_of_lt (Heap.lt_size e)) (k0 b o e)) hsz (show ObjOk X.prog X.w _ _ _ (.lst xs.reverse) from ⟨by rw [List.length_reverse]; exact hz, acc.toList, c', vals_rev rv hi, ?_⟩), rfl, q _ (I1.hok.fresh hsz)⟩
  rw [Array.toArray_toList]
  exact hS'
end
end RL
namespace T
variable [TabsC]
open PySem PySem.Spec PyProof.Rows L2
theorem me_lrev {X : Cx} {g : Gb} {B : Bs} {S : SL} {e : Expr} {p p2 pos pos2 : Pos} {α : Type} [Py α] {m : Option (List α)} {k : List α → RK} (hm : X.mg "list" = none) (hm2 : X.mg "reversed" = none) (h : ME X g B S e m k) (r : LR g k := by first | exact lr_im | exact lr_fr | exact lr_rd)
    (hc : X.calm = true := by rfl) (hg : Gl X "list" := by rfl) (hg2 : Gl X "reversed" := by rfl) (hK : X.K = g.K := by rfl)
    (hs : starEach [e] X.env = (false, eval e X.env) :: starEach [] X.env := by rfl)
    (hs2 : starEach [.Call (.Name "reversed" p2) [e] [] pos2] X.env = (false, eval (.Call (.Name "reversed" p2) [e] [] pos2) X.env) :: starEach [] X.env := by rfl) :
    ME X g B S (.Call (.Name "list" p) [.Call (.Name "reversed" p2) [e] [] pos2] [] pos) (m >>= fun xs => some xs.reverse) (fun xs => .fr (rl g xs)) := by
  refine ⟨fun n q => ?_⟩
  obtain ⟨a, q1, q2⟩ := bind_some q
  cases q2
  refine pe_imp (RL.pe_listRev hc hg hm hg2 hm2 (h.run a q1) hs hs2) fun σ H Q ⟨I, hh, kk⟩ => ⟨I, hh, fun v I' H' x hv => ?_⟩
  obtain ⟨l, vs, rfl, h1, h2⟩ := r a _ _ _ _ x.s hv
  refine ⟨l, vs, rfl, by rw [hK]; exact h1, fun q hq => ?_⟩
  refine new_fr x.s ⟨by rw [List.length_reverse]; exact h2.1, ?_⟩ (fun u I2 H2 x2 hu => kk u I2 H2 (x.trans x2) (RK.back rfl x.h hu)) hq
  exact paired_rev h2.2
end T
set_option Elab.async false
set_option linter.all false
set_option maxRecDepth 100000
namespace T
variable [TabsC]
open PySem PySem.Spec PyProof.Rows L2
/-! rows of parts of unlike types: lists and tuples -/
structure HU where
  deriving DecidableEq
structure HC (α β : Type) where
  h : α
  t : β
  deriving DecidableEq
structure HL (β : Type) where
  s : β
  deriving DecidableEq
structure HT (β : Type) where
  s : β
  deriving DecidableEq
class PyS (β : Type) where
  rs : Gb → β → List PR
instance : PyS HU := ⟨fun _ _ => []⟩
instance {α β : Type} [Py α] [PyS β] : PyS (HC α β) := ⟨fun g x => Py.r g x.h :: PyS.rs g x.t⟩
def rHL {β : Type} [PyS β] (g : Gb) (x : β) : PR where
  p := fun I v => ∃ l vs, v = .ref l ∧ SqL g.K I l vs ∧ vs.length ≤ sizeLine ∧ Paired (fun (r : PR) v => r.p I v) (PyS.rs g x) vs
  mono := fun s ⟨l, vs, e, h, z, q⟩ => ⟨l, vs, e, s.seq h, z, L2.Paired.mapP q fun r _ q => r.mono s q⟩
def rHT {β : Type} [PyS β] (g : Gb) (x : β) : PR where
  p := fun I v => ∃ l vs, v = .ref l ∧ SqT g.K I l vs ∧ Paired (fun (r : PR) v => r.p I v) (PyS.rs g x) vs
  mono := fun s ⟨l, vs, e, h, q⟩ => ⟨l, vs, e, seqT s h, L2.Paired.mapP q fun r _ q => r.mono s q⟩
instance {β : Type} [PyS β] : Py (HL β) := ⟨fun g x => rHL g x.s⟩
instance {β : Type} [PyS β] : Py (HT β) := ⟨fun g x => rHT g x.s⟩
instance {β : Type} [PyS β] : Nz (HL β) := ⟨fun h z => by obtain ⟨_, _, rfl, _⟩ := h; cases z⟩
instance {β : Type} [PyS β] : Nz (HT β) := ⟨fun h z => by obtain ⟨_, _, rfl, _⟩ := h; cases z⟩
instance {β : Type} [PyS β] : IsT (HL β) := ⟨"list", fun h => by obtain ⟨_, _, rfl, h, _⟩ := h; exact tyx_sq h⟩
instance {β : Type} [PyS β] : IsT (HT β) := ⟨"tuple", fun h => by obtain ⟨_, _, rfl, h, _⟩ := h; exact tyx_tq h⟩
/-! as data -/
open PySem.W in
class DatS (β : Type) [DecidableEq β] where
  ds : β → List PyData
  plain : ∀ b, PyData.plainAll (ds b) = true
  eqv : ∀ a b, PyData.eqvAll (ds a) (ds b) = decide (a = b)
  depth : Nat
  depth_le : ∀ b, PyData.depthAll (ds b) ≤ depth
open PySem.W in
instance : DatS HU where
  ds := fun _ => []
  plain := fun _ => rfl
  eqv := fun _ _ => rfl
  depth := 0
  depth_le := fun _ => Nat.le_refl _
open PySem.W in
instance {α β : Type} [DecidableEq α] [DecidableEq β] [Datum α] [DatS β] : DatS (HC α β) where
  ds := fun x => Datum.toD x.h :: DatS.ds x.t
  plain := fun x => by
    show (PyData.plain (Datum.toD x.h) && PyData.plainAll (DatS.ds x.t)) = true
    rw [Datum.plain, DatS.plain]; rfl
  eqv := fun a b => by
    obtain ⟨a0, a1⟩ := a
    obtain ⟨b0, b1⟩ := b
    show (PyData.eqv (Datum.toD a0) (Datum.toD b0) && PyData.eqvAll (DatS.ds a1) (DatS.ds b1)) = _
    rw [Datum.eqv, DatS.eqv, Bool.eq_iff_iff]
    simp
  depth := max (Datum.depth α) (DatS.depth β)
  depth_le := fun x => by
    show max (PyData.depth (Datum.toD x.h)) (PyData.depthAll (DatS.ds x.t)) ≤ _
    have h1 := Datum.depth_le x.h
    have h2 := DatS.depth_le x.t
    omega
open PySem.W in
instance {β : Type} [DecidableEq β] [DatS β] : Datum (HL β) where
  toD := fun x => .list (DatS.ds x.s)
  plain := fun x => DatS.plain x.s
  eqv := fun a b => by
    obtain ⟨a⟩ := a
    obtain ⟨b⟩ := b
    show PyData.eqvAll (DatS.ds a) (DatS.ds b) = _
    rw [DatS.eqv, Bool.eq_iff_iff]
    simp
  depth := DatS.depth β + 1
  depth_le := fun x => by
    have h := DatS.depth_le x.s
    simp only [PyData.depth]
    omega
open PySem.W in
instance {β : Type} [DecidableEq β] [DatS β] : Datum (HT β) where
  toD := fun x => .tuple (DatS.ds x.s)
  plain := fun x => DatS.plain x.s
  eqv := fun a b => by
    obtain ⟨a⟩ := a
    obtain ⟨b⟩ := b
    show PyData.eqvAll (DatS.ds a) (DatS.ds b) = _
    rw [DatS.eqv, Bool.eq_iff_iff]
    simp
  depth := DatS.depth β + 1
  depth_le := fun x => by
    have h := DatS.depth_le x.s
    simp only [PyData.depth]
    omega
class PdS (β : Type) [PyS β] [DecidableEq β] extends DatS β where
  dps : ∀ {g : Gb} {b : β} {I : Hp} {vs : List V}, Paired (fun (r : PR) v => r.p I v) (PyS.rs g b) vs → DpAll g.K I vs (ds b)
instance : PdS HU where
  dps := fun h => by cases h; exact .nil
instance {α β : Type} [Py α] [PyS β] [DecidableEq α] [DecidableEq β] [Pd α] [PdS β] : PdS (HC α β) where
  dps := fun h => by
    cases h with
    | cons h t => exact .cons (Pd.dp h) (PdS.dps t)
instance {β : Type} [PyS β] [DecidableEq β] [PdS β] : Pd (HL β) where
  dp := fun h => by
    obtain ⟨l, vs, rfl, h1, _, h2⟩ := h
    exact .lst h1 (PdS.dps h2)
instance {β : Type} [PyS β] [DecidableEq β] [PdS β] : Pd (HT β) where
  dp := fun h => by
    obtain ⟨l, vs, rfl, h1, h2⟩ := h
    exact .tup h1 (PdS.dps h2)
instance {β : Type} [PyS β] [DecidableEq β] [PdS β] : NN (HL β) := ⟨fun _ => ⟨rfl, rfl⟩⟩
instance {β : Type} [PyS β] [DecidableEq β] [PdS β] : NN (HT β) := ⟨fun _ => ⟨rfl, rfl⟩⟩
/-! the parts told -/
structure MLH {β : Type} [PyS β] (X : Cx) (g : Gb) (B : Bs) (S : SL) (es : List Expr) (m : Option β) : Prop where
  run : ∀ b, m = some b → PA X es (fun σ H Q => ∃ I, Hold g B S σ I H ∧ ∀ vs I' H', Ext I H I' H' → Paired (fun (r : PR) v => r.p I' v) (PyS.rs g b) vs → Q vs H') ∧ (PyS.rs g b).length = es.length
section
variable {X : Cx} {g : Gb} {B : Bs} {J : Hp} {S : SL} {e e1 e2 e3 tg : Expr} {es : List Expr} {pos pos' p : Pos} {o : Type} {K : KT o} {rest body : List Stmt} {α β γ δ : Type} [Py α] [PyS β]
theorem mlh_nil : MLH X g B S [] (some HU.mk) := ⟨fun as q => by cases q; exact ⟨pa_imp pa_nil fun σ H Q ⟨I, hh, kk⟩ => kk [] I H (Ext.refl hh.sub) .nil, rfl⟩⟩
theorem mlh_cons {m1 : Option α} {m2 : Option β} (h : ME X g B S e m1 (KI g)) (t : MLH X g B S es m2) (hs : starEach (e :: es) X.env = (false, eval e X.env) :: starEach es X.env := by rfl) : MLH X g B S (e :: es) (m1 >>= fun a => m2 >>= fun b => some (HC.mk a b)) := by
  refine ⟨fun as q => ?_⟩
  obtain ⟨a, q1, q⟩ := bind_some q
  obtain ⟨as', q2, q3⟩ := bind_some q
  cases q3
  obtain ⟨ht, hl⟩ := t.run as' q2
  refine ⟨pa_imp (pa_cons (h.run a q1) ht hs) fun σ H Q ⟨I, hh, kk⟩ => ⟨I, hh, fun v I1 H1 x1 hv => ⟨I1, hh.ext x1, fun vs I2 H2 x2 hvs => ?_⟩⟩, by
    show (Py.r g a :: PyS.rs g as').length = _
    rw [List.length_cons, List.length_cons, hl]⟩
  exact kk (v :: vs) I2 H2 (x1.trans x2) (.cons ((Py.r g a).mono x2.i hv) hvs)
theorem me_hl {m : Option β} (h : MLH X g B S es m) (hz : decide (es.length ≤ 1000) = true := by decide) (hK : X.K = g.K := by rfl) : ME X g B S (.List es pos) (m >>= fun b => some (HL.mk b)) (KI g) := by
  refine ⟨fun as q => ?_⟩
  obtain ⟨b, q1, q2⟩ := bind_some q
  cases q2
  obtain ⟨ha, hl⟩ := h.run b q1
  refine pe_imp (pe_lst ha) fun σ H Q ⟨I, hh, kk⟩ => ⟨I, hh, fun vs I1 H1 x1 hp => ?_⟩
  have hz' : vs.length ≤ sizeLine := by rw [← Paired.length hp, hl]; exact Nat.le_trans (of_decide_eq_true hz) (by decide)
  refine ⟨hz', fun l hl => ?_⟩
  have hI := x1.s.free hl
  have sI : Same I1 (upd I1 l (.lst vs)) := same_new hI
  refine kk _ (upd I1 l (.lst vs)) _ (x1.trans ⟨sI, SW.of (same_new hl), fun a o e => ?_, fun a n1 n2 => ?_⟩) ⟨l, vs, rfl, SqL.of upd_same, hz', L2.Paired.mapP hp fun r _ q => r.mono sI q⟩
  · by_cases ha : a = l
    · subst ha; rw [upd_same] at e ⊢; exact e
    · rw [upd_ne ha] at e ⊢; exact x1.s _ _ e
  · rw [upd_ne (fun z => n1 (by rw [z]; exact hl))]; exact n2
theorem me_ht {m : Option β} {n : Nat} (h : MLH X g B S es m) (hz : decide (es.length ≤ 1000) = true := by decide) (hK : X.K = g.K := by rfl) : ME X g B S (.Tuple es n pos) (m >>= fun b => some (HT.mk b)) (KI g) := by
  refine ⟨fun as q => ?_⟩
  obtain ⟨b, q1, q2⟩ := bind_some q
  cases q2
  obtain ⟨ha, hl⟩ := h.run b q1
  refine pe_imp (pe_tup ha) fun σ H Q ⟨I, hh, kk⟩ => ⟨I, hh, fun vs I1 H1 x1 hp => ?_⟩
  have hz' : vs.length ≤ sizeLine := by rw [← Paired.length hp, hl]; exact Nat.le_trans (of_decide_eq_true hz) (by decide)
  refine ⟨hz', fun l hl => ?_⟩
  have hI := x1.s.free hl
  have sI : Same I1 (upd I1 l (.tup vs)) := same_new hI
  refine kk _ (upd I1 l (.tup vs)) _ (x1.trans ⟨sI, SW.of (same_new hl), fun a o e => ?_, fun a n1 n2 => ?_⟩) ⟨l, vs, rfl, SqT.of upd_same, L2.Paired.mapP hp fun r _ q => r.mono sI q⟩
  · by_cases ha : a = l
    · subst ha; rw [upd_same] at e ⊢; exact e
    · rw [upd_ne ha] at e ⊢; exact x1.s _ _ e
  · rw [upd_ne (fun z => n1 (by rw [z]; exact hl))]; exact n2
/-- an item of such a list at a written place -/
theorem me_hix {m : Option (HL β)} (n : Nat) {j : Nat} {f : β → α} (h1 : ME X g B S e1 m (KI g)) (ht : ∀ t : β, (PyS.rs g t)[n]? = some (Py.r g (f t)) := by intro _; rfl) (hK : X.K = g.K := by rfl) :
    ME X g B S (.Subscript e1 (.Constant (.int n) j pos') pos) (m >>= fun t => some (f t.s)) (KI g) := by
  refine ⟨fun a q => ?_⟩
  obtain ⟨t, q1, q⟩ := bind_some q
  cases q
  refine pe_imp (pe_ix ix_list (h1.run t q1) pe_int (fun _ _ => rfl)) fun σ H Q ⟨I, hh, kk⟩ => ⟨I, hh, fun v I' H' x hv => ?_⟩
  obtain ⟨l, vs, rfl, h3, _, h4⟩ := hv
  obtain ⟨u, e1, e2⟩ := paired_get h4 (ht t.s)
  exact ⟨l, vs, n, u, rfl, rfl, by rw [hK]; exact x.s.seq h3, atI_nat e1, kk u I' H' x e2⟩
theorem me_hixT {m : Option (HT β)} (n : Nat) {j : Nat} {f : β → α} (h1 : ME X g B S e1 m (KI g)) (ht : ∀ t : β, (PyS.rs g t)[n]? = some (Py.r g (f t)) := by intro _; rfl) (hK : X.K = g.K := by rfl) :
    ME X g B S (.Subscript e1 (.Constant (.int n) j pos') pos) (m >>= fun t => some (f t.s)) (KI g) := by
  refine ⟨fun a q => ?_⟩
  obtain ⟨t, q1, q⟩ := bind_some q
  cases q
  refine pe_imp (pe_ix ix_tup (h1.run t q1) pe_int (fun _ _ => rfl)) fun σ H Q ⟨I, hh, kk⟩ => ⟨I, hh, fun v I' H' x hv => ?_⟩
  obtain ⟨l, vs, rfl, h3, h4⟩ := hv
  obtain ⟨u, e1, e2⟩ := paired_get h4 (ht t.s)
  exact ⟨l, vs, n, u, rfl, rfl, by rw [hK]; exact seqT x.s h3, atI_nat e1, kk u I' H' x e2⟩
end
/-! an owned one let go -/
theorem frz_HL {g : Gb} {β : Type} [PyS β] {os : List OR} {x : HL β} (z : Paired Frz os (PyS.rs g x.s)) : Frz (oC wL os) (Py.r g x) := fun I F v hd ⟨l, ob, vs, e, h, ⟨h2, h3⟩, kd⟩ => by
  subst e h2
  exact ⟨l, vs, rfl, SqL.of (un_r h), h3, kids_frz (g := g) hd z kd⟩
theorem frz_HT {g : Gb} {β : Type} [PyS β] {os : List OR} {x : HT β} (z : Paired Frz os (PyS.rs g x.s)) : Frz (oC wT os) (Py.r g x) := fun I F v hd ⟨l, ob, vs, e, h, h2, kd⟩ => by
  subst e
  have h2' : ob = .tup vs := h2
  subst h2'
  exact ⟨l, vs, rfl, SqT.of (un_r h), kids_frz (g := g) hd z kd⟩
/-! owned parts told: each brings a fragment -/
def Owns (os : List OR) (vs : List V) (H I' H' : Hp) : Prop := os.length = vs.length ∧ ∃ Ψ : Nat → Hp, (∀ (j : Nat) (o : OR) (v : V), os[j]? = some o → vs[j]? = some v → o.p I' (Ψ j) v) ∧ (∀ j, Same (Ψ j) H') ∧ (∀ j a, Ψ j a ≠ none → H a = none ∧ I' a = none) ∧ (∀ i j a, Ψ i a ≠ none → Ψ j a ≠ none → i = j)
structure MLO {γ : Type} (X : Cx) (g : Gb) (B : Bs) (S : SL) (es : List Expr) (m : Option γ) (ks : γ → List OR) : Prop where
  run : ∀ c, m = some c → PA X es (fun σ H Q => ∃ I, Hold g B S σ I H ∧ ∀ vs I' H', Ext I H I' H' → Owns (ks c) vs H I' H' → Q vs H') ∧ (ks c).length = es.length
def shF (F : Hp) (Ψ : Nat → Hp) : Nat → Hp
  | 0 => F
  | n + 1 => Ψ n
open Classical in
/-- the fragments together, and a root -/
noncomputable def rootF (Ψ : Nat → Hp) (H : Hp) (l : Addr) (ob : HO) : Hp := fun a => if a = l then some ob else if ∃ j, Ψ j a ≠ none then H a else none
theorem rootF_root {Ψ : Nat → Hp} {H : Hp} {l : Addr} {ob : HO} : rootF Ψ H l ob l = some ob := by unfold rootF; rw [if_pos rfl]
theorem rootF_in {Ψ : Nat → Hp} {H : Hp} {l a : Addr} {ob : HO} {j : Nat} (h : a ≠ l) (hj : Ψ j a ≠ none) : rootF Ψ H l ob a = H a := by
  unfold rootF
  rw [if_neg h, if_pos ⟨j, hj⟩]
theorem rootF_ne {Ψ : Nat → Hp} {H : Hp} {l a : Addr} {ob : HO} (h : rootF Ψ H l ob a ≠ none) : a = l ∨ (a ≠ l ∧ ∃ j, Ψ j a ≠ none) := by
  by_cases e : a = l
  · exact .inl e
  · by_cases q : ∃ j, Ψ j a ≠ none
    · exact .inr ⟨e, q⟩
    · unfold rootF at h
      rw [if_neg e, if_neg q] at h
      exact absurd rfl h
theorem own_root {W : List V → HO → Prop} {os : List OR} {vs : List V} {H I H' : Hp} {l : Addr} {ob : HO} (s : SW H H') (hs : Same I H') (h : Owns os vs H I H') (hl : H' l = none) (w : W vs ob) {g : Gb} : Ext I H' I (upd H' l ob) ∧ RK.holds g (.ow (oC W os)) H (.ref l) I (upd H' l ob) := by
  obtain ⟨hlen, Ψ, h1, h2, h3, h4⟩ := h
  refine ⟨⟨Same.refl _, SW.of (same_new hl), hs.trans (same_new hl), fun _ _ z => z⟩, rootF Ψ H' l ob, fun a ha => ?_, fun a o e => ?_, l, ob, vs, rfl, rootF_root, w, hlen, Ψ, h1, fun j a o e => ?_, fun j => (h2 j).free hl, h4⟩
  · rcases rootF_ne ha with z | ⟨_, j, z⟩
    · subst z; exact ⟨s.free hl, hs.free hl⟩
    · exact h3 j a z
  · rcases rootF_ne (ne_of_some e) with z | ⟨z, j, zj⟩
    · subst z
      rw [rootF_root] at e
      rw [upd_same]; exact e
    · rw [rootF_in z zj] at e
      rw [upd_ne z]; exact e
  · have hal : a ≠ l := fun z => by subst z; rw [(h2 j).free hl] at e; cases e
    rw [rootF_in hal (ne_of_some e)]
    exact h2 j a o e
section
variable {X : Cx} {g : Gb} {B : Bs} {J : Hp} {S : SL} {e e1 e2 e3 tg : Expr} {es : List Expr} {pos pos' p : Pos} {α' γ : Type}
theorem mlo_nil : MLO X g B S [] (some HU.mk) (fun _ => []) := ⟨fun as q => by
  cases q
  exact ⟨pa_imp pa_nil fun σ H Q ⟨I, hh, kk⟩ => kk [] I H (Ext.refl hh.sub) ⟨rfl, fun _ _ => none, fun j o v h => by simp at h, fun _ _ _ z => (by cases z), fun _ _ z => absurd rfl z, fun _ _ _ z => absurd rfl z⟩, rfl⟩⟩
theorem mlo_cons {m1 : Option α'} {m2 : Option γ} {k1 : α' → RK} {ks : γ → List OR} (h : ME X g B S e m1 k1) (t : MLO X g B S es m2 ks) (s1 : ∀ a, (k1 a).slotty = true := by intro _; rfl) (hs : starEach (e :: es) X.env = (false, eval e X.env) :: starEach es X.env := by rfl) :
    MLO X g B S (e :: es) (m1 >>= fun a => m2 >>= fun b => some (HC.mk a b)) (fun x => (k1 x.h).orOf :: ks x.t) := by
  refine ⟨fun as q => ?_⟩
  obtain ⟨a, q1, q⟩ := bind_some q
  obtain ⟨b, q2, q3⟩ := bind_some q
  cases q3
  obtain ⟨ht, hl⟩ := t.run b q2
  refine ⟨pa_imp (pa_cons (h.run a q1) ht hs) fun σ H Q ⟨I, hh, kk⟩ => ⟨I, hh, fun v I1 H1 x1 hv => ⟨I1, hh.ext x1, fun vs I2 H2 x2 ho => ?_⟩⟩, by rw [List.length_cons, List.length_cons, hl]⟩
  obtain ⟨F1, f1, f2, f3⟩ := RK.fragO (s1 a) hv
  obtain ⟨ol, Ψ, p1, p2, p3, p4⟩ := ho
  refine kk (v :: vs) I2 H2 (x1.trans x2) ⟨by rw [List.length_cons, List.length_cons, ol], shF F1 Ψ, fun j o u e1 e2 => ?_, fun j => ?_, fun j c hc => ?_, fun i j c hi hj => ?_⟩
  · cases j with
    | zero =>
      cases e1
      cases e2
      exact OR.mono _ x2.i f3
    | succ j => exact p1 j o u (by simpa using e1) (by simpa using e2)
  · cases j with
    | zero => exact x2.h.part f2 (frag_noT hh.tb.has f1)
    | succ j => exact p2 j
  · cases j with
    | zero => exact ⟨(f1 c hc).1, x2.n c (same_ne f2 hc) (f1 c hc).2⟩
    | succ j => exact ⟨x1.h.free (p3 j c hc).1, (p3 j c hc).2⟩
  · have dis : ∀ j, Ψ j c ≠ none → F1 c = none := fun j hc => f2.free (p3 j c hc).1
    cases i with
    | zero =>
      cases j with
      | zero => rfl
      | succ j => exact absurd (dis j hj) hi
    | succ i =>
      cases j with
      | zero => exact absurd (dis i hi) hj
      | succ j => rw [p4 i j c hi hj]
theorem me_hlO {m : Option γ} {ks : γ → List OR} (h : MLO X g B S es m ks) (hz : decide (es.length ≤ 1000) = true := by decide) : ME X g B S (.List es pos) (m >>= fun c => some (HL.mk c)) (fun x => .ow (oC wL (ks x.s))) := by
  refine ⟨fun as q => ?_⟩
  obtain ⟨c, q1, q2⟩ := bind_some q
  cases q2
  obtain ⟨ha, hl⟩ := h.run c q1
  refine pe_imp (pe_lst ha) fun σ H Q ⟨I, hh, kk⟩ => ⟨I, hh, fun vs I1 H1 x1 ho => ?_⟩
  have hz' : vs.length ≤ sizeLine := by rw [← ho.1, hl]; exact Nat.le_trans (of_decide_eq_true hz) (by decide)
  refine ⟨hz', fun l hl => ?_⟩
  obtain ⟨y1, y2⟩ := own_root (W := wL) (g := g) (ob := .lst vs) x1.h x1.s ho hl ⟨rfl, hz'⟩
  exact kk _ I1 _ (x1.trans y1) y2
theorem me_htO {m : Option γ} {ks : γ → List OR} {n : Nat} (h : MLO X g B S es m ks) (hz : decide (es.length ≤ 1000) = true := by decide) : ME X g B S (.Tuple es n pos) (m >>= fun c => some (HT.mk c)) (fun x => .ow (oC wT (ks x.s))) := by
  refine ⟨fun as q => ?_⟩
  obtain ⟨c, q1, q2⟩ := bind_some q
  cases q2
  obtain ⟨ha, hl⟩ := h.run c q1
  refine pe_imp (pe_tup ha) fun σ H Q ⟨I, hh, kk⟩ => ⟨I, hh, fun vs I1 H1 x1 ho => ?_⟩
  have hz' : vs.length ≤ sizeLine := by rw [← ho.1, hl]; exact Nat.le_trans (of_decide_eq_true hz) (by decide)
  refine ⟨hz', fun l hl => ?_⟩
  obtain ⟨y1, y2⟩ := own_root (W := wT) (g := g) (ob := .tup vs) x1.h x1.s ho hl rfl
  exact kk _ I1 _ (x1.trans y1) y2
/-- the place of an item of an owned list of unlike parts -/
theorem mp_hix {ι : Type} {m : Option ι} {mk : ι → OR → OR} {os : ι → List OR} {oj : ι → OR} {i : Nat} (n : Nat) {z : Nat} (h : MP X g B S i e m (fun x => oC wL (os x)) mk) (ho : ∀ x, (os x)[n]? = some (oj x) := by intro _; rfl) (hK : X.K = g.K := by rfl) :
    MP X g B S i (.Subscript e (.Constant (.int (n : Int)) z pos') pos) m oj (fun x o' => mk x (oC wL ((os x).set n o'))) := by
  refine ⟨fun x q => pe_imp (pe_ix ix_list (h.run x q) pe_int (fun _ _ => rfl)) fun σ H Q ⟨I, Φ, hh, kk⟩ => ⟨I, Φ, hh, fun v1 I' H' x1 ⟨v, e1, fc⟩ => ?_⟩⟩
  obtain ⟨l, ob, vs, uj, rfl, hl, ⟨c2, c3⟩, c4, hu, fc'⟩ := foc_kid (ho x) fc
  subst c2
  exact ⟨l, vs, (n : Int), uj, rfl, rfl, SqL.of (x1.h.get _ _ (hh.fr i l _ hl).1), atI_nat hu, kk uj I' H' x1 ⟨v, e1, fc'⟩⟩
end
section
variable {X : Cx} {g : Gb} {B : Bs} {S : SL} {es : List Expr} {α β γ δ : Type}
theorem MLH.p1 [PyS δ] {a : α} {f : α → Option δ} {r : Option δ} (h : MLH X g B S es (some a >>= f)) (q : f a = r := by exact rfl) : MLH X g B S es r := q ▸ h
theorem MLH.p2 [PyS δ] {m : Option α} {b : β} {f : α → β → Option δ} {r : Option δ} (h : MLH X g B S es (m >>= fun a => some b >>= f a)) (q : (m >>= fun a => f a b) = r := by exact rfl) : MLH X g B S es r := q ▸ h
theorem MLO.p1 {ks : δ → List OR} {a : α} {f : α → Option δ} {r : Option δ} (h : MLO X g B S es (some a >>= f) ks) (q : f a = r := by exact rfl) : MLO X g B S es r ks := q ▸ h
theorem MLO.p2 {ks : δ → List OR} {m : Option α} {b : β} {f : α → β → Option δ} {r : Option δ} (h : MLO X g B S es (m >>= fun a => some b >>= f a) ks) (q : (m >>= fun a => f a b) = r := by exact rfl) : MLO X g B S es r ks := q ▸ h
end
end T
set_option Elab.async false
set_option linter.all false
set_option maxRecDepth 100000
/-! sorted(range(len(xs)), key=lambda x: (.., ..)): the lambda made, called for each place -/
namespace LK
open PySem PySem.Spec PyProof.Rows L2 LamX NdefX T
variable [TabsC]
/-- a table that grew by a code object -/
theorem sw_table {H : Hp} {P c : Addr} {q : Str} {ps : Array Value} {pos : Pos} (hP : H P = some (.tbl ps)) (hc : H c = none) (hm : (P, q) ∈ TabsC.T) (hu : ∀ p ∈ TabsC.T, p.1 = P → p.2 = q) :
    SW H (upd (upd H P (.tbl (ps ++ #[rawInt pos.line, rawInt pos.col, .ref c]))) c (CodeO c q)) := by
  have ne : P ≠ c := ne_of_none hP hc
  have atP : upd (upd H P (.tbl (ps ++ #[rawInt pos.line, rawInt pos.col, .ref c]))) c (CodeO c q) P = some (.tbl (ps ++ #[rawInt pos.line, rawInt pos.col, .ref c])) := by
    rw [upd_ne ne, upd_same]
  have old : ∀ b o, H b = some o → b ≠ P → upd (upd H P (.tbl (ps ++ #[rawInt pos.line, rawInt pos.col, .ref c]))) c (CodeO c q) b = some o := fun b o e hb => by
    rw [upd_ne (ne_of_none e hc), upd_ne hb]
    exact e
  refine ⟨fun b o e => ?_, fun b e => ?_, fun t p hp => ?_⟩
  · by_cases hb : b = P
    · subst hb
      rw [hP] at e
      cases e
      exact .inr ⟨rfl, _, hm, rfl⟩
    · exact .inl (old b o e hb)
  · by_cases hb : b = c
    · rw [hb]; exact hc
    · by_cases hb2 : b = P
      · rw [hb2, atP] at e; cases e
      · rw [upd_ne hb, upd_ne hb2] at e; exact e
  · obtain ⟨qs, a1, a2, a3⟩ := t p hp
    by_cases hb : p.1 = P
    · rw [hb] at a1
      rw [hP] at a1
      cases a1
      have e2 : p.2 = q := hu p hp hb
      rw [hb, e2]
      have el : (ps ++ #[rawInt pos.line, rawInt pos.col, .ref c]).toList = ps.toList ++ [rawInt pos.line, rawInt pos.col, .ref c] := by simp
      refine ⟨_, atP, ?_, fun p' cv hcv => ?_⟩
      · rw [el]; exact PySem.TriplesOk_snoc _ _ _ _ a2
      · rw [el] at hcv
        rcases among_app _ a2 hcv with z | z
        · obtain ⟨c0, e3, e4⟩ := a3 p' cv z
          rw [e2] at e4
          refine ⟨c0, e3, old c0 _ e4 fun y => ?_⟩
          rw [y, hP] at e4
          exact codeO_ne _ (Option.some.inj e4).symm
        · exact ⟨c, z, upd_same⟩
    · refine ⟨qs, old _ _ a1 hb, a2, fun p' cv hcv => ?_⟩
      obtain ⟨c0, e3, e4⟩ := a3 p' cv hcv
      refine ⟨c0, e3, old c0 _ e4 fun y => ?_⟩
      rw [y, hP] at e4
      exact codeO_ne _ (Option.some.inj e4).symm
section
variable {X : Cx} {pins : List (Addr × Obj)} {σ : L2.St} {H : Hp} {s : Shared}
/-- the lambda made -/
theorem lam_mk {c P : Addr} {q : Str} {params : Arguments} {body : Expr} {scope : Scope} {pos : Pos} {E : Value → Shared → Prop} {Q : Value → Shared → Prop} (I : Inv X pins σ H s) (TB : TabB X.base X.mg c P) (hcode : X.env.code = .ref c)
    (hq : X.env.qual ++ "<lambda>" = q) (hm : (P, q) ∈ TabsC.T) (hu : ∀ p ∈ TabsC.T, p.1 = P → p.2 = q) (hT : Tbs H) (hdef : defaultsOf params X.env = ([], [])) (hfree : ∀ y ∈ scope.names, y.2 = .free → ∃ c, X.env.cells.lookup y.1 = some c)
    (h : ∀ (f c' : Addr) (pm ctv : Value) (H1 : Hp) (s' : Shared), Inv X pins σ H1 s' → SW H H1 → (∀ b o, o.cls ≠ .none → s.heap.get? b = some o → s'.heap.get? b = some o) →
      s'.heap.get? f = some (PySem.W.kla_obj "<lambda>" q params body scope (cloFrom X.env.cells scope.names []) pm c' ctv) → H1 f = none → f ∉ frs X.stack → H1 c' = some (CodeO c' q) → Q (.ref f) s') :
    wpAny (model X.prog X.w) X.A (eval (.Lambda params body scope pos) X.env) Q E s := by
  obtain ⟨ps, hP, ht, ha⟩ := hT _ hm
  have glob := I.ok.glob
  have modg := I.mod.glob.keeps I.bk
  have code := TB.code.keeps I.bk
  have bP := TB.bm.keeps I.bk
  have hP' : s.heap.get? P = some { cls := .none, data := .fields ps } := I.hok P _ hP
  have offF : ∀ f, s.heap.objs.size ≤ f → f ∉ frs X.stack := fun f hf z => by
    rcases List.mem_cons.mp (I.stkSub _ z) with e | e
    · have l1 := I.lt
      rw [← e] at l1
      exact Nat.lt_irrefl _ (Nat.lt_of_lt_of_le l1 hf)
    · exact I.nofs hf e
  refine PySem.W.kla_eval hdef ?_
  rw [hq]
  cases hc : codeAmong pos ps.toList with
  | none =>
    refine PySem.W.kla_makeFunction (mg := X.mg) (c := c) (P := P) (ps := ps) (closure_ok hfree) glob modg hcode code hP' ht hc TB.gP bP fun c' ctv h' tk hx hge hlt hrec htb => ?_
    obtain ⟨c2, oc, vs, t, e2, hoc, hd, hv⟩ := hrec
    cases e2
    have grow : s.heap.objs.size ≤ h'.objs.size := by omega
    have nC : H c' = none := I.hok.fresh hge
    have J := inv_table (q := q) (t' := tk) (more := #[rawInt pos.line, rawInt pos.col, .ref c']) (h' := h'.push (PySem.W.kla_obj "<lambda>" q params body scope (cloFrom X.env.cells scope.names []) ((X.mg "__name__").getD .none) c' ctv)) I hP
      (fun b o hb e => Heap.get?_push_of_some _ (hx b o hb e)) (Heap.get?_push_of_some _ htb) hge ⟨oc, vs, t, Heap.get?_push_of_some _ hoc, hd, hv⟩
    refine h h'.objs.size c' _ ctv _ _ J (sw_table hP nC hm hu) (fun b o ho e => Heap.get?_push_of_some _ (hx b o (fun z => ho (by rw [z, hP'] at e; cases e; rfl)) e)) (Heap.get?_push_size _ rfl) ?_ (offF _ grow) upd_same
    have n1 : h'.objs.size ≠ c' := by omega
    have n2 : h'.objs.size ≠ P := Nat.ne_of_gt (Nat.lt_of_lt_of_le (Heap.lt_size hP') grow)
    rw [upd_ne n1, upd_ne n2]
    exact I.hok.fresh grow
  | some cv =>
    obtain ⟨c', e, hco⟩ := ha pos cv hc
    subst e
    refine PySem.W.kla_makeFunctionHit (mg := X.mg) (c := c) (P := P) (ps := ps) (closure_ok hfree) glob modg hcode code hP' ht hc bP fun ctv h' tk hx hsz => ?_
    have J : Inv X pins σ H { s with heap := h'.push (PySem.W.kla_obj "<lambda>" q params body scope (cloFrom X.env.cells scope.names []) ((X.mg "__name__").getD .none) c' ctv), toks := tk } := I.kept fun b o e => Heap.get?_push_of_some _ (hx b o e)
    exact h h'.objs.size c' _ ctv H _ J (SW.refl H) (fun b o _ e => Heap.get?_push_of_some _ (hx b o e)) (Heap.get?_push_size _ rfl) (I.hok.fresh hsz) (offF _ hsz) hco
/-- it is called with one value: what it tells of the heap -/
theorem lam_call {A : Around} {k : Nat} {f c' : Addr} {q x : Str} {pm ctv : Value} {params : Arguments} {body : Expr} {scope : Scope} {N fr : List Str} {ws : List (Option V)} {v : V} {u : Value} {s1 : Shared} {H1 : Hp} {outer : List Env} {R : Value → Shared → Prop}
    (e0 : Env0 X.prog X.w X.K X.mg X.base A outer s1 H1) (hr : Room (k + 1) A) (S : NScope N [x] fr scope) (hf : s1.heap.get? f = some (PySem.W.kla_obj "<lambda>" q params body scope (cloFrom X.env.cells scope.names []) pm c' ctv)) (hco : H1 c' = some (CodeO c' q))
    (C : CellsAt (cloFrom X.env.cells scope.names []) fr ws s1.heap H1) (hbind : bindArgs (PySem.W.kla_fn "<lambda>" q params body scope (cloFrom X.env.cells scope.names []) pm (.ref c') ctv) ⟨[u], []⟩ = pure [(x, u)]) (rv : RelV v u)
    (hbody : ∀ (Y : Cx) (h₁ : Heap) (tk : Nat), Y.prog = X.prog → Y.w = X.w → Y.K = X.K → Y.N = N → Y.env.scope = scope → Inv Y [] (startF N [v] ws) H1 { s1 with heap := h₁, toks := tk } → (∀ b o, s1.heap.get? b = some o → h₁.get? b = some o) →
      ∀ E : Value → Shared → Prop, wpAny (model X.prog X.w) Y.A (eval body Y.env) R E { s1 with heap := h₁, toks := tk }) :
    wpAny (model X.prog X.w) A (call (.ref f) [u]) R (fun _ _ => False) s1 := by
  obtain ⟨⟨oc, vs, t, hoc, hdc, hvc⟩, _, _⟩ := e0.hok c' _ hco
  have lim : s1.heap.NoLimit := e0.mod.nolimit.keeps fun b o e => (e0.bs b o e).1
  refine wpAny_call ?_
  refine PySem.W.kla_callFunE hr.depth hf rfl S.co S.gen rfl ⟨c', oc, vs, t, rfl, hoc, hdc, hvc⟩ ?_
  rw [hbind]
  refine wpAny_pure (wpAny_newFunctionEnv S.nocell (fun y hy => S.par _ (by rw [List.mem_singleton.mp hy]; exact List.mem_singleton.mpr rfl)) (fun h₁ hns hsb => ⟨lim.fresh _ hsb, ?_⟩) S.kind)
  have kp : ∀ b o, s1.heap.get? b = some o → h₁.get? b = some o := fun b o e => hsb.extBut b o (Nat.ne_of_lt (Heap.lt_size e)) (Heap.get?_push_of_some _ e)
  show codeAny _ _ (.expr body (envF ⟨"<lambda>", q, params, [], scope, cloFrom X.env.cells scope.names [], c'⟩ f s1.heap.objs.size)) _ _
  have J := inv_startN (CX := C8.CX0) (E := C8.E0) (N := N) (F := ⟨"<lambda>", q, params, [], scope, cloFrom X.env.cells scope.names [], c'⟩) (f := f) (us := [u]) (vs := [v]) (tk := s1.toks + 1) S hr.hd e0 rfl (.cons rv .nil) C hns kp
  have hb := hbody (ncx C8.CX0 X.prog X.w X.K X.mg X.base N ⟨"<lambda>", q, params, [], scope, cloFrom X.env.cells scope.names [], c'⟩ f A outer s1 H1 C8.E0) h₁ (s1.toks + 1) rfl rfl rfl rfl rfl J kp (fun _ _ => False)
  exact PySem.W.kla_codeExpr (wpAny_mono hb (fun w s' hq => hq) fun e s' hq => False.elim hq)
end
section
variable {prog : Program} {w : World} {A : Around} {E : Value → Shared → Prop} {s : Shared}
open PySem.W PySem.Calls
def isInt : Value → Int → Prop := fun v i => ∃ t, v = Value.int i t
theorem each_rng {acc : List Value} {n : Nat} (hl : acc.length = n) (h : ∀ (i : Nat) (v : Value), acc[i]? = some v → ∃ t, v = Value.int (0 + (i : Int) * 1) t) : EachIs isInt acc (rng 0 n) := by
  have key : ∀ (acc : List Value) (m : Int), (∀ (i : Nat) (v : Value), acc[i]? = some v → ∃ t, v = Value.int (m + (i : Int)) t) → EachIs isInt acc (rng m acc.length) := by
    intro acc
    induction acc with
    | nil => intro m _; exact .nil
    | cons a as ih =>
      intro m hm
      have e : rng m (a :: as).length = m :: rng (m + 1) as.length := by
        unfold rng
        rw [List.length_cons, List.range_succ_eq_map, List.map_cons, List.map_map]
        congr 1
        · simp
        · apply List.map_congr_left
          intro i _
          show m + ((i + 1 : Nat) : Int) = m + 1 + (i : Int)
          omega
      rw [e]
      refine .cons ?_ (ih (m + 1) fun i v hi => ?_)
      · obtain ⟨t, e⟩ := hm 0 a rfl
        exact ⟨t, by rw [e]; simp⟩
      · obtain ⟨t, e⟩ := hm (i + 1) v (by simpa using hi)
        exact ⟨t, by rw [e]; congr 1; omega⟩
  rw [← hl]
  refine key acc 0 fun i v hi => ?_
  obtain ⟨t, e⟩ := h i v hi
  exact ⟨t, by rw [e]; congr 1; omega⟩
theorem sorted_rng {r f : Addr} {n : Int} {t u v : Tok} {k : Int → PyData} {Q : Value → Shared → Prop} (hh : A.handled = none) (hr : IsRange s.heap r 0 n 1 t u v) (h0 : 0 ≤ n) (h1 : n ≤ 1000) (hal : ∀ a b, alike (k a) (k b) = true) (hk : ∀ a, ∃ x r, k a = .tuple (x :: r)) (hu : ∀ a, A.units + 2 + (k a).depth < cLine)
    (turn : ∀ (i : Int) (t : Tok), 0 ≤ i → i < n → ∀ (h : Heap) (tk : Nat), (∀ b o, s.heap.get? b = some o → h.get? b = some o) → wpAny (model prog w) A.in1.in1 (call (.ref f) [.int i t]) (KeyPure (k i) { s with heap := h, toks := tk }) (fun _ _ => False) { s with heap := h, toks := tk })
    (h : ∀ (h1 h' : Heap) (tk : Nat) (out : List Value) (c : Nat), (∀ b o, s.heap.get? b = some o → h1.get? b = some o) → (∀ b o, h1.get? b = some o → h'.get? b = some o) → h'.get? h1.objs.size = some (seqObj "list" out.toArray c) → EachIs isInt out ((rng 0 n.toNat).mergeSort (dataLe false k)) → Q (.ref h1.objs.size) { s with heap := h', toks := tk }) :
    wpAny (model prog w) A (call (.builtin "sorted") [.ref r] [(Str.ofString "key", .ref f)]) Q E s := by
  refine call_function_entry_kw kind_sorted plain_sorted entry_sorted (ksk_s1 _ _) ?_
  unfold Builtin.«sorted»
  refine wpAny_bind (m := checkCount "sorted" 1 1 _) (wpAny_pure ?_)
  have e0 : Builtin.Range.rangeSize 0 n 1 = (n.toNat : Int) := by
    rw [PyProof.Rows.rangeSize_nat, Int.sub_zero]
  refine wpAny_bind (collect_range (A := A.in1) (n := n.toNat) hh hr (small_one (by omega) (by omega) (by omega) (by omega)) e0 (by omega) fun h' tk acc hkp hi => ?_)
  have hlen : acc.toList.length = n.toNat := by rw [Array.length_toList]; exact hi.1
  have hL : acc.toList.length ≤ sizeLine := by rw [hlen, sizeLine_eq]; omega
  have e := each_rng hlen fun i v hv => hi.2 i v (by rw [← hv, Array.getElem?_toList])
  refine wpAny_bind (wpAny_newList ?_ hL)
  refine wpAny_bind (wpAny_holding (wpAny_call_entry_kw slot_list_sort ⟨_, Heap.get?_push_size _ rfl, rfl⟩ entry_list_sort ?body (ksk_l1 _ _)))
  case body =>
    rw [ksk_t1]
    have up : ∀ {g : Heap}, KeepsBut h'.objs.size (h'.push (seqObj "list" acc.toList.toArray 0)) g → ∀ b o, s.heap.get? b = some o → g.get? b = some o := fun {g} kp b o q =>
      kp b o (Nat.ne_of_lt (Heap.lt_size (hkp b o q))) (Heap.get?_push_of_some _ (hkp b o q))
    refine keyH_tree (kz := (rng 0 n.toNat).map k) (vs := acc.toList) (n := 0) (Heap.get?_push_size _ rfl) (by rw [List.length_map]; exact e.length.symm) hL (.of hal) (.tuples hk) (fun d hd => ?_) (keyH_turns e fun v x hR hx g tk2 kp => ?_) fun g tk2 out c kp hD ko => ⟨_, rfl, ?_⟩
    · obtain ⟨a, _, rfl⟩ := List.mem_map.mp hd
      have := hu a
      show A.units + _ + _ + _ < cLine
      omega
    · obtain ⟨t2, rfl⟩ := hR
      obtain ⟨j, hj, ej⟩ := List.mem_map.mp hx
      rw [List.mem_range] at hj
      exact turn x t2 (by omega) (by omega) g tk2 (up kp)
    · exact wpAny_pure ⟨_, rfl, h h' g tk2 out c hkp (fun b o q => kp b o (Nat.ne_of_lt (Heap.lt_size q)) (Heap.get?_push_of_some _ q)) hD (keyedOut_each k ko e)⟩
end
section
variable {X : Cx} {pins : List (Addr × Obj)} {σ : L2.St} {H : Hp} {s : Shared}
open PySem.W
/-- a name, exactly -/
theorem name_at {i : Nat} {x : Str} {v : V} {pos : Pos} {Q E : Value → Shared → Prop} (I : Inv X pins σ H s) (hN : X.N[i]? = some x) (e : σ[i]? = some (some v)) (hv : Vis X.env.scope x) (h : ∀ u, RelV v u → Q u s) (hd : (x == ("__debug__" : Str)) = false) (hcd : (x == ("__classdict__" : Str)) = false) :
    wpAny (model X.prog X.w) X.A (eval (.Name x pos) X.env) Q E s := by
  obtain ⟨m, hn, hl⟩ := I.loc
  obtain ⟨u, r, l⟩ := hl i x v hN e hv
  rcases l with ⟨k1, k2⟩ | ⟨k1, c, k2, k3⟩
  · exact wpAny_Name (wpAny_loadName_local I.ok.kind k1 hn k2 (h u r)) hd
  · rcases k1 with k1 | k1
    · exact wpAny_Name (wpAny_loadName_cell I.ok.kind k1 k2 k3 (h u r)) hd
    · exact wpAny_Name (wpAny_loadName_free I.ok.kind k1 k2 k3 (h u r) hcd) hd
/-- (-a[x], x), exactly -/
theorem neg_body {a x : Str} {l : Addr} {ns : List Int} {i p : Int} {n : Nat} {pa px ps pu px2 pt : Pos} {Q E : Value → Shared → Prop} (hN : X.N = [x, a]) (hσ : σ = [some (.int i), some (.ref l)]) (I : Inv X pins σ H s) (hl : SqL X.K H l (ns.map V.int)) (h0 : 0 ≤ i) (h1 : i < 2 ^ 62) (hp : ns[i.toNat]? = some p)
    (hva : Vis X.env.scope a) (hvx : Vis X.env.scope x) (hda : (a == ("__debug__" : Str)) = false) (hca : (a == ("__classdict__" : Str)) = false) (hdx : (x == ("__debug__" : Str)) = false) (hcx : (x == ("__classdict__" : Str)) = false)
    (hst : starEach [.UnaryOp .USub (.Subscript (.Name a pa) (.Name x px) ps) pu, .Name x px2] X.env = (false, eval (.UnaryOp .USub (.Subscript (.Name a pa) (.Name x px) ps) pu) X.env) :: starEach [.Name x px2] X.env) (hst2 : starEach [.Name x px2] X.env = (false, eval (.Name x px2) X.env) :: starEach [] X.env)
    (h : ∀ (t1 t2 : Tok) (tk : Nat), Q (.ref s.heap.objs.size) { s with heap := s.heap.push { cls := .type "tuple", data := .seq #[.int (-p) t1, .int i t2] }, toks := tk }) :
    wpAny (model X.prog X.w) X.A (eval (.Tuple [.UnaryOp .USub (.Subscript (.Name a pa) (.Name x px) ps) pu, .Name x px2] n pt) X.env) Q E s := by
  have hx : X.N[0]? = some x := by rw [hN]; rfl
  have ha : X.N[1]? = some a := by rw [hN]; rfl
  have sx : σ[0]? = some (some (.int i)) := by rw [hσ]; rfl
  have sa : σ[1]? = some (some (.ref l)) := by rw [hσ]; rfl
  obtain ⟨its, rv, pl, _⟩ := I.list hl
  refine wpAny_Tuple_spliced (args_cons (UnaryOp_ (Subscript_ (name_at I ha sa hva (fun u1 r1 => name_at I hx sx hvx (fun u2 r2 => ?_) hdx hcx) hda hca))) hst)
  obtain rfl : u1 = Value.ref l := r1
  obtain ⟨t2, rfl⟩ := r2
  have hv : (ns.map V.int)[i.toNat]? = some (.int p) := by rw [List.getElem?_map, hp]; rfl
  obtain ⟨w, ew, rw'⟩ := rv.get hv
  obtain ⟨t1, rfl⟩ := rw'
  refine item_listR pl.isList h0 (by omega) (by simpa using ew) ?_ rfl
  refine neg_int ?_
  have I2 : Inv X pins σ H { s with toks := s.toks + 1 } := I.tok _
  refine args_cons (name_at I2 hx sx hvx (fun u3 r3 => args_nil ?_) hdx hcx) hst2
  obtain ⟨t3, rfl⟩ := r3
  exact ⟨by show 2 ≤ sizeLine; rw [sizeLine_eq]; omega, h _ _ _⟩
end
theorem each_ints {out : List Value} {is : List Int} (h : PySem.W.EachIs isInt out is) : Vals (is.map V.int) out := by
  induction h with
  | nil => exact .nil
  | cons h _ ih => exact .cons h ih
/-- places, by falling value, of alike ones the lesser place first -/
def leK (xs : List Int) (i j : Int) : Bool := decide (xs.getD j.toNat 0 < xs.getD i.toNat 0 ∨ (xs.getD j.toNat 0 = xs.getD i.toNat 0 ∧ i ≤ j))
@[irreducible] def sortNegO (xs : List Int) : Option (List Int) := if decide (xs.length ≤ 1000) = true then some ((rng 0 xs.length).mergeSort (leK xs)) else none
def keyN (xs : List Int) : Int → PyData := fun i => .tuple [.int (-(xs.getD i.toNat 0)), .int i]
theorem le_keyN (xs : List Int) : PySem.W.dataLe false (keyN xs) = leK xs := by
  funext a b
  show (!PySem.W.dataLt (keyN xs b) (keyN xs a)) = _
  unfold keyN leK
  rw [PySem.W.dataLt_ii, Bool.eq_iff_iff]
  simp only [Bool.not_eq_true', decide_eq_false_iff_not, decide_eq_true_eq]
  omega
section
variable {X : Cx}
/-- sorted(range(len(a)), key=lambda x: (-a[x], x)) -/
theorem me_sortNeg {c P : Addr} {q x a : Str} {k : Nat} {params : Arguments} {scope : Scope} {p1 p2 p3 p4 pos pos2 pos3 lpos kpos pa px ps pu px2 pt : Pos} {n : Nat} {xs : List Int} {g : Gb} {B : Bs} {S : SL} (i : Nat)
    (hm1 : X.mg "sorted" = none) (hm2 : X.mg "range" = none) (hm3 : X.mg "len" = none) (TB : TabB X.base X.mg c P) (hcode : X.env.code = .ref c) (hm : (P, q) ∈ TabsC.T) (hu : ∀ p ∈ TabsC.T, p.1 = P → p.2 = q) (hr : Room k X.A) (hk : 4 ≤ k)
    (hS : S[i]? = some (some (.im (Py.r g xs)))) (hN : X.N[i]? = some a) (hva : Vis X.env.scope a) (Sc : NScope [x, a] [x] [a] scope) (hnf : ndefB X.env.scope scope [a] = true)
    (hbind : ∀ (cl : List (Str × Addr)) (pm cv ctv u : Value), bindArgs (PySem.W.kla_fn "<lambda>" q params (.Tuple [.UnaryOp .USub (.Subscript (.Name a pa) (.Name x px) ps) pu, .Name x px2] n pt) scope cl pm cv ctv) ⟨[u], []⟩ = pure [(x, u)])
    (hq : X.env.qual ++ "<lambda>" = q := by rfl) (hdef : defaultsOf params X.env = ([], []) := by rfl) (hg1 : Gl X "sorted" := by rfl) (hg2 : Gl X "range" := by rfl) (hg3 : Gl X "len" := by rfl) (hK : X.K = g.K := by rfl)
    (hda : (a == ("__debug__" : Str)) = false := by decide) (hca : (a == ("__classdict__" : Str)) = false := by decide) (hdx : (x == ("__debug__" : Str)) = false := by decide) (hcx : (x == ("__classdict__" : Str)) = false := by decide) :
    ME X g B S (.Call (.Name "sorted" p1) [.Call (.Name "range" p2) [.Call (.Name "len" p3) [.Name a p4] [] pos3] [] pos2] [⟨some "key", .Lambda params (.Tuple [.UnaryOp .USub (.Subscript (.Name a pa) (.Name x px) ps) pu, .Name x px2] n pt) scope lpos, kpos⟩] pos) (sortNegO xs) (fun rs => .fr (rl g rs)) := by
  refine ⟨fun rs qr => ⟨fun pins s σ H Q I h => ?_⟩⟩
  unfold sortNegO at qr
  by_cases hz : decide (xs.length ≤ 1000) = true
  case neg => rw [if_neg hz] at qr; cases qr
  rw [if_pos hz] at qr
  have hz := of_decide_eq_true hz
  cases qr
  obtain ⟨I0, hh, kk⟩ := h
  have hlen : ME X g B S (.Call (.Name "len" p3) [.Name a p4] [] pos3) (some (xs.length : Int)) (KI g) := (me_len hm3 (me_var (pos := p4) i hS hN hva hda hca) (hg := hg3) (hK := hK)).p1
  have hrng := prg_1 (p := p2) (pos := pos2) hg2 hm2 (hlen.run _ rfl)
  refine wpAny_Call_Name_kw (ld_blt I hg1 hm1 (by decide +kernel : bootBuiltins "sorted" = some (.builtin "sorted")) (PyProof.Rows.callWith_kw (args_cons (thn (hrng pins s σ H (fun lo hi H1 => lo = 0 ∧ hi = (xs.length : Int) ∧ ∃ I1, Ext I0 H I1 H1) I ⟨I0, hh, fun v I1 H1 x1 hv => ⟨_, hv, rfl, rfl, I1, x1⟩⟩) fun v s1 ⟨r, lo, hi, t1, t2, t3, H1, ev, hR, J1, e1, e2, I1, x1⟩ => args_nil ?_) rfl) rfl rfl rfl rfl) (by decide) (by decide))
  subst ev e1 e2
  have hh1 := hh.ext x1
  have hfree : ∀ y ∈ scope.names, y.2 = .free → ∃ c, X.env.cells.lookup y.1 = some c := fun y hy e => (ndef_free hnf y hy e).elim (fun z => J1.ok.has _ (.inl z)) fun z => J1.ok.has _ (.inr z)
  show wpAny _ _ (evalAll [(do let v ← eval (.Lambda params (.Tuple [.UnaryOp .USub (.Subscript (.Name a pa) (.Name x px) ps) pu, .Name x px2] n pt) scope lpos) X.env; standAt pos; pure v)]) _ _ _
  refine wpAny_evalAll_cons (wpAny_bind (lam_mk J1 TB hcode hq hm hu hh1.tb.t hdef hfree fun f c' pm ctv H2 s2 J2 sw kc hf nf hfr hco => wpAny_bind (wpAny_standAt (wpAny_pure (wpAny_evalAll_nil ?_)))))
  have x2 : Ext I1 H1 I1 H2 := ⟨Same.refl _, sw, sw.part x1.s hh1.tb.i, fun _ _ z => z⟩
  have hh2 := hh1.ext x2
  obtain ⟨v0, ev0, hv0⟩ := hh2.at_ i _ hS
  obtain ⟨l, vs, rfl, hl, hrl⟩ := hv0
  have evs := vals_ints hrl.2
  subst evs
  have hl2 : SqL X.K H2 l (xs.map V.int) := by rw [hK]; exact x2.s.seq hl
  have cp : Caps X (cloFrom X.env.cells scope.names []) [a] [i] := Caps.made J2.ok (ndef_free hnf) (ndef_fr hnf) (by rw [List.map_cons, hN]; rfl)
  have hsl : [i].map (slotAt σ) = [some (.ref l)] := by
    show [slotAt σ i] = _
    rw [slotAt_of ev0]
  have hR2 : IsRange s2.heap r 0 (xs.length : Int) 1 t1 t2 t3 := kc _ _ (fun z => by cases z) hR
  show wpAny _ _ (call (.builtin "sorted") [.ref r] [(Str.ofString "key", .ref f)]) _ _ _
  have hu2 := hr.un
  have hd2 := hr.dp
  refine sorted_rng (k := keyN xs) hr.hd hR2 (by omega) (by omega) (fun _ _ => rfl) (fun _ => ⟨_, _, rfl⟩) (fun _ => ?_) (fun j tj j0 j1 h3 tk3 kp => ?_) fun h3 h4 tk4 out cc kp1 kp2 hD ho => ?_
  · show X.A.units + 2 + 1 < cLine
    omega
  · have J3 : Inv X pins σ H2 { s2 with heap := h3, toks := tk3 } := J2.kept kp
    have C := cells_of J3 cp
    rw [hsl] at C
    have hp : xs[j.toNat]? = some (xs.getD j.toNat 0) := by
      have : j.toNat < xs.length := by omega
      rw [List.getD_eq_getElem?_getD, List.getElem?_eq_getElem this]; rfl
    have rm : Room (k - 2) X.A.in1.in1 := by
      have e : k = k - 2 + 1 + 1 := by omega
      rw [e] at hr
      exact hr.in1.in1
    refine lam_call (k := k - 3) (X := X) (N := [x, a]) (fr := [a]) (ws := [some (.ref l)]) (v := .int j) J3.env0.in1.in1 (rm.mono (by omega)) Sc (kp _ _ hf) hco C (hbind _ _ _ _ _) ⟨_, rfl⟩ fun Y h5 tk5 yp yw yk yn ys J5 kp5 E => ?_
    refine Eq.mp (by rw [yp, yw]) (neg_body (X := Y) (pins := []) (σ := startF [x, a] [.int j] [some (.ref l)]) (H := H2) (l := l) (ns := xs) (i := j) (p := xs.getD j.toNat 0) (Q := PySem.W.KeyPure (keyN xs j) { s2 with heap := h3, toks := tk3 }) (E := E) yn rfl J5 (by rw [yk]; exact hl2) j0 (by omega) hp (by rw [ys]; exact .inr (.inr (Sc.frk a (List.mem_singleton.mpr rfl)))) (by rw [ys]; exact .inl (Sc.par x (List.mem_singleton.mpr rfl))) hda hca hdx hcx rfl rfl fun u1 u2 tk6 => ?_)
    refine ⟨_, _, rfl, fun b o e => Heap.get?_push_of_some _ (kp5 b o e), ?_⟩
    exact Reads.tuple (Heap.get?_push_size _ rfl) rfl rfl (ReadsAll.cons (.int _ _) (ReadsAll.cons (.int _ _) .nil))
  · rw [le_keyN] at ho
    have J3 : Inv X pins σ H2 { s2 with heap := h3, toks := tk4 } := J2.kept kp1
    have hln : ((rng 0 xs.length).mergeSort (leK xs)).length = xs.length := by
      rw [List.length_mergeSort]
      unfold rng
      rw [List.length_map, List.length_range]
    have hz2 : ((rng 0 xs.length).mergeSort (leK xs)).length ≤ sizeLine := by rw [hln, sizeLine_eq]; omega
    have J4 := J3.laid (a := h3.objs.size) (o := .lst (((rng 0 xs.length).mergeSort (leK xs)).map V.int)) (t' := tk4) (h' := h4) kp2 (Nat.le_refl _) ⟨by rw [List.length_map]; exact hz2, out, cc, each_ints ho, hD⟩
    refine ⟨.ref h3.objs.size, _, J4, rfl, ?_⟩
    exact new_fr x2.s ⟨hz2, paired_ints _⟩ (fun u I' H' x hu => kk u I' H' ((x1.trans x2).trans x) (RK.back rfl (x1.trans x2).h hu)) (J3.hok.fresh (Nat.le_refl _))
end
end LK
set_option Elab.async false
set_option linter.all false
set_option maxRecDepth 100000
/-! sorted(set(xs)), xs a list of ints -/
namespace LS
open PySem PySem.Spec PyProof.Rows L2 T
/-- a new set -/
def sO (w : World) : Obj := { cls := .type "set", dict := none, data := .set #[] 0 (.fresh 0 0 (!w.params.followText "set-order")) }
/-- the heap with it -/
abbrev sH (w : World) (h : Heap) : Heap := h.push (sO w)
section
variable {P : Program} {w : World} {A : Around} {E : Value → Shared → Prop} {s : Shared}
set_option maxHeartbeats 3200000 in
theorem set_of_list {l : Addr} {its : Array Value} (ns : List Int) {Q : Value → Shared → Prop} (hh : A.handled = none) (hl : s.heap.IsList l its) (hit : IntsAre its.toList ns) (hb : ns.length + 1 < scanBound)
    (h : ∀ (g : Heap) (tk c : Nat), SetR w g s.heap.objs.size (fun j => decide (j ∈ ns)) c → c ≤ ns.length → (∀ b o, s.heap.get? b = some o → g.get? b = some o) → Q (.ref s.heap.objs.size) { s with heap := g, toks := tk }) :
    wpAny (model P w) A (call (.type "set") [.ref l]) Q E s := by
  have hsz : its.size = ns.length := (Array.length_toList (xs := its)).symm.trans (IntsAre.length hit)
  obtain ⟨c, tl, hmro⟩ := F.called_set.mro
  have hmade := F.called_set.made; have hsub := F.called_set.sub
  have h1 := F.called_set.notType; have h2 := F.called_set.canCreate
  have hct := F.typeCall_set_1 (.ref l)
  refine wpAny_call (codeAny_of_tree (?_ : wpAny _ _ (callAny (.type "set") _) _ _ _))
  refine wpAny_pure ⟨Code.quiet_builtin _ (by decide +kernel), codeAny_builtin F.entry_type_call ?_⟩
  rw [Around.under_plain (weight_type_call_type "set" [.ref l] []) rfl]
  repeat (any_goals (first | assumption | wp_step))
  refine codeAny_mono (code_set_led1 (.ref l) (E := E) (Q₁ := fun ob s1 => ob = .ref s.heap.objs.size ∧ s1 = { s with heap := sH w s.heap }) ⟨rfl, rfl⟩) fun r s1 hr => ?_
  cases r with
  | error e => exact hr
  | ok fl =>
    cases fl with
    | next => exact hr.elim
    | brk => exact hr.elim
    | cont => exact hr.elim
    | ret ob =>
      obtain ⟨rfl, rfl⟩ := hr
      have hS : (sH w s.heap).get? s.heap.objs.size = some (sO w) := Heap.get?_push_size _ rfl
      have hT : Shared.TypeIs { s with heap := sH w s.heap } (.ref s.heap.objs.size) "set" := ⟨_, hS, rfl⟩
      have hli := F.called_set.init.lookup; have hbi := F.called_set.init.bind (.ref s.heap.objs.size)
      repeat (any_goals (first | assumption | wp_step))
      refine codeAny_mono (codeAny_call_builtin (R := wants (fun r s2 => r = .none ∧ ∃ g tk c, s2 = { s with heap := g, toks := tk } ∧ SetR w g s.heap.objs.size (fun j => decide (j ∈ ns)) c ∧ c ≤ ns.length ∧ (∀ b o, s.heap.get? b = some o → g.get? b = some o)) E) F.called_set.init.plain F.entry_set_init (check_set_init_1 hT ?_)) fun r2 s2 hr2 => ?_
      · obtain ⟨⟨oc, od, oda, osl⟩, hol, hcl, nl, hdl⟩ := hl
        simp only at hcl hdl
        subst hcl hdl
        have hol' : (sH w s.heap).get? l = some { cls := .type "list", dict := od, data := .seq its nl, slots := osl } := Heap.get?_push_of_some _ hol
        have hl1 : (sH w s.heap).IsList l its := ⟨_, hol', rfl, nl, rfl⟩
        have q1 := F.sub_list_set; have q2 := F.sub_list_frozenset
        have q3 : (Value.type "list" == Value.type "dict") = false := by decide
        unfold Builtin.«set.__init__» noKeywords Builtin.Frozenset.updateFrom
        generalize hPI : pyIter = PI
        wp_walk
        subst hPI
        refine wpAny_pyIter_list hl1 (wpAny_bind (wpAny_runValue ?_))
        have lS : l < s.heap.objs.size := Heap.lt_size hol
        have hh3 : A.in1.in1.in1.handled = none := by simp [hh]
        have nI : l ≠ (sH w s.heap).objs.size := by rw [Heap.size_push]; exact Nat.ne_of_lt (Nat.lt_succ_of_lt lS)
        have nF : s.heap.objs.size ∉ [(sH w s.heap).objs.size, l] := by
          rw [Heap.size_push]; simp only [List.mem_cons, List.mem_singleton, List.not_mem_nil, or_false, not_or]
          exact ⟨Nat.ne_of_lt (Nat.lt_succ_self _), Nat.ne_of_gt lS⟩
        have val : ∀ (i : Nat) (v : Value), its[i]? = some v → ∃ k t, ns[i]? = some k ∧ v = .int k t := fun i v hv => by
          have hi : i < ns.length := by rw [← hsz]; exact (Array.getElem?_eq_some_iff.mp hv).1
          obtain ⟨t, e⟩ := PyProof.Rows.IntsAre.int_at hit i v (by rw [Array.getElem?_toList]; exact hv)
          exact ⟨ns[i], t, List.getElem?_eq_getElem hi, by rw [e, List.getD_eq_getElem?_getD, List.getElem?_eq_getElem hi] <;> rfl⟩
        refine set_update_ints ((Walks.list hh3 _ l nI its).toS) s.heap.objs.size nF ns hsz hb val (its.size - 0) 0 _ (by omega) (Nat.zero_le _) ⟨⟨_, Heap.get?_push_size _ rfl, rfl, rfl⟩, hl1.push _⟩ ⟨0, Nat.le_refl 0, setR_new_at (Heap.get?_push_of_some _ hS)⟩ fun s3 c3 hm hc3 hS3 => ?_
        obtain ⟨g3, gs3, d3, tk3, os3⟩ := s3
        obtain rfl : gs3 = s.gens := hm.gens
        obtain rfl : d3 = s.drawn := hm.drawn
        obtain rfl : os3 = s.os := hm.os
        show wpAny _ _ _ _ _ _
        refine wpAny_pure (?_ : wpAny _ _ (ret Value.none) _ _ _)
        rw [hsz] at hc3
        refine wpAny_pure ⟨rfl, g3, tk3, c3, rfl, hS3, hc3, fun b o e => ?_⟩
        have b0 : b < s.heap.objs.size := Heap.lt_size e
        refine hm.heap b o ?_ (Heap.get?_push_of_some _ (Heap.get?_push_of_some _ e))
        simp only [List.mem_cons, List.mem_singleton, List.not_mem_nil, or_false, not_or]
        refine ⟨Nat.ne_of_lt b0, ?_⟩
        rw [Heap.size_push]
        exact Nat.ne_of_lt (Nat.lt_succ_of_lt b0)
      · cases r2 with
        | error e => exact hr2
        | ok f2 =>
          cases f2 with
          | next => exact hr2.elim
          | brk => exact hr2.elim
          | cont => exact hr2.elim
          | ret r =>
            obtain ⟨rfl, g, tk, c', rfl, hS', hc', hk'⟩ := hr2
            repeat (any_goals (first | assumption | wp_step))
            exact h _ _ _ hS' hc' hk'
end
/-- set(xs) as a value -/
def rSetL (K : PySem.W.Frag) (w : World) : List V → Hp → VK → Prop := fun xs H Q => ∃ (l : Addr) (ns : List Int), xs = [V.ref l] ∧ SqL K H l (ns.map V.int) ∧ ns.length < 64 ∧ ∀ (a : Addr) (c : Nat), H a = none → c < 64 → Q (.ref a) (upd H a (SetO w a (fun j => decide (j ∈ ns)) c))
theorem cr_setL {X : Cx} (hc : X.calm = true) : CallR X (.type "set") (rSetL X.K X.w) := by
  intro pins s σ H xs us Q I r h
  obtain ⟨l, ns, rfl, hl, hf, q⟩ := h
  rw [Vals.ref1 r]
  obtain ⟨its, rv, pl, hz⟩ := I.list hl
  have hn : H s.heap.objs.size = none := I.hok.fresh (Nat.le_refl _)
  refine set_of_list ns (I.ok.hd hc) pl.isList (by simpa using rv.ints) (by unfold scanBound; omega) fun g tk c R hcl k => ?_
  exact ⟨.ref s.heap.objs.size, upd H s.heap.objs.size (SetO X.w s.heap.objs.size (fun j => decide (j ∈ ns)) c), I.laid (t' := tk) k (Nat.le_refl _) (setO_new R), rfl, q _ c hn (by omega)⟩
end LS
namespace T
open PySem PySem.Spec PyProof.Rows L2
variable [TabsC]
def insS (a : Int) : List Int → List Int
  | [] => [a]
  | b :: bs => if a < b then a :: b :: bs else if a = b then b :: bs else b :: insS a bs
/-- the members, rising, each once -/
def sortS : List Int → List Int
  | [] => []
  | a :: as => insS a (sortS as)
theorem insS_mem {a x : Int} : ∀ {bs : List Int}, x ∈ insS a bs ↔ x = a ∨ x ∈ bs
  | [] => by simp [insS]
  | b :: bs => by
    unfold insS
    split
    · simp
    · split
      · rename_i h1 h2
        subst h2
        simp
      · rw [List.mem_cons, insS_mem, List.mem_cons]
        constructor
        · rintro (h | h | h)
          · exact .inr (.inl h)
          · exact .inl h
          · exact .inr (.inr h)
        · rintro (h | h | h)
          · exact .inr (.inl h)
          · exact .inl h
          · exact .inr (.inr h)
theorem insS_lt {a : Int} : ∀ {bs : List Int}, bs.Pairwise (· < ·) → (insS a bs).Pairwise (· < ·)
  | [], _ => by simp [insS]
  | b :: bs, h => by
    obtain ⟨h1, h2⟩ := List.pairwise_cons.mp h
    unfold insS
    split
    · rename_i hab
      refine List.pairwise_cons.mpr ⟨fun x hx => ?_, h⟩
      rcases List.mem_cons.mp hx with z | z
      · rw [z]; exact hab
      · have := h1 x z; omega
    · split
      · exact h
      · rename_i c1 c2
        refine List.pairwise_cons.mpr ⟨fun x hx => ?_, insS_lt h2⟩
        rcases insS_mem.mp hx with z | z
        · omega
        · exact h1 x z
theorem sortS_mem {x : Int} : ∀ {as : List Int}, x ∈ sortS as ↔ x ∈ as
  | [] => Iff.rfl
  | a :: as => by
    show x ∈ insS a (sortS as) ↔ _
    rw [insS_mem, sortS_mem, List.mem_cons]
theorem sortS_lt : ∀ as : List Int, (sortS as).Pairwise (· < ·)
  | [] => .nil
  | a :: as => insS_lt (sortS_lt as)
theorem lt_uniq : ∀ {as bs : List Int}, as.Pairwise (· < ·) → bs.Pairwise (· < ·) → (∀ x, x ∈ as ↔ x ∈ bs) → as = bs
  | [], [], _, _, _ => rfl
  | [], b :: bs, _, _, h => by have := (h b).mpr (List.mem_cons_self); cases this
  | a :: as, [], _, _, h => by have := (h a).mp (List.mem_cons_self); cases this
  | a :: as, b :: bs, h1, h2, h => by
    obtain ⟨p1, p2⟩ := List.pairwise_cons.mp h1
    obtain ⟨q1, q2⟩ := List.pairwise_cons.mp h2
    have hab : a = b := by
      rcases List.mem_cons.mp ((h a).mp List.mem_cons_self) with z | z
      · exact z
      · rcases List.mem_cons.mp ((h b).mpr List.mem_cons_self) with y | y
        · exact y.symm
        · have := p1 b y; have := q1 a z; omega
    subst hab
    rw [lt_uniq p2 q2 fun x => ⟨fun hx => ?_, fun hx => ?_⟩]
    · rcases List.mem_cons.mp ((h x).mp (List.mem_cons_of_mem _ hx)) with z | z
      · have := p1 x hx; omega
      · exact z
    · rcases List.mem_cons.mp ((h x).mpr (List.mem_cons_of_mem _ hx)) with z | z
      · have := q1 x hx; omega
      · exact z
@[irreducible] def sortSetO (xs : List Int) : Option (List Int) := if decide (xs.length < 64) = true then some (sortS xs) else none
section
variable {X : Cx} {g : Gb} {B : Bs} {S : SL} {e : Expr} {p p2 pos pos2 : Pos} {m : Option (List Int)} {k : List Int → RK}
/-- sorted(set(e)) -/
theorem me_sortSet (hm : X.mg "sorted" = none) (hm2 : X.mg "set" = none) (h : ME X g B S e m k) (r : LR g k := by first | exact lr_im | exact lr_fr | exact lr_rd) (hc : X.calm = true := by rfl) (hg : Gl X "sorted" := by rfl) (hg2 : Gl X "set" := by rfl) (hK : X.K = g.K := by rfl)
    (he : starEach [.Call (.Name "set" p2) [e] [] pos2] X.env = (false, eval (.Call (.Name "set" p2) [e] [] pos2) X.env) :: starEach [] X.env := by rfl) (he2 : starEach [e] X.env = (false, eval e X.env) :: starEach [] X.env := by rfl) :
    ME X g B S (.Call (.Name "sorted" p) [.Call (.Name "set" p2) [e] [] pos2] [] pos) (m >>= sortSetO) (fun xs => .fr (rl g xs)) := by
  refine ⟨fun out q => ?_⟩
  obtain ⟨xs, q1, q2⟩ := bind_some q
  unfold sortSetO at q2
  by_cases hz : decide (xs.length < 64) = true
  · rw [if_pos hz] at q2
    cases q2
    have hz := of_decide_eq_true hz
    refine pe_imp (pe_callB (cr_sortedSet hc) hg hm (by decide +kernel) (pa_cons (pe_callTy (LS.cr_setL hc) hg2 hm2 (by decide +kernel) (pa_cons (h.run xs q1) pa_nil he2) (he := he2)) pa_nil he) (he := he)) fun σ H Q ⟨I, hh, kk⟩ => ⟨I, hh, fun v I' H' x hv => ?_⟩
    obtain ⟨l, vs, rfl, h1, h2⟩ := r xs _ _ _ _ x.s hv
    have e1 := vals_ints h2.2
    subst e1
    refine ⟨l, xs, rfl, by rw [hK]; exact h1, hz, fun a c ha hcl => ⟨a, _, c, rfl, upd_same, hcl, fun ns pa n1 n2 n3 n4 => ?_⟩⟩
    have e3 : ns = sortS xs := lt_uniq n1 (sortS_lt xs) fun z => by rw [n2, decide_eq_true_eq, sortS_mem]
    subst e3
    have x2 : Ext I' H' I' (upd H' a (SetO X.w a (fun j => decide (j ∈ xs)) c)) := ⟨Same.refl _, SW.of (same_new ha), x.s.trans (same_new ha), fun _ _ z => z⟩
    exact new_fr x2.s ⟨by rw [n3, sizeLine_eq]; omega, paired_ints _⟩ (fun u I2 H2 x3 hu => kk u I2 H2 ((x.trans x2).trans x3) (RK.back rfl (x.trans x2).h hu)) n4
  · rw [if_neg hz] at q2; cases q2
end
end T
set_option Elab.async false
set_option linter.all false
set_option maxRecDepth 100000
namespace T
open PySem PySem.Spec PyProof.Rows L2 C8
variable [TabsC]
/-! what is not reached -/
section
variable {X : Cx} {g : Gb} {B : Bs} {J : Hp} {S : SL} {e : Expr} {es : List Expr} {sts : List Stmt} {o α' : Type} {K : KT o} {k : α' → RK}
theorem me_dead : ME X g B S e (none : Option α') k := ⟨fun a q => by cases q⟩
theorem mt_dead : MT X g B S e none := ⟨fun a q => by cases q⟩
theorem mc_dead : MC X g B S e none := ⟨fun a q => by cases q⟩
theorem mw_dead : MW X g B S e none := ⟨fun a q => by cases q⟩
theorem mb_dead : MB X g B J S sts (none : Option o) K := ⟨fun a q => by cases q⟩
end
/-! isinstance, generally -/
section
variable {X : Cx} {g : Gb} {B : Bs} {J : Hp} {S : SL} {e e1 e2 : Expr} {pos pos' p p2 p3 tpos : Pos} {α' δ β : Type} [Py δ] [Py β] {m1 : Option α'} {k1 : α' → RK}
def TG (g : Gb) (k : α' → RK) (tf : α' → Value) : Prop := ∀ a H0 v I H, Same I H → RK.holds g (k a) H0 v I H → TyX g.K H v (tf a)
theorem me_isiG {x : Str} {Ty : String} {tf : α' → Value} {bf : α' → Bool} (hm : X.mg "isinstance" = none) (hm2 : X.mg x = none) (h : ME X g B S e m1 k1) (hT : TG g k1 tf) (hk : ∀ a, PySem.W.kitOne X.K (tf a) (.type Ty) = some (bf a)) (hv : bootBuiltins x = some (.type Ty)) (hg : Gl X "isinstance" := by rfl) (hg2 : Gl X x := by rfl) (hK : X.K = g.K := by rfl) (hn : x ≠ "__name__" := by decide) (hd : (x == ("__debug__" : Str)) = false := by decide)
    (he : starEach [e, .Name x p2] X.env = (false, eval e X.env) :: starEach [.Name x p2] X.env := by rfl) (he2 : starEach [.Name x p2] X.env = (false, eval (.Name x p2) X.env) :: starEach [] X.env := by rfl) (hpl : (backTo pos (starEach [.Name x p2] X.env)).any (·.1) = false := by rfl) :
    ME X g B S (.Call (.Name "isinstance" p) [e, .Name x p2] [] pos) (m1 >>= fun a => some (bf a)) (KI g) := by
  refine ⟨fun n q => ?_⟩
  obtain ⟨a, q1, q2⟩ := bind_some q
  cases q2
  refine pe_imp (pe_callB call_isi hg hm (by decide +kernel) (pa_cons (h.run a q1) (pa_cons (pe_bltn (v := .ty Ty) hg2 hm2 hv rfl hn hd) pa_nil he2) he) (he := he) (hpl := hpl)) fun σ H Q ⟨I, hh, kk⟩ => ⟨I, hh, fun v I' H' xx hv => ?_⟩
  exact ⟨v, .ty Ty, tf a, .type Ty, bf a, rfl, .ty Ty, by rw [hK]; exact hT a _ _ _ _ xx.s hv, hk a, kk _ I' H' xx rfl⟩
theorem me_isiG2 {x y : Str} {Tx Ty : String} {tf : α' → Value} {b1 b2 : α' → Bool} {n : Nat} (hm : X.mg "isinstance" = none) (hmx : X.mg x = none) (hmy : X.mg y = none) (h : ME X g B S e m1 k1) (hT : TG g k1 tf) (hk1 : ∀ a, PySem.W.kitOne X.K (tf a) (.type Tx) = some (b1 a)) (hk2 : ∀ a, PySem.W.kitOne X.K (tf a) (.type Ty) = some (b2 a)) (hvx : bootBuiltins x = some (.type Tx)) (hvy : bootBuiltins y = some (.type Ty)) (hg : Gl X "isinstance" := by rfl) (hgx : Gl X x := by rfl) (hgy : Gl X y := by rfl) (hK : X.K = g.K := by rfl)
    (hnx : x ≠ "__name__" := by decide) (hny : y ≠ "__name__" := by decide) (hdx : (x == ("__debug__" : Str)) = false := by decide) (hdy : (y == ("__debug__" : Str)) = false := by decide)
    (he : starEach [e, .Tuple [.Name x p2, .Name y p3] n tpos] X.env = (false, eval e X.env) :: starEach [.Tuple [.Name x p2, .Name y p3] n tpos] X.env := by rfl) (he2 : starEach [.Tuple [.Name x p2, .Name y p3] n tpos] X.env = (false, eval (.Tuple [.Name x p2, .Name y p3] n tpos) X.env) :: starEach [] X.env := by rfl)
    (he3 : starEach [.Name x p2, .Name y p3] X.env = (false, eval (.Name x p2) X.env) :: starEach [.Name y p3] X.env := by rfl) (he4 : starEach [.Name y p3] X.env = (false, eval (.Name y p3) X.env) :: starEach [] X.env := by rfl) (hpl : (backTo pos (starEach [.Tuple [.Name x p2, .Name y p3] n tpos] X.env)).any (·.1) = false := by rfl) :
    ME X g B S (.Call (.Name "isinstance" p) [e, .Tuple [.Name x p2, .Name y p3] n tpos] [] pos) (m1 >>= fun a => some (b1 a || b2 a)) (KI g) := by
  refine ⟨fun n q => ?_⟩
  obtain ⟨a, q1, q2⟩ := bind_some q
  cases q2
  refine pe_imp (pe_callB call_isiT hg hm (by decide +kernel) (pa_cons (h.run a q1) (pa_cons (pe_tup (pa_cons (pe_bltn (v := .ty Tx) hgx hmx hvx rfl hnx hdx) (pa_cons (pe_bltn (v := .ty Ty) hgy hmy hvy rfl hny hdy) pa_nil he4) he3)) pa_nil he2) he) (he := he) (hpl := hpl)) fun σ H Q ⟨I, hh, kk⟩ => ⟨I, hh, fun v I' H' xx hv => ⟨by show 2 ≤ sizeLine; rw [sizeLine_eq]; omega, fun tp htp => ?_⟩⟩
  have x2 : Ext I' H' I' (upd H' tp (.tup [.ty Tx, .ty Ty])) := ⟨Same.refl _, SW.of (same_new htp), xx.s.trans (same_new htp), fun _ _ z => z⟩
  refine ⟨v, tp, [.ty Tx, .ty Ty], tf a, [.type Tx, .type Ty], (b1 a || b2 a), rfl, upd_same, .cons (.ty _) (.cons (.ty _) .nil), by rw [hK]; exact tyx_mono (same_new htp) (hT a _ _ _ _ xx.s hv), ?_, kk _ I' _ (xx.trans x2) rfl⟩
  refine kitAny_cons (hk1 a) (fun z => kitAny_cons (hk2 a) (fun z2 => ?_) fun z2 => ?_) fun z => by rw [z]; rfl
  · rw [z, z2]; rfl
  · rw [z, z2]; rfl
theorem me_isiGC {cn : Str} {C : Addr} {tf : α' → Value} {bf : α' → Bool} (hm : X.mg "isinstance" = none) (hm2 : X.mg cn = some (.ref C)) (h : ME X g B S e m1 k1) (hT : TG g k1 tf) (hk : ∀ a, PySem.W.kitOne X.K (tf a) (.ref C) = some (bf a)) (hg : Gl X "isinstance" := by rfl) (hg2 : Gl X cn := by rfl) (hK : X.K = g.K := by rfl) (hd : (cn == ("__debug__" : Str)) = false := by decide)
    (he : starEach [e, .Name cn p2] X.env = (false, eval e X.env) :: starEach [.Name cn p2] X.env := by rfl) (he2 : starEach [.Name cn p2] X.env = (false, eval (.Name cn p2) X.env) :: starEach [] X.env := by rfl) (hpl : (backTo pos (starEach [.Name cn p2] X.env)).any (·.1) = false := by rfl) :
    ME X g B S (.Call (.Name "isinstance" p) [e, .Name cn p2] [] pos) (m1 >>= fun a => some (bf a)) (KI g) := by
  refine ⟨fun n q => ?_⟩
  obtain ⟨a, q1, q2⟩ := bind_some q
  cases q2
  refine pe_imp (pe_callB call_isi hg hm (by decide +kernel) (pa_cons (h.run a q1) (pa_cons (pe_glob (v := .ref C) hg2 hm2 rfl hd) pa_nil he2) he) (he := he) (hpl := hpl)) fun σ H Q ⟨I, hh, kk⟩ => ⟨I, hh, fun v I' H' xx hv => ?_⟩
  exact ⟨v, .ref C, tf a, .ref C, bf a, rfl, .own C, by rw [hK]; exact hT a _ _ _ _ xx.s hv, hk a, kk _ I' H' xx rfl⟩
theorem tyx_ins {K : PySem.W.Frag} {c : Str} {names : List Str} {rs : List PR} {C : Addr} {I H : Hp} {v : V} (ic : InsC K C) (hC : g.mg c = some (.ref C)) (s : Same I H) (h : (rIns g c names rs).p I v) : TyX K H v (.ref C) := by
  obtain ⟨a, dx, fs, rfl, h1⟩ := rIns_at hC I v h
  exact .base (.ins (s _ _ h1) ic.cl ic.ha ic.hn ic.htk ic.hm)
/-- things of a type, maybe None -/
def tyO {α : Type} (t : String) : Option α → Value
  | none => .type "NoneType"
  | some _ => .type t
theorem tg_opt {α : Type} [Py α] [i : IsT α] : TG g (KI (α := Option α) g) (tyO i.ty) := fun a H0 v I H s h => by
  cases a with
  | none =>
    cases (show v = .non from h)
    exact .base .non
  | some a => exact tyx_mono s (IsT.ok (α := α) h)
theorem kit_opt {α : Type} {K : PySem.W.Frag} {t Ty : String} {b : Bool} (h : kitB t Ty = some b) (h0 : kitB "NoneType" Ty = some false) (a : Option α) : PySem.W.kitOne K (tyO t a) (.type Ty) = some (a.isSome && b) := by
  cases a with
  | none => exact kit_ty h0
  | some a => exact kit_ty h
theorem tg_of {α : Type} {k : α → RK} {t : String} (h : TR g k (.type t)) : TG g k (fun _ => .type t) := fun a H0 v I H s q => h a H0 v I H s q
/-! a field that not all of a union have -/
theorem me_fldU {m : Option δ} {f : Str} {pr : δ → Option β} (h : ME X g B S e m (KI g)) (hf : ∀ d b, pr d = some b → ∀ I v, (Py.r g d).p I v → ∃ a C dx fs u, v = .ref a ∧ I a = some (.ins C dx fs) ∧ Cls X.K C ∧ NoAttr X.K C f ∧ fs.lookup f = some u ∧ (Py.r g b).p I u) (hb : attributeBase e f X.env (eval e X.env) = eval e X.env := by rfl) : ME X g B S (.Attribute e f pos) (m >>= pr) (KI g) := by
  refine ⟨fun r q => ?_⟩
  obtain ⟨d, q1, q2⟩ := bind_some q
  refine pe_imp (pe_fld (h.run d q1) hb) fun σ H Q ⟨I, hh, kk⟩ => ⟨I, hh, fun v I' H' x hv => ?_⟩
  obtain ⟨a, C, dx, fs, u, rfl, h1, h2, h3, h4, h5⟩ := hf d r q2 I' v hv
  exact ⟨a, C, dx, fs, u, rfl, x.s _ _ h1, h2, h3, h4, kk u I' H' x h5⟩
end
/-! lists -/
section
variable {X : Cx} {g : Gb} {B : Bs} {J : Hp} {S : SL} {e e1 e2 : Expr} {es : List Expr} {pos p p2 p3 apos cpos : Pos} {o ι : Type} {K : KT o} {rest : List Stmt} {α β : Type} [Py α] [Py β] {m : Option ι} {mk : ι → OR → OR} {i : Nat}
/-- list(range(e)) -/
theorem me_lrng {m : Option Int} (hm : X.mg "list" = none) (hm2 : X.mg "range" = none) (h : ME X g B S e m (KI g)) (hc : X.calm = true := by rfl) (hg : Gl X "list" := by rfl) (hg2 : Gl X "range" := by rfl)
    (he : starEach [.Call (.Name "range" p2) [e] [] p3] X.env = (false, eval (.Call (.Name "range" p2) [e] [] p3) X.env) :: starEach [] X.env := by rfl) (he2 : starEach [e] X.env = (false, eval e X.env) :: starEach [] X.env := by rfl) :
    ME X g B S (.Call (.Name "list" p) [.Call (.Name "range" p2) [e] [] p3] [] pos) (m >>= rng1O) (fun xs => .fr (rl g xs)) := by
  refine ⟨fun out q => ?_⟩
  obtain ⟨n, q1, q2⟩ := bind_some q
  unfold rng1O at q2
  by_cases hz : rngOk 0 n = true
  · rw [if_pos hz] at q2
    cases q2
    unfold rngOk at hz
    rw [Bool.and_eq_true, decide_eq_true_eq, decide_eq_true_eq] at hz
    obtain ⟨⟨_, _, b3, b4⟩, b5⟩ := hz
    rw [Int.sub_zero, sizeLine_eq] at b5
    refine pe_imp (pe_listRg hc hg hm (prg_1 hg2 hm2 (h.run n q1) he2) he) fun σ H Q ⟨I, hh, kk⟩ => ⟨I, hh, fun v I' H' x hv => ⟨n, hv, ⟨by decide, by decide, b3, b4, by rw [Int.sub_zero]; exact b5⟩, fun q hq => ?_⟩⟩
    have e : rgV 0 n = (rng 0 n.toNat).map V.int := by
      unfold rgV rng
      rw [Int.sub_zero, List.map_map]
      rfl
    rw [e]
    refine new_fr x.s ⟨?_, paired_ints _⟩ (fun u I2 H2 x2 hu => kk u I2 H2 (x.trans x2) (RK.back rfl x.h hu)) hq
    unfold rng
    rw [List.length_map, List.length_range, sizeLine_eq]; exact b5
  · rw [if_neg hz] at q2; cases q2
/-- xs.count(k), ints -/
theorem me_cnt {m : Option (List Int)} {m2 : Option Int} {k : List Int → RK} (h : ME X g B S e m k) (h2 : ME X g B S e2 m2 (KI g)) (r : LR g k := by first | exact lr_im | exact lr_fr | exact lr_rd) (hK : X.K = g.K := by rfl) (hb : ∀ c, (k c).isB = false := by intro _; rfl)
    (hst : starEach [e2] X.env = (false, eval e2 X.env) :: starEach [] X.env := by rfl) (hbase : attributeBase e "count" X.env (eval e X.env) = eval e X.env := by rfl)
    (hfew : ((backTo cpos (starEach [e2] X.env)).all (fun x => !x.1) && (backToKw cpos (keywordEach [] X.env)).all (fun x => x.1.isSome) && decide ([e2].length + ([] : List Keyword).length + (if ([] : List Keyword).isEmpty then 0 else 1) < 30)) = true := by rfl)
    (hline : (apos.endLine == cpos.line) = true := by rfl) (hplain : (backTo cpos (starEach [] X.env)).any (·.1) = false := by rfl) :
    ME X g B S (.Call (.Attribute e "count" apos) [e2] [] cpos) (m >>= fun xs => m2 >>= fun n => some ((xs.count n : Nat) : Int)) (KI g) := by
  refine ⟨fun out q => ?_⟩
  obtain ⟨xs, q1, q⟩ := bind_some q
  obtain ⟨n, q2, q3⟩ := bind_some q
  cases q3
  refine pe_imp (pe_bm PySem.F.plainAttrs_list PySem.F.slot_list_count PySem.F.type_list_count mt_lcount (h.run xs q1) (pa_cons (h2.run n q2) pa_nil hst) hbase hfew hline hst hplain) fun σ H Q ⟨I, hh, kk⟩ => ⟨I, hh, fun v I' H' x hv => ?_⟩
  obtain ⟨l, vs, rfl, h1, h3⟩ := r xs _ _ _ _ x.s hv
  have e1 := vals_ints h3.2
  subst e1
  refine ⟨.inl ⟨rfl, _, by rw [hK]; exact h1⟩, I', hh.ext x, fun w I2 H2 x2 hw => ⟨l, xs, n, rfl, by cases hw; rfl, by rw [hK]; exact x2.h.seq h1, kk _ I2 H2 (x.trans x2) rfl⟩⟩
/-- the list without the first k -/
@[irreducible] def remO (xs : List Int) (k : Int) : Option (List Int) := if k ∈ xs then some (xs.erase k) else none
theorem erase_idx {k : Int} : ∀ {xs : List Int}, k ∈ xs → ∃ j, xs[j]? = some k ∧ (∀ m : Nat, m < j → xs[m]? ≠ some k) ∧ xs.eraseIdx j = xs.erase k
  | [], h => by cases h
  | x :: xs, h => by
    by_cases e : x = k
    · subst e
      exact ⟨0, rfl, fun m hm => by omega, by simp⟩
    · obtain ⟨j, h1, h2, h3⟩ := erase_idx ((List.mem_cons.mp h).resolve_left fun z => e z.symm)
      refine ⟨j + 1, by simpa using h1, fun m hm => ?_, ?_⟩
      · cases m with
        | zero => simpa using e
        | succ m => simpa using h2 m (by omega)
      · rw [List.eraseIdx_cons_succ, h3, List.erase_cons_tail]
        simpa using e
/-- place.remove(e2), ints -/
theorem mb_remP {as : ι → List Int} {m2 : Option Int} {f : ι → List Int → Option o} (h : MP X g B S i e m (fun x => oF (rl g (as x))) mk) (he : ME X g B S e2 m2 (KI g)) (hb : ∀ x bs, MB X g B J (S.set i (some (.ow (mk x (oF (rl g bs)))))) rest (f x bs) K)
    (hs : swapsWith (.Call (.Attribute e "remove" apos) [e2] [] cpos) none pos.line X.env = pure false := by rfl) (hst : starEach [e2] X.env = (false, eval e2 X.env) :: starEach [] X.env := by rfl)
    (hbase : attributeBase e "remove" X.env (eval e X.env) = eval e X.env := by rfl)
    (hfew : ((backTo cpos (starEach [e2] X.env)).all (fun x => !x.1) && (backToKw cpos (keywordEach [] X.env)).all (fun x => x.1.isSome) && decide ([e2].length + ([] : List Keyword).length + (if ([] : List Keyword).isEmpty then 0 else 1) < 30)) = true := by rfl)
    (hline : (apos.endLine == cpos.line) = true := by rfl) (hplain : (backTo cpos (starEach [] X.env)).any (·.1) = false := by rfl) :
    MB X g B J S (.Expr (.Call (.Attribute e "remove" apos) [e2] [] cpos) pos :: rest) (m >>= fun x => m2 >>= fun a => remO (as x) a >>= fun bs => f x bs) K := by
  refine ⟨fun r q => ?_⟩
  obtain ⟨x, q1, q⟩ := bind_some q
  obtain ⟨a, q2, q⟩ := bind_some q
  obtain ⟨bs, q3, q4⟩ := bind_some q
  unfold remO at q3
  by_cases hz : a ∈ as x
  · rw [if_pos hz] at q3
    cases q3
    refine pss_imp (pss_cons (ps_expr (pe_bm PySem.F.plainAttrs_list PySem.F.slot_list_remove PySem.F.type_list_remove mt_remove (h.run x q1) (pa_cons (he.run a q2) pa_nil hst) hbase hfew hline hst hplain) hs) ((hb x _).run r q4)) fun D σ H ⟨I, ok, kk⟩ => ?_
    obtain ⟨x0, oj, Φ, hh⟩ := ok
    refine ⟨I, Φ, hh, fun v1 I1 H1 x1 ⟨v, e1, fc⟩ => ?_⟩
    obtain ⟨l, vs, rfl, hl, hq, put⟩ := foc_leaf fc
    have h1 := x1.h.get _ _ (hh.fr i l _ hl).1
    have ev := vals_ints hq.2
    subst ev
    obtain ⟨j, j1, j2, j3⟩ := erase_idx hz
    refine ⟨.inl ⟨rfl, _, SqL.of h1⟩, I1, ⟨Φ, hh.ext x1⟩, fun w I2 H2 x2 hw => ⟨l, as x, a, j, rfl, by cases hw; rfl, x2.h.get _ _ h1, j1, j2, I2, ?_, kk⟩⟩
    have x12 := x1.trans x2
    rw [j3]
    refine HoldF.store (x0.trans x12) (oj.trans x12.i) (hh.ext x12) e1 hl (F' := fun _ => none) (fun _ _ z => by cases z) (fun a z => absurd rfl z) (put (rl g _) _ I2 x2.i ⟨?_, paired_ints _⟩)
    exact Nat.le_trans (List.length_erase_le) hq.1
  · rw [if_neg hz] at q3; cases q3
/-- place.extend(e2), a new list -/
theorem mb_extP {as : ι → List α} {m2 : Option (List α)} {f : ι → List α → Option o} (h : MP X g B S i e m (fun x => oF (rl g (as x))) mk) (he : ME X g B S e2 m2 (fun xs => .fr (rl g xs))) (hb : ∀ x bs, MB X g B J (S.set i (some (.ow (mk x (oF (rl g bs)))))) rest (f x bs) K)
    (hs : swapsWith (.Call (.Attribute e "extend" apos) [e2] [] cpos) none pos.line X.env = pure false := by rfl) (hst : starEach [e2] X.env = (false, eval e2 X.env) :: starEach [] X.env := by rfl)
    (hbase : attributeBase e "extend" X.env (eval e X.env) = eval e X.env := by rfl)
    (hfew : ((backTo cpos (starEach [e2] X.env)).all (fun x => !x.1) && (backToKw cpos (keywordEach [] X.env)).all (fun x => x.1.isSome) && decide ([e2].length + ([] : List Keyword).length + (if ([] : List Keyword).isEmpty then 0 else 1) < 30)) = true := by rfl)
    (hline : (apos.endLine == cpos.line) = true := by rfl) (hplain : (backTo cpos (starEach [] X.env)).any (·.1) = false := by rfl) :
    MB X g B J S (.Expr (.Call (.Attribute e "extend" apos) [e2] [] cpos) pos :: rest) (m >>= fun x => m2 >>= fun a => catO (as x) a >>= fun bs => f x bs) K := by
  refine ⟨fun r q => ?_⟩
  obtain ⟨x, q1, q⟩ := bind_some q
  obtain ⟨a, q2, q⟩ := bind_some q
  obtain ⟨bs, q3, q4⟩ := bind_some q
  unfold catO at q3
  by_cases hz : catOk (as x).length a.length = true
  · rw [if_pos hz] at q3
    cases q3
    have hz' : (as x).length + a.length ≤ sizeLine := of_decide_eq_true hz
    refine pss_imp (pss_cons (ps_expr (pe_bm PySem.F.plainAttrs_list PySem.F.slot_list_extend PySem.F.type_list_extend mt_extend (h.run x q1) (pa_cons (he.run a q2) pa_nil hst) hbase hfew hline hst hplain) hs) ((hb x _).run r q4)) fun D σ H ⟨I, ok, kk⟩ => ?_
    obtain ⟨x0, oj, Φ, hh⟩ := ok
    refine ⟨I, Φ, hh, fun v1 I1 H1 x1 ⟨v, e1, fc⟩ => ?_⟩
    obtain ⟨l, vs, rfl, hl, hq, put⟩ := foc_leaf fc
    have h1 := x1.h.get _ _ (hh.fr i l _ hl).1
    refine ⟨.inl ⟨rfl, _, SqL.of h1⟩, I1, ⟨Φ, hh.ext x1⟩, fun w I2 H2 x2 hw => ?_⟩
    obtain ⟨b, ws, rfl, b1, b2, b3, b4⟩ := hw
    have x12 := x1.trans x2
    refine ⟨l, b, vs, ws, rfl, rfl, x2.h.get _ _ h1, b3, by rw [rl_len hq, rl_len b4]; exact hz', I2, ?_, kk⟩
    refine HoldF.store (x0.trans x12) (oj.trans x12.i) (hh.ext x12) e1 hl (F' := fun _ => none) (fun _ _ z => by cases z) (fun a z => absurd rfl z) (put (rl g _) _ I2 x2.i ⟨?_, paired_app ((rl g (as x)).mono x2.i hq).2 b4.2⟩)
    rw [List.length_append]; exact hz'
  · rw [if_neg hz] at q3; cases q3
end
end T
set_option Elab.async false
set_option linter.all false
set_option maxRecDepth 100000
namespace T
open PySem PySem.Spec PyProof.Rows L2
/-! a def whose code object is known: one that makes a lambda -/
section
variable [TabsC] {P : Program} {w : World} {K : PySem.W.Frag} {mg : Str → Option Value} {base : Heap} {ι β : Type} {args : ι → List RK} {M : ι → Option β} {kd : β → RK}
structure FunC (K : PySem.W.Frag) (x qual : Str) (st : Stmt) (f : Addr) (fd : FuncData) (cdv : Value) : Prop where
  ex : ∃ (oc : Value) (od : Option Addr) (dV kV doc pm : Value) (an : Option Addr) (ct : Value) (osl : Array (Option Value)),
    fd = PySem.W.fnOf x qual (defArgs st) (defBody st) (defScope st) dV kV doc pm an cdv ct ∧ K.lookup f = some ⟨oc, od, .func fd, osl⟩ ∧ PySem.W.codeIn K cdv qual = true
  kp : PySem.W.keepIn K (.ref f) = true
theorem fnc_mk {x qual : Str} {st : Stmt} {f : Addr} {fd : FuncData} {cdv : Value} {N ps : List Str} {k : Nat} (F : FunC K x qual st f fd cdv) (Sc : FnScope N ps (defScope st)) (hn : ∀ a, (args a).length = ps.length) (hk : ∀ a, (args a).all RK.argy = true) (hN : ps.length ≤ N.length)
    (body : ∀ (A : Around) (outer : List Env) (s : Shared) (H : Hp) (E : XK) (I : Hp) (a : ι), Room k (A.deeper (envOfC qual (defScope st) s.heap.objs.size f cdv)) →
      MB (cxOf CX0 P w K mg base N qual (defScope st) f cdv A outer s H E).nox ⟨K, mg⟩ ⟨I, H⟩ I (S0 N (args a)) (defBody st) (M a) (Kt ⟨K, mg⟩ ⟨I, H⟩ kd)) :
    FnOk P w K mg base CX0 (k + 1) f fd ps (spT ⟨K, mg⟩ args M kd) := by
  obtain ⟨oc, od, dV, kV, doc, pm, an, ct, osl, rfl, lk, hcd⟩ := F.ex
  refine fn_of lk hcd Sc (fun vs H Q E ⟨I, a, r, s, _, hA, _⟩ => ?_) fun A outer s H vs Q E hr ⟨I, a, r, si, tb, hA, hM, q⟩ => ?_
  · rw [← Paired.length hA, hn]
  · exact ⟨_, ((body A outer s H E I a hr).run r hM).nox, I, hold_start (by rw [hn]; exact hN) si tb hA (hk a), fun v I' H' x hv => q v I' H' x hv⟩
end
/-- the end of a law whose program makes a lambda: its table is known -/
theorem walk_lam {l : PySem.W.OpenLaw} {k : Nat} {q : Program} {loose : List Str} {XP : (Str → Option Value) → Heap → Prop} {YP : World → Heap → Prop} {d : DefRec} {K : Params → PySem.W.Frag} {x nm qn : Str} {dL : DefRec}
    (hn : l.most = some 63) (hdf : d.params.defaults = []) (hr : Room k callerA) (hY : ∀ (w : World) (h : Heap), YP w h → (K w.params).In h) (hrec : (recsOf q).find? (fun e => e.name == nm) = some dL)
    (F : ∀ (w : World) (mg : Str → Option Value) (fa : Addr) (h : Heap), (K w.params).In h → h.Ns mainGlobals mg → mg d.name = some (.ref fa) → ∃ (fd : FuncData) (c P : Addr), PySem.W.tabIn (K w.params) nm = some (c, P) ∧ (K w.params).lookup P = none ∧ (∀ (s : Shared) (u : Value), BindsTo s fd ⟨[u], []⟩ [(x, u)]) ∧
      ∀ base : Heap, (K w.params).In base → base.Ns mainGlobals mg → LamX.TabB base mg c P → FnOk l.prog w (K w.params) mg base CX0 k fa fd [x] (@spL ⟨[(P, qn)]⟩ (K w.params))) :
    PySem.W.WalkO q loose XP YP l.row.toRowW d [] (fun f vs => PySem.call f vs) := by
  refine Att.attach_callB hn hdf fun w s₀ s₁ mg mb fa o pm cd doc a vs ns G Y ho hd hcd hmg hobj hints hlen hbits hg => ?_
  have KX := hY w _ Y
  obtain ⟨fd, c, P, h1, h2, h3, h4⟩ := F w mg fa _ KX G.T.g hmg
  obtain ⟨t1, t2⟩ := PySem.W.tab_of G.T KX hrec h1
  have one : ∀ {φ : Addr × Addr → Prop}, φ (c, P) → ∀ p ∈ [(c, P)], φ p := fun h p hp => by rw [List.mem_singleton.mp hp]; exact h
  refine LamX.law_callTs (cs := [(c, P)]) (CX := CX0) (sp := @spL ⟨[(P, qn)]⟩ (K w.params)) KX G.T.g G.T.b G.T.builtins G.T.nolimit hg (one t2) (one h2) (one t1) G.T.bmain hobj hints (Nat.le_trans hlen (by decide)) hr (fun base b1 b2 b3 => h4 base b1 b2 (b3 (c, P) (List.mem_singleton.mpr rfl))) h3 (fun H hH hS => ?_) fun H e s' z => z
  refine ⟨fun p hp => ?_, a, ns, rfl, hS, hlen, fun H' => rfl⟩
  have hp' : p ∈ [(P, qn)] := hp
  rw [List.mem_singleton.mp hp']
  exact LamX.TabS.nil (hH (c, P) (List.mem_singleton.mpr rfl))
end T
set_option Elab.async false
set_option linter.all false
set_option maxRecDepth 100000
namespace T
variable [TabsC]
open PySem PySem.Spec PyProof.Rows L2
/-! a def that hands back a pair whose first part is an own list of a slot -/
section
variable {g : Gb}
theorem own_pair {o1 o2 : OR} {Hb H1 I1 I2 H2 F1 F2 : Hp} {v w : V} {l : Addr} (b1 : SW Hb H1) (f1 : ∀ c, F1 c ≠ none → Hb c = none ∧ I1 c = none) (f2 : Same F1 H1) (f3 : o1.p I1 F1 v) (x2 : Ext I1 H1 I2 H2) (hb : HasT Hb)
    (g1 : ∀ c, F2 c ≠ none → H1 c = none ∧ I2 c = none) (g2 : Same F2 H2) (g3 : o2.p I2 F2 w) (hl : H2 l = none) :
    RK.holds g (.ow (oC wT [o1, o2])) Hb (.ref l) I2 (upd H2 l (.tup [v, w])) := by
  have hI := x2.s.free hl
  have f2' := x2.h.part f2 (frag_noT hb f1)
  have F1l : F1 l = none := f2'.free hl
  have F2l : F2 l = none := g2.free hl
  have dis : ∀ c, F2 c ≠ none → F1 c = none := fun c hc => f2.free (g1 c hc).1
  have hU : ∀ c o, Un F1 F2 c = some o → H2 c = some o := fun c o e => (un_some e).elim (fun z => g2 _ _ z) fun z => f2' _ _ z.2
  refine ⟨NewF (Un F1 F2) l (.tup [v, w]) fun _ => none, fun c hc => ?_, fun c o e => ?_, l, _, [v, w], rfl, newF_root, rfl, rfl, pk2 F1 F2, fun n o u e1 e2 => ?_, fun n c o e => ?_, fun n => ?_, fun n n2 c e1 e2 => ?_⟩
  · rcases newF_ne hc with z | z | z
    · subst z; exact ⟨b1.free (x2.h.free hl), hI⟩
    · exact absurd rfl z
    · cases q : F2 c with
      | some o => exact ⟨b1.free (g1 c (ne_of_some q)).1, (g1 c (ne_of_some q)).2⟩
      | none =>
        rw [un_none q] at z
        exact ⟨(f1 c z).1, x2.n c (same_ne f2 z) (f1 c z).2⟩
  · by_cases hc : c = l
    · subst hc
      rw [newF_root] at e
      rw [upd_same]; exact e
    · rw [newF_old hc rfl] at e
      rw [upd_ne hc]
      exact hU c o e
  · match n, e1, e2 with
    | 0, e1, e2 =>
      cases e1
      cases e2
      exact OR.mono _ x2.i f3
    | 1, e1, e2 =>
      cases e1
      cases e2
      exact g3
    | n + 2, e1, e2 => simp at e1
  · match n, e with
    | 0, e =>
      have e' : F1 c = some o := e
      rw [newF_old (fun z => by rw [z, F1l] at e'; cases e') rfl]
      cases hq : F2 c with
      | none => rw [un_none hq]; exact e'
      | some y => rw [dis c (ne_of_some hq)] at e'; cases e'
    | 1, e =>
      have e' : F2 c = some o := e
      rw [newF_old (fun z => by rw [z, F2l] at e'; cases e') rfl]
      exact un_r e'
    | n + 2, e => cases e
  · match n with
    | 0 => exact F1l
    | 1 => exact F2l
    | n + 2 => rfl
  · match n, n2, e1, e2 with
    | 0, 0, _, _ => rfl
    | 1, 1, _, _ => rfl
    | 0, 1, e1, e2 => exact absurd (dis c e2) e1
    | 1, 0, e1, e2 => exact absurd (dis c e1) e2
    | 0, n + 2, e1, e2 => exact absurd rfl e2
    | 1, n + 2, e1, e2 => exact absurd rfl e2
    | n + 2, _, e1, _ => exact absurd rfl e1
end
section
variable {X : Cx} {g : Gb} {B : Bs} {J : Hp} {S : SL} {e1 e2 : Expr} {pos pos' p : Pos} {o α β : Type} [Py α] {K : KT o}
theorem mb_retM {n : Nat} (i : Nat) {x : Str} {as : List α} {m2 : Option β} {k2 : β → RK} {inj : T2 (List α) β → o} (kr : KR g B K inj (fun t => .ow (oC wT [oF (rl g t.x0), (k2 t.x1).orOf]))) (h2 : ME X g B S e2 m2 k2) (s2 : ∀ a, (k2 a).slotty = true := by intro _; rfl) (hS : S[i]? = some (some (.fr (rl g as))) := by rfl) (hN : X.N[i]? = some x := by rfl) (hv : Vis X.env.scope x := by first | exact Or.inl rfl | exact Or.inr (Or.inl rfl) | exact Or.inr (Or.inr rfl))
    (hd : (x == ("__debug__" : Str)) = false := by decide) (hcd : (x == ("__classdict__" : Str)) = false := by decide)
    (hs : starEach [.Name x p, e2] X.env = (false, eval (.Name x p) X.env) :: starEach [e2] X.env := by rfl) (hs2 : starEach [e2] X.env = (false, eval e2 X.env) :: starEach [] X.env := by rfl) : MB X g B J S [.Return (some (.Tuple [.Name x p, e2] n pos')) pos] (m2 >>= fun b => some (inj (T2.mk as b))) K := by
  refine ⟨fun r q => ?_⟩
  obtain ⟨b, q2, q3⟩ := bind_some q
  cases q3
  refine pss_imp (pss_one (ps_ret (pe_tup (pa_cons (pe_var hN hv hd hcd) (pa_cons (h2.run b q2) pa_nil hs2) hs)))) fun D σ H ⟨I, ok, kk⟩ => ?_
  obtain ⟨v, e1, l1, vs, rfl, a1, a2, a3, a4⟩ := ok.h.at_ i _ hS
  refine ⟨_, e1, I, ok.h, fun w I2 H2 x2 hw => ⟨by show 2 ≤ sizeLine; decide, fun l hl => ?_⟩⟩
  obtain ⟨F2, g1, g2, g3⟩ := RK.fragO (s2 b) hw
  refine kr (T2.mk as b) D kk (.ref l) I2 _ ((ok.x.trans x2).trans ⟨Same.refl _, SW.of (same_new hl), x2.s.trans (same_new hl), fun _ _ z => z⟩) ?_
  refine own_pair (F1 := fun c => if c = l1 then some (.lst vs) else none) ok.x.h (fun c hc => ?_) (fun c o e => ?_) ⟨l1, vs, rfl, if_pos rfl, a4⟩ x2 ?_ g1 g2 g3 hl
  · have hc' : (if c = l1 then some (HO.lst vs) else none) ≠ none := hc
    by_cases hcl : c = l1
    · subst hcl; exact ⟨a1, a2⟩
    · rw [if_neg hcl] at hc'; exact absurd rfl hc'
  · have e' : (if c = l1 then some (HO.lst vs) else none) = some o := e
    by_cases hcl : c = l1
    · subst hcl; rw [if_pos rfl] at e'; cases e'; exact a3
    · rw [if_neg hcl] at e'; cases e'
  · exact ok.h.tb.b
variable {β' γ' δ' : Type} [Py β'] [Py γ'] [Py δ']
/-! the length of a tuple, of a row -/
variable {m : Option α} {e : Expr}
theorem me_lenT {n : Nat} (hf : ∀ (a : α) I v, (Py.r g a).p I v → ∃ l vs, v = .ref l ∧ (SqL g.K I l vs ∨ SqT g.K I l vs) ∧ vs.length = n) (hm : X.mg "len" = none) (h : ME X g B S e m (KI g)) (hg : Gl X "len" := by rfl) (hK : X.K = g.K := by rfl) (he : starEach [e] X.env = (false, eval e X.env) :: starEach [] X.env := by rfl) (hpl : (backTo pos (starEach [] X.env)).any (·.1) = false := by rfl) :
    ME X g B S (.Call (.Name "len" p) [e] [] pos) (m >>= fun _ => some (n : Int)) (KI g) := by
  refine ⟨fun r q => ?_⟩
  obtain ⟨a, q1, q2⟩ := bind_some q
  cases q2
  refine pe_imp (pe_callB call_len_seq hg hm PySem.boot_len (pa_cons (h.run a q1) pa_nil he) (he := he) (hpl := hpl)) fun σ H Q ⟨I, hh, kk⟩ => ⟨I, hh, fun v I' H' x hv => ?_⟩
  obtain ⟨l, vs, rfl, h1, h2⟩ := hf a _ _ hv
  refine ⟨l, vs, rfl, ?_, ?_⟩
  · rw [hK]
    exact h1.imp (fun z => x.s.seq z) fun z => seqT x.s z
  · rw [h2]; exact kk _ I' H' x rfl
theorem len_t2 (a : T2 α β') (I : Hp) (v : V) (h : (Py.r g a).p I v) : ∃ l vs, v = .ref l ∧ (SqL g.K I l vs ∨ SqT g.K I l vs) ∧ vs.length = 2 := by
  obtain ⟨q, x, y, rfl, h, _⟩ := h
  exact ⟨q, _, rfl, .inr h, rfl⟩
theorem len_t3 (a : T3 α β' γ') (I : Hp) (v : V) (h : (Py.r g a).p I v) : ∃ l vs, v = .ref l ∧ (SqL g.K I l vs ∨ SqT g.K I l vs) ∧ vs.length = 3 := by
  obtain ⟨q, x, y, z, rfl, h, _⟩ := h
  exact ⟨q, _, rfl, .inr h, rfl⟩
theorem len_t4 (a : T4 α β' γ' δ') (I : Hp) (v : V) (h : (Py.r g a).p I v) : ∃ l vs, v = .ref l ∧ (SqL g.K I l vs ∨ SqT g.K I l vs) ∧ vs.length = 4 := by
  obtain ⟨q, x, y, z, t, rfl, h, _⟩ := h
  exact ⟨q, _, rfl, .inr h, rfl⟩
theorem len_ht {β : Type} [PyS β] {n : Nat} (hn : ∀ b : β, (PyS.rs g b).length = n := by intro _; rfl) (a : HT β) (I : Hp) (v : V) (h : (Py.r g a).p I v) : ∃ l vs, v = .ref l ∧ (SqL g.K I l vs ∨ SqT g.K I l vs) ∧ vs.length = n := by
  obtain ⟨q, vs, rfl, h, h2⟩ := h
  exact ⟨q, _, rfl, .inr h, by rw [← Paired.length h2, hn]⟩
theorem len_hl {β : Type} [PyS β] {n : Nat} (hn : ∀ b : β, (PyS.rs g b).length = n := by intro _; rfl) (a : HL β) (I : Hp) (v : V) (h : (Py.r g a).p I v) : ∃ l vs, v = .ref l ∧ (SqL g.K I l vs ∨ SqT g.K I l vs) ∧ vs.length = n := by
  obtain ⟨q, vs, rfl, h, _, h2⟩ := h
  exact ⟨q, _, rfl, .inl h, by rw [← Paired.length h2, hn]⟩
variable {α β γ δ : Type} [Py α] [Py β] [Py γ] [Py δ] {p2 p3 p4 : Pos}
theorem mg_t4 (i j l m : Nat) {x y z t : Str} {k : Nat} (hN : X.N.Nodup) (h0 : X.N[i]? = some x := by rfl) (h1 : X.N[j]? = some y := by rfl) (h2 : X.N[l]? = some z := by rfl) (h3 : X.N[m]? = some t := by rfl) (hx0 : Loc X.env.scope x := by first | exact Or.inl rfl | exact Or.inr rfl) (hx1 : Loc X.env.scope y := by first | exact Or.inl rfl | exact Or.inr rfl) (hx2 : Loc X.env.scope z := by first | exact Or.inl rfl | exact Or.inr rfl) (hx3 : Loc X.env.scope t := by first | exact Or.inl rfl | exact Or.inr rfl) (hf0 : X.fn x = true ∨ X.env.scope.names.lookup x = some .local := by first | exact .inl rfl | exact .inr rfl) (hf1 : X.fn y = true ∨ X.env.scope.names.lookup y = some .local := by first | exact .inl rfl | exact .inr rfl) (hf2 : X.fn z = true ∨ X.env.scope.names.lookup z = some .local := by first | exact .inl rfl | exact .inr rfl) (hf3 : X.fn t = true ∨ X.env.scope.names.lookup t = some .local := by first | exact .inl rfl | exact .inr rfl)
    (hc : X.calm = true := by rfl) (hK : X.K = g.K := by rfl) (hn : (assignEach [Expr.Name x p, Expr.Name y p2, Expr.Name z p3, Expr.Name t p4] X.env).length = 4 := by rfl) (hst : (assignEach [Expr.Name x p, Expr.Name y p2, Expr.Name z p3, Expr.Name t p4] X.env).findIdx? (·.1) = none := by rfl) (hs0 : (assignEach [Expr.Name x p, Expr.Name y p2, Expr.Name z p3, Expr.Name t p4] X.env).map (·.2) = assign (.Name x p) X.env :: (assignEach [Expr.Name y p2, Expr.Name z p3, Expr.Name t p4] X.env).map (·.2) := by rfl) (hs1 : (assignEach [Expr.Name y p2, Expr.Name z p3, Expr.Name t p4] X.env).map (·.2) = assign (.Name y p2) X.env :: (assignEach [Expr.Name z p3, Expr.Name t p4] X.env).map (·.2) := by rfl) (hs2 : (assignEach [Expr.Name z p3, Expr.Name t p4] X.env).map (·.2) = assign (.Name z p3) X.env :: (assignEach [Expr.Name t p4] X.env).map (·.2) := by rfl) (hs3 : (assignEach [Expr.Name t p4] X.env).map (·.2) = assign (.Name t p4) X.env :: (assignEach [] X.env).map (·.2) := by rfl) :
    MG (α := T4 α β γ δ) X g (.Tuple [.Name x p, .Name y p2, .Name z p3, .Name t p4] k pos) (gTup g.K 4 (gCons (gName i) (gCons (gName j) (gCons (gName l) (gCons (gName m) gNil))))) (fun t S => (((S.set i (some (.im (Py.r g t.x0)))).set j (some (.im (Py.r g t.x1)))).set l (some (.im (Py.r g t.x2)))).set m (some (.im (Py.r g t.x3)))) [i, j, l, m] :=
  ⟨by rw [← hK]; exact pg_tup hc (pgs_cons (pg_name hN h0 hx0 hf0) (pgs_cons (pg_name hN h1 hx1 hf1) (pgs_cons (pg_name hN h2 hx2 hf2) (pgs_cons (pg_name hN h3 hx3 hf3) pgs_nil hs3) hs2) hs1) hs0) hn hst, fun B S t v σ I H Q h ⟨q, a, b, c, d, e, h0, h1, h2, h3, h4⟩ k => ⟨q, [a, b, c, d], e, seqT h.sub h0, rfl, a, [b, c, d], rfl, b, [c, d], rfl, c, [d], rfl, d, [], rfl, rfl, k _ (hold_put (hold_put (hold_put (hold_put h h1) h2) h3) h4) fun vs ht => (wipe_set (ht m (by simp))).trans ((wipe_set (ht l (by simp))).trans ((wipe_set (ht j (by simp))).trans (wipe_set (ht i (by simp)))))⟩⟩
end
end T
set_option Elab.async false
set_option linter.all false
set_option maxRecDepth 100000
namespace T
variable [TabsC]
open PySem PySem.Spec PyProof.Rows L2
/-! a stretch in which own lists stand still: a new base for the while -/
def eqP (u : V) : PR := ⟨fun _ v => v = u, fun _ h => h⟩
def lentP (g : Gb) (u : V) (BH : Hp) (q : PL) : PR := ⟨fun I v => v = u ∧ ∃ l vs, v = .ref l ∧ SqL g.K BH l vs ∧ q.p I vs, fun s ⟨e, l, vs, e2, h, h2⟩ => ⟨e, l, vs, e2, h, q.mono s h2⟩⟩
inductive Lend (g : Gb) (u : Nat → V) (BH : Hp) : Nat → SL → SL → Prop
  | nil {n : Nat} : Lend g u BH n [] []
  | no {n : Nat} {S T : SL} : Lend g u BH (n + 1) S T → Lend g u BH n (none :: S) (none :: T)
  | im {n : Nat} {p : PR} {S T : SL} : Lend g u BH (n + 1) S T → Lend g u BH n (some (.im p) :: S) (some (.im p) :: T)
  | hide {n : Nat} {k : RK} {S T : SL} : Lend g u BH (n + 1) S T → Lend g u BH n (some k :: S) (some (.im (eqP (u n))) :: T)
  | lend {n : Nat} {q : PL} {S T : SL} : Lend g u BH (n + 1) S T → Lend g u BH n (some (.fr q) :: S) (some (.im (lentP g (u n) BH q)) :: T)
  | lendB {n : Nat} {q : PL} {S T : SL} : Lend g u BH (n + 1) S T → Lend g u BH n (some (.bw q) :: S) (some (.im (lentP g (u n) BH q)) :: T)
inductive Back (g : Gb) (u : Nat → V) (BH : Hp) : Nat → SL → SL → SL → Prop
  | nil {n : Nat} : Back g u BH n [] [] []
  | no {n : Nat} {s : Option RK} {S T T' : SL} : Back g u BH (n + 1) S T T' → Back g u BH n (s :: S) (none :: T) (none :: T')
  | im {n : Nat} {s : Option RK} {p : PR} {S T T' : SL} : Back g u BH (n + 1) S T T' → Back g u BH n (s :: S) (some (.im p) :: T) (some (.im p) :: T')
  | hide {n : Nat} {k : RK} {S T T' : SL} : Back g u BH (n + 1) S T T' → Back g u BH n (some k :: S) (some (.im (eqP (u n))) :: T) (some k :: T')
  | lend {n : Nat} {k : RK} {q : PL} {S T T' : SL} : Back g u BH (n + 1) S T T' → Back g u BH n (some k :: S) (some (.im (lentP g (u n) BH q)) :: T) (some k :: T')
theorem Lend.len {g : Gb} {u : Nat → V} {BH : Hp} {n : Nat} {S T : SL} (h : Lend g u BH n S T) : T.length = S.length := by
  induction h with
  | nil => rfl
  | no _ ih | im _ ih | hide _ ih | lend _ ih | lendB _ ih => simp [ih]
theorem Back.len {g : Gb} {u : Nat → V} {BH : Hp} {n : Nat} {S T T' : SL} (h : Back g u BH n S T T') : T'.length = T.length := by
  induction h with
  | nil => rfl
  | no _ ih | im _ ih | hide _ ih | lend _ ih => simp [ih]
theorem Lend.at_ {g : Gb} {u : Nat → V} {BH : Hp} {n : Nat} {S T : SL} (h : Lend g u BH n S T) : ∀ (i : Nat) (k : RK), T[i]? = some (some k) →
    (∃ p, k = .im p ∧ S[i]? = some (some (.im p))) ∨ (k = .im (eqP (u (n + i))) ∧ ∃ k0, S[i]? = some (some k0)) ∨ (∃ q, k = .im (lentP g (u (n + i)) BH q) ∧ (S[i]? = some (some (.fr q)) ∨ S[i]? = some (some (.bw q)))) := by
  induction h with
  | nil => intro i k e; simp at e
  | @no n S T _ ih =>
    intro i k e
    cases i with
    | zero => cases e
    | succ i =>
      have := ih i k e
      rwa [show n + 1 + i = n + (i + 1) by omega] at this
  | @im n p S T _ ih =>
    intro i k e
    cases i with
    | zero => cases e; exact .inl ⟨p, rfl, rfl⟩
    | succ i =>
      have := ih i k e
      rwa [show n + 1 + i = n + (i + 1) by omega] at this
  | @hide n k0 S T _ ih =>
    intro i k e
    cases i with
    | zero => cases e; exact .inr (.inl ⟨rfl, k0, rfl⟩)
    | succ i =>
      have := ih i k e
      rwa [show n + 1 + i = n + (i + 1) by omega] at this
  | @lend n q S T _ ih =>
    intro i k e
    cases i with
    | zero => cases e; exact .inr (.inr ⟨q, rfl, .inl rfl⟩)
    | succ i =>
      have := ih i k e
      rwa [show n + 1 + i = n + (i + 1) by omega] at this
  | @lendB n q S T _ ih =>
    intro i k e
    cases i with
    | zero => cases e; exact .inr (.inr ⟨q, rfl, .inr rfl⟩)
    | succ i =>
      have := ih i k e
      rwa [show n + 1 + i = n + (i + 1) by omega] at this
theorem Back.at_ {g : Gb} {u : Nat → V} {BH : Hp} {n : Nat} {S T T' : SL} (h : Back g u BH n S T T') : ∀ (i : Nat) (k : RK), T'[i]? = some (some k) →
    (∃ p, k = .im p ∧ T[i]? = some (some (.im p))) ∨ (S[i]? = some (some k) ∧ ∃ p : PR, T[i]? = some (some (.im p)) ∧ ∀ I v, p.p I v → v = u (n + i)) := by
  induction h with
  | nil => intro i k e; simp at e
  | @no n s S T T' _ ih =>
    intro i k e
    cases i with
    | zero => cases e
    | succ i =>
      have := ih i k e
      rwa [show n + 1 + i = n + (i + 1) by omega] at this
  | @im n s p S T T' _ ih =>
    intro i k e
    cases i with
    | zero => cases e; exact .inl ⟨p, rfl, rfl⟩
    | succ i =>
      have := ih i k e
      rwa [show n + 1 + i = n + (i + 1) by omega] at this
  | @hide n k0 S T T' _ ih =>
    intro i k e
    cases i with
    | zero => cases e; exact .inr ⟨rfl, _, rfl, fun I v h => h⟩
    | succ i =>
      have := ih i k e
      rwa [show n + 1 + i = n + (i + 1) by omega] at this
  | @lend n k0 q S T T' _ ih =>
    intro i k e
    cases i with
    | zero => cases e; exact .inr ⟨rfl, _, rfl, fun I v h => h.1⟩
    | succ i =>
      have := ih i k e
      rwa [show n + 1 + i = n + (i + 1) by omega] at this
/-- how the new base stands to the old one -/
def LF (g : Gb) (B : Bs) (J : Hp) (S : SL) (u : Nat → V) (B' : Bs) (J' : Hp) : Prop := ∃ σ0 Φ0, HoldF g B S σ0 B'.I B'.H Φ0 ∧ Ext B.I B.H B'.I B'.H ∧ Same J B'.I ∧ J' = B'.I ∧ ∀ n v, σ0[n]? = some (some v) → u n = v
section
variable {X : Cx} {g : Gb} {B : Bs} {J : Hp} {S : SL} {o : Type} {K : KT o} {m : Option o} {sts rest : List Stmt}
theorem mb_lend {S1 : (Nat → V) → Hp → SL} (hS : ∀ u BH, Lend g u BH 0 S (S1 u BH)) (h : ∀ u B' J', LF g B J S u B' J' → MB X g B' J' (S1 u B'.H) sts m K) : MB X g B J S sts m K := by
  refine ⟨fun r q => ⟨fun pins s σ H D IV hw => ?_⟩⟩
  obtain ⟨I, ok, kk⟩ := hw
  obtain ⟨Φ0, h0⟩ := ok.h
  let u : Nat → V := fun n => match σ[n]? with
    | some (some v) => v
    | _ => .non
  have hu : ∀ n v, σ[n]? = some (some v) → u n = v := fun n v e => by
    show (match σ[n]? with | some (some v) => v | _ => V.non) = v
    rw [e]
  refine ((h u ⟨I, H⟩ I ⟨σ, Φ0, h0, ok.x, ok.j, rfl, hu⟩).run r q).run pins s σ H D IV ⟨I, ⟨Ext.refl h0.sub, Same.refl _, fun _ _ => none, ?_⟩, kk⟩
  have hL := hS u H
  refine ⟨by rw [hL.len]; exact h0.len, h0.sub, SW.refl _, ⟨h0.tb.t, h0.tb.has, h0.tb.i⟩, fun i k e => ?_, (fun i a o e => by cases e), fun i j a e => absurd rfl e⟩
  rcases hL.at_ i k e with ⟨p, rfl, e1⟩ | ⟨rfl, k0, e1⟩ | ⟨q, rfl, e1⟩
  · obtain ⟨v, e2, h2⟩ := h0.at_ i _ e1
    exact ⟨v, e2, h2⟩
  · obtain ⟨v, e2, h2⟩ := h0.at_ i _ e1
    exact ⟨v, e2, by show v = u (0 + i); rw [Nat.zero_add]; exact (hu i v e2).symm⟩
  · rcases e1 with e1 | e1
    · obtain ⟨v, e2, l, vs, ev, h3, h4⟩ := h0.at_ i _ e1
      exact ⟨v, e2, by rw [Nat.zero_add]; exact (hu i v e2).symm, l, vs, ev, SqL.of (h0.fr i l _ h3).1, h4⟩
    · obtain ⟨v, e2, l, vs, ev, h3, h4⟩ := h0.at_ i _ e1
      exact ⟨v, e2, by rw [Nat.zero_add]; exact (hu i v e2).symm, l, vs, ev, h0.base.seq h3, h4⟩
theorem mb_back {u : Nat → V} {B' : Bs} {J' : Hp} {T T' : SL} (l : LF g B J S u B' J') (hb : Back g u B'.H 0 S T T') (h : MB X g B J T' rest m K) : MB X g B' J' T rest m K := by
  obtain ⟨σ0, Φ0, h0, x0, j0, rfl, hu⟩ := l
  refine ⟨fun r q => pss_imp (h.run r q) fun D σ H ⟨I, ok, kk⟩ => ⟨I, ⟨x0.trans ok.x, j0.trans ok.x.i, Φ0, ?_⟩, kk⟩⟩
  refine ⟨by rw [hb.len]; exact ok.h.len, ok.x.s, x0.h.trans ok.x.h, (h0.tb.ext ok.x), fun i k e => ?_, fun i a o e => ?_, h0.dj⟩
  · rcases hb.at_ i k e with ⟨p, rfl, e1⟩ | ⟨e1, p, e2, hp⟩
    · obtain ⟨v, e3, h3⟩ := ok.h.at_ i _ e1
      exact ⟨v, e3, h3⟩
    · obtain ⟨v, e3, h3⟩ := ok.h.at_ i _ e2
      obtain ⟨v0, e4, h4⟩ := h0.at_ i k e1
      have hv := hp _ _ h3
      rw [Nat.zero_add, hu i v0 e4] at hv
      subst hv
      exact ⟨v, e3, RK.inS_mono ok.x.i h4⟩
  · obtain ⟨h1, h2, h3⟩ := h0.fr i a o e
    exact ⟨ok.x.h.at_ h1 (fun p hp z => by rw [← z, h0.noT i p hp] at e; cases e), ok.x.n a (ne_of_some h1) h2, h3⟩
end
section
variable {X : Cx} {g : Gb} {B : Bs} {S : SL} {α : Type} [Py α] {pos : Pos}
theorem ms_lent {u : V} (i : Nat) {x : Str} {as : List α} (hS : S[i]? = some (some (.im (lentP g u B.H (rl g as)))) := by rfl) (hN : X.N[i]? = some x := by rfl) (hv : Vis X.env.scope x := by first | exact Or.inl rfl | exact Or.inr (Or.inl rfl) | exact Or.inr (Or.inr rfl))
    (hd : (x == ("__debug__" : Str)) = false := by decide) (hcd : (x == ("__classdict__" : Str)) = false := by decide) : MSt X g B S (.Name x pos) (some as) := by
  refine ⟨fun as' q => ?_⟩
  cases q
  refine pe_imp (pe_var hN hv hd hcd) fun σ H Q ⟨I, hh, k⟩ => ?_
  obtain ⟨v, e1, _, l, vs, rfl, h3, h4⟩ := hh.at_ i _ hS
  exact ⟨_, e1, k l vs I H (Ext.refl hh.sub) (.inr h3) h4⟩
theorem me_lent {u : V} (i : Nat) {x : Str} {as : List α} (hS : S[i]? = some (some (.im (lentP g u B.H (rl g as)))) := by rfl) (hN : X.N[i]? = some x := by rfl) (hv : Vis X.env.scope x := by first | exact Or.inl rfl | exact Or.inr (Or.inl rfl) | exact Or.inr (Or.inr rfl))
    (hd : (x == ("__debug__" : Str)) = false := by decide) (hcd : (x == ("__classdict__" : Str)) = false := by decide) : ME X g B S (.Name x pos) (some as) (fun as => .rd (rl g as)) := by
  refine ⟨fun a' e => ?_⟩
  cases e
  refine pe_imp (pe_var hN hv hd hcd) fun σ H Q ⟨I, h, q⟩ => ?_
  obtain ⟨v, e1, _, l, vs, rfl, h3, h4⟩ := h.at_ i _ hS
  exact ⟨_, e1, q _ I H (Ext.refl h.sub) ⟨l, vs, rfl, h.base.seq h3, h4⟩⟩
end
end T
set_option Elab.async false
set_option linter.all false
set_option maxRecDepth 100000
namespace T
variable [TabsC]
open PySem PySem.Spec PyProof.Rows L2
/-! x[i] op= e, of a list of ints of one's own -/
section
variable {X : Cx} {g : Gb} {B : Bs} {J : Hp} {S : SL} {e e1 : Expr} {pos apos p : Pos} {o : Type} {K : KT o} {rest : List Stmt}
theorem get_list : PGet X (rIxL X.K) := by
  intro pins s σ H x y v u Q I rx ry h
  obtain ⟨p, xs, i, z, rfl, rfl, hq, he, q⟩ := h
  cases rx
  obtain ⟨t, rfl⟩ := ry
  obtain ⟨its, r, pl, hz⟩ := I.list hq
  obtain ⟨j, h1, h2, h3, h4, h5⟩ := atI_get he
  obtain ⟨w, ew, rw'⟩ := r.get h2
  have hl := r.length
  have hn := line63
  have fin : EP X pins σ Q w s := ⟨z, H, I, rw', q⟩
  by_cases h0 : 0 ≤ i
  · have hj : i.toNat = j := by
      rw [seqIndex_of h0 h5] at h1
      exact Option.some.inj h1
    exact wpAny_getItem_list pl.isList h0 (by omega) (by rw [hj]; simpa using ew) fin
  · have hj : (i + (its.toArray.size : Int)).toNat = j := by
      rw [seqIndex_neg (by omega) h4] at h1
      rw [List.size_toArray, ← hl]
      exact Option.some.inj h1
    exact wpAny_getItem_list_neg pl.isList (by omega) (by rw [List.size_toArray] <;> omega) (by omega) (by rw [hj]; simpa using ew) fin
theorem mb_augi (i : Nat) {x : Str} {as : List Int} {m1 m2 : Option Int} {op : Operator} {fi : Int → Int → Int} {f : List Int → Option o} (hp : PIp X op (ipI fi)) (h1 : ME X g B S e1 m1 (KI g)) (he : ME X g B S e m2 (KI g)) (hb : ∀ bs, MB X g B J (S.set i (some (.fr (rl g bs)))) rest (f bs) K) (hS : S[i]? = some (some (.fr (rl g as))) := by rfl) (hN : X.N[i]? = some x := by rfl)
    (hv : Vis X.env.scope x := by first | exact Or.inl rfl | exact Or.inr (Or.inl rfl) | exact Or.inr (Or.inr rfl))
    (ha : ∀ ov iv new, augStore e1 ov iv new = (do holding [new, ov, iv] (setItem ov iv new); release [new, ov, iv] []; pure .next) := by intros; rfl) (hK : X.K = g.K := by rfl)
    (hd : (x == ("__debug__" : Str)) = false := by decide) (hcd : (x == ("__classdict__" : Str)) = false := by decide) :
    MB X g B J S (.AugAssign (.Subscript (.Name x p) e1 apos) op e pos :: rest) (m1 >>= fun n => atO as n >>= fun a => m2 >>= fun b => setO as n (fi a b) >>= f) K := by
  refine ⟨fun r q => ?_⟩
  obtain ⟨n, q1, q⟩ := bind_some q
  obtain ⟨a, qa, q⟩ := bind_some q
  obtain ⟨b, q2, q⟩ := bind_some q
  obtain ⟨bs, q3, q4⟩ := bind_some q
  rw [atO_eq] at qa
  unfold setO at q3
  cases hj : ixN as.length n with
  | none => rw [hj] at q3; cases q3
  | some j =>
    rw [hj] at q3
    cases q3
    refine pss_imp (pss_cons (ps_augS (pe_var hN hv hd hcd) (h1.run n q1) get_list (he.run b q2) hp set_list ha) ((hb _).run r q4)) fun D σ H ⟨I, ok, kk⟩ => ?_
    obtain ⟨v, e1, l, vs, rfl, h1, h2, h3, h4⟩ := ok.h.at_ i _ hS
    refine ⟨_, e1, I, ok.h, fun y I1 H1 x1 hy => ?_⟩
    cases (show y = .int n from hy)
    obtain ⟨u, hu, hq⟩ := paired_at ((rl g as).mono x1.i h4).2 qa
    cases (show u = .int a from hq)
    refine ⟨l, vs, n, .int a, rfl, rfl, by rw [hK]; exact SqL.of (x1.h.get _ _ h3), hu, I1, ok.h.ext x1, fun z I2 H2 x2 hz => ?_⟩
    cases (show z = .int b from hz)
    refine ⟨a, b, rfl, rfl, l, vs, n, j, rfl, rfl, x2.h.get _ _ (x1.h.get _ _ h3), by rw [rl_len h4]; exact hj, I2, ((ok.ext x1).ext x2).write hS e1 ⟨?_, paired_set (F := fun a v => (Py.r g a).p I2 v) rfl _ ((rl g as).mono (x1.i.trans x2.i) h4).2⟩, kk⟩
    rw [List.length_set]
    exact h4.1
end
end T
set_option Elab.async false
set_option linter.all false
set_option maxRecDepth 100000
namespace T
variable [TabsC]
open PySem PySem.Spec PyProof.Rows L2 ClX
/-! defs that change what they are handed: the call -/
def eqD {δ : Type} (u : V) (x y : δ) : PR := ⟨fun _ v => v = u ∧ y = x, fun _ h => h⟩
def fq (q : Nat) (F : Hp) : Nat → Hp := fun n => if n = q then F else fun _ => none
theorem fq_same {q : Nat} {F : Hp} : fq q F q = F := if_pos rfl
theorem fq_ne {q n : Nat} {F : Hp} (h : n ≠ q) : fq q F n = fun _ => none := if_neg h
section
variable {X : Cx} {g : Gb} {B : Bs} {J : Hp} {S : SL} {σ : L2.St} {I H : Hp} {Φ : Nat → Hp} {i : Nat} {k : RK} {v : V} {o0 op : OR}
theorem io_preQ {ks : List RK} {vs : List V} {p0 : PR} (q : Nat) (hq : ks[q]? = some (.ow o0)) (h : HoldF g B S σ I H Φ) (hv : o0.p I (Φ i) v) (hA : Args g (ks.set q (.im p0)) vs I H) (hvq : vs[q]? = some v) (him : (ks.set q (.im p0)).all RK.isIm = true) : Same (Rest H (Φ i)) H ∧ ArgsF g ks vs I (Rest H (Φ i)) H (fq q (Φ i)) := by
  have hlq := (List.getElem?_eq_some_iff.mp hq).1
  refine ⟨fun a o e => (rest_some e).2, by rw [← Paired.length hA, List.length_set], fun n k u e1 e2 => ?_, fun n a o e => ?_, fun n1 n2 a e1 e2 => ?_⟩
  · by_cases hn : n = q
    · subst hn
      rw [hq] at e1
      cases e1
      rw [hvq] at e2
      cases e2
      rw [fq_same]; exact hv
    · rw [fq_ne hn]
      have e3 : (ks.set q (.im p0))[n]? = some k := by rw [List.getElem?_set_ne (fun z => hn z.symm)]; exact e1
      obtain ⟨u', e4, h4⟩ := paired_get hA e3
      rw [e2] at e4
      cases e4
      have ha := List.all_eq_true.mp him _ (List.mem_of_getElem? e3)
      cases k with
      | im p => exact h4
      | fr p => cases ha
      | bw p => cases ha
      | rd p => cases ha
      | ow p => cases ha
  · by_cases hn : n = q
    · subst hn
      rw [fq_same] at e
      obtain ⟨f1, f2, _⟩ := h.fr i a o e
      exact ⟨f1, f2, rest_none (ne_of_some e)⟩
    · rw [fq_ne hn] at e; cases e
  · by_cases h1 : n1 = q
    · by_cases h2 : n2 = q
      · rw [h1, h2]
      · rw [fq_ne h2] at e2; exact absurd rfl e2
    · rw [fq_ne h1] at e1; exact absurd rfl e1
theorem io_postQ {o' : OR} (q0 : Nat) {vs : Nat → Option V} {w : V} {I' H' F : Hp} {Φ' : Nat → Hp} (x : Ext B.I B.H I H) (oj : Same J I) (h : HoldF g B S σ I H Φ) (e1 : σ[i]? = some (some v)) (hvs : vs q0 = some v) (hp : Post g I (Rest H (Φ i)) k [(q0, o')] vs w I' H' F Φ') (pin : ∀ F', o'.p I' F' v → op.p I' F' v) :
    Ext B.I B.H I' H' ∧ Same J I' ∧ ∃ Φ2, HoldF g B (S.set i (some (.ow op))) σ I' H' Φ2 ∧ (∀ j a, F a ≠ none → Φ2 j a = none) := by
  have other : ∀ j a, j ≠ i → Φ j a ≠ none → Φ i a = none := fun j a hj ha => by
    cases q : Φ i a with
    | none => rfl
    | some o => exact absurd (h.dj j i a ha (ne_of_some q)) hj
  have off : ∀ a, B.H a ≠ none → Φ i a = none := fun a e => by
    cases q : Φ i a with
    | none => rfl
    | some y => exact absurd (h.fr i a y q).2.2 e
  have base : ∀ a, B.H a ≠ none → Rest H (Φ i) a ≠ none := fun a e => by
    rw [rest_of (off a e)]
    exact fun z => e (h.base.f a z)
  have sB : SW B.H H' := ⟨fun a o e => by
    rcases h.base.k a o e with z | z
    · exact hp.h.k a o (by rw [rest_of (off a (ne_of_some e))]; exact z)
    · exact .inr z, fun a e => by
    cases q : B.H a with
    | none => rfl
    | some o => exact absurd (hp.h.f a e) (base a (ne_of_some q)), fun _ => hp.tb⟩
  have x' : Ext B.I B.H I' H' := ⟨x.i.trans hp.i, sB, hp.s, fun l n1 n2 => by
    cases e : B.H l with
    | none => exact absurd e n1
    | some o => exact hp.n l (base l n1) (x.n l n1 n2)⟩
  obtain ⟨u, z1, z2⟩ := hp.out (q0, o') (List.mem_singleton.mpr rfl)
  rw [hvs] at z1
  cases z1
  have hσ : σ.set i (some v) = σ := by
    apply List.ext_getElem?
    intro j
    by_cases hj : i = j
    · subst hj
      rw [List.getElem?_set_self (List.getElem?_eq_some_iff.mp e1).1, e1]
    · rw [List.getElem?_set_ne hj]
  have hR : ∀ j a, j ≠ i → Φ j a ≠ none → Rest H (Φ i) a ≠ none := fun j a hj ha => by
    rw [rest_of (other j a hj ha)]
    exact (h.ne ha).1
  refine ⟨x', oj.trans hp.i, putF Φ i (Φ' q0), ?_, fun j a ha => ?_⟩
  · have h2 : HoldF g B (S.set i (some (.ow op))) (σ.set i (some v)) I' H' (putF Φ i (Φ' q0)) := by
      refine ⟨by rw [List.length_set, List.length_set, h.len], hp.s, sB, ⟨hp.tb, h.tb.b, fun p hp' => hp.n _ (base _ (h.tb.b p hp')) (h.tb.i p hp')⟩, fun j k' e => ?_, fun j a o e => ?_, fun j l a hj hl => ?_⟩
      · rcases set_some e with ⟨a, b, c⟩ | ⟨a, b⟩
        · subst a
          cases b
          exact ⟨v, List.getElem?_set_self (by rw [h.len]; exact c), by rw [putF_same]; exact pin _ z2⟩
        · obtain ⟨u, e2, q⟩ := h.at_ j k' b
          exact ⟨u, by rw [List.getElem?_set_ne a]; exact e2, by rw [putF_ne (fun z => a z.symm)]; exact RK.inS_mono hp.i q⟩
      · by_cases hji : j = i
        · rw [hji, putF_same] at e
          obtain ⟨y1, y2, y3⟩ := hp.fr q0 a o e
          refine ⟨y1, y2, ?_⟩
          cases q : B.H a with
          | none => rfl
          | some y => exact absurd y3 (base a (ne_of_some q))
        · rw [putF_ne hji] at e
          obtain ⟨f1, f2, f3⟩ := h.fr j a o e
          have hr := hR j a hji (ne_of_some e)
          refine ⟨hp.h.at_ ?_ (fun p hp' z => by rw [← z, h.noT j p hp'] at e; cases e), hp.n a hr f2, f3⟩
          rw [rest_of (other j a hji (ne_of_some e))]; exact f1
      · have no : ∀ m, m ≠ i → Φ' q0 a ≠ none → Φ m a ≠ none → False := fun m hm f1 f2 => by
          cases q : Φ' q0 a with
          | none => exact f1 q
          | some y => exact hR m a hm f2 (hp.fr q0 a y q).2.2
        by_cases hji : j = i
        · by_cases hli : l = i
          · rw [hji, hli]
          · rw [hji, putF_same] at hj
            rw [putF_ne hli] at hl
            exact (no l hli hj hl).elim
        · by_cases hli : l = i
          · rw [hli, putF_same] at hl
            rw [putF_ne hji] at hj
            exact (no j hji hl hj).elim
          · rw [putF_ne hji] at hj
            rw [putF_ne hli] at hl
            exact h.dj j l a hj hl
    rw [hσ] at h2
    exact h2
  · by_cases hji : j = i
    · rw [hji, putF_same]
      cases q : Φ' q0 a with
      | none => rfl
      | some y => exact absurd (hp.dv q0 a (ne_of_some q)) ha
    · rw [putF_ne hji]
      cases q : Φ j a with
      | none => rfl
      | some y => exact absurd (hp.fF a ha).1 (hR j a hji (ne_of_some q))
end
section
variable {X : Cx} {g : Gb} {B : Bs} {J : Hp} {S : SL} {e : Expr} {es : List Expr} {pos p p2 apos cpos : Pos} {o ι β δ : Type} {K : KT o} {rest sts : List Stmt} {m' : Option o}
theorem mb_pin {o0 : OR} (i : Nat) (hS : S[i]? = some (some (.ow o0))) (h : ∀ u0, MB X g B J (S.set i (some (.ow (oP u0 o0)))) sts m' K) : MB X g B J S sts m' K := by
  refine ⟨fun r q => ⟨fun pins s σ H D IV hw => ?_⟩⟩
  obtain ⟨I, ok, kk⟩ := hw
  obtain ⟨Φ, h0⟩ := ok.h
  obtain ⟨v, e1, h1⟩ := h0.at_ i _ hS
  refine ((h v).run r q).run pins s σ H D IV ⟨I, ⟨ok.x, ok.j, Φ, ?_⟩, kk⟩
  refine ⟨by rw [List.length_set]; exact h0.len, h0.sub, h0.base, h0.tb, fun j k e => ?_, h0.fr, h0.dj⟩
  rcases set_some e with ⟨a, b, c⟩ | ⟨a, b⟩
  · subst a
    cases b
    exact ⟨v, e1, rfl, h1⟩
  · exact h0.at_ j k b
theorem mb_pinF {α : Type} [Py α] {as : List α} (i : Nat) (hS : S[i]? = some (some (.fr (rl g as)))) (h : ∀ u0, MB X g B J (S.set i (some (.ow (oP u0 (oF (rl g as)))))) sts m' K) : MB X g B J S sts m' K := by
  refine ⟨fun r q => ⟨fun pins s σ H D IV hw => ?_⟩⟩
  obtain ⟨I, ok, kk⟩ := hw
  obtain ⟨Φ, h0⟩ := ok.h
  obtain ⟨v, e1, h1⟩ := h0.at_ i _ hS
  refine ((h v).run r q).run pins s σ H D IV ⟨I, ⟨ok.x, ok.j, Φ, ?_⟩, kk⟩
  refine ⟨by rw [List.length_set]; exact h0.len, h0.sub, h0.base, h0.tb, fun j k e => ?_, h0.fr, h0.dj⟩
  rcases set_some e with ⟨a, b, c⟩ | ⟨a, b⟩
  · subst a
    cases b
    exact ⟨v, e1, rfl, h1⟩
  · exact h0.at_ j k b
theorem mb_unpin {o0 : OR} {u0 : V} (i : Nat) (hS : S[i]? = some (some (.ow (oP u0 o0)))) (h : MB X g B J (S.set i (some (.ow o0))) sts m' K) : MB X g B J S sts m' K := by
  refine ⟨fun r q => pss_imp (h.run r q) fun D σ H ⟨I, ok, kk⟩ => ⟨I, ⟨ok.x, ok.j, ?_⟩, kk⟩⟩
  obtain ⟨Φ, h0⟩ := ok.h
  refine ⟨Φ, by rw [List.length_set]; exact h0.len, h0.sub, h0.base, h0.tb, fun j k e => ?_, h0.fr, h0.dj⟩
  rcases set_some e with ⟨a, b, c⟩ | ⟨a, b⟩
  · subst a
    cases b
    obtain ⟨v, e1, h1⟩ := h0.at_ i _ hS
    exact ⟨v, e1, h1.2⟩
  · exact h0.at_ j k b
theorem co_eq {α : Type} {f : α → PR} : Coe g (fun a => .im (f a)) (fun a => .im (f a)) := fun _ _ _ _ _ _ h => h
theorem me_pind {x : Str} {u0 : V} {o0 : OR} (i : Nat) (d : δ) (hS : S[i]? = some (some (.ow (oP u0 o0))) := by rfl) (hN : X.N[i]? = some x := by rfl) (hv : Vis X.env.scope x := by first | exact Or.inl rfl | exact Or.inr (Or.inl rfl) | exact Or.inr (Or.inr rfl))
    (hd : (x == ("__debug__" : Str)) = false := by decide) (hcd : (x == ("__classdict__" : Str)) = false := by decide) : ME X g B S (.Name x pos) (some d) (fun y => .im (eqD u0 d y)) := by
  refine ⟨fun a' e => ?_⟩
  cases e
  refine pe_imp (pe_var hN hv hd hcd) fun σ H Q ⟨I, h, q⟩ => ?_
  obtain ⟨Φ, h0⟩ := h
  obtain ⟨v, e1, h1⟩ := h0.at_ i _ hS
  exact ⟨v, e1, q v I H (Ext.refl h0.sub) ⟨h1.1, rfl⟩⟩
variable {args args' : ι → List RK} {M : ι → Option β} {outs : β → List (Nat × OR)} {m : Option β} {j kk : Nat} {f : Addr} {fd : FuncData} {ps : List Str} {x : Str} {ds : List Value} {fn : β → Option o}
/-- f(..) alone; the thing of the slot i, handed in at the place q, is changed -/
theorem mb_callIO {or : β → OR} {u0 : V} {d : δ} {oT : δ → OR} {pr : ι → δ} (i q : Nat) (F : FnOk X.prog X.w X.K X.mg X.base CX0 j f fd ps (spIO g args M (fun _ => .im (Py.r g ())) outs)) (hr : Room kk X.A) (hj : j ≤ kk) (hm : X.mg x = some (.ref f)) (hk : PySem.W.keepIn X.K (.ref f) = true) (hb : Binds X.K fd ps ds) (hd : Vals [] ds)
    (ha : MA X g B S (e :: es) [] args' m M) (hrest : ∀ r, MB X g B J (S.set i (some (.ow (oP u0 (or r))))) rest (fn r) K) (hS : S[i]? = some (some (.ow (oP u0 (oT d)))) := by rfl)
    (hset : ∀ a, args' a = (args a).set q (.im (eqD u0 d (pr a))) := by intro _; rfl) (hq : ∀ a, (args a)[q]? = some (.ow (oT (pr a))) := by intro _; rfl) (him : ∀ a, (args' a).all RK.isIm = true := by intro _; rfl) (hout : ∀ r, outs r = [(q, or r)] := by intro _; rfl)
    (hg : Gl X x := by rfl) (hdb : (x == ("__debug__" : Str)) = false := by decide) (he : starEach (e :: es) X.env = (false, eval e X.env) :: starEach es X.env := by rfl) (hpl : (backTo cpos (starEach es X.env)).any (·.1) = false := by rfl)
    (hs : swapsWith (.Call (.Name x p) (e :: es) [] cpos) none pos.line X.env = pure false := by rfl) :
    MB X g B J S (.Expr (.Call (.Name x p) (e :: es) [] cpos) pos :: rest) (m >>= fn) K := by
  refine ⟨fun r' q' => ?_⟩
  obtain ⟨b, q1, q2⟩ := bind_some q'
  refine pss_imp (pss_cons (ps_expr (pe_call F (hr.mono hj) hg hm hk hb hd pass0 (ha.run b q1) hdb he hpl) hs) ((hrest b).run r' q2)) fun D σ H ⟨I, ok, kk⟩ => ?_
  obtain ⟨x0, oj, Φ, hh⟩ := ok
  refine ⟨I, ⟨Φ, hh⟩, fun a vs I1 H1 hM x1 hA => ?_⟩
  rw [List.append_nil] at hA ⊢
  have hh1 := hh.ext x1
  rw [hset a] at hA
  obtain ⟨v, e1, e2, e3⟩ := hh.at_ i _ hS
  have hlen : q < (args a).length := (List.getElem?_eq_some_iff.mp (hq a)).1
  obtain ⟨v2, f1, f2, f3⟩ := paired_get hA (i := q) (List.getElem?_set_self hlen)
  subst f2
  subst e2
  have hi := him a
  rw [hset a] at hi
  obtain ⟨sR, hAF⟩ := io_preQ (i := i) (o0 := oT (pr a)) (v := v) q (hq a) hh1 (by rw [f3]; exact OR.mono _ x1.i e3) hA f1 hi
  refine ⟨I1, Rest H1 (Φ i), fq q (Φ i), a, b, x1.s, sR, ⟨hh1.tb.t, fun p hp => ?_, hh1.tb.i⟩, hAF, hM, fun w I2 H2 F2 Φ2 hp => ?_⟩
  · rw [rest_of (hh1.noT i p hp)]
    exact hh1.tb.t.ne hp
  rw [hout b] at hp
  obtain ⟨y1, y2, Φ3, y3, _⟩ := io_postQ (op := oP v (or b)) q (x0.trans x1) (oj.trans x1.i) hh1 e1 f1 hp (fun F' z => ⟨rfl, z⟩)
  exact ⟨I2, ⟨y1, y2, Φ3, y3⟩, kk⟩
end
end T
set_option Elab.async false
set_option linter.all false
set_option maxRecDepth 100000
namespace T
variable [TabsC]
open PySem PySem.Spec PyProof.Rows L2 ClX
/-! defs that hand back nothing -/
def KtU (g : Gb) (B : Bs) : KT Unit := fun _ D => ∀ σ I' H', Ext B.I B.H I' H' → D.nx σ H' ∧ D.rt .non H'
section
variable {P : Program} {w : World} {K : PySem.W.Frag} {mg : Str → Option Value} {base : Heap} {ι : Type} {args : ι → List RK} {M : ι → Option Unit}
theorem fnu_mk {x qual : Str} {st : Stmt} {f : Addr} {fd : FuncData} {N ps : List Str} {k : Nat} (F : FunX K x qual st f fd) (Sc : FnScope N ps (defScope st)) (hn : ∀ a, (args a).length = ps.length) (hk : ∀ a, (args a).all RK.argy = true) (hN : ps.length ≤ N.length)
    (body : ∀ (cdv : Value) (A : Around) (outer : List Env) (s : Shared) (H : Hp) (E : XK) (I : Hp) (a : ι), Room k (A.deeper (envOfC qual (defScope st) s.heap.objs.size f cdv)) →
      MB (cxOf CX0 P w K mg base N qual (defScope st) f cdv A outer s H E).nox ⟨K, mg⟩ ⟨I, H⟩ I (S0 N (args a)) (defBody st) (M a) (KtU ⟨K, mg⟩ ⟨I, H⟩)) :
    FnOk P w K mg base CX0 (k + 1) f fd ps (spT ⟨K, mg⟩ args M (fun r => .im (Py.r ⟨K, mg⟩ (r : Unit)))) := by
  refine F.ok Sc (fun vs H Q E ⟨I, a, r, s, _, hA, _⟩ => ?_) (fun cdv A outer s H vs Q E hr ⟨I, a, r, si, tb, hA, hM, q⟩ => ?_)
  · rw [← Paired.length hA, hn]
  · exact ⟨_, (body cdv A outer s H E I a hr).run r hM, I, hold_start (by rw [hn]; exact hN) si tb hA (hk a), fun σ I' H' x => ⟨q .non I' H' x rfl, q .non I' H' x rfl⟩⟩
end
section
variable {X : Cx} {g : Gb} {B : Bs} {J : Hp} {S : SL} {e : Expr} {pos p p2 apos cpos : Pos} {o ι β δ : Type} {K : KT o} {rest sts : List Stmt}
theorem mb_endV : MB X g B J S [] (some ()) (KtU g B) := by
  refine ⟨fun r q => pss_imp pss_nil fun D σ H ⟨I, ok, kk⟩ => (kk σ I H ok.x).1⟩
theorem mb_retV : MB X g B J S [.Return none pos] (some ()) (KtU g B) := by
  refine ⟨fun r q => pss_imp (pss_one ps_retN) fun D σ H ⟨I, ok, kk⟩ => (kk σ I H ok.x).2⟩
/-! what stands at a place of an owned thing -/
variable {i : Nat} {mk : ι → OR → OR} {m : Option ι}
theorem me_plI {α : Type} [Py α] {a : ι → α} (h : MP X g B S i e m (fun x => oI (Py.r g (a x))) mk) : ME X g B S e (m >>= fun x => some (a x)) (KI g) := by
  refine ⟨fun r q => ?_⟩
  obtain ⟨x, q1, q2⟩ := bind_some q
  cases q2
  refine pe_imp (h.run x q1) fun σ H Q ⟨I, hh, kk⟩ => ?_
  obtain ⟨Φ, hf⟩ := hh
  refine ⟨I, Φ, hf, fun v1 I' H' xx ⟨v, e1, F1, s1, h1, _⟩ => kk v1 I' H' xx h1⟩
theorem me_plF {α : Type} [Py α] {a : ι → List α} (h : MP X g B S i e m (fun x => oF (rl g (a x))) mk) : ME X g B S e (m >>= fun x => some (a x)) (fun xs => .rd (rl g xs)) := by
  refine ⟨fun r q => ?_⟩
  obtain ⟨x, q1, q2⟩ := bind_some q
  cases q2
  refine pe_imp (h.run x q1) fun σ H Q ⟨I, hh, kk⟩ => ?_
  obtain ⟨Φ, hf⟩ := hh
  refine ⟨I, Φ, hf, fun v1 I' H' xx ⟨v, e1, F1, s1, h1, _⟩ => ?_⟩
  obtain ⟨l, vs, e2, h2, h3⟩ := h1
  refine kk v1 I' H' xx ⟨l, vs, e2, SqL.of ((hf.ext xx).fr i l _ (s1 _ _ h2)).1, h3⟩
theorem frz_P {o1 : OR} {v0 : V} {r : PR} (z : Frz o1 r) : Frz (oP v0 o1) r := fun I F v hF h => z I F v hF h.2
end
end T
set_option Elab.async false
set_option linter.all false
set_option maxRecDepth 100000
namespace T
variable [TabsC]
open PySem PySem.Spec PyProof.Rows L2 ClX
/-! a new instance, by a call with keywords -/
def rdK {ι o : Type} (g : Gb) (B : Bs) (S : SL) (n : Nat) (args : ι → List RK) (M : ι → Option o) (r : o) : TA := fun σ H Q => ∃ I, Hold g B S σ I H ∧ ∀ a zs I' H', M a = some r → Ext I H I' H' → Args g (args a) zs I' H' → zs.length = n → Q zs H'
structure MKd {ι o : Type} (X : Cx) (g : Gb) (B : Bs) (S : SL) (kws : List Keyword) (n : Nat) (args : ι → List RK) (m : Option o) (M : ι → Option o) : Prop where
  run : ∀ r, m = some r → PK X kws (rdK g B S n args M r)
structure MX {ι o : Type} (X : Cx) (g : Gb) (B : Bs) (S : SL) (es : List Expr) (kws : List Keyword) (n k : Nat) (args : ι → List RK) (m : Option o) (M : ι → Option o) : Prop where
  run : ∀ r, m = some r → ∃ t tk, PA X es t ∧ PK X kws tk ∧ ∀ σ H (Q : List V → List V → Hp → Prop), (∃ I, Hold g B S σ I H ∧ ∀ a vs zs I' H', M a = some r → Ext I H I' H' → Args g (args a) (vs ++ zs) I' H' → vs.length = n → zs.length = k → Q vs zs H') → t σ H fun vs H1 => tk σ H1 fun zs H2 => Q vs zs H2
section
variable {X : Cx} {g : Gb} {B : Bs} {S : SL} {e : Expr} {es : List Expr} {kws : List Keyword} {p pos kpos : Pos} {nm : Option Str} {ι o α' : Type}
theorem pk_imp {t t' : TA} (h : PK X kws t) (f : ∀ σ H Q, t' σ H Q → t σ H Q) : PK X kws t' := ⟨fun pos pins s σ H Q I hw => h.run pos pins s σ H Q I (f σ H Q hw)⟩
theorem mk_nil {M : Unit → Option o} : MKd X g B S [] 0 (fun _ : Unit => []) (M ()) M :=
  ⟨fun r q => pk_imp pk_nil fun σ H Q ⟨I, hh, k⟩ => k () [] I H q (Ext.refl hh.sub) .nil rfl⟩
theorem mk_cons {n : Nat} {args : ι → List RK} {m1 : Option α'} {m2 : α' → Option o} {M : α' × ι → Option o} {k k' : α' → RK} (h : ME X g B S e m1 k) (c : Coe g k k') (t : ∀ a, MKd X g B S kws n args (m2 a) (fun b => M (a, b))) :
    MKd X g B S (⟨nm, e, kpos⟩ :: kws) (n + 1) (fun p : α' × ι => k' p.1 :: args p.2) (m1 >>= m2) M := by
  refine ⟨fun r q => ?_⟩
  obtain ⟨a, q1, q2⟩ := bind_some q
  refine pk_imp (pk_cons (h.run a q1) ((t a).run r q2)) fun σ H Q ⟨I, hh, kk⟩ => ⟨I, hh, fun v I1 H1 x1 v1 => ⟨I1, hh.ext x1, fun b vs I2 H2 hM x2 hA hl => ?_⟩⟩
  exact kk (a, b) (v :: vs) I2 H2 hM (x1.trans x2) (.cons (c a _ _ _ _ x2.s (RK.ext v1 x2 hh.tb.has)) hA) (congrArg (· + 1) hl)
theorem MKd.p1 {n : Nat} {a : α'} {args : ι → List RK} {m2 : α' → Option o} {M : ι → Option o} (h : MKd X g B S kws n args (some a >>= m2) M) : MKd X g B S kws n args (m2 a) M := h
theorem mx_kw {k : Nat} {args : ι → List RK} {m : Option o} {M : ι → Option o} (h : MKd X g B S kws k args m M) : MX X g B S [] kws 0 k args m M :=
  ⟨fun r q => ⟨_, _, pa_nil, h.run r q, fun σ H Q ⟨I, hh, kk⟩ => ⟨I, hh, fun a zs I' H' hM x hA hl => kk a [] zs I' H' hM x hA rfl hl⟩⟩⟩
theorem mx_cons {n k0 : Nat} {args : ι → List RK} {m1 : Option α'} {m2 : α' → Option o} {M : α' × ι → Option o} {k k' : α' → RK} (h : ME X g B S e m1 k) (c : Coe g k k') (t : ∀ a, MX X g B S es kws n k0 args (m2 a) (fun b => M (a, b)))
    (hs : starEach (e :: es) X.env = (false, eval e X.env) :: starEach es X.env := by rfl) : MX X g B S (e :: es) kws (n + 1) k0 (fun p : α' × ι => k' p.1 :: args p.2) (m1 >>= m2) M := by
  refine ⟨fun r q => ?_⟩
  obtain ⟨a, q1, q2⟩ := bind_some q
  obtain ⟨t1, tk, h1, h2, h3⟩ := (t a).run r q2
  refine ⟨_, tk, pa_cons (h.run a q1) h1 hs, h2, fun σ H Q ⟨I, hh, kk⟩ => ⟨I, hh, fun v I1 H1 x1 v1 => ?_⟩⟩
  refine h3 σ H1 (fun vs zs H2 => Q (v :: vs) zs H2) ⟨I1, hh.ext x1, fun b vs zs I2 H2 hM x2 hA l1 l2 => ?_⟩
  exact kk (a, b) (v :: vs) zs I2 H2 hM (x1.trans x2) (.cons (c a _ _ _ _ x2.s (RK.ext v1 x2 hh.tb.has)) hA) (congrArg (· + 1) l1) l2
theorem MX.p1 {n k : Nat} {a : α'} {args : ι → List RK} {m2 : α' → Option o} {M : ι → Option o} (h : MX X g B S es kws n k args (some a >>= m2) M) : MX X g B S es kws n k args (m2 a) M := h
variable {β ιX : Type} {args : ι → List RK} {M : ι → Option β} {argsX : ιX → List RK} {M' : ιX → Option β} {outs : β → List (Nat × OR)} {m : Option β} {j kk n : Nat} {f C : Addr} {fd : FuncData} {ps ks : List Str} {x : Str} {gg : List Value → List Value → List Value} {gV gv : List V → List V → List V}
theorem me_makeK {or : β → OR} (φ : ιX → ι) (gv : List V → List V → List V) (F : FnOk X.prog X.w X.K X.mg X.base CX0 j f fd ps (spIO g (fun a => .ow (oC (wI g x []) []) :: args a) M (fun _ => .im (Py.r g ())) outs)) (hr : Room kk X.A) (hj : j + 1 ≤ kk) (Mk : Mk X.K C f) (hm : X.mg x = some (.ref C)) (hb : KBn X.K fd ps (n + 1) ks gg gV)
    (ha : MX X g B S (e :: es) kws n ks.length argsX m M') (hA : ∀ b vs zs I H, vs.length = n → zs.length = ks.length → Args g (argsX b) (vs ++ zs) I H → Args g (args (φ b)) (gv vs zs) I H)
    (hM : ∀ b r, M' b = some r → M (φ b) = some r := by intro _ _ h; exact h) (hgV : ∀ a vs zs, gV (.ref a :: vs) zs = .ref a :: gv vs zs := by intros; rfl)
    (hout : ∀ r, outs r = [(0, or r)] := by intro _; rfl) (harg : ∀ a, (args a).all RK.argy = true := by intro _; rfl) (hmg : X.mg = g.mg := by rfl)
    (hall : (backToKw pos (keywordEach kws X.env)).all (·.1.isSome) = true := by rfl) (hks : (backToKw pos (keywordEach kws X.env)).filterMap (·.1) = ks := by rfl)
    (hg : Gl X x := by rfl) (hdb : (x == ("__debug__" : Str)) = false := by decide) (he : starEach (e :: es) X.env = (false, eval e X.env) :: starEach es X.env := by rfl)
    (hpl : ((backTo pos (starEach (e :: es) X.env)).any (·.1) || (backToKw pos (keywordEach kws X.env)).any (·.1.isNone)) = false := by rfl) :
    ME X g B S (.Call (.Name x p) (e :: es) kws pos) m (fun r => .ow (or r)) := by
  refine ⟨fun r q => ?_⟩
  obtain ⟨t, tk, h1, h2, h3⟩ := ha.run r q
  refine pe_imp (pe_makeN Mk F (hr.mono hj) hg hm hb pass0 h1 h2 hall hks hdb he hpl) fun σ H Q ⟨I, hh, kc⟩ => ?_
  refine h3 σ H _ ⟨I, hh, fun b vs zs I1 H1 hM' x1 hA' l1 l2 => ⟨l1, l2, fun y dy hy hdy hne => ?_⟩⟩
  rw [hgV]
  exact make_use (by rw [← hmg]; exact hm) x1.s (hh.tb.ext x1).to (hA b vs zs _ _ l1 l2 hA') (hM b r hM') hy hdy hne (hout r) (harg _) fun v I' H' x2 hv => kc v I' H' (x1.trans x2) (RK.back rfl x1.h hv)
end
end T
set_option Elab.async false
set_option linter.all false
set_option maxRecDepth 100000
namespace T
variable [TabsC]
open PySem PySem.Spec PyProof.Rows L2 ClX
/-! place.f op= e, of ints -/
theorem zip_snd {names : List Str} {vs ws : List V} (h1 : names.length = vs.length) (h2 : names.length = ws.length) (h : names.zip vs = names.zip ws) : vs = ws := by
  have a := congrArg (List.map Prod.snd) h
  rwa [List.map_snd_zip (by omega), List.map_snd_zip (by omega)] at a
section
variable {X : Cx} {g : Gb} {B : Bs} {J : Hp} {S : SL} {e e2 : Expr} {pos apos : Pos} {i : Nat} {o ι : Type} {K : KT o} {rest : List Stmt} {m : Option ι} {mk : ι → OR → OR}
theorem mb_fldAug {c f : Str} {names : List Str} {os : ι → List OR} {m2 : Option Int} {fn : ι → Int → Option o} {op : Operator} {fi : Int → Int → Int} {rd : V → V → Hp → VK → Prop} (j : Nat) (pi : ι → Int) (hop : InOp X op rd) (hrd : ∀ a b H Q, Q (.int (fi a b)) H → rd (.int a) (.int b) H Q) (hv : ME X g B S e2 m2 (KI g)) (h : MP X g B S i e m (fun x => oC (wI g c names) (os x)) mk) (hC : Cf X g c f)
    (hb : ∀ x a, MB X g B J (S.set i (some (.ow (mk x (oC (wI g c names) ((os x).set j (oI (Py.r g (fi (pi x) a))))))))) rest (fn x a) K) (hpi : ∀ x, (os x)[j]? = some (oI (Py.r g (pi x))) := by intro _; rfl) (hj : fidx names f = some j := by decide +kernel) (hn : names.length < 1000 := by decide) :
    MB X g B J S (.AugAssign (.Attribute e f apos) op e2 pos :: rest) (m >>= fun x => m2 >>= fun a => fn x a) K := by
  refine ⟨fun r q => ?_⟩
  obtain ⟨x, q1, q⟩ := bind_some q
  obtain ⟨a, q2, q3⟩ := bind_some q
  refine pss_imp (pss_cons (ps_fldaug (h.run x q1) (hv.run a q2) hop) ((hb x a).run r q3)) fun D σ H ⟨I, ok, kk⟩ => ?_
  obtain ⟨x0, oj, Φ, hh⟩ := ok
  refine ⟨I, Φ, hh, fun v1 I1 H1 x1 ⟨v, e1, fc⟩ => ?_⟩
  have fc2 := fc
  obtain ⟨F1, s1, ⟨l1, ob1, vs1, ev1, h1', w1, k1⟩, _⟩ := fc2
  obtain ⟨l, ob, vs, rfl, hl, ⟨C, dx, c1, c2, c3⟩, c4, put⟩ := foc_root fc
  cases ev1
  subst c2
  obtain ⟨C1, dx1, _, z2, z3⟩ := w1
  rw [s1 _ _ h1', z2] at hl
  have hz := Option.some.inj hl
  injection hz with hz1 hz2 hz3
  have evs := zip_snd z3 c3 hz3
  subst evs
  subst hz1 hz2
  obtain ⟨C', d1, d2, d3⟩ := hC
  rw [c1] at d1
  cases d1
  have hl0 : Φ i l1 = some (.ins C1 dx1 (names.zip vs1)) := by rw [s1 _ _ h1', z2]
  have hl2 := x1.h.get _ _ (hh.fr i l1 _ hl0).1
  have hjl : j < vs1.length := by
    rw [← c4]; exact (List.getElem?_eq_some_iff.mp (hpi x)).1
  obtain ⟨klen, Ψ, kp, _⟩ := k1
  have hw : vs1[j] = .int (pi x) := kp j _ _ (hpi x) (List.getElem?_eq_getElem hjl)
  have hvj : vs1[j]? = some (.int (pi x)) := by rw [List.getElem?_eq_getElem hjl, hw]
  refine ⟨l1, C1, dx1, _, .int (pi x), rfl, hl2, d2, d3, by rw [lookup_zip hj c3]; exact hvj, I1, ⟨Φ, hh.ext x1⟩, fun y I2 H2 x2 hy => ?_⟩
  cases (show y = .int a from hy)
  refine hrd _ _ _ _ ?_
  have x12 := x1.trans x2
  refine ⟨dx1, names.zip vs1, x2.h.get _ _ hl2, by rw [List.length_zip, c3, Nat.min_self, ← c3]; exact hn, I2, ?_, kk⟩
  rw [putF_zip hj c3]
  refine HoldF.store (x0.trans x12) (oj.trans x12.i) (hh.ext x12) e1 hl0 (F' := fun _ => none) (fun _ _ z => by cases z) (fun a ha => absurd rfl ha) ?_
  refine OR.mono _ (Same.refl _) ?_
  exact put (wI g c names) ((os x).set j (oI (Py.r g (fi (pi x) a)))) (vs1.set j (.int (fi (pi x) a))) _ j I2 (fun _ => none) x2.i (fun a ha => absurd rfl ha) ⟨C1, dx1, c1, rfl, by rw [List.length_set]; exact c3⟩ (by rw [List.length_set, List.length_set]; exact c4) fun i' o' u e1 e2 => by
    rcases set_get e1 with ⟨y1, y2⟩ | ⟨y1, y2⟩
    · subst y1 y2
      rcases set_get e2 with ⟨_, z⟩ | ⟨z, _⟩
      · rw [if_pos rfl, z]; rfl
      · exact absurd rfl z
    · rcases set_get e2 with ⟨z, _⟩ | ⟨_, z⟩
      · exact absurd z y1
      · rw [if_neg y1]; exact ⟨y2, z⟩
end
end T
set_option Elab.async false
set_option linter.all false
set_option maxRecDepth 100000
namespace T
variable [TabsC]
open PySem PySem.Spec PyProof.Rows L2
/-! a comprehension whose elements are things of one's own -/
def rdEsO {α β : Type} [Py α] (g : Gb) (B : Bs) (Sp : α → SL) (f : α → Option β) (kb : β → RK) : TE := fun σ H Q => ∃ a b I, f a = some b ∧ Hold g B (Sp a) σ I H ∧ ∀ v I' H', Ext I H I' H' → RK.holds g (kb b) H v I' H' → Q v H'
/-- the elements made so far -/
structure LcO {β : Type} (kc : β → OR) (ds : List β) (ws : List V) (D : Addr) (H1 I H F : Hp) : Prop where
  fr : ∀ a, F a ≠ none → H1 a = none ∧ I a = none
  s : Same F H
  d : F D = none
  k : Kids (ds.map kc) I F ws D
theorem LcO.ext {β : Type} {kc : β → OR} {ds : List β} {ws : List V} {D : Addr} {H1 I H F I' H' : Hp} (h : LcO kc ds ws D H1 I H F) (x : Ext I H I' H') (t : HasT H1) : LcO kc ds ws D H1 I' H' F :=
  ⟨fun a ha => ⟨(h.fr a ha).1, x.n a (same_ne h.s ha) (h.fr a ha).2⟩, x.h.part h.s (fun p hp => by
    cases q : F p.1 with
    | none => rfl
    | some u => exact absurd (h.fr p.1 (ne_of_some q)).1 (t p hp)), h.d, h.k.mono x.i⟩
theorem LcO.push {β : Type} {kc : β → OR} {ds : List β} {ws : List V} {D : Addr} {H1 I H F H' F' : Hp} {b : β} {u : V} {ob : HO} (h : LcO kc ds ws D H1 I H F) (hD : H D ≠ none) (hF : ∀ a, F' a ≠ none → H a = none) (hF1 : ∀ a, F' a ≠ none → H1 a = none ∧ I a = none) (sF : Same F' H') (sF0 : Same F H') (hp : (kc b).p I F' u) :
    LcO kc (ds ++ [b]) (ws ++ [u]) D H1 I (upd H' D ob) (Un F F') := by
  have dj : ∀ a, F' a ≠ none → F a = none := fun a ha => by
    cases q : F a with
    | none => rfl
    | some o => have := h.s _ _ q; rw [hF a ha] at this; cases this
  have F'D : F' D = none := by
    cases q : F' D with
    | none => rfl
    | some o => exact absurd (hF D (ne_of_some q)) hD
  have sU : Same F (Un F F') := un_l dj
  obtain ⟨hl, Ψ, k1, k2, k3, k4⟩ := h.k
  rw [List.length_map] at hl
  refine ⟨fun a ha => ?_, fun a o e => ?_, ?_, ?_, putF Ψ ds.length F', fun j o v e1 e2 => ?_, fun j => ?_, fun j => ?_, fun i j a e1 e2 => ?_⟩
  · by_cases z : F' a = none
    · rw [un_none z] at ha; exact h.fr a ha
    · exact hF1 a z
  · have haD : a ≠ D := fun z => by
      rw [z] at e
      rcases un_some e with y | ⟨_, y⟩
      · rw [F'D] at y; cases y
      · rw [h.d] at y; cases y
    rw [upd_ne haD]
    rcases un_some e with y | ⟨_, y⟩
    · exact sF a o y
    · exact sF0 a o y
  · rw [un_none F'D]; exact h.d
  · simp [hl]
  · rw [List.map_append] at e1
    by_cases hj : j < ds.length
    · rw [List.getElem?_append_left (by rw [List.length_map]; exact hj)] at e1
      rw [List.getElem?_append_left (by omega)] at e2
      rw [putF_ne (by omega)]
      exact k1 j o v e1 e2
    · have hj2 : j = ds.length := by
        have := (List.getElem?_eq_some_iff.mp e1).1
        simp at this
        omega
      subst hj2
      rw [List.getElem?_append_right (by rw [List.length_map]; exact Nat.le_refl _), List.length_map, Nat.sub_self] at e1
      rw [List.getElem?_append_right (by omega), hl, Nat.sub_self] at e2
      cases e1
      cases e2
      rw [putF_same]; exact hp
  · by_cases hj : j = ds.length
    · rw [hj, putF_same]; exact un_s
    · rw [putF_ne hj]; exact (k2 j).trans sU
  · by_cases hj : j = ds.length
    · rw [hj, putF_same]; exact F'D
    · rw [putF_ne hj]; exact k3 j
  · by_cases hi : i = ds.length
    · by_cases hj : j = ds.length
      · rw [hi, hj]
      · rw [hi, putF_same] at e1
        rw [putF_ne hj] at e2
        exact absurd (dj a e1) (same_ne (k2 j) e2)
    · by_cases hj : j = ds.length
      · rw [hj, putF_same] at e2
        rw [putF_ne hi] at e1
        exact absurd (dj a e2) (same_ne (k2 i) e1)
      · rw [putF_ne hi] at e1
        rw [putF_ne hj] at e2
        exact k4 i j a e1 e2
theorem LcO.done {β : Type} {g : Gb} {kc : β → OR} {ds : List β} {ws : List V} {D : Addr} {H1 I H F H0 : Hp} (h : LcO kc ds ws D H1 I H F) (s01 : ∀ a, H1 a = none → H0 a = none) (hD1 : H1 D = none) (hI : I D = none) (hH : H D = some (.lst ws)) (hl : ws.length ≤ sizeLine) :
    RK.holds g (.ow (oC wL (ds.map kc))) H0 (.ref D) I H := by
  refine ⟨NewF F D (.lst ws) (fun _ => none), fun a ha => ?_, fun a o e => ?_, D, _, ws, rfl, newF_root, ⟨rfl, hl⟩, h.k.len, ?_⟩
  · rcases newF_ne ha with z | z | z
    · subst z; exact ⟨s01 _ hD1, hI⟩
    · exact absurd rfl z
    · exact ⟨s01 _ (h.fr a z).1, (h.fr a z).2⟩
  · by_cases z : a = D
    · subst z; rw [newF_root] at e; rw [hH]; exact e
    · rw [newF_old z rfl] at e; exact h.s a o e
  · obtain ⟨Ψ, k1, k2, k3, k4⟩ := h.k.ex
    refine ⟨Ψ, k1, fun j a o e => ?_, k3, k4⟩
    rw [newF_old (fun z => by rw [z, k3 j] at e; cases e) rfl]
    exact k2 j a o e
section
variable {X : Cx} {g : Gb} {B : Bs} {J : Hp} {S : SL} {e e1 e2 e3 tg elt iter : Expr} {es ifs : List Expr} {pos pos' p p2 p3 apos cpos : Pos} {o α' β' γ' ρ : Type} {K : KT o} {rest body : List Stmt} {α β γ δ : Type} [Py α]
theorem lc_useO {gt : L2.TG} {put : α → SL → SL} {ts vs : List Nat} {t : α → Option Bool} {f : α → Option β} {kb : β → RK} {kc : β → OR} {as : List α} {bs : List β} {σ : L2.St} {H : Hp} {Q : VK} (hts : ∀ i ∈ ts, i ∈ vs)
    (hG : ∀ (B : Bs) (S : SL) (a : α) (v : V) σ I H Q, Hold g B S σ I H → (Py.r g a).p I v → (∀ σ', Hold g B (put a S) σ' I H → (∀ vs, (∀ t ∈ ts, t ∈ vs) → wipe σ' vs = wipe σ vs) → Q σ' H) → gt v σ H Q) (hk : ∀ b, (kb b).slotty = true) (hkc : ∀ b, (kb b).orOf = kc b)
    (hbs : lcF t f as = some bs) (hq : ∃ I, Hold g B S σ I H ∧ ∀ v I' H', Ext I H I' H' → RK.holds g (.ow (oC wL (bs.map kc))) H v I' H' → Q v H') :
    tLc (rdI g B S as) gt (rdTs g B (fun a => put a (wipeS S vs)) t) (rdEsO g B (fun a => put a (wipeS S vs)) f kb) vs σ H Q := by
  obtain ⟨I, hh, kk⟩ := hq
  refine ⟨I, hh, fun J1 I1 H1 x1 hW => ?_⟩
  intro D hD
  have hI1 : I1 D = none := x1.s.free hD
  have hT : HasT H1 := (hh.ext x1).tb.has
  refine ⟨fun i m H => m = as.length - i ∧ i ≤ as.length ∧ ∃ I2 ds ws rs F, lcF t f (as.drop i) = some rs ∧ ds ++ rs = bs ∧ Ext I1 H1 I2 H ∧ I2 D = none ∧ H D = some (.lst ws) ∧ LcO kc ds ws D H1 I2 H F ∧ ds.length ≤ i,
    ⟨as.length, by simp, Nat.zero_le _, I1, [], [], bs, fun _ => none, hbs, rfl, ⟨Same.refl _, SW.of (same_new hD), x1.s.trans (same_new hD), fun _ _ h => h⟩, hI1, upd_same, ⟨fun a z => absurd rfl z, fun a o e => (by cases e), rfl, ⟨rfl, fun _ _ => none, fun j o v e => (by simp at e), fun j a o e => (by cases e), fun _ => rfl, fun i j a z => absurd rfl z⟩⟩, Nat.le_refl _⟩, ?_⟩
  rintro i m H2 ⟨rfl, hi, I2, ds, ws, rs, F, hrs, hds, x2, hI2, hH2, hp, hdl⟩
  have hh2 : Hold g B S σ I2 H2 := (hh.ext x1).ext x2
  by_cases hlt : i < as.length
  · have hit : as[i]? = some as[i] := List.getElem?_eq_getElem hlt
    refine .inr ⟨hW.go i _ I2 H2 hit x2.i x2.s hh2.base, fun H => i + 1 ≤ as.length ∧ ∃ I2 ds ws rs F, lcF t f (as.drop (i + 1)) = some rs ∧ ds ++ rs = bs ∧ Ext I1 H1 I2 H ∧ I2 D = none ∧ H D = some (.lst ws) ∧ LcO kc ds ws D H1 I2 H F ∧ ds.length ≤ i + 1, fun H' h => ⟨as.length - (i + 1), by omega, rfl, h.1, h.2⟩, fun x H3 hy => ?_⟩
    obtain ⟨I3, x3, hv⟩ := hW.yl i _ I2 H2 x H3 hit x2.i x2.s hh2.base hy
    have hI3 : I3 D = none := x3.n D (by rw [hH2]; simp) hI2
    rw [drop_at hit] at hrs
    obtain ⟨b, e1, e2⟩ := bind_some (show (t as[i] >>= fun b => if b = true then (f as[i] >>= fun y => lcF t f (as.drop (i + 1)) >>= fun ys => some (y :: ys)) else lcF t f (as.drop (i + 1))) = some rs from hrs)
    refine hG B (wipeS S vs) as[i] x (wipe σ vs) I3 H3 _ ((hh2.ext x3).wipe vs) hv fun σ4 h4 hw => ⟨(hw vs hts).trans wipe_wipe, as[i], b, I3, e1, h4, fun I5 H5 x5 => ?_⟩
    have hI5 : I5 D = none := x5.n D (by rw [x3.h.get _ _ hH2]; simp) hI3
    have hH5 : H5 D = some (.lst ws) := x5.h.get _ _ (x3.h.get _ _ hH2)
    have hp5 := (hp.ext x3 hT).ext x5 hT
    cases b with
    | true =>
      rw [if_pos rfl] at e2
      refine iteT ?_
      obtain ⟨y, e3, e4⟩ := bind_some e2
      obtain ⟨ys, e5, e6⟩ := bind_some e4
      cases e6
      refine ⟨as[i], y, I5, e3, h4.ext x5, fun u I6 H6 x6 hu => ?_⟩
      obtain ⟨F', f1, f2, f3⟩ := RK.fragO (hk y) hu
      rw [hkc] at f3
      have hp6 := hp5.ext x6 hT
      have x25 := (x2.trans x3).trans x5
      have x16 := x25.trans x6
      have hwl : ws.length = ds.length := by have := hp.k.len; rw [List.length_map] at this; exact this.symm
      refine ⟨ws, x6.h.get _ _ hH5, ?_, hlt, I6, ds ++ [y], ws ++ [u], ys, Un F F', e5, by rw [List.append_assoc]; exact hds, ?_, x6.n D (by rw [hH5]; simp) hI5, upd_same, ?_, ?_⟩
      · have := hW.len
        rw [hwl]
        omega
      · refine ⟨x16.i, x16.h.put hD (x6.h.get _ _ hH5), fun c ob ec => ?_, x16.n⟩
        rw [upd_ne (ne_of_none ec (x6.n D (by rw [hH5]; simp) hI5))]
        exact x16.s _ _ ec
      · have hp7 : LcO kc ds ws D H1 I6 H5 F := ⟨hp6.fr, hp5.s, hp6.d, hp6.k⟩
        exact hp7.push (by rw [hH5]; simp) (fun a ha => (f1 a ha).1) (fun a ha => ⟨x25.h.free (f1 a ha).1, (f1 a ha).2⟩) f2 hp6.s f3
      · rw [List.length_append, List.length_singleton]
        omega
    | false =>
      rw [if_neg Bool.false_ne_true] at e2
      refine iteF ?_
      exact ⟨hlt, I5, ds, ws, rs, F, e2, hds, (x2.trans x3).trans x5, hI5, hH5, hp5, by omega⟩
  · have e : i = as.length := by omega
    subst e
    rw [List.drop_of_length_le (Nat.le_refl _)] at hrs
    cases hrs
    rw [List.append_nil] at hds
    subst hds
    refine .inl ⟨hW.st I2 H2 x2.i x2.s hh2.base, kk _ I2 H2 (x1.trans x2) (hp.done (fun a ha => x1.h.free ha) hD hI2 hH2 ?_)⟩
    have := hW.len
    have := hp.k.len
    rw [List.length_map] at this
    omega
/-- [elt for tg in iter]: own things -/
theorem me_lcO {scope : Scope} {own : List (Str × Nat)} {m : Option (List α)} {gt : L2.TG} {put : α → SL → SL} {ts : List Nat} {f : α → Option β} {kb : β → RK} (kc : β → OR) (hN : X.N.Nodup) (hi : MI X g B S tg iter m) (hb : blkC X.N X.env.scope scope own = true) (hts : ∀ i ∈ ts, i ∈ own.map (·.2))
    (hG : ∀ (s : Shared) (H : Hp) (C : Addr) (cl : List (Str × Addr)) (fp : List Addr), MG (X.blk s H scope (compEnvC scope cl C X.env) fp) g tg gt put ts)
    (he : ∀ (s : Shared) (H : Hp) (C : Addr) (cl : List (Str × Addr)) (fp : List Addr) (a : α), ME (X.blk s H scope (compEnvC scope cl C X.env) fp) g B (put a (wipeS S (own.map (·.2)))) elt (f a) kb) (hk : ∀ b, (kb b).slotty = true := by intro _; rfl) (hkc : ∀ b, (kb b).orOf = kc b := by intro _; rfl) (hc : X.calm = true := by rfl) (hs : ∀ x, foldedSetIterable iter X.env x = pure x := by intro _; rfl) :
    ME X g B S (.ListComp elt [⟨tg, iter, [], 0⟩] scope pos) (m >>= fun as => lcM f as) (fun bs => .ow (oC wL (bs.map kc))) := by
  refine ⟨fun bs q => ?_⟩
  obtain ⟨as, q1, q2⟩ := bind_some q
  rw [← lcF_all] at q2
  refine pe_imp (pe_lc (g := gt) (tt := rdTs g B (fun a => put a (wipeS S (own.map (·.2)))) (fun _ => some true)) (te := rdEsO g B (fun a => put a (wipeS S (own.map (·.2)))) f kb) hc hN (hi.run as q1) (blkOk_by hb) (fun s H C cl fp => (hG s H C cl fp).pg)
    (fun s H C cl fp => ⟨fun pins st σ H Q I ⟨a, b, I2, e1, h, k⟩ => (mts_nil.run b e1).run pins st σ H Q I ⟨I2, h, k⟩⟩)
    (fun s H C cl fp => ⟨fun pins st σ H Q I ⟨a, b, I2, e1, h, k⟩ => ((he _ _ C cl fp a).run b e1).run pins st σ H Q I ⟨I2, h, k⟩⟩) hs) fun σ H Q hq => ?_
  exact lc_useO hts (hG X.s_0 X.H_0 0 [] []).ok hk hkc q2 hq
end
end T
set_option Elab.async false
set_option linter.all false
set_option maxRecDepth 100000
namespace T
variable [TabsC]
open PySem PySem.Spec PyProof.Rows L2
/-! things of one's own that stay for a stretch, and are one's own again behind it -/
/-- a thing that stays and is the value u -/
def pinP (u : V) (p : PR) : PR := ⟨fun I v => v = u ∧ p.p I v, fun s h => ⟨h.1, p.mono s h.2⟩⟩
def UnL (I : Hp) (Φ : Nat → Hp) : List Nat → Hp
  | [] => I
  | j :: js => Un (UnL I Φ js) (Φ j)
structure Fz where
  j : Nat
  o : OR
  p : PR
def FZ (g : Gb) (B : Bs) (J : Hp) (S : SL) (u : Nat → V) (zs : List Fz) (J' : Hp) : Prop := ∃ σ0 H0 I Φ, HoldF g B S σ0 I H0 Φ ∧ Ext B.I B.H I H0 ∧ Same J I ∧ J' = UnL I Φ (zs.map (·.j)) ∧ ∀ n v, σ0[n]? = some (some v) → u n = v
structure FzOk (S : SL) (z : Fz) : Prop where
  ex : ∃ k : RK, S[z.j]? = some (some k) ∧ k.orOf = z.o ∧ k.slotty = true
  f : Frz z.o z.p
theorem fz_fr {g : Gb} {α : Type} [Py α] {S : SL} {j : Nat} {as : List α} (h : S[j]? = some (some (.fr (rl g as)))) : FzOk S ⟨j, oF (rl g as), Py.r g as⟩ := ⟨⟨_, h, rfl, rfl⟩, frz_F⟩
theorem fz_L {g : Gb} {α : Type} [Py α] {S : SL} {j : Nat} {as : List (List α)} (h : S[j]? = some (some (.ow (oC wL (as.map fun a => oF (rl g a)))))) : FzOk S ⟨j, oC wL (as.map fun a => oF (rl g a)), Py.r g as⟩ := ⟨⟨_, h, rfl, rfl⟩, frz_L fun _ => frz_F⟩
theorem fzs_nil {S : SL} : ∀ z ∈ ([] : List Fz), FzOk S z := fun z h => (by cases h)
theorem fzs_cons {S : SL} {z : Fz} {zs : List Fz} (h : FzOk S z) (t : ∀ z ∈ zs, FzOk S z) : ∀ y ∈ z :: zs, FzOk S y := fun y hy => by
  rcases List.mem_cons.mp hy with rfl | hy
  · exact h
  · exact t y hy
theorem thaws_nil {T : SL} {u : Nat → V} : ∀ z ∈ ([] : List Fz), T[z.j]? = some (some (.im (pinP (u z.j) z.p))) := fun z h => (by cases h)
theorem thaws_cons {T : SL} {u : Nat → V} {z : Fz} {zs : List Fz} (h : T[z.j]? = some (some (.im (pinP (u z.j) z.p)))) (t : ∀ z ∈ zs, T[z.j]? = some (some (.im (pinP (u z.j) z.p)))) : ∀ y ∈ z :: zs, T[y.j]? = some (some (.im (pinP (u y.j) y.p))) := fun y hy => by
  rcases List.mem_cons.mp hy with rfl | hy
  · exact h
  · exact t y hy
def fzS (u : Nat → V) : List Fz → SL → SL
  | [], S => S
  | z :: zs, S => (fzS u zs S).set z.j (some (.im (pinP (u z.j) z.p)))
def thS : List Fz → Nat → SL
  | [], n => List.replicate n none
  | z :: zs, n => (thS zs n).set z.j (some (.ow z.o))
theorem fzS_len {u : Nat → V} {S : SL} : ∀ {zs : List Fz}, (fzS u zs S).length = S.length
  | [] => rfl
  | z :: zs => by show ((fzS u zs S).set z.j _).length = _; rw [List.length_set, fzS_len]
theorem thS_len {n : Nat} : ∀ {zs : List Fz}, (thS zs n).length = n
  | [] => List.length_replicate ..
  | z :: zs => by show ((thS zs n).set z.j _).length = _; rw [List.length_set, thS_len]
theorem fzS_get {u : Nat → V} {S : SL} {i : Nat} {k : RK} : ∀ {zs : List Fz}, (fzS u zs S)[i]? = some (some k) → (∃ z ∈ zs, z.j = i ∧ k = .im (pinP (u i) z.p)) ∨ ((∀ z ∈ zs, z.j ≠ i) ∧ S[i]? = some (some k))
  | [], h => .inr ⟨fun z hz => (by cases hz), h⟩
  | z :: zs, h => by
    rcases set_some h with ⟨a, b, _⟩ | ⟨a, b⟩
    · subst a
      cases b
      exact .inl ⟨z, List.mem_cons_self, rfl, rfl⟩
    · rcases fzS_get b with ⟨y, hy, e⟩ | ⟨e1, e2⟩
      · exact .inl ⟨y, List.mem_cons_of_mem _ hy, e⟩
      · refine .inr ⟨fun y hy => ?_, e2⟩
        rcases List.mem_cons.mp hy with rfl | hy
        · exact a
        · exact e1 y hy
theorem thS_get {n i : Nat} {k : RK} : ∀ {zs : List Fz}, (thS zs n)[i]? = some (some k) → ∃ z ∈ zs, z.j = i ∧ k = .ow z.o
  | [], h => by
    have h : (List.replicate n (none : Option RK))[i]? = some (some k) := h
    rw [List.getElem?_replicate] at h
    split at h <;> cases h
  | z :: zs, h => by
    rcases set_some h with ⟨a, b, _⟩ | ⟨a, b⟩
    · subst a
      cases b
      exact ⟨z, List.mem_cons_self, rfl, rfl⟩
    · obtain ⟨y, hy, e⟩ := thS_get b
      exact ⟨y, List.mem_cons_of_mem _ hy, e⟩
section
variable {X : Cx} {g : Gb} {B : Bs} {J : Hp} {S : SL} {o : Type} {K : KT o} {m : Option o} {sts rest : List Stmt} {I H : Hp} {σ : L2.St} {Φ : Nat → Hp}
theorem unL_in (h : HoldF g B S σ I H Φ) : ∀ {js : List Nat} {a : Addr} {o : HO}, UnL I Φ js a = some o → I a = some o ∨ ∃ j ∈ js, Φ j a = some o
  | [], a, o, e => .inl e
  | j :: js, a, o, e => by
    rcases un_some (show Un (UnL I Φ js) (Φ j) a = some o from e) with q | ⟨_, q⟩
    · exact .inr ⟨j, List.mem_cons_self, q⟩
    · rcases unL_in h q with y | ⟨i, hi, y⟩
      · exact .inl y
      · exact .inr ⟨i, List.mem_cons_of_mem _ hi, y⟩
theorem unL_sub (h : HoldF g B S σ I H Φ) : ∀ {js : List Nat}, Same I (UnL I Φ js)
  | [] => Same.refl _
  | j :: js => fun a o e => by
    show Un (UnL I Φ js) (Φ j) a = some o
    cases q : Φ j a with
    | none => rw [un_none q]; exact unL_sub h a o e
    | some u =>
      have := (h.fr j a u q).2.1
      rw [e] at this; cases this
theorem unL_part (h : HoldF g B S σ I H Φ) {i : Nat} : ∀ {js : List Nat}, i ∈ js → Same (Un I (Φ i)) (UnL I Φ js)
  | j :: js, hi, a, o, e => by
    show Un (UnL I Φ js) (Φ j) a = some o
    by_cases hij : i = j
    · subst hij
      rcases un_some e with q | ⟨q1, q2⟩
      · exact un_r q
      · rw [un_none q1]; exact unL_sub h a o q2
    · have hm : i ∈ js := (List.mem_cons.mp hi).resolve_left hij
      have := unL_part h hm a o e
      cases q : Φ j a with
      | none => rw [un_none q]; exact this
      | some u =>
        obtain ⟨f1, f2, f3⟩ := h.fr j a u q
        rcases un_some e with y | ⟨y1, y2⟩
        · exact absurd (h.dj i j a (ne_of_some y) (ne_of_some q)) hij
        · rw [f2] at y2; cases y2
  | [], hi, _, _, _ => by cases hi
/-- the things of these slots stay from here on -/
theorem mb_fz (zs : List Fz) (hz : ∀ z ∈ zs, FzOk S z) (h : ∀ u J', FZ g B J S u zs J' → MB X g B J' (fzS u zs S) sts m K) : MB X g B J S sts m K := by
  refine ⟨fun r q => ⟨fun pins s σ H D IV hw => ?_⟩⟩
  obtain ⟨I, ok, kk⟩ := hw
  obtain ⟨Φ, h0⟩ := ok.h
  let u : Nat → V := fun n => match σ[n]? with
    | some (some v) => v
    | _ => .non
  have hu : ∀ n v, σ[n]? = some (some v) → u n = v := fun n v e => by
    show (match σ[n]? with | some (some v) => v | _ => V.non) = v
    rw [e]
  refine ((h u _ ⟨σ, H, I, Φ, h0, ok.x, ok.j, rfl, hu⟩).run r q).run pins s σ H D IV ⟨UnL I Φ (zs.map (·.j)), ⟨⟨ok.x.i.trans (unL_sub h0), ok.x.h, fun a o e => ?_, fun a ha hi => ?_⟩, Same.refl _, fun i => if i ∈ zs.map (·.j) then fun _ => none else Φ i, ?_⟩, kk⟩
  · rcases unL_in h0 e with y | ⟨j, _, y⟩
    · exact h0.sub a o y
    · exact (h0.fr j a o y).1
  · cases e : UnL I Φ (zs.map (·.j)) a with
    | none => rfl
    | some o =>
      rcases unL_in h0 e with y | ⟨j, _, y⟩
      · rw [ok.x.n a ha hi] at y; cases y
      · exact absurd (h0.fr j a o y).2.2 ha
  · have subH : Same (UnL I Φ (zs.map (·.j))) H := fun a o e => by
      rcases unL_in h0 e with y | ⟨j, _, y⟩
      · exact h0.sub a o y
      · exact (h0.fr j a o y).1
    refine ⟨by rw [fzS_len]; exact h0.len, subH, h0.base, ⟨h0.tb.t, h0.tb.b, fun p hp => ?_⟩, fun i k e => ?_, fun i a o e => ?_, fun i j a e1 e2 => ?_⟩
    · cases e : UnL I Φ (zs.map (·.j)) p.1 with
      | none => rfl
      | some o =>
        rcases unL_in h0 e with y | ⟨j, _, y⟩
        · rw [h0.tb.i p hp] at y; cases y
        · rw [h0.noT j p hp] at y; cases y
    · rcases fzS_get e with ⟨z, hz1, rfl, rfl⟩ | ⟨e1, e2⟩
      · obtain ⟨⟨k0, c1, c2, c3⟩, cf⟩ := hz z hz1
        obtain ⟨v, d1, d2⟩ := h0.at_ _ _ c1
        have hj : z.j ∈ zs.map (·.j) := List.mem_map.mpr ⟨z, hz1, rfl⟩
        have d3 : z.o.p I (Φ z.j) v := by
          rw [← c2]
          cases k0 with
          | im p => exact d2
          | fr q => exact d2
          | ow o => exact d2
          | bw q => cases c3
          | rd q => cases c3
        refine ⟨v, d1, (hu _ _ d1).symm, PR.mono _ (unL_part h0 hj) (cf I (Φ z.j) v (fun a ha => (h0.ne ha).2.1) d3)⟩
      · have hni : ¬ i ∈ zs.map (·.j) := fun hm => by
          obtain ⟨z, hz1, rfl⟩ := List.mem_map.mp hm
          exact e1 z hz1 rfl
        obtain ⟨v, d1, d2⟩ := h0.at_ _ _ e2
        refine ⟨v, d1, ?_⟩
        show RK.inS g k B.H v _ (if i ∈ zs.map (·.j) then fun _ => none else Φ i)
        rw [if_neg hni]
        exact RK.inS_mono (unL_sub h0) d2
    · by_cases hm : i ∈ zs.map (·.j)
      · rw [if_pos hm] at e; cases e
      · rw [if_neg hm] at e
        obtain ⟨f1, f2, f3⟩ := h0.fr i a o e
        refine ⟨f1, ?_, f3⟩
        cases q : UnL I Φ (zs.map (·.j)) a with
        | none => rfl
        | some w =>
          rcases unL_in h0 q with y | ⟨j, hj, y⟩
          · rw [f2] at y; cases y
          · have := h0.dj i j a (ne_of_some e) (ne_of_some y)
            rw [this] at hm
            exact absurd hj hm
    · by_cases hi : i ∈ zs.map (·.j)
      · rw [if_pos hi] at e1; exact absurd rfl e1
      · by_cases hj : j ∈ zs.map (·.j)
        · rw [if_pos hj] at e2; exact absurd rfl e2
        · rw [if_neg hi] at e1
          rw [if_neg hj] at e2
          exact h0.dj i j a e1 e2
/-- and are one's own again -/
theorem mb_thaw {u : Nat → V} {zs : List Fz} {J' : Hp} {T : SL} (l : FZ g B J S u zs J') (hz : ∀ z ∈ zs, FzOk S z) (hT : ∀ z ∈ zs, T[z.j]? = some (some (.im (pinP (u z.j) z.p)))) (h : MB X g B J (thS zs T.length) rest m K) : MB X g B J' T rest m K := by
  obtain ⟨σ0, H0, I0, Φ0, h0, x0, j0, rfl, hu⟩ := l
  refine ⟨fun r q => pss_imp (h.run r q) fun D σ H ⟨I, ok, kk⟩ => ⟨I0, ⟨⟨x0.i, ok.x.h, ?_, x0.n⟩, j0, fun i => if i ∈ zs.map (·.j) then Φ0 i else fun _ => none, ?_⟩, kk⟩⟩
  · exact (unL_sub h0).trans (ok.j.trans ok.x.s)
  · refine ⟨by rw [thS_len]; exact ok.h.len, (unL_sub h0).trans (ok.j.trans ok.x.s), ok.h.base, ⟨ok.h.tb.t, ok.h.tb.b, h0.tb.i⟩, fun i k e => ?_, fun i a o e => ?_, fun i j a e1 e2 => ?_⟩
    · obtain ⟨z, hz1, rfl, rfl⟩ := thS_get e
      obtain ⟨v, d1, d2, _⟩ := ok.h.at_ _ _ (hT z hz1)
      obtain ⟨⟨k0, c1, c2, c3⟩, cf⟩ := hz z hz1
      obtain ⟨v0, b1, b2⟩ := h0.at_ _ _ c1
      have hj : z.j ∈ zs.map (·.j) := List.mem_map.mpr ⟨z, hz1, rfl⟩
      have d3 : z.o.p I0 (Φ0 z.j) v0 := by
        rw [← c2]
        cases k0 with
        | im p => exact b2
        | fr q => exact b2
        | ow o => exact b2
        | bw q => cases c3
        | rd q => cases c3
      refine ⟨v, d1, ?_⟩
      show z.o.p I0 (if z.j ∈ zs.map (·.j) then Φ0 z.j else fun _ => none) v
      rw [if_pos hj, d2, hu _ _ b1]
      exact d3
    · by_cases hm : i ∈ zs.map (·.j)
      · rw [if_pos hm] at e
        obtain ⟨f1, f2, f3⟩ := h0.fr i a o e
        exact ⟨ok.x.s _ _ (ok.j _ _ (unL_part h0 hm a o (un_r e))), f2, f3⟩
      · rw [if_neg hm] at e; cases e
    · by_cases hi : i ∈ zs.map (·.j)
      · by_cases hj : j ∈ zs.map (·.j)
        · rw [if_pos hi] at e1
          rw [if_pos hj] at e2
          exact h0.dj i j a e1 e2
        · rw [if_neg hj] at e2; exact absurd rfl e2
      · rw [if_neg hi] at e1; exact absurd rfl e1
end
def pinK (u : V) (p : PR) : RK := .im (pinP u p)
section
variable {X : Cx} {g : Gb} {B : Bs} {J : Hp} {S : SL} {e e1 e2 e3 : Expr} {pos pos' p p2 p3 apos cpos : Pos} {o ι : Type} {K : KT o} {rest : List Stmt} {α β : Type} [Py α] [Py β]
theorem me_pinP (i : Nat) {x : Str} {a : α} {u : V} (hS : S[i]? = some (some (.im (pinP u (Py.r g a)))) := by rfl) (hN : X.N[i]? = some x := by rfl) (hv : Vis X.env.scope x := by first | exact Or.inl rfl | exact Or.inr (Or.inl rfl) | exact Or.inr (Or.inr rfl))
    (hd : (x == ("__debug__" : Str)) = false := by decide) (hcd : (x == ("__classdict__" : Str)) = false := by decide) : ME X g B S (.Name x pos) (some a) (KI g) := by
  refine ⟨fun a' e => ?_⟩
  cases e
  refine pe_imp (pe_var hN hv hd hcd) fun σ H Q ⟨I, h, q⟩ => ?_
  obtain ⟨v, e1, h1⟩ := h.at_ i _ hS
  exact ⟨v, e1, q v I H (Ext.refl h.sub) h1.2⟩
/-- a list of which no more is known than its length; nothing known -/
def oLen (n : Nat) : OR := ⟨fun _ F v => ∃ l vs, v = .ref l ∧ F l = some (.lst vs) ∧ vs.length = n, fun _ h => h⟩
def oAny : OR := ⟨fun _ _ _ => True, fun _ _ => trivial⟩
@[irreducible] def roomO (b : Bool) : Option Unit := if b = true then some () else none
theorem roomO_ok {b : Bool} (h : b = true) : roomO b = some () := by unfold roomO; rw [h]; rfl
theorem roomO_is {b : Bool} {x : Unit} (h : roomO b = some x) : b = true := by
  unfold roomO at h
  cases b with
  | true => rfl
  | false => cases h
/-- y.append(e2): y's items are looked at no more -/
theorem mb_appLen {a' : Type} {n : Nat} {m2 : Option a'} {k : a' → RK} {m : Option o} {x : Str} (i : Nat) (he : ME X g B S e2 m2 k) (hb : MB X g B J (S.set i (some (.ow oAny))) rest m K) (hS : S[i]? = some (some (.ow (oLen n))) := by rfl) (hN : X.N[i]? = some x := by rfl) (hv : Vis X.env.scope x := by first | exact Or.inl rfl | exact Or.inr (Or.inl rfl) | exact Or.inr (Or.inr rfl))
    (hd : (x == ("__debug__" : Str)) = false := by decide) (hcd : (x == ("__classdict__" : Str)) = false := by decide)
    (hs : swapsWith (.Call (.Attribute (.Name x p) "append" apos) [e2] [] cpos) none pos.line X.env = pure false := by rfl) (hst : starEach [e2] X.env = (false, eval e2 X.env) :: starEach [] X.env := by rfl)
    (hbase : attributeBase (.Name x p) "append" X.env (eval (.Name x p) X.env) = eval (.Name x p) X.env := by rfl)
    (hfew : ((backTo cpos (starEach [e2] X.env)).all (fun x => !x.1) && (backToKw cpos (keywordEach [] X.env)).all (fun x => x.1.isSome) && decide ([e2].length + ([] : List Keyword).length + (if ([] : List Keyword).isEmpty then 0 else 1) < 30)) = true := by rfl)
    (hline : (apos.endLine == cpos.line) = true := by rfl) (hplain : (backTo cpos (starEach [] X.env)).any (·.1) = false := by rfl) :
    MB X g B J S (.Expr (.Call (.Attribute (.Name x p) "append" apos) [e2] [] cpos) pos :: rest) (m2 >>= fun _ => roomO (decide (n < sizeLine)) >>= fun _ => m) K := by
  refine ⟨fun r q => ?_⟩
  obtain ⟨a, q2, q⟩ := bind_some q
  obtain ⟨bs, q3, q4⟩ := bind_some q
  have hz := of_decide_eq_true (roomO_is q3)
  refine pss_imp (pss_cons (ps_expr (pe_bm PySem.F.plainAttrs_list PySem.F.slot_list_append PySem.F.type_list_append mt_append (pe_var hN hv hd hcd) (pa_cons (he.run a q2) pa_nil hst) hbase hfew hline hst hplain) hs) (hb.run r q4)) fun D σ H ⟨I, ok, kk⟩ => ?_
  obtain ⟨x0, oj, Φ, hh⟩ := ok
  obtain ⟨v, e1, l, vs, rfl, hl, hn⟩ := hh.at_ i _ hS
  have h1 := (hh.fr i l _ hl).1
  refine ⟨_, e1, .inl ⟨rfl, _, SqL.of h1⟩, I, ⟨Φ, hh⟩, fun w I2 H2 x2 hw => ⟨l, vs, w, rfl, rfl, x2.h.get _ _ h1, by rw [hn]; exact hz, I2, ?_, kk⟩⟩
  exact HoldF.store (x0.trans x2) (oj.trans x2.i) (hh.ext x2) e1 hl (F' := fun _ => none) (fun _ _ z => by cases z) (fun a z => absurd rfl z) trivial
end
/-- y with its rows, each of which may grow by r items -/
def oRow (L : Addr) (vs : List V) (r : Nat) : OR := ⟨fun _ F v => v = .ref L ∧ F L = some (.lst vs) ∧ ∀ u ∈ vs, ∃ l ws, u = .ref l ∧ l ≠ L ∧ F l = some (.lst ws) ∧ ws.length + r ≤ sizeLine, fun _ h => h⟩
theorem Hold.drop {g : Gb} {B : Bs} {S : SL} {σ : L2.St} {I H : Hp} (t : Nat) (h : Hold g B S σ I H) : Hold g B (S.set t none) σ I H := by
  obtain ⟨Φ, h⟩ := h
  refine ⟨Φ, by rw [List.length_set]; exact h.len, h.sub, h.base, h.tb, fun j k e => ?_, h.fr, h.dj⟩
  rcases set_some e with ⟨_, b, _⟩ | ⟨_, b⟩
  · cases b
  · exact h.at_ j k b
theorem Hold.ow {g : Gb} {B : Bs} {S : SL} {σ : L2.St} {I H : Hp} {i : Nat} {o o' : OR} (h : Hold g B S σ I H) (hS : S[i]? = some (some (.ow o))) (f : ∀ v F, o.p I F v → o'.p I F v) : Hold g B (S.set i (some (.ow o'))) σ I H := by
  obtain ⟨Φ, h⟩ := h
  refine ⟨Φ, by rw [List.length_set]; exact h.len, h.sub, h.base, h.tb, fun j k e => ?_, h.fr, h.dj⟩
  rcases set_some e with ⟨a, b, _⟩ | ⟨_, b⟩
  · subst a
    cases b
    obtain ⟨v, e1, h1⟩ := h.at_ _ _ hS
    exact ⟨v, e1, f v _ h1⟩
  · exact h.at_ j k b
section
variable {X : Cx} {g : Gb} {B : Bs} {J : Hp} {S : SL} {e e1 e2 e3 : Expr} {pos pos' p p2 p3 apos cpos : Pos} {o ι : Type} {K : KT o} {rest : List Stmt} {α β : Type} [Py α] [Py β]
/-- x.append(e2), x a row of y -/
theorem mb_appRow {a' : Type} {c : a'} {k : a' → RK} {x : Str} (i t : Nat) (hit : i ≠ t) {u : V} {L : Addr} {vs : List V} {r : Nat} (hu : u ∈ vs) (hil : i < S.length) (htl : t < S.length) (he : ∀ S, ME X g B S e2 (some c) k) (hN : X.N[t]? = some x) (hv : Vis X.env.scope x)
    (hd : (x == ("__debug__" : Str)) = false) (hcd : (x == ("__classdict__" : Str)) = false)
    (hs : swapsWith (.Call (.Attribute (.Name x p) "append" apos) [e2] [] cpos) none pos.line X.env = pure false) (hst : starEach [e2] X.env = (false, eval e2 X.env) :: starEach [] X.env)
    (hbase : attributeBase (.Name x p) "append" X.env (eval (.Name x p) X.env) = eval (.Name x p) X.env)
    (hfew : ((backTo cpos (starEach [e2] X.env)).all (fun x => !x.1) && (backToKw cpos (keywordEach [] X.env)).all (fun x => x.1.isSome) && decide ([e2].length + ([] : List Keyword).length + (if ([] : List Keyword).isEmpty then 0 else 1) < 30)) = true)
    (hline : (apos.endLine == cpos.line) = true) (hplain : (backTo cpos (starEach [] X.env)).any (·.1) = false) :
    MB X g B J ((S.set i (some (.ow (oRow L vs (r + 1))))).set t (some (.im (eqP u)))) [.Expr (.Call (.Attribute (.Name x p) "append" apos) [e2] [] cpos) pos] (some ()) (Kn g B J fun _ : Unit => (S.set i (some (.ow (oRow L vs r)))).set t (some (.im (eqP u)))) := by
  refine ⟨fun r' q => ?_⟩
  have hS1 : ((S.set i (some (.ow (oRow L vs (r + 1))))).set t (some (.im (eqP u))))[t]? = some (some (.im (eqP u))) := List.getElem?_set_self (by rw [List.length_set]; exact htl)
  have hS2 : ((S.set i (some (.ow (oRow L vs (r + 1))))).set t (some (.im (eqP u))))[i]? = some (some (.ow (oRow L vs (r + 1)))) := by
    rw [List.getElem?_set_ne (fun z => hit z.symm), List.getElem?_set_self hil]
  refine pss_imp (pss_cons (ps_expr (pe_bm PySem.F.plainAttrs_list PySem.F.slot_list_append PySem.F.type_list_append mt_append (pe_var hN hv hd hcd) (pa_cons ((he ((S.set i (some (.ow (oRow L vs (r + 1))))).set t (some (.im (eqP u))))).run c rfl) pa_nil hst) hbase hfew hline hst hplain) hs) pss_nil) fun D σ H ⟨I, ok, kk⟩ => ?_
  obtain ⟨x0, oj, Φ, hh⟩ := ok
  obtain ⟨v1, d1, d2⟩ := hh.at_ t _ hS1
  obtain ⟨v, e1, rfl, hL, hrow⟩ := hh.at_ i _ hS2
  have d2 : v1 = u := d2
  subst d2
  obtain ⟨l, ws, rfl, hne, hl, hlen⟩ := hrow v1 hu
  have h1 := (hh.fr i l _ hl).1
  refine ⟨_, d1, .inl ⟨rfl, _, SqL.of h1⟩, I, ⟨Φ, hh⟩, fun w I2 H2 x2 hw => ⟨l, ws, w, rfl, rfl, x2.h.get _ _ h1, by omega, ?_⟩⟩
  have hst := HoldF.store (o := oRow L vs r) (ob := .lst (ws ++ [w])) (x0.trans x2) (oj.trans x2.i) (hh.ext x2) e1 hl (F' := fun _ => none) (fun _ _ z => by cases z) (fun a z => absurd rfl z) ⟨rfl, by rw [newF_old (fun z => hne z.symm) rfl]; exact hL, fun u' hu' => by
    obtain ⟨l', ws', e', hne', hl', hlen'⟩ := hrow u' hu'
    by_cases z : l' = l
    · subst z
      rw [hl] at hl'
      cases hl'
      exact ⟨l', _, e', hne', newF_root, by rw [List.length_append, List.length_singleton]; omega⟩
    · exact ⟨l', ws', e', hne', by rw [newF_old z rfl]; exact hl', by omega⟩⟩
  rw [List.set_comm _ _ (fun z => hit z.symm), List.set_set] at hst
  exact kk _ I2 _ hst
def turnA (g : Gb) (B : Bs) (S : SL) (i t : Nat) : TS := fun D σ H => ∃ J I u L vs r, u ∈ vs ∧ Ok g B J ((S.set i (some (.ow (oRow L vs (r + 1))))).set t (some (.im (eqP u)))) σ I H ∧ ∀ σ I H, Ok g B J ((S.set i (some (.ow (oRow L vs r)))).set t (some (.im (eqP u)))) σ I H → D.nx σ H
/-- for x in y: x.append(e2), all rows; y's items are looked at no more -/
theorem mb_forApp {a' : Type} {as : List (List α)} {c : a'} {k : a' → RK} {x y : Str} {m : Option o} (i t : Nat) (hp : PassesOwn (model X.prog X.w) X.A X.env X.xe) (hNd : X.N.Nodup) (he : ∀ S, ME X g B S e2 (some c) k) (hb : MB X g B J ((S.set i (some (.ow (oLen as.length)))).set t none) rest m K)
    (hS : S[i]? = some (some (.ow (oC wL (as.map fun a => oF (rl g a))))) := by rfl) (hit : i ≠ t := by decide) (htl : t < S.length := by exact Nat.le_of_ble_eq_true rfl) (hNi : X.N[i]? = some y := by rfl) (hN : X.N[t]? = some x := by rfl) (hvi : Vis X.env.scope y := by first | exact Or.inl rfl | exact Or.inr (Or.inl rfl) | exact Or.inr (Or.inr rfl)) (hv : Vis X.env.scope x := by first | exact Or.inl rfl | exact Or.inr (Or.inl rfl) | exact Or.inr (Or.inr rfl))
    (hdi : (y == ("__debug__" : Str)) = false := by decide) (hcdi : (y == ("__classdict__" : Str)) = false := by decide) (hd : (x == ("__debug__" : Str)) = false := by decide) (hcd : (x == ("__classdict__" : Str)) = false := by decide)
    (hx : Loc X.env.scope x := by first | exact Or.inl rfl | exact Or.inr rfl) (hf : X.fn x = true ∨ X.env.scope.names.lookup x = some .local := by first | exact .inl rfl | exact .inr rfl)
    (hs : swapsWith (.Call (.Attribute (.Name x p) "append" apos) [e2] [] cpos) none pos.line X.env = pure false := by rfl) (hst : starEach [e2] X.env = (false, eval e2 X.env) :: starEach [] X.env := by rfl)
    (hbase : attributeBase (.Name x p) "append" X.env (eval (.Name x p) X.env) = eval (.Name x p) X.env := by rfl)
    (hfew : ((backTo cpos (starEach [e2] X.env)).all (fun x => !x.1) && (backToKw cpos (keywordEach [] X.env)).all (fun x => x.1.isSome) && decide ([e2].length + ([] : List Keyword).length + (if ([] : List Keyword).isEmpty then 0 else 1) < 30)) = true := by rfl)
    (hline : (apos.endLine == cpos.line) = true := by rfl) (hplain : (backTo cpos (starEach [] X.env)).any (·.1) = false := by rfl) (hg : X.K = g.K := by rfl) (hc : X.calm = true := by rfl) (hfs : ∀ z, foldedSetIterable (.Name y p3) X.env z = pure z := by intro _; rfl) :
    MB X g B J S (.For (.Name x p2) (.Name y p3) [.Expr (.Call (.Attribute (.Name x p) "append" apos) [e2] [] cpos) pos] [] pos' :: rest) (roomO (as.all fun a => decide (a.length + as.length ≤ sizeLine)) >>= fun _ => m) K := by
  refine ⟨fun r q => ?_⟩
  obtain ⟨_, q3, q4⟩ := bind_some q
  have hroom := roomO_is q3
  have hil : i < S.length := (List.getElem?_eq_some_iff.mp hS).1
  have hbody : PSs X [.Expr (.Call (.Attribute (.Name x p) "append" apos) [e2] [] cpos) pos] (turnA g B S i t) :=
    ⟨fun pins st σ H D inv ⟨J, I, u, L, vs, r, hu, ok, k⟩ => ((mb_appRow (J := J) i t hit hu hil htl he hN hv hd hcd hs hst hbase hfew hline hplain).run () rfl).run pins st σ H D inv ⟨I, ok, k⟩⟩
  refine pss_imp (pss_cons (ps_for hp hc (pi_list (pe_var hNi hvi hdi hcdi)) (pg_name hNd hN hx hf) hbody hfs) (hb.run r q4)) fun D σ H ⟨I, ok, kk⟩ => ?_
  obtain ⟨v, e1, F, f1, f2, L, ob, vs, rfl, hL, ⟨rfl, hvl⟩, kd⟩ := ok.h.at_ i _ hS
  have hlen : as.length = vs.length := by have := kd.len; rwa [List.length_map] at this
  have hseq : ∀ {r : Nat} {σ : L2.St} {I H : Hp} {k : Option RK}, Ok g B J ((S.set i (some (.ow (oRow L vs r)))).set t k) σ I H → SqL g.K H L vs := fun {r σ I H k} ok2 => by
    obtain ⟨Φ, hh⟩ := ok2.h
    obtain ⟨v, _, _, h2, _⟩ := hh.at_ i _ (by rw [List.getElem?_set_ne (fun z => hit z.symm), List.getElem?_set_self hil])
    exact SqL.of (hh.fr i L _ h2).1
  rw [hg]
  refine ⟨_, e1, L, rfl, ⟨vs, SqL.of (f2 _ _ hL)⟩, fun n m σ H => m = vs.length - n ∧ n ≤ vs.length ∧ ∃ I, Ok g B J ((S.set i (some (.ow (oRow L vs (vs.length - n))))).set t none) σ I H, ⟨vs.length, by simp, Nat.zero_le _, I, ok.x, ok.j, ?_⟩, ?_⟩
  · refine Hold.drop t ?_
    obtain ⟨Φ, hh⟩ := ok.h
    obtain ⟨v', b1, b2⟩ := hh.at_ i _ hS
    refine ⟨Φ, by rw [List.length_set]; exact hh.len, hh.sub, hh.base, hh.tb, fun j k e => ?_, hh.fr, hh.dj⟩
    rcases set_some e with ⟨a, b, _⟩ | ⟨_, b⟩
    · subst a
      cases b
      rw [e1] at b1
      cases b1
      obtain ⟨L', ob', vs', z1, z2, ⟨rfl, z3⟩, kd'⟩ := b2
      cases z1
      have z4 := (hh.fr i _ _ z2).1
      rw [f2 _ _ hL] at z4
      cases z4
      refine ⟨_, e1, rfl, z2, fun u hu => ?_⟩
      obtain ⟨hl', Ψ, k1, k2, k3, k4⟩ := kd'
      obtain ⟨n, hn⟩ := List.getElem?_of_mem hu
      have hn2 : n < as.length := by rw [hlen]; exact (List.getElem?_eq_some_iff.mp hn).1
      have ha : as[n]? = some as[n] := List.getElem?_eq_getElem hn2
      obtain ⟨l, ws, w1, w2, w3⟩ := k1 n _ u (by rw [List.getElem?_map, ha]; rfl) hn
      refine ⟨l, ws, w1, fun z => ?_, k2 n _ _ w2, ?_⟩
      · rw [z, k3 n] at w2; cases w2
      · have h5 := List.all_eq_true.mp hroom as[n] (List.getElem_mem hn2)
        have h6 := of_decide_eq_true h5
        have h7 := rl_len w3
        omega
    · exact hh.at_ j k b
  · rintro n m σ2 H2 ⟨rfl, hn, I2, ok2⟩
    by_cases hlt : n < vs.length
    · have hit' : vs[n]? = some vs[n] := List.getElem?_eq_getElem hlt
      refine .inr ⟨⟨vs, vs[n], hseq ok2, hit'⟩, fun σ' H' => n + 1 ≤ vs.length ∧ ∃ I, Ok g B J ((S.set i (some (.ow (oRow L vs (vs.length - (n + 1)))))).set t none) σ' I H', fun σ' H' h => ⟨vs.length - (n + 1), by omega, rfl, h.1, h.2⟩, fun u H3 hy => ?_⟩
      obtain ⟨rfl, hy⟩ := hy
      have hu := hy vs (hseq ok2)
      rw [hit'] at hu
      cases hu
      refine ⟨J, I2, vs[n], L, vs, vs.length - (n + 1), List.getElem_mem hlt, ⟨ok2.x, ok2.j, ?_⟩, fun σ5 I5 H5 ok5 => ⟨hlt, I5, ok5.x, ok5.j, ?_⟩⟩
      · have := ok2.h.put (i := t) (k := .im (eqP vs[n])) (v := vs[n]) (Ext.refl ok2.h.sub) rfl rfl
        rw [List.set_set, show vs.length - n = vs.length - (n + 1) + 1 by omega] at this
        exact this
      · have := Hold.drop t ok5.h
        rw [List.set_set] at this
        exact this
    · have e : n = vs.length := by omega
      subst e
      refine .inl ⟨⟨vs, hseq ok2, Nat.le_refl _⟩, I2, ⟨ok2.x, ok2.j, ?_⟩, kk⟩
      have := ok2.h.ow (i := i) (o := oRow L vs (vs.length - vs.length)) (o' := oLen as.length) (by rw [List.getElem?_set_ne (fun z => hit z.symm), List.getElem?_set_self hil]) (fun v F ⟨w1, w2, w3⟩ => ⟨L, vs, w1, w2, hlen.symm⟩)
      rw [List.set_comm _ _ (fun z => hit z.symm), List.set_set] at this
      exact this
end
end T
set_option Elab.async false
set_option linter.all false
set_option maxRecDepth 100000
namespace T
variable [TabsC]
open PySem PySem.Spec PyProof.Rows L2
/-! max, min of a list -/
@[irreducible] def maxO : List Int → Option Int
  | [] => none
  | x :: xs => some (xs.foldl max x)
@[irreducible] def minO : List Int → Option Int
  | [] => none
  | x :: xs => some (xs.foldl min x)
theorem fmax_is : ∀ (xs : List Int) (x : Int), (xs.foldl max x = x ∨ xs.foldl max x ∈ xs) ∧ x ≤ xs.foldl max x ∧ ∀ y ∈ xs, y ≤ xs.foldl max x
  | [], x => ⟨.inl rfl, Int.le_refl _, fun y h => (by cases h)⟩
  | a :: xs, x => by
    obtain ⟨h1, h2, h3⟩ := fmax_is xs (max x a)
    rw [List.foldl_cons]
    refine ⟨?_, by omega, fun y hy => ?_⟩
    · rcases h1 with h | h
      · rw [h]
        by_cases hxa : x ≤ a
        · right; rw [Int.max_eq_right hxa]; exact List.mem_cons_self
        · left; exact Int.max_eq_left (by omega)
      · exact .inr (List.mem_cons_of_mem _ h)
    · rcases List.mem_cons.mp hy with rfl | hy
      · omega
      · exact h3 y hy
theorem fmin_is : ∀ (xs : List Int) (x : Int), (xs.foldl min x = x ∨ xs.foldl min x ∈ xs) ∧ xs.foldl min x ≤ x ∧ ∀ y ∈ xs, xs.foldl min x ≤ y
  | [], x => ⟨.inl rfl, Int.le_refl _, fun y h => (by cases h)⟩
  | a :: xs, x => by
    obtain ⟨h1, h2, h3⟩ := fmin_is xs (min x a)
    rw [List.foldl_cons]
    refine ⟨?_, by omega, fun y hy => ?_⟩
    · rcases h1 with h | h
      · rw [h]
        by_cases hxa : a ≤ x
        · right; rw [Int.min_eq_right hxa]; exact List.mem_cons_self
        · left; exact Int.min_eq_left (by omega)
      · exact .inr (List.mem_cons_of_mem _ h)
    · rcases List.mem_cons.mp hy with rfl | hy
      · omega
      · exact h3 y hy
theorem maxO_is {xs : List Int} {m : Int} (h : maxO xs = some m) : 0 < xs.length ∧ m ∈ xs ∧ ∀ y ∈ xs, y ≤ m := by
  unfold maxO at h
  cases xs with
  | nil => cases h
  | cons x xs =>
    cases h
    obtain ⟨h1, h2, h3⟩ := fmax_is xs x
    refine ⟨Nat.succ_pos _, ?_, fun y hy => ?_⟩
    · rcases h1 with h | h
      · rw [h]; exact List.mem_cons_self
      · exact List.mem_cons_of_mem _ h
    · rcases List.mem_cons.mp hy with rfl | hy
      · exact h2
      · exact h3 y hy
theorem minO_is {xs : List Int} {m : Int} (h : minO xs = some m) : 0 < xs.length ∧ m ∈ xs ∧ ∀ y ∈ xs, m ≤ y := by
  unfold minO at h
  cases xs with
  | nil => cases h
  | cons x xs =>
    cases h
    obtain ⟨h1, h2, h3⟩ := fmin_is xs x
    refine ⟨Nat.succ_pos _, ?_, fun y hy => ?_⟩
    · rcases h1 with h | h
      · rw [h]; exact List.mem_cons_self
      · exact List.mem_cons_of_mem _ h
    · rcases List.mem_cons.mp hy with rfl | hy
      · exact h2
      · exact h3 y hy
theorem maxO_ex {xs : List Int} (h : 0 < xs.length) : ∃ m, maxO xs = some m := by
  unfold maxO
  cases xs with
  | nil => cases h
  | cons x xs => exact ⟨_, rfl⟩
theorem minO_ex {xs : List Int} (h : 0 < xs.length) : ∃ m, minO xs = some m := by
  unfold minO
  cases xs with
  | nil => cases h
  | cons x xs => exact ⟨_, rfl⟩
section
variable {X : Cx} {g : Gb} {B : Bs} {J : Hp} {S : SL} {e e1 e2 e3 tg : Expr} {es : List Expr} {pos pos' p : Pos}
theorem me_maxL {m : Option (List Int)} {k : List Int → RK} (hm : X.mg "max" = none) (h : ME X g B S e m k) (r : LR g k := by first | exact lr_im | exact lr_fr | exact lr_rd) (hg : Gl X "max" := by rfl) (hK : X.K = g.K := by rfl) (hc : X.calm = true := by rfl) (he : starEach [e] X.env = (false, eval e X.env) :: starEach [] X.env := by rfl) (hpl : (backTo pos (starEach [] X.env)).any (·.1) = false := by rfl) :
    ME X g B S (.Call (.Name "max" p) [e] [] pos) (m >>= fun xs => maxO xs) (KI g) := by
  refine ⟨fun n q => ?_⟩
  obtain ⟨xs, q1, q2⟩ := bind_some q
  obtain ⟨z1, z2, z3⟩ := maxO_is q2
  refine pe_imp (pe_callB (cr_max hc) hg hm (by decide +kernel) (pa_cons (h.run xs q1) pa_nil he) (he := he) (hpl := hpl)) fun σ H Q ⟨I, hh, kk⟩ => ⟨I, hh, fun v I' H' x hv => ?_⟩
  obtain ⟨l, vs, rfl, h1, h2⟩ := r xs _ _ _ _ x.s hv
  have e1 := vals_ints h2.2
  subst e1
  refine ⟨l, xs, rfl, by rw [hK]; exact h1, z1, fun m' y1 y2 => ?_⟩
  have : m' = n := by
    have a := z3 m' y1
    have b := y2 n z2
    omega
  subst this
  exact kk _ I' H' x rfl
theorem me_minL {m : Option (List Int)} {k : List Int → RK} (hm : X.mg "min" = none) (h : ME X g B S e m k) (r : LR g k := by first | exact lr_im | exact lr_fr | exact lr_rd) (hg : Gl X "min" := by rfl) (hK : X.K = g.K := by rfl) (hc : X.calm = true := by rfl) (he : starEach [e] X.env = (false, eval e X.env) :: starEach [] X.env := by rfl) (hpl : (backTo pos (starEach [] X.env)).any (·.1) = false := by rfl) :
    ME X g B S (.Call (.Name "min" p) [e] [] pos) (m >>= fun xs => minO xs) (KI g) := by
  refine ⟨fun n q => ?_⟩
  obtain ⟨xs, q1, q2⟩ := bind_some q
  obtain ⟨z1, z2, z3⟩ := minO_is q2
  refine pe_imp (pe_callB (cr_min hc) hg hm (by decide +kernel) (pa_cons (h.run xs q1) pa_nil he) (he := he) (hpl := hpl)) fun σ H Q ⟨I, hh, kk⟩ => ⟨I, hh, fun v I' H' x hv => ?_⟩
  obtain ⟨l, vs, rfl, h1, h2⟩ := r xs _ _ _ _ x.s hv
  have e1 := vals_ints h2.2
  subst e1
  refine ⟨l, xs, rfl, by rw [hK]; exact h1, z1, fun m' y1 y2 => ?_⟩
  have : m' = n := by
    have a := z3 m' y1
    have b := y2 n z2
    omega
  subst this
  exact kk _ I' H' x rfl
end
end T
set_option Elab.async false
set_option linter.all false
set_option maxRecDepth 100000
namespace T
variable [TabsC]
open PySem PySem.Spec PyProof.Rows L2
/-! lists of things of one's own -/
theorem Hold.cv {g : Gb} {B : Bs} {S : SL} {σ : L2.St} {I H : Hp} (i : Nat) {k k' : RK} (h : Hold g B S σ I H) (hS : S[i]? = some (some k)) (f : ∀ v F, RK.inS g k B.H v I F → RK.inS g k' B.H v I F) : Hold g B (S.set i (some k')) σ I H := by
  obtain ⟨Φ, h⟩ := h
  refine ⟨Φ, by rw [List.length_set]; exact h.len, h.sub, h.base, h.tb, fun j kk e => ?_, h.fr, h.dj⟩
  rcases set_some e with ⟨a, b, _⟩ | ⟨_, b⟩
  · subst a
    cases b
    obtain ⟨v, e1, h1⟩ := h.at_ _ _ hS
    exact ⟨v, e1, f v _ h1⟩
  · exact h.at_ j kk b
section
variable {X : Cx} {g : Gb} {B : Bs} {J : Hp} {S : SL} {e e1 e2 e3 tg : Expr} {pos pos' p p2 p3 apos cpos : Pos} {o ι ρ : Type} {K : KT o} {rest sts : List Stmt} {α β γ : Type} [Py α] [Py β] [Py γ] {i : Nat} {m : Option ι} {mk : ι → OR → OR}
theorem mb_cv {m : Option o} (i : Nat) {k k' : RK} (hS : S[i]? = some (some k)) (f : ∀ v I F, RK.inS g k B.H v I F → RK.inS g k' B.H v I F) (hb : MB X g B J (S.set i (some k')) sts m K) : MB X g B J S sts m K :=
  ⟨fun r q => pss_imp (hb.run r q) fun D σ H ⟨I, ok, kk⟩ => ⟨I, ⟨ok.x, ok.j, ok.h.cv i hS fun v F => f v I F⟩, kk⟩⟩
/-- an own list of immutable things, empty yet, as one of things of one's own -/
theorem mb_frL0 {α' : Type} {m : Option o} (i : Nat) {as : List α} (kc : α' → OR) (h0 : as = [] := by rfl) (hS : S[i]? = some (some (.fr (rl g as)))) (hb : MB X g B J (S.set i (some (.ow (oC wL (([] : List α').map kc))))) sts m K) : MB X g B J S sts m K := by
  subst h0
  refine mb_cv i hS (fun v I F ⟨l, vs, e, hl, hq⟩ => ?_) hb
  cases hq.2
  exact ⟨l, _, [], e, hl, ⟨rfl, Nat.zero_le _⟩, kids_nil⟩
/-- a thing that stays, pinned down for a stretch, is as it was -/
theorem mb_unowI {m : Option o} (i : Nat) {r : PR} (hS : S[i]? = some (some (.ow (oI r)))) (hb : MB X g B J (S.set i (some (.im r))) sts m K) : MB X g B J S sts m K := mb_cv (k := .ow (oI r)) (k' := .im r) i hS (fun _ _ _ h => h) hb
theorem fz_im {S : SL} {j : Nat} {r : PR} (h : S[j]? = some (some (.im r))) : FzOk S ⟨j, oI r, r⟩ := ⟨⟨_, h, rfl, rfl⟩, frz_I⟩
theorem fz_ow {S : SL} {j : Nat} {o : OR} {r : PR} (z : Frz o r) (h : S[j]? = some (some (.ow o))) : FzOk S ⟨j, o, r⟩ := ⟨⟨_, h, rfl, rfl⟩, z⟩
/-- place.append(e2), e2 a thing of one's own -/
theorem mb_appPO {α' : Type} {as : ι → List α'} {kc : α' → OR} {m2 : Option α'} {k2 : α' → RK} {f : ι → List α' → Option o} (h : MP X g B S i e m (fun x => oC wL ((as x).map kc)) mk) (he : ME X g B S e2 m2 k2) (hb : ∀ x bs, MB X g B J (S.set i (some (.ow (mk x (oC wL (bs.map kc)))))) rest (f x bs) K) (hc : ∀ a, (k2 a).orOf = kc a := by intro _; rfl) (hk : ∀ a, (k2 a).slotty = true := by intro _; rfl)
    (hs : swapsWith (.Call (.Attribute e "append" apos) [e2] [] cpos) none pos.line X.env = pure false := by rfl) (hst : starEach [e2] X.env = (false, eval e2 X.env) :: starEach [] X.env := by rfl)
    (hbase : attributeBase e "append" X.env (eval e X.env) = eval e X.env := by rfl)
    (hfew : ((backTo cpos (starEach [e2] X.env)).all (fun x => !x.1) && (backToKw cpos (keywordEach [] X.env)).all (fun x => x.1.isSome) && decide ([e2].length + ([] : List Keyword).length + (if ([] : List Keyword).isEmpty then 0 else 1) < 30)) = true := by rfl)
    (hline : (apos.endLine == cpos.line) = true := by rfl) (hplain : (backTo cpos (starEach [] X.env)).any (·.1) = false := by rfl) :
    MB X g B J S (.Expr (.Call (.Attribute e "append" apos) [e2] [] cpos) pos :: rest) (m >>= fun x => m2 >>= fun a => appO (as x) a >>= fun bs => f x bs) K := by
  refine ⟨fun r q => ?_⟩
  obtain ⟨x, q1, q⟩ := bind_some q
  obtain ⟨a, q2, q⟩ := bind_some q
  obtain ⟨bs, q3, q4⟩ := bind_some q
  unfold appO at q3
  by_cases hz : decide ((as x).length < sizeLine) = true
  · rw [if_pos hz] at q3
    cases q3
    have hz' := of_decide_eq_true hz
    refine pss_imp (pss_cons (ps_expr (pe_bm PySem.F.plainAttrs_list PySem.F.slot_list_append PySem.F.type_list_append mt_append (h.run x q1) (pa_cons (he.run a q2) pa_nil hst) hbase hfew hline hst hplain) hs) ((hb x _).run r q4)) fun D σ H ⟨I, ok, kk⟩ => ?_
    obtain ⟨x0, oj, Φ, hh⟩ := ok
    refine ⟨I, Φ, hh, fun v1 I1 H1 x1 ⟨v, e1, fc⟩ => ?_⟩
    obtain ⟨l, ob, vs, rfl, hl, ⟨c2, c3⟩, c4, put⟩ := foc_root fc
    subst c2
    rw [List.length_map] at c4
    have h1 := x1.h.get _ _ (hh.fr i l _ hl).1
    refine ⟨.inl ⟨rfl, _, SqL.of h1⟩, I1, ⟨Φ, hh.ext x1⟩, fun w I2 H2 x2 hw => ⟨l, vs, w, rfl, rfl, x2.h.get _ _ h1, by rw [← c4]; exact hz', I2, ?_, kk⟩⟩
    have x12 := x1.trans x2
    obtain ⟨F', f1, f2, f3⟩ := RK.fragO (hk a) hw
    have none_of : ∀ b, F' b ≠ none → ∀ j, Φ j b = none := fun b hb j => by
      cases q : Φ j b with
      | none => rfl
      | some u => exact absurd (f1 b hb).1 (ne_of_some ((hh.ext x1).fr j b u q).1)
    refine HoldF.store (x0.trans x12) (oj.trans x12.i) (hh.ext x12) e1 hl (F' := F') f2 (fun b hb => ⟨(f1 b hb).2, (hh.ext x1).base.free (f1 b hb).1, none_of b hb⟩) ?_
    refine put wL (((as x) ++ [a]).map kc) (vs ++ [w]) _ (as x).length I2 F' x2.i (fun b hb => none_of b hb i) ⟨rfl, by rw [List.length_append, List.length_singleton]; omega⟩ (by rw [List.length_map, List.length_append, List.length_append, List.length_singleton, List.length_singleton, c4]) fun j o' u e1 e2 => ?_
    rw [List.map_append, List.map_cons, List.map_nil] at e1
    by_cases hj : j = (as x).length
    · rw [if_pos hj]
      subst hj
      rw [List.getElem?_append_right (by rw [List.length_map]; exact Nat.le_refl _), List.length_map, Nat.sub_self] at e1
      rw [c4, List.getElem?_append_right (Nat.le_refl _), Nat.sub_self] at e2
      cases e1
      cases e2
      rw [← hc a]; exact f3
    · rw [if_neg hj]
      have hlt : j < (as x).length := by
        have := (List.getElem?_eq_some_iff.mp e1).1
        rw [List.length_append, List.length_map, List.length_singleton] at this
        omega
      rw [List.getElem?_append_left (by rw [List.length_map]; exact hlt)] at e1
      rw [List.getElem?_append_left (by rw [← c4]; exact hlt)] at e2
      exact ⟨e1, e2⟩
  · rw [if_neg hz] at q3
    cases q3
/-- an owned thing handed back by its name -/
theorem mb_retOw {x : Str} (i : Nat) {k : ρ → RK} {inj : ρ → o} {r : ρ} {o1 : OR} (kr : KR g B K inj k) (hk : k r = .ow o1 := by rfl) (hS : S[i]? = some (some (.ow o1)) := by rfl) (hN : X.N[i]? = some x := by rfl) (hv : Vis X.env.scope x := by first | exact Or.inl rfl | exact Or.inr (Or.inl rfl) | exact Or.inr (Or.inr rfl))
    (hd : (x == ("__debug__" : Str)) = false := by decide) (hcd : (x == ("__classdict__" : Str)) = false := by decide) : MB X g B J S [.Return (some (.Name x p)) pos] (some (inj r)) K := by
  refine ⟨fun r' q => ?_⟩
  cases q
  refine pss_imp (pss_one (ps_ret (pe_var hN hv hd hcd))) fun D σ H ⟨I, ok, kk⟩ => ?_
  obtain ⟨v, e1, h1⟩ := ok.h.at_ i _ hS
  exact ⟨v, e1, kr r D kk v I H ok.x (by rw [hk]; exact h1)⟩
end
end T
set_option Elab.async false
set_option linter.all false
set_option maxRecDepth 100000
namespace T
variable [TabsC]
open PySem PySem.Spec PyProof.Rows L2
/-! lists of ints that are new since a def began, seen in a walk, handed back within a tuple -/
def Fs (H0 : Hp) (α : Type) : Type := α
def frsP (g : Gb) (H0 : Hp) (as : List Int) : PR := ⟨fun I v => ∃ l vs, v = .ref l ∧ I l = some (.lst vs) ∧ H0 l = none ∧ (rl g as).p I vs, fun s ⟨l, vs, e, h1, h2, h3⟩ => ⟨l, vs, e, s _ _ h1, h2, (rl g as).mono s h3⟩⟩
instance {H0 : Hp} : Py (Fs H0 (List Int)) := ⟨fun g (as : List Int) => frsP g H0 as⟩
def oFh (H0 : Hp) (q : PL) : OR := ⟨fun I F v => (oF q).p I F v ∧ ∀ a, F a ≠ none → H0 a = none, fun s h => ⟨(oF q).mono s h.1, h.2⟩⟩
theorem frz_Fh {g : Gb} {H0 : Hp} {as : List Int} : Frz (oFh H0 (rl g as)) (frsP g H0 as) := fun I F v hd ⟨⟨l, vs, e, h1, h2⟩, h3⟩ => ⟨l, vs, e, un_r h1, h3 l (ne_of_some h1), (rl g as).mono (un_l hd) h2⟩
theorem oFh_of {g : Gb} {H0 I F : Hp} {v : V} {as : List (List Int)} (h : (oC wL (as.map fun a => oF (rl g a))).p I F v) (hF : ∀ a, F a ≠ none → H0 a = none) : (oC wL (as.map fun a => oFh H0 (rl g a))).p I F v := by
  obtain ⟨l, ob, vs, e, hl, w, hlen, Ψ, k1, k2, k3, k4⟩ := h
  refine ⟨l, ob, vs, e, hl, w, by rw [List.length_map] at hlen ⊢; exact hlen, Ψ, fun j o u e1 e2 => ?_, k2, k3, k4⟩
  rw [List.getElem?_map] at e1
  cases q : as[j]? with
  | none => rw [q] at e1; cases e1
  | some a =>
    rw [q] at e1
    cases e1
    exact ⟨k1 j _ u (by rw [List.getElem?_map, q]; rfl) e2, fun b hb => hF b (same_ne (k2 j) hb)⟩
section
variable {X : Cx} {g : Gb} {B : Bs} {J : Hp} {S : SL} {e e1 e2 e3 tg : Expr} {pos pos' p p2 p3 apos cpos : Pos} {o ι ρ : Type} {K : KT o} {rest sts : List Stmt} {α β γ : Type} [Py α] [Py β] [Py γ] {i : Nat}
theorem me_frzFs {m : Option (List (List Int))} (h : ME X g B S e m (fun as => .ow (oC wL (as.map fun a => oF (rl g a))))) : ME (α := List (Fs B.H (List Int))) X g B S e m (KI g) := by
  refine ⟨fun a q => pe_imp (h.run a q) fun σ H Q ⟨I, hh, k⟩ => ⟨I, hh, fun v I' H' x hv => ?_⟩⟩
  obtain ⟨F, h1, h2, h3⟩ := hv
  have hd : ∀ b, F b ≠ none → I' b = none := fun b hb => (h1 b hb).2
  refine k v (Un I' F) H' ⟨x.i.trans (un_l hd), x.h, fun b ob eb => (un_some eb).elim (fun e => h2 _ _ e) fun e => x.s _ _ e.2, fun b n1 n2 => ?_⟩ (frz_L (α := Fs B.H (List Int)) (k := fun a : List Int => oFh B.H (rl g a)) (fun _ => frz_Fh) I' F v hd (oFh_of h3 fun b hb => hh.base.free (h1 b hb).1))
  cases e4 : F b with
  | none => rw [un_none e4]; exact x.n b n1 n2
  | some ob => exact absurd (h1 b (ne_of_some e4)).1 n1
theorem me_fsv {H0 : Hp} (i : Nat) {x : Str} {a : List Int} (hS : S[i]? = some (some (.im (frsP g H0 a))) := by rfl) (hN : X.N[i]? = some x := by rfl) (hv : Vis X.env.scope x := by first | exact Or.inl rfl | exact Or.inr (Or.inl rfl) | exact Or.inr (Or.inr rfl))
    (hd : (x == ("__debug__" : Str)) = false := by decide) (hcd : (x == ("__classdict__" : Str)) = false := by decide) : ME X g B S (.Name x pos) (some a) (KI g) := by
  refine ⟨fun a' e => ?_⟩
  cases e
  refine pe_imp (pe_var hN hv hd hcd) fun σ H Q ⟨I, h, q⟩ => ?_
  obtain ⟨v, e1, l, vs, rfl, h1, _, h3⟩ := h.at_ i _ hS
  exact ⟨_, e1, q _ I H (Ext.refl h.sub) ⟨l, vs, rfl, SqL.of h1, h3⟩⟩
/-- an owned thing or None -/
def oOpt {α' : Type} (k : α' → OR) : Option α' → OR
  | none => ⟨fun _ _ v => v = .non, fun _ h => h⟩
  | some a => k a
theorem frz_O {α' : Type} [Py α'] {k : α' → OR} (z : ∀ a, Frz (k a) (Py.r g a)) : ∀ a : Option α', Frz (oOpt k a) (Py.r g a)
  | none => fun _ _ _ _ h => h
  | some a => z a
theorem mb_owGet {α' : Type} {k : α' → OR} {m : Option α'} {f : α' → Option o} (i : Nat) (hS : S[i]? = some (some (.ow (oOpt k m)))) (hb : ∀ a, MB X g B J (S.set i (some (.ow (k a)))) sts (f a) K) : MB X g B J S sts (m >>= f) K := by
  cases m with
  | none => exact ⟨fun r q => by cases q⟩
  | some a => exact mb_cv i hS (fun _ _ _ h => h) (hb a)
theorem mb_retNonO {α' : Type} {k : α' → OR} {inj : Option α' → o} {j : Nat} (kr : KR g B K inj (fun a => .ow (oOpt k a))) : MB X g B J S [.Return (some (.Constant .none j pos)) pos'] (some (inj none)) K := by
  refine ⟨fun r q => ?_⟩
  cases q
  refine pss_imp (pss_one (ps_ret pe_non)) fun D σ H ⟨I, ok, kk⟩ => ?_
  exact kr none D kk .non I H ok.x ⟨fun _ => none, fun a h => absurd rfl h, fun _ _ z => (by cases z), rfl⟩
def FlatP (r : PR) : Prop := ∀ I I' v, r.p I v → r.p I' v
theorem flat_ints {g : Gb} {as : List Int} {I I' : Hp} {vs : List V} (h : (rl g as).p I vs) : (rl g as).p I' vs := ⟨h.1, L2.Paired.mapP h.2 fun _ _ q => q⟩
/-- the part that stays, without l -/
def Les (I : Hp) (l : Addr) : Hp := fun a => if a = l then none else I a
theorem les_at {I : Hp} {l : Addr} : Les I l l = none := if_pos rfl
theorem les_ne {I : Hp} {l a : Addr} (h : a ≠ l) : Les I l a = I a := if_neg h
theorem les_sub {I : Hp} {l : Addr} : Same (Les I l) I := fun a o e => by
  by_cases h : a = l
  · rw [h, les_at] at e; cases e
  · rw [les_ne h] at e; exact e
def two (p l : Addr) (ob ol : HO) : Hp := fun a => if a = p then some ob else if a = l then some ol else none
/-- a tuple new made with such a list at one place, all else flat -/
theorem own_fs {B : Bs} {I H : Hp} {Q : V → Hp → Prop} {os : List OR} {ws : List V} {j : Nat} {l p : Addr} {vs : List V} {as : List Int} {α' : Type} {k : α' → RK} {r : α'} (hsi : Same B.I B.H) (x : Ext B.I B.H I H) (hI : I l = some (.lst vs)) (hl : B.H l = none) (hq : (rl g as).p I vs) (hp : H p = none) (hlen : os.length = ws.length) (hj : os[j]? = some (oF (rl g as))) (hw : ws[j]? = some (.ref l))
    (hf : ∀ (n : Nat) (o : OR) (u : V), n ≠ j → os[n]? = some o → ws[n]? = some u → ∃ r : PR, o = oI r ∧ FlatP r ∧ r.p I u) (hk : k r = .ow (oC wT os)) (kr : ∀ v I' H', Ext B.I B.H I' H' → RK.holds g (k r) B.H v I' H' → Q v H') : Q (.ref p) (upd H p (.tup ws)) := by
  have lp : l ≠ p := fun z => by rw [z] at hI; rw [x.s _ _ hI] at hp; cases hp
  have hIl : B.I l = none := by
    cases q : B.I l with
    | none => rfl
    | some o => rw [hsi _ _ q] at hl; cases hl
  have hpI : I p = none := x.s.free hp
  refine kr _ (Les I l) _ ⟨fun a o e => ?_, x.h.trans (SW.of (same_new hp)), fun a o e => ?_, fun a n1 n2 => ?_⟩ ?_
  · rw [les_ne (fun z => by rw [z, hIl] at e; cases e)]; exact x.i _ _ e
  · have := x.s _ _ (les_sub a o e)
    rw [upd_ne (fun z => by rw [z, hp] at this; cases this)]; exact this
  · by_cases h : a = l
    · rw [h]; exact les_at
    · rw [les_ne h]; exact x.n a n1 n2
  rw [hk]
  have e1 : two p l (.tup ws) (.lst vs) p = some (.tup ws) := if_pos rfl
  have e2 : two p l (.tup ws) (.lst vs) l = some (.lst vs) := by unfold two; rw [if_neg lp, if_pos rfl]
  refine ⟨two p l (.tup ws) (.lst vs), fun a ha => ?_, fun a o e => ?_, p, .tup ws, ws, rfl, e1, rfl, hlen, fq j (one1 l (.lst vs)), fun n o u h1 h2 => ?_, fun n a o h => ?_, fun n => ?_, fun n m a h1 h2 => ?_⟩
  · by_cases h1 : a = p
    · subst h1; exact ⟨x.h.free hp, by rw [les_ne (fun z => lp z.symm)]; exact hpI⟩
    · by_cases h2 : a = l
      · subst h2; exact ⟨hl, les_at⟩
      · unfold two at ha; rw [if_neg h1, if_neg h2] at ha; exact absurd rfl ha
  · by_cases h1 : a = p
    · subst h1; rw [e1] at e; rw [upd_same]; exact e
    · by_cases h2 : a = l
      · subst h2; rw [e2] at e; rw [upd_ne h1, ← e]; exact x.s _ _ hI
      · unfold two at e; rw [if_neg h1, if_neg h2] at e; cases e
  · by_cases hn : n = j
    · subst hn
      rw [hj] at h1
      rw [hw] at h2
      cases h1
      cases h2
      rw [fq_same]
      exact ⟨l, vs, rfl, one1_same, flat_ints hq⟩
    · obtain ⟨r, rfl, f1, f2⟩ := hf n o u hn h1 h2
      exact f1 _ _ _ f2
  · by_cases hn : n = j
    · rw [hn, fq_same] at h
      obtain ⟨rfl, rfl⟩ := one1_some h
      exact e2
    · rw [fq_ne hn] at h; cases h
  · by_cases hn : n = j
    · rw [hn, fq_same]
      cases q : one1 l (.lst vs) p with
      | none => rfl
      | some o => exact absurd (one1_some q).1.symm lp
    · rw [fq_ne hn]
  · by_cases hn : n = j
    · by_cases hm : m = j
      · rw [hn, hm]
      · rw [fq_ne hm] at h2; exact absurd rfl h2
    · rw [fq_ne hn] at h1; exact absurd rfl h1
/-- return (e1, x, e3), x such a list -/
theorem mb_retFs3 {a' c' : Type} [Py a'] [Py c'] {x : Str} {as : List Int} {m1 : Option a'} {m3 : Option c'} {n : Nat} (hsi : Same B.I B.H) (i : Nat) {inj : Option (T3 a' (List Int) c') → o} (kr : KR g B K inj (fun t => .ow (oOpt (fun r : T3 a' (List Int) c' => oC wT [oI (Py.r g r.x0), oF (rl g r.x1), oI (Py.r g r.x2)]) t))) (h1 : ME X g B S e1 m1 (KI g)) (h3 : ME X g B S e3 m3 (KI g)) (f1 : ∀ a : a', FlatP (Py.r g a)) (f3 : ∀ a : c', FlatP (Py.r g a))
    (hS : S[i]? = some (some (.im (frsP g B.H as))) := by rfl) (hN : X.N[i]? = some x := by rfl) (hv : Vis X.env.scope x := by first | exact Or.inl rfl | exact Or.inr (Or.inl rfl) | exact Or.inr (Or.inr rfl))
    (hd : (x == ("__debug__" : Str)) = false := by decide) (hcd : (x == ("__classdict__" : Str)) = false := by decide) (hs : starEach [e1, .Name x p, e3] X.env = (false, eval e1 X.env) :: starEach [.Name x p, e3] X.env := by rfl) (hs2 : starEach [.Name x p, e3] X.env = (false, eval (.Name x p) X.env) :: starEach [e3] X.env := by rfl) (hs3 : starEach [e3] X.env = (false, eval e3 X.env) :: starEach [] X.env := by rfl) :
    MB X g B J S [.Return (some (.Tuple [e1, .Name x p, e3] n pos)) pos'] (m1 >>= fun a => m3 >>= fun c => some (inj (some (T3.mk a as c)))) K := by
  refine ⟨fun r q => ?_⟩
  obtain ⟨a, q1, q⟩ := bind_some q
  obtain ⟨c, q3, q4⟩ := bind_some q
  cases q4
  refine pss_imp (pss_one (ps_ret (pe_tup (pa_cons (h1.run a q1) (pa_cons (pe_var hN hv hd hcd) (pa_cons (h3.run c q3) pa_nil hs3) hs2) hs)))) fun D σ H ⟨I, ok, kk⟩ => ?_
  refine ⟨I, ok.h, fun v I1 H1 x1 hv => ?_⟩
  have h1 := ok.h.ext x1
  obtain ⟨u, e1, l, vs, rfl, hl, hb, hq⟩ := h1.at_ i _ hS
  refine ⟨_, e1, I1, h1, fun w I2 H2 x2 hw => ⟨by show 3 ≤ sizeLine; decide, fun p hp => ?_⟩⟩
  refine own_fs (os := [oI (Py.r g a), oF (rl g as), oI (Py.r g c)]) (ws := [v, .ref l, w]) (j := 1) (Q := fun v H => D.rt v H) hsi ((ok.x.trans x1).trans x2) (x2.i _ _ hl) hb ((rl g as).mono x2.i hq) hp rfl rfl rfl (fun n o u hn h1 h2 => ?_) rfl (kr (some (T3.mk a as c)) D kk)
  match n, hn, h1, h2 with
  | 0, _, h1, h2 => cases h1; cases h2; exact ⟨_, rfl, f1 a, (Py.r g a).mono x2.i hv⟩
  | 1, hn, _, _ => exact absurd rfl hn
  | 2, _, h1, h2 => cases h1; cases h2; exact ⟨_, rfl, f3 c, hw⟩
/-- return (e1, x) -/
theorem mb_retFs2 {a' : Type} [Py a'] {x : Str} {as : List Int} {m1 : Option a'} {n : Nat} (hsi : Same B.I B.H) (i : Nat) {inj : Option (T2 a' (List Int)) → o} (kr : KR g B K inj (fun t => .ow (oOpt (fun r : T2 a' (List Int) => oC wT [oI (Py.r g r.x0), oF (rl g r.x1)]) t))) (h1 : ME X g B S e1 m1 (KI g)) (f1 : ∀ a : a', FlatP (Py.r g a))
    (hS : S[i]? = some (some (.im (frsP g B.H as))) := by rfl) (hN : X.N[i]? = some x := by rfl) (hv : Vis X.env.scope x := by first | exact Or.inl rfl | exact Or.inr (Or.inl rfl) | exact Or.inr (Or.inr rfl))
    (hd : (x == ("__debug__" : Str)) = false := by decide) (hcd : (x == ("__classdict__" : Str)) = false := by decide) (hs : starEach [e1, .Name x p] X.env = (false, eval e1 X.env) :: starEach [.Name x p] X.env := by rfl) (hs2 : starEach [.Name x p] X.env = (false, eval (.Name x p) X.env) :: starEach [] X.env := by rfl) :
    MB X g B J S [.Return (some (.Tuple [e1, .Name x p] n pos)) pos'] (m1 >>= fun a => some (inj (some (T2.mk a as)))) K := by
  refine ⟨fun r q => ?_⟩
  obtain ⟨a, q1, q4⟩ := bind_some q
  cases q4
  refine pss_imp (pss_one (ps_ret (pe_tup (pa_cons (h1.run a q1) (pa_cons (pe_var hN hv hd hcd) pa_nil hs2) hs)))) fun D σ H ⟨I, ok, kk⟩ => ?_
  refine ⟨I, ok.h, fun v I1 H1 x1 hv => ?_⟩
  have h1 := ok.h.ext x1
  obtain ⟨u, e1, l, vs, rfl, hl, hb, hq⟩ := h1.at_ i _ hS
  refine ⟨_, e1, ⟨by show 2 ≤ sizeLine; decide, fun p hp => ?_⟩⟩
  refine own_fs (os := [oI (Py.r g a), oF (rl g as)]) (ws := [v, .ref l]) (j := 1) (Q := fun v H => D.rt v H) hsi (ok.x.trans x1) hl hb hq hp rfl rfl rfl (fun n o u hn h1 h2 => ?_) rfl (kr (some (T2.mk a as)) D kk)
  match n, hn, h1, h2 with
  | 0, _, h1, h2 => cases h1; cases h2; exact ⟨_, rfl, f1 a, hv⟩
  | 1, hn, _, _ => exact absurd rfl hn
end
/-! x = e, where e's value is known -/
theorem mb_setV {X : Cx} {g : Gb} {B : Bs} {J : Hp} {S : SL} {o α' : Type} {K : KT o} {rest : List Stmt} {e : Expr} {pos pos' : Pos} {m : Option o} (i : Nat) {x : Str} {a : α'} {k : α' → RK} (hN : X.N.Nodup) (he : ME X g B S e (some a) k) (hb : MB X g B J (S.set i (some (k a))) rest m K) (hk : ∀ a, (k a).slotty = true := by intro _; rfl)
    (hi : X.N[i]? = some x := by rfl) (hx : Loc X.env.scope x := by first | exact Or.inl rfl | exact Or.inr rfl) (hs : swapsWith e (some (.Name x pos')) pos.line X.env = pure false := by rfl)
    (hf : X.fn x = true ∨ X.env.scope.names.lookup x = some .local := by first | exact .inl rfl | exact .inr rfl) : MB X g B J S (.Assign [.Name x pos'] e pos :: rest) m K := by
  refine ⟨fun r q2 => ?_⟩
  refine pss_imp (pss_cons (ps_set hN hi hx (he.run a rfl) hs hf) (hb.run r q2)) fun D σ H ⟨I, ok, kk⟩ => ?_
  exact ⟨I, ok.h, fun v I' H' x1 hv => ⟨I', ok.put x1 (hk a) hv, kk⟩⟩
/-! the same slots, written out -/
theorem mb_eqS {X : Cx} {g : Gb} {B : Bs} {J : Hp} {S S' : SL} {o : Type} {K : KT o} {sts : List Stmt} {m : Option o} (h : S = S') (hb : MB X g B J S' sts m K) : MB X g B J S sts m K := h ▸ hb
/-! a def: what is known of its heaps at its begin -/
section
variable {P : Program} {w : World} {K : PySem.W.Frag} {mg : Str → Option Value} {base : Heap} {ι o : Type} {args : ι → List RK} {M : ι → Option o} {kd : o → RK}
theorem fnx_mkS {x qual : Str} {st : Stmt} {f : Addr} {fd : FuncData} {N ps : List Str} {k : Nat} (F : FunX K x qual st f fd) (Sc : FnScope N ps (defScope st)) (hn : ∀ a, (args a).length = ps.length) (hk : ∀ a, (args a).all RK.argy = true) (hN : ps.length ≤ N.length)
    (body : ∀ (cdv : Value) (A : Around) (outer : List Env) (s : Shared) (H : Hp) (E : XK) (I : Hp) (a : ι), Room k (A.deeper (envOfC qual (defScope st) s.heap.objs.size f cdv)) → Same I H →
      MB (cxOf CX0 P w K mg base N qual (defScope st) f cdv A outer s H E).nox ⟨K, mg⟩ ⟨I, H⟩ I (S0 N (args a)) (defBody st) (M a) (Kt ⟨K, mg⟩ ⟨I, H⟩ kd)) :
    FnOk P w K mg base CX0 (k + 1) f fd ps (spT ⟨K, mg⟩ args M kd) := by
  refine F.ok Sc (fun vs H Q E ⟨I, a, r, s, _, hA, _⟩ => ?_) (fun cdv A outer s H vs Q E hr ⟨I, a, r, si, tb, hA, hM, q⟩ => ?_)
  · rw [← Paired.length hA, hn]
  · exact ⟨_, (body cdv A outer s H E I a hr si).run r hM, I, hold_start (by rw [hn]; exact hN) si tb hA (hk a), fun v I' H' x hv => q v I' H' x hv⟩
end
end T
set_option Elab.async false
set_option linter.all false
set_option maxRecDepth 100000
namespace T
variable [TabsC]
open PySem PySem.Spec PyProof.Rows L2
/-! data of any form -/
instance instPyDy : Py PyData := ⟨fun g d => ⟨fun I v => Dp g.K I v d, fun s h => dp_mono s h⟩⟩
theorem dp_paired {g : Gb} {I : Hp} : ∀ {ds : List PyData} {vs : List V}, DpAll g.K I vs ds → Paired (fun d v => (Py.r g d).p I v) ds vs
  | [], _, h => by cases h; exact .nil
  | d :: ds, _, h => by cases h with | cons h1 h2 => exact .cons h1 (dp_paired h2)
theorem paired_dp {g : Gb} {I : Hp} : ∀ {ds : List PyData} {vs : List V}, Paired (fun d v => (Py.r g d).p I v) ds vs → DpAll g.K I vs ds
  | _, _, .nil => .nil
  | _, _, .cons h t => .cons h (paired_dp t)
theorem dpAll_len {K : PySem.W.Frag} {I : Hp} : ∀ {ds : List PyData} {vs : List V}, DpAll K I vs ds → vs.length = ds.length
  | [], _, h => by cases h; rfl
  | d :: ds, _, h => by cases h with | cons h1 h2 => rw [List.length_cons, List.length_cons, dpAll_len h2]
theorem dpAll_get {K : PySem.W.Frag} {I : Hp} : ∀ {ds : List PyData} {vs : List V} {i : Nat} {d : PyData}, DpAll K I vs ds → ds[i]? = some d → ∃ v, vs[i]? = some v ∧ Dp K I v d
  | [], _, i, d, h, e => by simp at e
  | x :: ds, _, 0, d, h, e => by cases h with | cons h1 h2 => cases e; exact ⟨_, rfl, h1⟩
  | x :: ds, _, i + 1, d, h, e => by cases h with | cons h1 h2 => exact dpAll_get h2 (i := i) (by simpa using e)
def isiD_list : PyData → Bool | .list _ => true | _ => false
def isiD_tuple : PyData → Bool | .tuple _ => true | _ => false
def isiD_str : PyData → Bool | .str _ => true | _ => false
def isiD_bool : PyData → Bool | .bool _ => true | _ => false
def isiD_int : PyData → Bool | .bool _ => true | .int _ => true | _ => false
def isND : PyData → Bool | .none => true | _ => false
def tyD : PyData → Value
  | .none => .type "NoneType"
  | .bool _ => .type "bool"
  | .int _ => .type "int"
  | .str _ => .type "str"
  | .list _ => .type "list"
  | .tuple _ => .type "tuple"
  | .dict _ => .type "dict"
@[irreducible] def eqDO (a b : PyData) : Option Bool := if (a.plain && b.plain && decide (a.depth ≤ 64)) = true then some (PyData.eqv a b) else none
@[irreducible] def lenDO : PyData → Option Int
  | .list xs => some (xs.length : Int)
  | .tuple xs => some (xs.length : Int)
  | _ => none
@[irreducible] def atDO : PyData → Int → Option PyData
  | .list xs, i => atI xs i
  | .tuple xs, i => atI xs i
  | _, _ => none
@[irreducible] def zipDO : PyData → PyData → Option (List (T2 PyData PyData))
  | .list xs, .list ys => if decide (xs.length ≤ sizeLine ∧ ys.length ≤ sizeLine) = true then some (zipL xs ys) else none
  | .tuple xs, .tuple ys => if decide (xs.length ≤ sizeLine ∧ ys.length ≤ sizeLine) = true then some (zipL xs ys) else none
  | _, _ => none
@[irreducible] def asInt : PyData → Option Int | .int i => some i | _ => none
@[irreducible] def asBool : PyData → Option Bool | .bool i => some i | _ => none
@[irreducible] def asStr : PyData → Option Str | .str i => some i | _ => none
@[irreducible] def asOInt : PyData → Option (Option Int) | .int i => some (some i) | .none => some none | _ => none
section
variable {X : Cx} {g : Gb} {B : Bs} {J : Hp} {S : SL} {e e1 e2 e3 tg : Expr} {pos pos' p p2 p3 tpos : Pos} {α β : Type} [Py α] [DecidableEq α] [Pd α] [Py β]
open PySem.W
theorem me_toD {m : Option α} (h : ME X g B S e m (KI g)) : ME X g B S e (m >>= fun a => some (Datum.toD a)) (KI (α := PyData) g) := by
  refine ⟨fun d q => ?_⟩
  obtain ⟨a, q1, q2⟩ := bind_some q
  cases q2
  exact pe_imp (h.run a q1) fun σ H Q ⟨I, hh, k⟩ => ⟨I, hh, fun v I' H' x hv => k v I' H' x (Pd.dp hv)⟩
theorem rl_dp {as : List α} {I : Hp} {vs : List V} (h : (rl g as).p I vs) : (rl g (as.map Datum.toD)).p I vs := ⟨by rw [List.length_map]; exact h.1, dp_paired (dp_all h.2)⟩
/-- a new list of things, as one of data -/
theorem me_toDF {m : Option (List α)} (h : ME X g B S e m (fun as => .fr (rl g as))) : ME X g B S e (m >>= fun as => some (as.map Datum.toD)) (fun as : List PyData => .fr (rl g as)) := by
  refine ⟨fun d q => ?_⟩
  obtain ⟨a, q1, q2⟩ := bind_some q
  cases q2
  exact pe_imp (h.run a q1) fun σ H Q ⟨I, hh, k⟩ => ⟨I, hh, fun v I' H' x ⟨l, vs, e, h1, h2, h3, h4⟩ => k v I' H' x ⟨l, vs, e, h1, h2, h3, rl_dp h4⟩⟩
theorem me_toDR {m : Option (List α)} (h : ME X g B S e m (fun as => .rd (rl g as))) : ME X g B S e (m >>= fun as => some (as.map Datum.toD)) (fun as : List PyData => .rd (rl g as)) := by
  refine ⟨fun d q => ?_⟩
  obtain ⟨a, q1, q2⟩ := bind_some q
  cases q2
  exact pe_imp (h.run a q1) fun σ H Q ⟨I, hh, k⟩ => ⟨I, hh, fun v I' H' x ⟨l, vs, e, h1, h4⟩ => k v I' H' x ⟨l, vs, e, h1, rl_dp h4⟩⟩
theorem me_toDI {m : Option (List α)} (h : ME X g B S e m (KI g)) : ME X g B S e (m >>= fun as => some (as.map Datum.toD)) (KI (α := List PyData) g) := by
  refine ⟨fun d q => ?_⟩
  obtain ⟨a, q1, q2⟩ := bind_some q
  cases q2
  exact pe_imp (h.run a q1) fun σ H Q ⟨I, hh, k⟩ => ⟨I, hh, fun v I' H' x ⟨l, vs, e, h1, h4⟩ => k v I' H' x ⟨l, vs, e, h1, rl_dp h4⟩⟩
/-- a list of data as data -/
theorem me_listD {m : Option (List PyData)} (h : ME X g B S e m (KI g)) : ME X g B S e (m >>= fun as => some (PyData.list as)) (KI g) := by
  refine ⟨fun d q => ?_⟩
  obtain ⟨a, q1, q2⟩ := bind_some q
  cases q2
  exact pe_imp (h.run a q1) fun σ H Q ⟨I, hh, k⟩ => ⟨I, hh, fun v I' H' x ⟨l, vs, e, h1, h2⟩ => k v I' H' x (by subst e; exact .lst h1 (paired_dp h2.2))⟩
theorem me_asInt {m : Option PyData} (h : ME X g B S e m (KI g)) : ME X g B S e (m >>= fun d => asInt d) (KI g) := by
  refine ⟨fun i q => ?_⟩
  obtain ⟨d, q1, q2⟩ := bind_some q
  unfold asInt at q2
  refine pe_imp (h.run d q1) fun σ H Q ⟨I, hh, k⟩ => ⟨I, hh, fun v I' H' x hv => k v I' H' x ?_⟩
  cases d <;> cases q2
  cases (show Dp g.K I' v _ from hv); rfl
theorem me_asBool {m : Option PyData} (h : ME X g B S e m (KI g)) : ME X g B S e (m >>= fun d => asBool d) (KI g) := by
  refine ⟨fun i q => ?_⟩
  obtain ⟨d, q1, q2⟩ := bind_some q
  unfold asBool at q2
  refine pe_imp (h.run d q1) fun σ H Q ⟨I, hh, k⟩ => ⟨I, hh, fun v I' H' x hv => k v I' H' x ?_⟩
  cases d <;> cases q2
  cases (show Dp g.K I' v _ from hv); rfl
theorem me_asStr {m : Option PyData} (h : ME X g B S e m (KI g)) : ME X g B S e (m >>= fun d => asStr d) (KI g) := by
  refine ⟨fun i q => ?_⟩
  obtain ⟨d, q1, q2⟩ := bind_some q
  unfold asStr at q2
  refine pe_imp (h.run d q1) fun σ H Q ⟨I, hh, k⟩ => ⟨I, hh, fun v I' H' x hv => k v I' H' x ?_⟩
  cases d <;> cases q2
  cases (show Dp g.K I' v _ from hv); rfl
theorem me_asOInt {m : Option PyData} (h : ME X g B S e m (KI g)) : ME X g B S e (m >>= fun d => asOInt d) (KI g) := by
  refine ⟨fun i q => ?_⟩
  obtain ⟨d, q1, q2⟩ := bind_some q
  unfold asOInt at q2
  refine pe_imp (h.run d q1) fun σ H Q ⟨I, hh, k⟩ => ⟨I, hh, fun v I' H' x hv => k v I' H' x ?_⟩
  cases d <;> cases q2
  · cases (show Dp g.K I' v _ from hv); rfl
  · cases (show Dp g.K I' v _ from hv); rfl
theorem tg_dy : TG g (KI (α := PyData) g) tyD := fun a H0 v I H s h => by
  have h := dp_mono s (show Dp g.K I v a from h)
  cases h with
  | non => exact .base .non
  | bl b => exact .base (.bl b)
  | int i => exact .base (.int i)
  | str x => exact .base (.str x)
  | lst h1 _ => exact tyx_sq h1
  | tup h1 _ => exact tyx_tq h1
theorem mc_isND {j} {m : Option PyData} (h : ME X g B S e m (KI g)) : MC X g B S (.Compare e [.Is] [.Constant .none j pos'] pos) (m >>= fun d => some (isND d)) :=
  (mc_cmp op_isN h (me_unit (j := j) (pos := pos')) (f := fun d _ => some (isND d)) fun d _ c q v w I H H0 H1 Q s hv hw k => by
    cases q
    refine ⟨hw, ?_⟩
    have hv : Dp g.K I v d := hv
    cases hv with
    | non => exact k _ _ _ (Ext.refl s) rfl
    | bl b => exact k _ _ _ (Ext.refl s) rfl
    | int i => exact k _ _ _ (Ext.refl s) rfl
    | str x => exact k _ _ _ (Ext.refl s) rfl
    | lst h1 _ => exact k _ _ _ (Ext.refl s) rfl
    | tup h1 _ => exact k _ _ _ (Ext.refl s) rfl).eq (by cases m <;> rfl)
theorem mc_eqD {m1 m2 : Option PyData} (hu : X.A.units + 64 < cLine) (h1 : ME X g B S e1 m1 (KI g)) (h2 : ME X g B S e2 m2 (KI g)) (hg : X.K = g.K := by rfl) : MC X g B S (.Compare e1 [.Eq] [e2] pos) (m1 >>= fun a => m2 >>= fun b => eqDO a b) :=
  mc_cmp (op_eqP hu) h1 h2 (fun a b c q v w I H H0 H1 Q s v1 v2 k => by
    unfold eqDO at q
    by_cases hz : (a.plain && b.plain && decide (a.depth ≤ 64)) = true
    · rw [if_pos hz] at q
      cases q
      rw [Bool.and_eq_true, Bool.and_eq_true] at hz
      exact ⟨a, b, by rw [hg]; exact dp_mono s v1, by rw [hg]; exact dp_mono s v2, hz.1.1, hz.1.2, of_decide_eq_true hz.2, k _ _ _ (Ext.refl s) rfl⟩
    · rw [if_neg hz] at q; cases q) (nomark _)
theorem mc_neD {m1 m2 : Option PyData} (hu : X.A.units + 64 < cLine) (h1 : ME X g B S e1 m1 (KI g)) (h2 : ME X g B S e2 m2 (KI g)) (hg : X.K = g.K := by rfl) : MC X g B S (.Compare e1 [.NotEq] [e2] pos) (m1 >>= fun a => m2 >>= fun b => eqDO a b >>= fun c => some (!c)) :=
  mc_cmp (op_neP hu) h1 h2 (f := fun a b => eqDO a b >>= fun c => some (!c)) (fun a b c q v w I H H0 H1 Q s v1 v2 k => by
    obtain ⟨c', q1, q2⟩ := bind_some q
    cases q2
    unfold eqDO at q1
    by_cases hz : (a.plain && b.plain && decide (a.depth ≤ 64)) = true
    · rw [if_pos hz] at q1
      cases q1
      rw [Bool.and_eq_true, Bool.and_eq_true] at hz
      exact ⟨a, b, by rw [hg]; exact dp_mono s v1, by rw [hg]; exact dp_mono s v2, hz.1.1, hz.1.2, of_decide_eq_true hz.2, k _ _ _ (Ext.refl s) rfl⟩
    · rw [if_neg hz] at q1; cases q1) (nomark _)
theorem me_lenD {m : Option PyData} (hm : X.mg "len" = none) (h : ME X g B S e m (KI g)) (hg : Gl X "len" := by rfl) (hK : X.K = g.K := by rfl) (he : starEach [e] X.env = (false, eval e X.env) :: starEach [] X.env := by rfl) (hpl : (backTo pos (starEach [] X.env)).any (·.1) = false := by rfl) :
    ME X g B S (.Call (.Name "len" p) [e] [] pos) (m >>= fun d => lenDO d) (KI g) := by
  refine ⟨fun r q => ?_⟩
  obtain ⟨a, q1, q2⟩ := bind_some q
  unfold lenDO at q2
  refine pe_imp (pe_callB call_len_seq hg hm PySem.boot_len (pa_cons (h.run a q1) pa_nil he) (he := he) (hpl := hpl)) fun σ H Q ⟨I, hh, kk⟩ => ⟨I, hh, fun v I' H' x hv => ?_⟩
  have hv := dp_mono x.s (show Dp g.K I' v a from hv)
  cases a <;> cases q2
  · cases hv with
    | lst h1 h2 => exact ⟨_, _, rfl, by rw [hK]; exact .inl h1, by rw [dpAll_len h2]; exact kk _ I' H' x rfl⟩
  · cases hv with
    | tup h1 h2 => exact ⟨_, _, rfl, by rw [hK]; exact .inr h1, by rw [dpAll_len h2]; exact kk _ I' H' x rfl⟩
theorem dp_back {K : PySem.W.Frag} {I : Hp} {ds : List PyData} {vs : List V} {i : Int} {d : PyData} (h : DpAll K I vs ds) (e : atI ds i = some d) : ∃ v, atI vs i = some v ∧ Dp K I v d := by
  obtain ⟨j, e1, e2⟩ := atI_ix e
  obtain ⟨v, e3, q⟩ := dpAll_get h e2
  refine ⟨v, ?_, q⟩
  unfold atI
  rw [dpAll_len h, e1]
  exact e3
theorem me_atD {m : Option PyData} {m2 : Option Int} (h1 : ME X g B S e1 m (KI g)) (h2 : ME X g B S e2 m2 (KI g)) (hK : X.K = g.K := by rfl) (hs : PlainIx e2 := by exact fun _ _ => rfl) : ME X g B S (.Subscript e1 e2 pos) (m >>= fun d => m2 >>= fun i => atDO d i) (KI g) := by
  refine ⟨fun a q => ?_⟩
  obtain ⟨d, q1, q⟩ := bind_some q
  obtain ⟨i, q2, q3⟩ := bind_some q
  unfold atDO at q3
  refine pe_imp (pe_ix (ix_list.or ix_tup) (h1.run d q1) (h2.run i q2) hs) fun σ H Q ⟨I, hh, kk⟩ => ⟨I, hh, fun v I' H' x hv => ⟨I', hh.ext x, fun w I2 H2 x2 hw => ?_⟩⟩
  have hv := dp_mono x2.i (show Dp g.K I' v d from hv)
  cases d <;> try (cases q3; done)
  · cases hv with
    | lst h3 h4 =>
      obtain ⟨u, hu, hq⟩ := dp_back h4 q3
      exact .inl ⟨_, _, i, u, rfl, hw, by rw [hK]; exact x2.s.seq h3, hu, kk u I2 H2 (x.trans x2) hq⟩
  · cases hv with
    | tup h3 h4 =>
      obtain ⟨u, hu, hq⟩ := dp_back h4 q3
      exact .inr ⟨_, _, i, u, rfl, hw, by rw [hK]; exact seqT x2.s h3, hu, kk u I2 H2 (x.trans x2) hq⟩
end
theorem kitD_list {K : PySem.W.Frag} : ∀ a, PySem.W.kitOne K (tyD a) (.type "list") = some (isiD_list a)
  | .none => kit_ty (a := "NoneType") (b := "list") (r := false) (by decide +kernel)
  | .bool _ => kit_ty (a := "bool") (b := "list") (r := false) (by decide +kernel)
  | .int _ => kit_ty (a := "int") (b := "list") (r := false) (by decide +kernel)
  | .str _ => kit_ty (a := "str") (b := "list") (r := false) (by decide +kernel)
  | .list _ => kit_ty (a := "list") (b := "list") (r := true) (by decide +kernel)
  | .tuple _ => kit_ty (a := "tuple") (b := "list") (r := false) (by decide +kernel)
  | .dict _ => kit_ty (a := "dict") (b := "list") (r := false) (by decide +kernel)
theorem kitD_tuple {K : PySem.W.Frag} : ∀ a, PySem.W.kitOne K (tyD a) (.type "tuple") = some (isiD_tuple a)
  | .none => kit_ty (a := "NoneType") (b := "tuple") (r := false) (by decide +kernel)
  | .bool _ => kit_ty (a := "bool") (b := "tuple") (r := false) (by decide +kernel)
  | .int _ => kit_ty (a := "int") (b := "tuple") (r := false) (by decide +kernel)
  | .str _ => kit_ty (a := "str") (b := "tuple") (r := false) (by decide +kernel)
  | .list _ => kit_ty (a := "list") (b := "tuple") (r := false) (by decide +kernel)
  | .tuple _ => kit_ty (a := "tuple") (b := "tuple") (r := true) (by decide +kernel)
  | .dict _ => kit_ty (a := "dict") (b := "tuple") (r := false) (by decide +kernel)
theorem kitD_str {K : PySem.W.Frag} : ∀ a, PySem.W.kitOne K (tyD a) (.type "str") = some (isiD_str a)
  | .none => kit_ty (a := "NoneType") (b := "str") (r := false) (by decide +kernel)
  | .bool _ => kit_ty (a := "bool") (b := "str") (r := false) (by decide +kernel)
  | .int _ => kit_ty (a := "int") (b := "str") (r := false) (by decide +kernel)
  | .str _ => kit_ty (a := "str") (b := "str") (r := true) (by decide +kernel)
  | .list _ => kit_ty (a := "list") (b := "str") (r := false) (by decide +kernel)
  | .tuple _ => kit_ty (a := "tuple") (b := "str") (r := false) (by decide +kernel)
  | .dict _ => kit_ty (a := "dict") (b := "str") (r := false) (by decide +kernel)
theorem kitD_bool {K : PySem.W.Frag} : ∀ a, PySem.W.kitOne K (tyD a) (.type "bool") = some (isiD_bool a)
  | .none => kit_ty (a := "NoneType") (b := "bool") (r := false) (by decide +kernel)
  | .bool _ => kit_ty (a := "bool") (b := "bool") (r := true) (by decide +kernel)
  | .int _ => kit_ty (a := "int") (b := "bool") (r := false) (by decide +kernel)
  | .str _ => kit_ty (a := "str") (b := "bool") (r := false) (by decide +kernel)
  | .list _ => kit_ty (a := "list") (b := "bool") (r := false) (by decide +kernel)
  | .tuple _ => kit_ty (a := "tuple") (b := "bool") (r := false) (by decide +kernel)
  | .dict _ => kit_ty (a := "dict") (b := "bool") (r := false) (by decide +kernel)
theorem kitD_int {K : PySem.W.Frag} : ∀ a, PySem.W.kitOne K (tyD a) (.type "int") = some (isiD_int a)
  | .none => kit_ty (a := "NoneType") (b := "int") (r := false) (by decide +kernel)
  | .bool _ => kit_ty (a := "bool") (b := "int") (r := true) (by decide +kernel)
  | .int _ => kit_ty (a := "int") (b := "int") (r := true) (by decide +kernel)
  | .str _ => kit_ty (a := "str") (b := "int") (r := false) (by decide +kernel)
  | .list _ => kit_ty (a := "list") (b := "int") (r := false) (by decide +kernel)
  | .tuple _ => kit_ty (a := "tuple") (b := "int") (r := false) (by decide +kernel)
  | .dict _ => kit_ty (a := "dict") (b := "int") (r := false) (by decide +kernel)
/-! a written power -/
section
variable {X : Cx} {g : Gb} {B : Bs} {S : SL} {e1 e2 : Expr} {pos : Pos}
theorem me_powC {n k v : Int} (hc : decide (0 ≤ k ∧ k ≤ 1000000 ∧ n.natAbs < 2 ^ 64) = true) (hv : n ^ k.toNat = v) (h1 : ME X g B S e1 (some n) (KI g)) (h2 : ME X g B S e2 (some k) (KI g)) : ME X g B S (.BinOp e1 .Pow e2 pos) (some v) (KI g) := by
  refine (me_i1 (D := fun i j => decide (0 ≤ j ∧ j ≤ 1000000 ∧ i.natAbs < 2 ^ 64)) op_pow (fun i j h => (show 0 ≤ j ∧ j ≤ 1000000 ∧ i.natAbs < 2 ^ 64 from of_decide_eq_true h)) h1 h2).eq ?_
  show (if decide (0 ≤ k ∧ k ≤ 1000000 ∧ n.natAbs < 2 ^ 64) = true then some (n ^ k.toNat) else none) = some v
  rw [hc, if_pos rfl, hv]
end
/-! zip of two -/
section
variable {X : Cx} {g : Gb} {B : Bs} {J : Hp} {S : SL} {e e1 e2 e3 tg : Expr} {pos pos' p p2 p3 tpos : Pos}
theorem walk_zipT {as bs : List PyData} {a b : Addr} {vs ws : List V} {I1 : Hp} (hL : SqT g.K I1 a vs) (hR : (rl g as).p I1 vs) (hL2 : SqT g.K I1 b ws) (hR2 : (rl g bs).p I1 ws) : WalkI g B (RZ.ItzT g.K a b) (zipL as bs) I1 where
  go := fun i x I2 H2 e s1 s2 s3 => by
    obtain ⟨c, d, e1, e2, _⟩ := zip_get e
    obtain ⟨v, e3, _⟩ := paired_get hR.2 e1
    obtain ⟨w, e4, _⟩ := paired_get hR2.2 e2
    exact ⟨vs, ws, v, w, seqT (s1.trans s2) hL, seqT (s1.trans s2) hL2, e3, e4⟩
  yl := fun i x I2 H2 v H' e s1 s2 s3 y => by
    obtain ⟨c, d, e1, e2, rfl⟩ := zip_get e
    obtain ⟨u, e3, q⟩ := paired_get hR.2 e1
    obtain ⟨u2, e4, q2⟩ := paired_get hR2.2 e2
    obtain ⟨T, x, x2, rfl, hT, rfl, y1, y2⟩ := y
    have e5 := y1 vs (seqT (s1.trans s2) hL)
    have e6 := y2 ws (seqT (s1.trans s2) hL2)
    rw [e3] at e5
    rw [e4] at e6
    cases e5
    cases e6
    have sT := s1.trans (same_new (o := .tup [u, u2]) (s2.free hT))
    exact ⟨_, new_tup s2 hT, T, _, _, rfl, SqT.of upd_same, (Py.r g c).mono sT q, (Py.r g d).mono sT q2⟩
  st := fun I2 H2 s1 s2 s3 => ⟨vs, ws, seqT (s1.trans s2) hL, seqT (s1.trans s2) hL2, by
    rw [zip_len, rl_len hR, rl_len hR2]
    omega⟩
  len := by
    rw [zip_len]
    have := hR.1
    omega
theorem mi_zipD {elts : List Expr} {kk : Nat} {m m2 : Option PyData} (hm : X.mg "zip" = none) (h : ME X g B S e m (KI g)) (h2 : ME X g B S e2 m2 (KI g)) (hg : Gl X "zip" := by rfl) (hK : X.K = g.K := by rfl) (hs : starEach [e, e2] X.env = (false, eval e X.env) :: starEach [e2] X.env := by rfl) (hs2 : starEach [e2] X.env = (false, eval e2 X.env) :: starEach [] X.env := by rfl) (hpl : (backTo pos (starEach [e2] X.env)).any (·.1) = false := by rfl) :
    MI X g B S (.Tuple elts kk tpos) (.Call (.Name "zip" p) [e, e2] [] pos) (m >>= fun as => m2 >>= fun bs => zipDO as bs) := by
  refine ⟨fun as q => ?_⟩
  obtain ⟨xs, q1, q⟩ := bind_some q
  obtain ⟨ys, q2, q3⟩ := bind_some q
  unfold zipDO at q3
  refine pi_imp (RZ.pi_zipA hg hm (pa_cons (h.run xs q1) (pa_cons (h2.run ys q2) pa_nil hs2) hs) hs hpl) fun σ H R ⟨I, hh, k⟩ => ⟨I, hh, fun v I1 H1 x1 hv => ⟨I1, hh.ext x1, fun w I2 H2 x2 hw => ?_⟩⟩
  have hv := dp_mono x2.i (show Dp g.K I1 v xs from hv)
  have hw : Dp g.K I2 w ys := hw
  cases xs <;> cases ys <;> try (cases q3; done)
  · rename_i zs _ ys _
    have q3 : (if decide (zs.length ≤ sizeLine ∧ ys.length ≤ sizeLine) = true then some (zipL zs ys) else none) = some as := q3
    by_cases hz : decide (zs.length ≤ sizeLine ∧ ys.length ≤ sizeLine) = true
    · rw [if_pos hz] at q3
      have hz := of_decide_eq_true hz
      cases q3
      cases hv with
      | lst a1 a2 =>
        cases hw with
        | lst b1 b2 => exact ⟨_, _, _, _, rfl, .inl ⟨by rw [hK]; exact x2.s.seq a1, by rw [hK]; exact x2.s.seq b1, by rw [hK]; exact k _ I2 H2 (x1.trans x2) (walk_zip (.inl a1) ⟨hz.1, dp_paired a2⟩ (.inl b1) ⟨hz.2, dp_paired b2⟩)⟩⟩
    · rw [if_neg hz] at q3; cases q3
  · rename_i zs _ ys _
    have q3 : (if decide (zs.length ≤ sizeLine ∧ ys.length ≤ sizeLine) = true then some (zipL zs ys) else none) = some as := q3
    by_cases hz : decide (zs.length ≤ sizeLine ∧ ys.length ≤ sizeLine) = true
    · rw [if_pos hz] at q3
      have hz := of_decide_eq_true hz
      cases q3
      cases hv with
      | tup a1 a2 =>
        cases hw with
        | tup b1 b2 => exact ⟨_, _, _, _, rfl, .inr ⟨by rw [hK]; exact seqT x2.s a1, by rw [hK]; exact seqT x2.s b1, by rw [hK]; exact k _ I2 H2 (x1.trans x2) (walk_zipT a1 ⟨hz.1, dp_paired a2⟩ b1 ⟨hz.2, dp_paired b2⟩)⟩⟩
    · rw [if_neg hz] at q3; cases q3
end
end T
set_option Elab.async false
set_option linter.all false
set_option maxRecDepth 100000
namespace T
variable [TabsC]
open PySem PySem.Spec PyProof.Rows L2
/-! lending, where things of one's own are made meanwhile -/
def RK.isOwn : RK → Bool
  | .fr _ => true
  | .ow _ => true
  | _ => false
inductive Back2 (g : Gb) (u : Nat → V) (BH : Hp) : Nat → SL → SL → SL → Prop
  | nil {n : Nat} : Back2 g u BH n [] [] []
  | no {n : Nat} {s : Option RK} {S T T' : SL} : Back2 g u BH (n + 1) S T T' → Back2 g u BH n (s :: S) (none :: T) (none :: T')
  | im {n : Nat} {s : Option RK} {p : PR} {S T T' : SL} : Back2 g u BH (n + 1) S T T' → Back2 g u BH n (s :: S) (some (.im p) :: T) (some (.im p) :: T')
  | hide {n : Nat} {k : RK} {S T T' : SL} : Back2 g u BH (n + 1) S T T' → Back2 g u BH n (some k :: S) (some (.im (eqP (u n))) :: T) (some k :: T')
  | lend {n : Nat} {k : RK} {q : PL} {S T T' : SL} : Back2 g u BH (n + 1) S T T' → Back2 g u BH n (some k :: S) (some (.im (lentP g (u n) BH q)) :: T) (some k :: T')
  | own {n : Nat} {s : Option RK} {k : RK} {S T T' : SL} (hk : k.isOwn = true) : Back2 g u BH (n + 1) S T T' → Back2 g u BH n (s :: S) (some k :: T) (some k :: T')
theorem Back2.len {g : Gb} {u : Nat → V} {BH : Hp} {n : Nat} {S T T' : SL} (h : Back2 g u BH n S T T') : T'.length = T.length := by
  induction h with
  | nil => rfl
  | no _ ih | im _ ih | hide _ ih | lend _ ih | own _ _ ih => simp [ih]
theorem Back2.at_ {g : Gb} {u : Nat → V} {BH : Hp} {n : Nat} {S T T' : SL} (h : Back2 g u BH n S T T') : ∀ (i : Nat) (k : RK), T'[i]? = some (some k) →
    (∃ p, k = .im p ∧ T[i]? = some (some (.im p))) ∨ (S[i]? = some (some k) ∧ ∃ p : PR, T[i]? = some (some (.im p)) ∧ ∀ I v, p.p I v → v = u (n + i)) ∨ (k.isOwn = true ∧ T[i]? = some (some k)) := by
  induction h with
  | nil => intro i k e; simp at e
  | @no n s S T T' _ ih =>
    intro i k e
    cases i with
    | zero => cases e
    | succ i =>
      have := ih i k e
      rwa [show n + 1 + i = n + (i + 1) by omega] at this
  | @im n s p S T T' _ ih =>
    intro i k e
    cases i with
    | zero => cases e; exact .inl ⟨p, rfl, rfl⟩
    | succ i =>
      have := ih i k e
      rwa [show n + 1 + i = n + (i + 1) by omega] at this
  | @hide n k0 S T T' _ ih =>
    intro i k e
    cases i with
    | zero => cases e; exact .inr (.inl ⟨rfl, _, rfl, fun I v h => h⟩)
    | succ i =>
      have := ih i k e
      rwa [show n + 1 + i = n + (i + 1) by omega] at this
  | @lend n k0 q S T T' _ ih =>
    intro i k e
    cases i with
    | zero => cases e; exact .inr (.inl ⟨rfl, _, rfl, fun I v h => h.1⟩)
    | succ i =>
      have := ih i k e
      rwa [show n + 1 + i = n + (i + 1) by omega] at this
  | @own n s k0 S T T' hk _ ih =>
    intro i k e
    cases i with
    | zero => cases e; exact .inr (.inr ⟨hk, rfl⟩)
    | succ i =>
      have := ih i k e
      rwa [show n + 1 + i = n + (i + 1) by omega] at this
theorem RK.own_im {p : PR} : (RK.im p).isOwn = false := rfl
theorem inS_own {g : Gb} {k : RK} {H H' : Hp} {v : V} {I F : Hp} (hk : k.isOwn = true) (h : RK.inS g k H v I F) : RK.inS g k H' v I F := by
  cases k with
  | fr q => exact h
  | ow o => exact h
  | im p => cases hk
  | bw q => cases hk
  | rd q => cases hk
section
variable {X : Cx} {g : Gb} {B : Bs} {J : Hp} {S : SL} {o : Type} {K : KT o} {m : Option o} {sts rest : List Stmt}
open Classical in
theorem mb_back2 {u : Nat → V} {B' : Bs} {J' : Hp} {T T' : SL} (l : LF g B J S u B' J') (hb : Back2 g u B'.H 0 S T T') (h : MB X g B J T' rest m K) : MB X g B' J' T rest m K := by
  obtain ⟨σ0, Φ0, h0, x0, j0, rfl, hu⟩ := l
  refine ⟨fun r q => pss_imp (h.run r q) fun D σ H ⟨I, ok, kk⟩ => ?_⟩
  obtain ⟨Φ, hh⟩ := ok.h
  let ow : Nat → Prop := fun i => ∃ k : RK, k.isOwn = true ∧ T[i]? = some (some k)
  have noim : ∀ (i : Nat) (p : PR), T[i]? = some (some (.im p)) → ¬ ow i := fun i p e ⟨k, hk, e2⟩ => by
    rw [e] at e2
    cases e2
    cases hk
  refine ⟨I, ⟨x0.trans ok.x, j0.trans ok.x.i, fun i => if ow i then Φ i else Φ0 i, ?_⟩, kk⟩
  refine ⟨by rw [hb.len]; exact hh.len, ok.x.s, x0.h.trans ok.x.h, (h0.tb.ext ok.x), fun i k e => ?_, fun i a o e => ?_, fun i j a e1 e2 => ?_⟩
  · rcases hb.at_ i k e with ⟨p, rfl, e1⟩ | ⟨e1, p, e2, hp⟩ | ⟨hk, e1⟩
    · obtain ⟨v, e3, h3⟩ := hh.at_ i _ e1
      exact ⟨v, e3, h3⟩
    · obtain ⟨v, e3, h3⟩ := hh.at_ i _ e2
      obtain ⟨v0, e4, h4⟩ := h0.at_ i k e1
      have hv := hp _ _ h3
      rw [Nat.zero_add, hu i v0 e4] at hv
      subst hv
      refine ⟨v, e3, ?_⟩
      rw [if_neg (noim i p e2)]
      exact RK.inS_mono ok.x.i h4
    · obtain ⟨v, e3, h3⟩ := hh.at_ i _ e1
      refine ⟨v, e3, ?_⟩
      rw [if_pos (show ow i from ⟨k, hk, e1⟩)]
      exact inS_own hk h3
  · by_cases ho : ow i
    · rw [if_pos ho] at e
      obtain ⟨f1, f2, f3⟩ := hh.fr i a o e
      exact ⟨f1, f2, x0.h.free f3⟩
    · rw [if_neg ho] at e
      obtain ⟨h1, h2, h3⟩ := h0.fr i a o e
      exact ⟨ok.x.h.at_ h1 (fun p hp z => by rw [← z, h0.noT i p hp] at e; cases e), ok.x.n a (ne_of_some h1) h2, h3⟩
  · have apart : ∀ i j, Φ i a ≠ none → Φ0 j a ≠ none → False := fun i j n1 n2 => by
      have := (hh.ne n1).2.2
      exact (h0.ne n2).1 this
    by_cases hi : ow i
    · rw [if_pos hi] at e1
      by_cases hj : ow j
      · rw [if_pos hj] at e2
        exact hh.dj i j a e1 e2
      · rw [if_neg hj] at e2
        exact (apart i j e1 e2).elim
    · rw [if_neg hi] at e1
      by_cases hj : ow j
      · rw [if_pos hj] at e2
        exact (apart j i e2 e1).elim
      · rw [if_neg hj] at e2
        exact h0.dj i j a e1 e2
end
end T
set_option Elab.async false
set_option linter.all false
set_option maxRecDepth 100000
namespace T
variable [TabsC]
open PySem PySem.Spec PyProof.Rows L2
theorem args_nil {g : Gb} {I H : Hp} : Args g [] [] I H := .nil
theorem args_cons {g : Gb} {k : RK} {ks : List RK} {v : V} {vs : List V} {I H : Hp} (h : RK.holds g k H v I H) (t : Args g ks vs I H) : Args g (k :: ks) (v :: vs) I H := .cons h t
/-! a new instance, by a call with keywords alone -/
section
variable {X : Cx} {CX : CXT} {k : Nat} {f C : Addr} {fd : FuncData} {ps ks : List Str} {sp : Sp} {E : XK} {x : Str} {p pos : Pos} {kws : List Keyword} {tk : TA} {gl : List Value → List Value → List Value} {gV : List V → List V → List V}
def tMakeK0 (C : Addr) (m : Nat) (sp : Sp) (gV : List V → List V → List V) (E : XK) (tk : TA) : TE := fun σ H Q => tk σ H fun zs H2 => zs.length = m ∧ ∀ x dx, H2 x = none → H2 dx = none → dx ≠ x → sp (gV [.ref x] zs) (upd (upd H2 dx (.own x)) x (.ins C dx [])) (fun v H3 => v = .non ∧ Q (.ref x) H3) E
theorem pe_makeK0 (M : Mk X.K C f) (F : FnOk X.prog X.w X.K X.mg X.base CX k f fd ps sp) (hr : Room (k + 1) X.A) (hg : Gl X x) (hm : X.mg x = some (.ref C)) (hb : KBn X.K fd ps 1 ks gl gV) (hx : Passes CX X E) (hkw : PK X kws tk) (hall : (backToKw pos (keywordEach kws X.env)).all (·.1.isSome) = true := by rfl) (hks : (backToKw pos (keywordEach kws X.env)).filterMap (·.1) = ks := by rfl) (hdb : (x == ("__debug__" : Str)) = false := by decide) (hpl : ((backTo pos (starEach [] X.env)).any (·.1) || (backToKw pos (keywordEach kws X.env)).any (·.1.isNone)) = false := by rfl) : PE X (.Call (.Name x p) [] kws pos) (tMakeK0 C ks.length sp gV E tk) :=
  ⟨fun pins s σ H Q I h => wpAny_Call_Name_kw (ld_glob I hg hm (PySem.W.callWith_KW0 (h₀ := X.base) I.ok.mod.kin M.kp hall (thn (hkw.run pos pins s σ H _ I h) fun ws s2 ⟨zs, H2, I2, rz, l2, q2⟩ => ⟨I2.kIn, by rw [hks]; exact run_makeN (n := 0) M F hr hb hx I2 .nil rz rfl l2 q2⟩) hpl) hdb)⟩
end
section
variable {X : Cx} {g : Gb} {B : Bs} {S : SL} {kws : List Keyword} {p pos : Pos} {ι o β ιX : Type} {args : ι → List RK} {M : ι → Option β} {argsX : ιX → List RK} {M' : ιX → Option β} {outs : β → List (Nat × OR)} {m : Option β} {j kk : Nat} {f C : Addr} {fd : FuncData} {ps ks : List Str} {x : Str} {gg : List Value → List Value → List Value} {gV : List V → List V → List V}
theorem me_makeK0 {or : β → OR} (φ : ιX → ι) (gv : List V → List V) (F : FnOk X.prog X.w X.K X.mg X.base CX0 j f fd ps (spIO g (fun a => .ow (oC (wI g x []) []) :: args a) M (fun _ => .im (Py.r g ())) outs)) (hr : Room kk X.A) (hj : j + 1 ≤ kk) (Mk : Mk X.K C f) (hm : X.mg x = some (.ref C)) (hb : KBn X.K fd ps 1 ks gg gV)
    (ha : MKd X g B S kws ks.length argsX m M') (hA : ∀ b zs I H, zs.length = ks.length → Args g (argsX b) zs I H → Args g (args (φ b)) (gv zs) I H)
    (hM : ∀ b r, M' b = some r → M (φ b) = some r := by intro _ _ h; exact h) (hgV : ∀ a zs, gV [.ref a] zs = .ref a :: gv zs := by intros; rfl)
    (hout : ∀ r, outs r = [(0, or r)] := by intro _; rfl) (harg : ∀ a, (args a).all RK.argy = true := by intro _; rfl) (hmg : X.mg = g.mg := by rfl)
    (hall : (backToKw pos (keywordEach kws X.env)).all (·.1.isSome) = true := by rfl) (hks : (backToKw pos (keywordEach kws X.env)).filterMap (·.1) = ks := by rfl)
    (hg : Gl X x := by rfl) (hdb : (x == ("__debug__" : Str)) = false := by decide) (hpl : ((backTo pos (starEach [] X.env)).any (·.1) || (backToKw pos (keywordEach kws X.env)).any (·.1.isNone)) = false := by rfl) :
    ME X g B S (.Call (.Name x p) [] kws pos) m (fun r => .ow (or r)) := by
  refine ⟨fun r q => pe_imp (pe_makeK0 Mk F (hr.mono hj) hg hm hb pass0 (ha.run r q) hall hks hdb hpl) fun σ H Q ⟨I, hh, kc⟩ => ⟨I, hh, fun b zs I1 H1 hM' x1 hA' l2 => ⟨l2, fun y dy hy hdy hne => ?_⟩⟩⟩
  rw [hgV]
  exact make_use (by rw [← hmg]; exact hm) x1.s (hh.tb.ext x1).to (hA b zs _ _ l2 hA') (hM b r hM') hy hdy hne (hout r) (harg _) fun v I' H' x2 hv => kc v I' H' (x1.trans x2) (RK.back rfl x1.h hv)
end
/-! in a tuple -/
section
variable {α τ : Type} [Py α] [DecidableEq α] [Pd α] [Py τ] [DecidableEq τ] [Pd τ] {X : Cx} {g : Gb} {B : Bs} {S : SL} {e1 e2 : Expr} {pos : Pos} {m1 : Option α} {m2 : Option τ}
open PySem.W
theorem mc_inT (l : τ → List α) (hu : X.A.units + 64 < cLine) (hd : Datum.depth α ≤ 62) (hl : ∀ t, Datum.toD t = .tuple ((l t).map Datum.toD)) (h1 : ME X g B S e1 m1 (KI g)) (h2 : ME X g B S e2 m2 (KI g)) (hm : behindInMarks .In e2 = false := by rfl) (hg : X.K = g.K := by rfl) : MC X g B S (.Compare e1 [.In] [e2] pos) (m1 >>= fun a => m2 >>= fun b => some (decide (a ∈ l b))) :=
  mc_cmp (op_inP hu) h1 h2 (fun a b c q v w I H H0 H1 Q s v1 v2 k => by
    cases q
    have hb := dp_mono s (Pd.dp (show (Py.r g b).p I w from v2))
    rw [hl b] at hb
    refine ⟨_, (l b).map Datum.toD, by rw [hg]; exact dp_mono s (Pd.dp (show (Py.r g a).p I v from v1)), .inr (by rw [hg]; exact hb), Datum.plain a, plain_all (l b), Nat.le_trans (Datum.depth_le a) hd, ?_⟩
    show Q (.bl _) H
    rw [if_neg Bool.false_ne_true, any_dec]
    exact k _ _ _ (Ext.refl s) rfl) hm
end
end T
set_option Elab.async false
set_option linter.all false
set_option maxRecDepth 100000
/-! plain lemmas about what the mirrors are made of -/
namespace T
variable [TabsC]
open PySem L2
theorem mulO_l {i j : Int} (h : -(2 ^ 64) < i) (h2 : i < 2 ^ 64) : mulO i j = some (i * j) := by
  rw [mulO_eq, if_pos]
  unfold mulOk
  rw [decide_eq_true (⟨h, h2⟩ : -(2 ^ 64) < i ∧ i < 2 ^ 64)]; rfl
theorem mulO_r {i j : Int} (h : -(2 ^ 64) < j) (h2 : j < 2 ^ 64) : mulO i j = some (i * j) := by
  rw [mulO_eq, if_pos]
  unfold mulOk
  rw [decide_eq_true (⟨h, h2⟩ : -(2 ^ 64) < j ∧ j < 2 ^ 64), Bool.or_true]; rfl
theorem modO_ok {i j : Int} (h : 0 < j) : modO i j = some (i % j) := by
  rw [modO_eq, if_pos]
  unfold modOk
  rw [decide_eq_true h]
theorem divO_ok {i j : Int} (h : 0 < j) (h2 : j < 2 ^ 1000) : divO i j = some (i / j) := by
  rw [divO_eq, if_pos]
  unfold divOk
  refine decide_eq_true ⟨h, ?_⟩
  have h3 : j.natAbs < 2 ^ 1000 := by omega
  have h4 : j.natAbs.log2 < 1000 := (Nat.log2_lt (by omega)).mpr h3
  omega
theorem sizeLine_eq : sizeLine = 16777216 := by decide
theorem appO_ok {α : Type} {xs : List α} {x : α} (h : xs.length < 16777216) : appO xs x = some (xs ++ [x]) := by
  unfold appO
  rw [if_pos (decide_eq_true (by rw [sizeLine_eq]; exact h))]
theorem catO_ok {α : Type} {xs ys : List α} (h : xs.length + ys.length ≤ 16777216) : catO xs ys = some (xs ++ ys) := by
  unfold catO
  rw [if_pos]
  unfold catOk
  exact decide_eq_true (by rw [sizeLine_eq]; exact h)
theorem flat_rep {α : Type} (x : α) : ∀ n : Nat, (List.replicate n [x]).flatten = List.replicate n x
  | 0 => rfl
  | n + 1 => by rw [List.replicate_succ, List.replicate_succ, List.flatten_cons, flat_rep x n]; rfl
theorem repO_one {α : Type} {x : α} {k : Int} (h : k ≤ 16777216) (h2 : 0 ≤ k) : repO [x] k = some (List.replicate k.toNat x) := by
  unfold repO
  rw [if_pos, flat_rep]
  unfold repOk
  rw [Bool.and_eq_true, decide_eq_true_eq, decide_eq_true_eq, sizeLine_eq, List.length_singleton]
  refine ⟨⟨by omega, by omega⟩, by omega⟩
theorem atO_ok {α : Type} {xs : List α} {i : Int} {v : α} (h0 : 0 ≤ i) (h : xs[i.toNat]? = some v) : atO xs i = some v := by
  rw [atO_eq]
  have e : ((i.toNat : Nat) : Int) = i := by omega
  rw [← e]
  exact atI_nat h
theorem atO_nat {α : Type} {xs : List α} {i : Nat} {v : α} (h : xs[i]? = some v) : atO xs (i : Int) = some v := by
  rw [atO_eq]
  exact atI_nat h
theorem atO_get {α : Type} {xs : List α} {i : Int} (h0 : 0 ≤ i) (h : i < xs.length) : atO xs i = some (xs[i.toNat]'(by omega)) := atO_ok h0 (List.getElem?_eq_getElem _)
theorem atO_inv {α : Type} {xs : List α} {i : Int} {v : α} (h0 : 0 ≤ i) (h : atO xs i = some v) : xs[i.toNat]? = some v := by
  rw [atO_eq] at h
  obtain ⟨j, e1, e2⟩ := atI_ix h
  unfold ixN at e1
  rw [if_pos h0] at e1
  split at e1
  · cases e1; exact e2
  · cases e1
theorem setO_ok {α : Type} {xs : List α} {i : Int} {x : α} (h0 : 0 ≤ i) (h : i < xs.length) : setO xs i x = some (xs.set i.toNat x) := by
  unfold setO ixN
  rw [if_pos h0, if_pos h]; rfl
theorem insO_ok {α : Type} {xs : List α} {i : Int} {x : α} (h0 : 0 ≤ i) (h1 : i ≤ 100000) (h : xs.length < 16777216) : insO xs i x = some (xs.take i.toNat ++ [x] ++ xs.drop i.toNat) := by
  unfold insO
  rw [if_pos (decide_eq_true ⟨h0, by omega, by rw [sizeLine_eq]; exact h⟩)]
theorem rng1O_ok {n : Int} (h : n ≤ 16777216) (h0 : -1000 ≤ n) : rng1O n = some (rng 0 n.toNat) := by
  unfold rng1O
  rw [if_pos]
  unfold rngOk
  rw [Bool.and_eq_true, decide_eq_true_eq, decide_eq_true_eq, sizeLine_eq]
  refine ⟨⟨by decide, by decide, by omega, by omega⟩, by omega⟩
theorem rng2O_ok {a b : Int} (ha : -1000 ≤ a) (hb : b ≤ 16000000) (ha2 : a ≤ 16000000) (hb2 : -1000 ≤ b) : rng2O a b = some (rng a (b - a).toNat) := by
  unfold rng2O
  rw [if_pos]
  unfold rngOk
  rw [Bool.and_eq_true, decide_eq_true_eq, decide_eq_true_eq, sizeLine_eq]
  refine ⟨⟨by omega, by omega, by omega, by omega⟩, by omega⟩
theorem fits {i : Int} (h : -1000000000 ≤ i) (h2 : i ≤ 1000000000) : Builtin.Range.rangeFitsLong i = true := by
  unfold Builtin.Range.rangeFitsLong
  rw [Bool.and_eq_true, decide_eq_true_eq, decide_eq_true_eq]
  omega
theorem rngSize_pos {a b c : Int} (hc : 0 < c) : Builtin.Range.rangeSize a b c = if a < b then (b - a - 1) / c + 1 else 0 := by
  unfold Builtin.Range.rangeSize
  rw [if_pos hc]
theorem rng3O_ok {a b c : Int} (hc : 0 < c) (hc2 : c < 16000000) (ha : -1000 ≤ a) (hb : b ≤ 16000000) (ha2 : a ≤ 16000000) (hb2 : -1000 ≤ b) : rng3O a b c = some (rng3 a c (if a < b then (b - a - 1) / c + 1 else 0).toNat) := by
  have hs := rngSize_pos (a := a) (b := b) hc
  have hd : a < b → 0 ≤ (b - a - 1) / c ∧ (b - a - 1) / c ≤ b - a - 1 := fun h => ⟨Int.ediv_nonneg (by omega) (by omega), Int.ediv_le_self _ (by omega)⟩
  unfold rng3O
  rw [if_pos, hs]
  unfold rng3Ok
  rw [Bool.and_eq_true, Bool.and_eq_true, decide_eq_true_eq, decide_eq_true_eq, hs, sizeLine_eq]
  have hz : 0 ≤ (if a < b then (b - a - 1) / c + 1 else 0) ∧ (if a < b then (b - a - 1) / c + 1 else 0) ≤ 16001001 := by
    split
    · have := hd (by assumption); omega
    · omega
  refine ⟨⟨⟨by omega, by omega⟩, ?_⟩, by omega⟩
  unfold Builtin.Range.small
  simp only [Bool.and_eq_true, decide_eq_true_eq, hs]
  generalize (if a < b then (b - a - 1) / c + 1 else 0) = n at hz
  refine ⟨⟨⟨⟨fits (by omega) (by omega), fits (by omega) (by omega)⟩, fits (by omega) (by omega)⟩, fits (by omega) (by omega)⟩, ?_⟩
  rw [if_pos (by omega : c > 0), fits (by omega) (by omega), Bool.or_true]
/-! slices -/
theorem sIx_ge {n d : Nat} {v : Int} (h : 0 ≤ v) : HT.sIx n d (some v) = min v.toNat n := by
  show (if v < 0 then (v + (n : Int)).toNat else min v.toNat n) = _
  rw [if_neg (by omega)]
theorem cutO_to {α : Type} (xs : List α) {k : Int} (h : 0 ≤ k) : cutO xs none (some k) = xs.take k.toNat := by
  unfold cutO
  rw [sIx_ge h, HT.sIx_none, List.drop_zero, Nat.sub_zero]
  by_cases hk : k.toNat ≤ xs.length
  · rw [Nat.min_eq_left hk]
  · rw [Nat.min_eq_right (by omega), List.take_of_length_le (Nat.le_refl _), List.take_of_length_le (by omega)]
theorem cutO_from {α : Type} (xs : List α) {k : Int} (h : 0 ≤ k) : cutO xs (some k) none = xs.drop k.toNat := by
  unfold cutO
  rw [sIx_ge h, HT.sIx_none]
  by_cases hk : k.toNat ≤ xs.length
  · rw [Nat.min_eq_left hk, List.take_of_length_le (by rw [List.length_drop]; omega)]
  · rw [Nat.min_eq_right (by omega), List.drop_of_length_le (Nat.le_refl _), List.drop_of_length_le (by omega)]; simp
theorem cutO_mid {α : Type} (xs : List α) {a b : Int} (h : 0 ≤ a) (h2 : a ≤ b) : cutO xs (some a) (some b) = (xs.drop a.toNat).take (b - a).toNat := by
  unfold cutO
  rw [sIx_ge h, sIx_ge (show 0 ≤ b by omega)]
  by_cases hk : a.toNat ≤ xs.length
  · rw [Nat.min_eq_left hk]
    by_cases hb : b.toNat ≤ xs.length
    · rw [Nat.min_eq_left hb]
      congr 1
      omega
    · rw [Nat.min_eq_right (by omega), List.take_of_length_le (by rw [List.length_drop]; omega), List.take_of_length_le (by rw [List.length_drop]; omega)]
  · rw [Nat.min_eq_right (show xs.length ≤ a.toNat by omega), List.drop_of_length_le (Nat.le_refl _), List.drop_of_length_le (show xs.length ≤ a.toNat by omega)]; simp
theorem cutO_len {α : Type} (xs : List α) (a b : Option Int) : (cutO xs a b).length ≤ xs.length := by
  unfold cutO
  rw [List.length_take, List.length_drop]
  omega
theorem cutO_mem {α : Type} {xs : List α} {a b : Option Int} {x : α} (h : x ∈ cutO xs a b) : x ∈ xs := List.mem_of_mem_drop (List.mem_of_mem_take h)
/-! loops -/
theorem loopN_ind {α γ : Type} {f : γ → α → Option γ} {as : List α} {s0 : γ} (Pv : List α → γ → Prop) (h0 : Pv [] s0) (hs : ∀ pre a post s, as = pre ++ a :: post → Pv pre s → ∃ s', f s a = some s' ∧ Pv (pre ++ [a]) s') : ∃ s', loopN f as s0 = some s' ∧ Pv as s' := by
  have key : ∀ (post pre : List α) (s : γ), as = pre ++ post → Pv pre s → ∃ s', loopN f post s = some s' ∧ Pv as s' := by
    intro post
    induction post with
    | nil =>
      intro pre s e p
      rw [List.append_nil] at e
      exact ⟨s, rfl, e ▸ p⟩
    | cons a post ih =>
      intro pre s e p
      obtain ⟨s1, e1, p1⟩ := hs pre a post s e p
      obtain ⟨s2, e2, p2⟩ := ih (pre ++ [a]) s1 (by rw [List.append_assoc]; exact e) p1
      refine ⟨s2, ?_, p2⟩
      show (f s a >>= fun s' => loopN f post s') = some s2
      rw [e1]; exact e2
  exact key as [] s0 rfl h0
theorem loopN_step {α γ δ : Type} {f : γ → α → Option γ} {as : List α} {s0 : γ} {g : γ → Option δ} {Q : δ → Prop} (Pv : List α → γ → Prop) (h0 : Pv [] s0) (hs : ∀ pre a post s, as = pre ++ a :: post → Pv pre s → ∃ s', f s a = some s' ∧ Pv (pre ++ [a]) s') (hg : ∀ s, Pv as s → ∃ r, g s = some r ∧ Q r) : ∃ r, (loopN f as s0 >>= g) = some r ∧ Q r := by
  obtain ⟨s', e, p⟩ := loopN_ind Pv h0 hs
  obtain ⟨r, e2, q⟩ := hg s' p
  exact ⟨r, by rw [e]; exact e2, q⟩
theorem loopN_eq {α γ δ : Type} {f : γ → α → Option γ} {as : List α} {s0 : γ} {g : γ → Option δ} {r : δ} (Pv : List α → γ → Prop) (h0 : Pv [] s0) (hs : ∀ pre a post s, as = pre ++ a :: post → Pv pre s → ∃ s', f s a = some s' ∧ Pv (pre ++ [a]) s') (hg : ∀ s, Pv as s → g s = some r) : (loopN f as s0 >>= g) = some r := by
  obtain ⟨s', e, p⟩ := loopN_ind Pv h0 hs
  rw [e]; exact hg s' p
theorem loopC_ind {α γ ρ : Type} {f : γ → α → Option (Ctl γ γ ρ)} {as : List α} {s0 : γ} (Pv : List α → γ → Prop) (h0 : Pv [] s0) (hs : ∀ pre a post s, as = pre ++ a :: post → Pv pre s → ∃ s', (f s a = some (.nx s') ∨ f s a = some (.ct s')) ∧ Pv (pre ++ [a]) s') : ∃ s', loopC f as s0 = some (.nx s') ∧ Pv as s' := by
  have key : ∀ (post pre : List α) (s : γ), as = pre ++ post → Pv pre s → ∃ s', loopC f post s = some (.nx s') ∧ Pv as s' := by
    intro post
    induction post with
    | nil =>
      intro pre s e p
      rw [List.append_nil] at e
      exact ⟨s, rfl, e ▸ p⟩
    | cons a post ih =>
      intro pre s e p
      obtain ⟨s1, e1, p1⟩ := hs pre a post s e p
      obtain ⟨s2, e2, p2⟩ := ih (pre ++ [a]) s1 (by rw [List.append_assoc]; exact e) p1
      refine ⟨s2, ?_, p2⟩
      unfold loopC
      rcases e1 with e1 | e1
      · rw [e1]; exact e2
      · rw [e1]; exact e2
  exact key as [] s0 rfl h0
/-- a loop whose turns all go on and carry nothing -/
theorem loopC_unit {α ρ : Type} {f : Unit → α → Option (Ctl Unit Unit ρ)} {as : List α} (hs : ∀ a ∈ as, f () a = some (.nx ()) ∨ f () a = some (.ct ())) : loopC f as () = some (.nx ()) := by
  obtain ⟨s, e, _⟩ := loopC_ind (f := f) (as := as) (s0 := ()) (fun _ _ => True) trivial fun pre a post s e _ => ⟨(), hs a (by rw [e]; simp), trivial⟩
  exact e
theorem lcM_ok {α β : Type} {f : α → Option β} {g : α → β} : ∀ {as : List α}, (∀ a ∈ as, f a = some (g a)) → lcM f as = some (as.map g)
  | [], _ => rfl
  | a :: as, h => by
    show (f a >>= fun b => lcM f as >>= fun bs => some (b :: bs)) = _
    rw [h a List.mem_cons_self, lcM_ok (as := as) fun b hb => h b (List.mem_cons_of_mem _ hb)]
    rfl
theorem lcM_ex {α β : Type} {f : α → Option β} {R : α → β → Prop} : ∀ {as : List α}, (∀ a ∈ as, ∃ b, f a = some b ∧ R a b) → ∃ bs, lcM f as = some bs ∧ bs.length = as.length ∧ ∀ b ∈ bs, ∃ a ∈ as, R a b
  | [], _ => ⟨[], rfl, rfl, fun _ h => by cases h⟩
  | a :: as, h => by
    obtain ⟨b, e, r⟩ := h a List.mem_cons_self
    obtain ⟨bs, e2, l, r2⟩ := lcM_ex (as := as) fun c hc => h c (List.mem_cons_of_mem _ hc)
    refine ⟨b :: bs, ?_, by rw [List.length_cons, List.length_cons, l], fun c hc => ?_⟩
    · show (f a >>= fun b => lcM f as >>= fun bs => some (b :: bs)) = _
      rw [e, e2]; rfl
    · rcases List.mem_cons.mp hc with z | z
      · exact ⟨a, List.mem_cons_self, z ▸ r⟩
      · obtain ⟨d, h1, h2⟩ := r2 c z
        exact ⟨d, List.mem_cons_of_mem _ h1, h2⟩
theorem lcF_ok {α β : Type} {t : α → Option Bool} {f : α → Option β} {u : α → Bool} {g : α → β} : ∀ {as : List α}, (∀ a ∈ as, t a = some (u a)) → (∀ a ∈ as, u a = true → f a = some (g a)) → lcF t f as = some ((as.filter u).map g)
  | [], _, _ => rfl
  | a :: as, h, h2 => by
    show (t a >>= fun b => if b = true then (f a >>= fun y => lcF t f as >>= fun ys => some (y :: ys)) else lcF t f as) = _
    rw [h a List.mem_cons_self, List.filter_cons, lcF_ok (as := as) (fun b hb => h b (List.mem_cons_of_mem _ hb)) fun b hb => h2 b (List.mem_cons_of_mem _ hb)]
    show (if u a = true then _ else _) = _
    cases q : u a with
    | true => rw [if_pos rfl, if_pos rfl, h2 a List.mem_cons_self q]; rfl
    | false => rw [if_neg Bool.false_ne_true, if_neg Bool.false_ne_true]
/-! ranges -/
theorem rng_nil {lo : Int} : rng lo 0 = [] := rfl
theorem rng_mem {lo : Int} {n : Nat} {x : Int} (h : x ∈ rng lo n) : lo ≤ x ∧ x < lo + n := by
  unfold rng at h
  obtain ⟨i, h1, rfl⟩ := List.mem_map.mp h
  rw [List.mem_range] at h1
  omega
theorem rng_at {lo : Int} {n : Nat} {pre post : List Int} {x : Int} (h : rng lo n = pre ++ x :: post) : x = lo + pre.length ∧ pre.length < n := by
  have h1 : (rng lo n)[pre.length]? = some x := by rw [h]; simp
  have hl : pre.length < n := by
    have := (List.getElem?_eq_some_iff.mp h1).1
    rwa [rng_len] at this
  rw [rng_get hl] at h1
  exact ⟨(Option.some.inj h1).symm, hl⟩
theorem rng3_mem {lo c : Int} {n : Nat} {x : Int} (h : x ∈ rng3 lo c n) : ∃ i : Nat, i < n ∧ x = lo + i * c := by
  unfold rng3 at h
  obtain ⟨i, h1, rfl⟩ := List.mem_map.mp h
  exact ⟨i, List.mem_range.mp h1, rfl⟩
theorem take_succ_at {α : Type} {xs : List α} {n : Nat} (h : n < xs.length) : xs.take (n + 1) = xs.take n ++ [xs[n]] := by
  rw [List.take_add_one, List.getElem?_eq_getElem h]; rfl
theorem ite_true {α : Type} {b : Bool} (h : b = true) {x y : α} : (if b = true then x else y) = x := if_pos h
theorem ite_false {α : Type} {b : Bool} (h : b = false) {x y : α} : (if b = true then x else y) = y := by rw [h]; rfl
end T
set_option Elab.async false
set_option linter.all false
set_option maxRecDepth 100000
set_option maxHeartbeats 40000000
set_option synthInstance.maxSize 100000
set_option synthInstance.maxHeartbeats 400000
namespace Law
open PySem PySem.Spec PyProof.Rows L2 T
open C8 (InsC)
open ClX (CRead CVal)
variable [TabsC]
def topS (i : Nat) : Stmt := PySem.Challenge.pw_voucherstack_k08_marks_and_sorts.main.body.getD i (.Pass ⟨0, 0, 0, 0⟩)
abbrev s_law_mix : Stmt := topS 11
abbrev s_law_coin : Stmt := topS 12
abbrev s_Marks_init : Stmt := inClass (topS 2) 0
abbrev s_law_one_named : Stmt := topS 14
abbrev s_law_marks_by : Stmt := topS 15
abbrev s_law_fields : Stmt := topS 13
abbrev s_Voucher_init : Stmt := inClass (topS 3) 0
abbrev s_Off_init : Stmt := inClass (topS 4) 0
abbrev s_Share_init : Stmt := inClass (topS 5) 0
abbrev s_Cheapest_init : Stmt := inClass (topS 6) 0
abbrev s_Bundle_init : Stmt := inClass (topS 7) 0
abbrev s_law_made : Stmt := topS 16
abbrev s_law_whole : Stmt := topS 10
abbrev s_law_right : Stmt := topS 17
abbrev s_law : Stmt := topS 18
theorem sc_law_mix : FnScope ["_law_cell", "_law_factor", "_law_prime"] ["_law_cell", "_law_factor", "_law_prime"] (defScope s_law_mix) := ⟨rfl, rfl, rfl, by decide +kernel, rfl, by decide +kernel, by decide +kernel⟩
theorem sc_law_coin : FnScope ["_law_cell", "_law_how"] ["_law_cell"] (defScope s_law_coin) := ⟨rfl, rfl, rfl, by decide +kernel, rfl, by decide +kernel, by decide +kernel⟩
theorem sc_Marks_init : FnScope ["self", "kind", "needs", "most", "member", "once", "lone"] ["self", "kind", "needs", "most", "member", "once", "lone"] (defScope s_Marks_init) := ⟨rfl, rfl, rfl, by decide +kernel, rfl, by decide +kernel, by decide +kernel⟩
theorem sc_law_one_named : FnScope ["_law_branch", "_law_least", "_law_top", "_law_bits", "_law_pick", "_law_rest", "_law_some"] ["_law_branch", "_law_least", "_law_top", "_law_bits", "_law_pick"] (defScope s_law_one_named) := ⟨rfl, rfl, rfl, by decide +kernel, rfl, by decide +kernel, by decide +kernel⟩
theorem sc_law_marks_by : FnScope ["_law_cell", "_law_branch", "_law_least", "_law_top", "_law_bits", "_law_how", "_law_made_here"] ["_law_cell"] (defScope s_law_marks_by) := ⟨rfl, rfl, rfl, by decide +kernel, rfl, by decide +kernel, by decide +kernel⟩
theorem sc_law_fields : FnScope ["_law_own"] ["_law_own"] (defScope s_law_fields) := ⟨rfl, rfl, rfl, by decide +kernel, rfl, by decide +kernel, by decide +kernel⟩
theorem sc_Voucher_init : FnScope ["self", "marks"] ["self", "marks"] (defScope s_Voucher_init) := ⟨rfl, rfl, rfl, by decide +kernel, rfl, by decide +kernel, by decide +kernel⟩
theorem sc_Off_init : FnScope ["self", "amount", "marks"] ["self", "amount", "marks"] (defScope s_Off_init) := ⟨rfl, rfl, rfl, by decide +kernel, rfl, by decide +kernel, by decide +kernel⟩
theorem sc_Share_init : FnScope ["self", "share", "by_line", "marks"] ["self", "share", "by_line", "marks"] (defScope s_Share_init) := ⟨rfl, rfl, rfl, by decide +kernel, rfl, by decide +kernel, by decide +kernel⟩
theorem sc_Cheapest_init : FnScope ["self", "many", "marks"] ["self", "many", "marks"] (defScope s_Cheapest_init) := ⟨rfl, rfl, rfl, by decide +kernel, rfl, by decide +kernel, by decide +kernel⟩
theorem sc_Bundle_init : FnScope ["self", "many", "price", "marks"] ["self", "many", "price", "marks"] (defScope s_Bundle_init) := ⟨rfl, rfl, rfl, by decide +kernel, rfl, by decide +kernel, by decide +kernel⟩
theorem sc_law_made : FnScope ["_law_cell", "_law_own", "_law_how", "_law_sort", "_law_amount", "_law_many", "_law_share", "_law_by", "_law_some"] ["_law_cell", "_law_own", "_law_how"] (defScope s_law_made) := ⟨rfl, rfl, rfl, by decide +kernel, rfl, by decide +kernel, by decide +kernel⟩
theorem sc_law_whole : FnScope ["_law_found"] ["_law_found"] (defScope s_law_whole) := ⟨rfl, rfl, rfl, by decide +kernel, rfl, by decide +kernel, by decide +kernel⟩
theorem sc_law_right : FnScope ["_law_voucher", "_law_cell", "_law_how", "_law_sort", "_law_amount", "_law_many", "_law_kinds", "_law_share", "_law_k"] ["_law_voucher", "_law_cell", "_law_how"] (defScope s_law_right) := ⟨rfl, rfl, rfl, by decide +kernel, rfl, by decide +kernel, by decide +kernel⟩
theorem sc_law : FnScope ["_law_script", "_law_cell", "_law_own", "_law_due", "_law_k", "_law_how", "_law_drawn", "_law_voucher"] ["_law_script"] (defScope s_law) := ⟨rfl, rfl, rfl, by decide +kernel, rfl, by decide +kernel, by decide +kernel⟩
structure MarksD where
  f_kind : (Option Int)
  f_needs : Int
  f_most : (Option Int)
  f_member : Bool
  f_once : Bool
  f_lone : Bool
abbrev o_Marks (K : PySem.W.Frag) (mg : Str → Option Value) (d : MarksD) : OR := oC (wI (Gb.mk K mg) "Marks" ["kind", "needs", "most", "member", "once", "lone"]) [(oI (Py.r (Gb.mk K mg) (d.f_kind : (Option Int)))), (oI (Py.r (Gb.mk K mg) (d.f_needs : Int))), (oI (Py.r (Gb.mk K mg) (d.f_most : (Option Int)))), (oI (Py.r (Gb.mk K mg) (d.f_member : Bool))), (oI (Py.r (Gb.mk K mg) (d.f_once : Bool))), (oI (Py.r (Gb.mk K mg) (d.f_lone : Bool)))]
instance : Py MarksD := ⟨fun g d => rIns g "Marks" ["kind", "needs", "most", "member", "once", "lone"] [Py.r g d.f_kind, Py.r g d.f_needs, Py.r g d.f_most, Py.r g d.f_member, Py.r g d.f_once, Py.r g d.f_lone]⟩
instance : Nz MarksD := ⟨fun h => rIns_nz h⟩
theorem z_Marks {K : PySem.W.Frag} {mg : Str → Option Value} (d : MarksD) : Frz (o_Marks K mg d) (Py.r (Gb.mk K mg) d) := frz_C (.cons frz_I (.cons frz_I (.cons frz_I (.cons frz_I (.cons frz_I (.cons frz_I (.nil)))))))
structure OffD where
  f_marks : (Option MarksD)
  f_amount : Int
abbrev o_Off (K : PySem.W.Frag) (mg : Str → Option Value) (d : OffD) : OR := oC (wI (Gb.mk K mg) "Off" ["marks", "amount"]) [(oI (Py.r (Gb.mk K mg) (d.f_marks : (Option MarksD)))), (oI (Py.r (Gb.mk K mg) (d.f_amount : Int)))]
instance : Py OffD := ⟨fun g d => rIns g "Off" ["marks", "amount"] [Py.r g d.f_marks, Py.r g d.f_amount]⟩
instance : Nz OffD := ⟨fun h => rIns_nz h⟩
theorem z_Off {K : PySem.W.Frag} {mg : Str → Option Value} (d : OffD) : Frz (o_Off K mg d) (Py.r (Gb.mk K mg) d) := frz_C (.cons frz_I (.cons frz_I (.nil)))
structure ShareD where
  f_marks : (Option MarksD)
  f_share : Int
  f_by_line : Bool
abbrev o_Share (K : PySem.W.Frag) (mg : Str → Option Value) (d : ShareD) : OR := oC (wI (Gb.mk K mg) "Share" ["marks", "share", "by_line"]) [(oI (Py.r (Gb.mk K mg) (d.f_marks : (Option MarksD)))), (oI (Py.r (Gb.mk K mg) (d.f_share : Int))), (oI (Py.r (Gb.mk K mg) (d.f_by_line : Bool)))]
instance : Py ShareD := ⟨fun g d => rIns g "Share" ["marks", "share", "by_line"] [Py.r g d.f_marks, Py.r g d.f_share, Py.r g d.f_by_line]⟩
instance : Nz ShareD := ⟨fun h => rIns_nz h⟩
theorem z_Share {K : PySem.W.Frag} {mg : Str → Option Value} (d : ShareD) : Frz (o_Share K mg d) (Py.r (Gb.mk K mg) d) := frz_C (.cons frz_I (.cons frz_I (.cons frz_I (.nil))))
structure CheapestD where
  f_marks : (Option MarksD)
  f_many : Int
abbrev o_Cheapest (K : PySem.W.Frag) (mg : Str → Option Value) (d : CheapestD) : OR := oC (wI (Gb.mk K mg) "Cheapest" ["marks", "many"]) [(oI (Py.r (Gb.mk K mg) (d.f_marks : (Option MarksD)))), (oI (Py.r (Gb.mk K mg) (d.f_many : Int)))]
instance : Py CheapestD := ⟨fun g d => rIns g "Cheapest" ["marks", "many"] [Py.r g d.f_marks, Py.r g d.f_many]⟩
instance : Nz CheapestD := ⟨fun h => rIns_nz h⟩
theorem z_Cheapest {K : PySem.W.Frag} {mg : Str → Option Value} (d : CheapestD) : Frz (o_Cheapest K mg d) (Py.r (Gb.mk K mg) d) := frz_C (.cons frz_I (.cons frz_I (.nil)))
structure BundleD where
  f_marks : (Option MarksD)
  f_many : Int
  f_price : Int
abbrev o_Bundle (K : PySem.W.Frag) (mg : Str → Option Value) (d : BundleD) : OR := oC (wI (Gb.mk K mg) "Bundle" ["marks", "many", "price"]) [(oI (Py.r (Gb.mk K mg) (d.f_marks : (Option MarksD)))), (oI (Py.r (Gb.mk K mg) (d.f_many : Int))), (oI (Py.r (Gb.mk K mg) (d.f_price : Int)))]
instance : Py BundleD := ⟨fun g d => rIns g "Bundle" ["marks", "many", "price"] [Py.r g d.f_marks, Py.r g d.f_many, Py.r g d.f_price]⟩
instance : Nz BundleD := ⟨fun h => rIns_nz h⟩
theorem z_Bundle {K : PySem.W.Frag} {mg : Str → Option Value} (d : BundleD) : Frz (o_Bundle K mg d) (Py.r (Gb.mk K mg) d) := frz_C (.cons frz_I (.cons frz_I (.cons frz_I (.nil))))
structure CarriageD where
  f_marks : (Option MarksD)
abbrev o_Carriage (K : PySem.W.Frag) (mg : Str → Option Value) (d : CarriageD) : OR := oC (wI (Gb.mk K mg) "Carriage" ["marks"]) [(oI (Py.r (Gb.mk K mg) (d.f_marks : (Option MarksD))))]
instance : Py CarriageD := ⟨fun g d => rIns g "Carriage" ["marks"] [Py.r g d.f_marks]⟩
instance : Nz CarriageD := ⟨fun h => rIns_nz h⟩
theorem z_Carriage {K : PySem.W.Frag} {mg : Str → Option Value} (d : CarriageD) : Frz (o_Carriage K mg d) (Py.r (Gb.mk K mg) d) := frz_C (.cons frz_I (.nil))
inductive VoucherD where
  | c_Off (o : OffD)
  | c_Share (o : ShareD)
  | c_Cheapest (o : CheapestD)
  | c_Bundle (o : BundleD)
  | c_Carriage (o : CarriageD)
instance : Py VoucherD := ⟨fun g x => match x with | .c_Off o => Py.r g o | .c_Share o => Py.r g o | .c_Cheapest o => Py.r g o | .c_Bundle o => Py.r g o | .c_Carriage o => Py.r g o⟩
instance : Nz VoucherD := ⟨fun {g a I v} h => by cases a with | c_Off o => exact Nz.nz (α := OffD) h | c_Share o => exact Nz.nz (α := ShareD) h | c_Cheapest o => exact Nz.nz (α := CheapestD) h | c_Bundle o => exact Nz.nz (α := BundleD) h | c_Carriage o => exact Nz.nz (α := CarriageD) h⟩
def VoucherD.f_marks : VoucherD → (Option MarksD)
  | .c_Off o => o.f_marks
  | .c_Share o => o.f_marks
  | .c_Cheapest o => o.f_marks
  | .c_Bundle o => o.f_marks
  | .c_Carriage o => o.f_marks
def VoucherD.f_amount : VoucherD → Option Int
  | .c_Off o => some o.f_amount
  | .c_Share o => none
  | .c_Cheapest o => none
  | .c_Bundle o => none
  | .c_Carriage o => none
def VoucherD.f_by_line : VoucherD → Option Bool
  | .c_Off o => none
  | .c_Share o => some o.f_by_line
  | .c_Cheapest o => none
  | .c_Bundle o => none
  | .c_Carriage o => none
def VoucherD.f_many : VoucherD → Option Int
  | .c_Off o => none
  | .c_Share o => none
  | .c_Cheapest o => some o.f_many
  | .c_Bundle o => some o.f_many
  | .c_Carriage o => none
def VoucherD.f_price : VoucherD → Option Int
  | .c_Off o => none
  | .c_Share o => none
  | .c_Cheapest o => none
  | .c_Bundle o => some o.f_price
  | .c_Carriage o => none
def VoucherD.f_share : VoucherD → Option Int
  | .c_Off o => none
  | .c_Share o => some o.f_share
  | .c_Cheapest o => none
  | .c_Bundle o => none
  | .c_Carriage o => none
@[irreducible] def M.law_mix (x_law_cell : Int) (x_law_factor : Int) (x_law_prime : Int) : Option Int :=
  ((mulO x_law_cell x_law_factor) >>= fun v1 => (modO v1 x_law_prime))
@[irreducible] def M.law_coin (x_law_cell : Int) : Option Int :=
  (let x_law_how : Int := (x_law_cell % (4 : Int)); (if (decide (x_law_how = (0 : Int))) = true then some ((x_law_cell / (4 : Int)) % (10 : Int)) else (if (decide (x_law_how = (1 : Int))) = true then some ((x_law_cell / (4 : Int)) % (1000 : Int)) else (if (decide (x_law_how = (2 : Int))) = true then (atO ((0 : Int) :: ((1 : Int) :: ((999999999999 : Int) :: ((1000000000000 : Int) :: ([] : (List Int)))))) ((x_law_cell / (4 : Int)) % (4 : Int))) else some (((x_law_cell / (4 : Int)) * (48271 : Int)) % (1000000000001 : Int))))))
@[irreducible] def M.Marks_init (x_kind : (Option Int)) (x_needs : Int) (x_most : (Option Int)) (x_member : Bool) (x_once : Bool) (x_lone : Bool) : MarksD :=
  (let x_self_kind : (Option Int) := x_kind; (let x_self_needs : Int := x_needs; (let x_self_most : (Option Int) := x_most; (let x_self_member : Bool := x_member; (let x_self_once : Bool := x_once; (let x_self_lone : Bool := x_lone; (MarksD.mk x_self_kind x_self_needs x_self_most x_self_member x_self_once x_self_lone)))))))
@[irreducible] def M.law_one_named (x_law_branch : (Option Int)) (x_law_least : Int) (x_law_top : (Option Int)) (x_law_bits : (List Bool)) (x_law_pick : Int) : Option (T2 MarksD (List PyData)) :=
  (let x_law_rest : (List PyData) := ((PySem.W.Datum.toD ((none : (Option Int)) : (Option Int))) :: ((PySem.W.Datum.toD ((0 : Int) : Int)) :: ((PySem.W.Datum.toD ((none : (Option Int)) : (Option Int))) :: ((PySem.W.Datum.toD (false : Bool)) :: ((PySem.W.Datum.toD (false : Bool)) :: ((PySem.W.Datum.toD (false : Bool)) :: ([] : (List PyData)))))))); (((catO ((PySem.W.Datum.toD (x_law_branch : (Option Int))) :: ((PySem.W.Datum.toD (x_law_least : Int)) :: ((PySem.W.Datum.toD (x_law_top : (Option Int))) :: ([] : (List PyData))))) (x_law_bits.map PySem.W.Datum.toD)) >>= fun v1 => (atO v1 x_law_pick)) >>= fun v27 => (setO x_law_rest x_law_pick v27 >>= fun x_law_rest => (let x_law_some : (List MarksD) := ((M.Marks_init x_law_branch ((0 : Int) : Int) (none : (Option Int)) (false : Bool) (false : Bool) (false : Bool)) :: ((M.Marks_init (none : (Option Int)) x_law_least (none : (Option Int)) (false : Bool) (false : Bool) (false : Bool)) :: ((M.Marks_init (none : (Option Int)) ((0 : Int) : Int) x_law_top (false : Bool) (false : Bool) (false : Bool)) :: ([] : (List MarksD))))); (((((atO x_law_bits (0 : Int)) >>= fun v17 => some (M.Marks_init (none : (Option Int)) ((0 : Int) : Int) (none : (Option Int)) v17 (false : Bool) (false : Bool))) >>= fun v23 => (((atO x_law_bits (1 : Int)) >>= fun v18 => some (M.Marks_init (none : (Option Int)) ((0 : Int) : Int) (none : (Option Int)) (false : Bool) v18 (false : Bool))) >>= fun v21 => (((atO x_law_bits (2 : Int)) >>= fun v19 => some (M.Marks_init (none : (Option Int)) ((0 : Int) : Int) (none : (Option Int)) (false : Bool) (false : Bool) v19)) >>= fun v20 => some (v20 :: ([] : (List MarksD)))) >>= fun v22 => some (v21 :: v22)) >>= fun v24 => some (v23 :: v24)) >>= fun v25 => (catO x_law_some v25)) >>= fun x_law_some => ((atO x_law_some x_law_pick) >>= fun v26 => some (T2.mk v26 x_law_rest)))))))
@[irreducible] def M.law_marks_by (x_law_cell : Int) : Option (T2 MarksD (List PyData)) :=
  (let x_law_branch : (Option Int) := (if (decide ((x_law_cell % (2 : Int)) = (0 : Int))) = true then (none : (Option Int)) else (some ((x_law_cell / (2 : Int)) % (20 : Int)) : (Option Int))); (((M.law_mix x_law_cell (48271 : Int) (2147483647 : Int)) >>= fun v2 => M.law_coin v2) >>= fun x_law_least => ((if (decide (((x_law_cell / (2 : Int)) % (3 : Int)) = (0 : Int))) = true then some ((none : (Option Int))) else (((M.law_mix x_law_cell (16807 : Int) (2147483399 : Int)) >>= fun v7 => M.law_coin v7) >>= fun v8 => some ((some v8 : (Option Int))))) >>= fun x_law_top => (let x_law_bits : (List Bool) := ((decide (((x_law_cell / (6 : Int)) % (2 : Int)) = (1 : Int))) :: ((decide (((x_law_cell / (12 : Int)) % (2 : Int)) = (1 : Int))) :: ((decide (((x_law_cell / (24 : Int)) % (2 : Int)) = (1 : Int))) :: ([] : (List Bool))))); (let x_law_how : Int := ((x_law_cell / (48 : Int)) % (9 : Int)); (if (decide (x_law_how = (0 : Int))) = true then some (T2.mk ((M.Marks_init (none : (Option Int)) ((0 : Int) : Int) (none : (Option Int)) (false : Bool) (false : Bool) (false : Bool))) (((PySem.W.Datum.toD ((none : (Option Int)) : (Option Int))) :: ((PySem.W.Datum.toD ((0 : Int) : Int)) :: ((PySem.W.Datum.toD ((none : (Option Int)) : (Option Int))) :: ((PySem.W.Datum.toD (false : Bool)) :: ((PySem.W.Datum.toD (false : Bool)) :: ((PySem.W.Datum.toD (false : Bool)) :: ([] : (List PyData)))))))))) else (if (decide (x_law_how = (1 : Int))) = true then some (T2.mk ((M.Marks_init x_law_branch ((0 : Int) : Int) (none : (Option Int)) (false : Bool) (false : Bool) (false : Bool))) (((PySem.W.Datum.toD (x_law_branch : (Option Int))) :: ((PySem.W.Datum.toD ((0 : Int) : Int)) :: ((PySem.W.Datum.toD ((none : (Option Int)) : (Option Int))) :: ((PySem.W.Datum.toD (false : Bool)) :: ((PySem.W.Datum.toD (false : Bool)) :: ((PySem.W.Datum.toD (false : Bool)) :: ([] : (List PyData)))))))))) else (if (decide (x_law_how = (2 : Int))) = true then some (T2.mk ((M.Marks_init x_law_branch x_law_least (none : (Option Int)) (false : Bool) (false : Bool) (false : Bool))) (((PySem.W.Datum.toD (x_law_branch : (Option Int))) :: ((PySem.W.Datum.toD (x_law_least : Int)) :: ((PySem.W.Datum.toD ((none : (Option Int)) : (Option Int))) :: ((PySem.W.Datum.toD (false : Bool)) :: ((PySem.W.Datum.toD (false : Bool)) :: ((PySem.W.Datum.toD (false : Bool)) :: ([] : (List PyData)))))))))) else (if (decide (x_law_how = (3 : Int))) = true then (((atO x_law_bits (0 : Int)) >>= fun v9 => some (M.Marks_init x_law_branch x_law_least x_law_top v9 (false : Bool) (false : Bool))) >>= fun v15 => ((((((atO x_law_bits (0 : Int)) >>= fun v10 => some ((PySem.W.Datum.toD (v10 : Bool)))) >>= fun v11 => some (v11 :: ((PySem.W.Datum.toD (false : Bool)) :: ((PySem.W.Datum.toD (false : Bool)) :: ([] : (List PyData)))))) >>= fun v12 => some ((PySem.W.Datum.toD (x_law_top : (Option Int))) :: v12)) >>= fun v13 => some ((PySem.W.Datum.toD (x_law_least : Int)) :: v13)) >>= fun v14 => some ((PySem.W.Datum.toD (x_law_branch : (Option Int))) :: v14)) >>= fun v16 => some (T2.mk v15 v16)) else (if (decide (x_law_how = (4 : Int))) = true then (((atO x_law_bits (0 : Int)) >>= fun v17 => (atO x_law_bits (1 : Int)) >>= fun v18 => some (M.Marks_init x_law_branch x_law_least x_law_top v17 v18 (false : Bool))) >>= fun v27 => ((((((atO x_law_bits (0 : Int)) >>= fun v19 => some ((PySem.W.Datum.toD (v19 : Bool)))) >>= fun v22 => (((atO x_law_bits (1 : Int)) >>= fun v20 => some ((PySem.W.Datum.toD (v20 : Bool)))) >>= fun v21 => some (v21 :: ((PySem.W.Datum.toD (false : Bool)) :: ([] : (List PyData))))) >>= fun v23 => some (v22 :: v23)) >>= fun v24 => some ((PySem.W.Datum.toD (x_law_top : (Option Int))) :: v24)) >>= fun v25 => some ((PySem.W.Datum.toD (x_law_least : Int)) :: v25)) >>= fun v26 => some ((PySem.W.Datum.toD (x_law_branch : (Option Int))) :: v26)) >>= fun v28 => some (T2.mk v27 v28)) else (if (decide (x_law_how = (5 : Int))) = true then some (T2.mk ((M.Marks_init x_law_branch x_law_least x_law_top (false : Bool) (false : Bool) (false : Bool))) (((PySem.W.Datum.toD (x_law_branch : (Option Int))) :: ((PySem.W.Datum.toD (x_law_least : Int)) :: ((PySem.W.Datum.toD (x_law_top : (Option Int))) :: ((PySem.W.Datum.toD (false : Bool)) :: ((PySem.W.Datum.toD (false : Bool)) :: ((PySem.W.Datum.toD (false : Bool)) :: ([] : (List PyData)))))))))) else (if (decide (x_law_how = (6 : Int))) = true then (((atO x_law_bits (0 : Int)) >>= fun v29 => (atO x_law_bits (1 : Int)) >>= fun v30 => (atO x_law_bits (2 : Int)) >>= fun v31 => some (M.Marks_init x_law_branch x_law_least x_law_top v29 v30 v31)) >>= fun v32 => (catO ((PySem.W.Datum.toD (x_law_branch : (Option Int))) :: ((PySem.W.Datum.toD (x_law_least : Int)) :: ((PySem.W.Datum.toD (x_law_top : (Option Int))) :: ([] : (List PyData))))) (x_law_bits.map PySem.W.Datum.toD)) >>= fun v33 => some (T2.mk v32 v33)) else (if (decide (x_law_how = (7 : Int))) = true then (((atO x_law_bits (2 : Int)) >>= fun v34 => (atO x_law_bits (1 : Int)) >>= fun v35 => (atO x_law_bits (0 : Int)) >>= fun v36 => some (M.Marks_init x_law_branch x_law_least x_law_top v36 v35 v34)) >>= fun x_law_made_here => ((catO ((PySem.W.Datum.toD (x_law_branch : (Option Int))) :: ((PySem.W.Datum.toD (x_law_least : Int)) :: ((PySem.W.Datum.toD (x_law_top : (Option Int))) :: ([] : (List PyData))))) (x_law_bits.map PySem.W.Datum.toD)) >>= fun v37 => some (T2.mk x_law_made_here v37))) else (M.law_one_named x_law_branch x_law_least x_law_top x_law_bits ((x_law_cell / (432 : Int)) % (6 : Int))))))))))))))))
@[irreducible] def M.law_fields (x_law_own : MarksD) : (List PyData) :=
  ((PySem.W.Datum.toD (x_law_own.f_kind : (Option Int))) :: ((PySem.W.Datum.toD (x_law_own.f_needs : Int)) :: ((PySem.W.Datum.toD (x_law_own.f_most : (Option Int))) :: ((PySem.W.Datum.toD (x_law_own.f_member : Bool)) :: ((PySem.W.Datum.toD (x_law_own.f_once : Bool)) :: ((PySem.W.Datum.toD (x_law_own.f_lone : Bool)) :: ([] : (List PyData))))))))
@[irreducible] def M.Voucher_init (x_marks : (Option MarksD)) : (Option MarksD) :=
  (let x_self_marks : (Option MarksD) := (if x_marks.isNone = true then (some (M.Marks_init (none : (Option Int)) ((0 : Int) : Int) (none : (Option Int)) (false : Bool) (false : Bool) (false : Bool)) : (Option MarksD)) else x_marks); x_self_marks)
@[irreducible] def M.Off_init (x_amount : Int) (x_marks : (Option MarksD)) : OffD :=
  (let r1 : (Option MarksD) := (M.Voucher_init x_marks); (let x_self_amount : Int := x_amount; (OffD.mk r1 x_self_amount)))
@[irreducible] def M.Voucher_init_1 (x_marks : (Option MarksD)) : (Option MarksD) :=
  (let x_self_marks : (Option MarksD) := (if x_marks.isNone = true then (some (M.Marks_init (none : (Option Int)) ((0 : Int) : Int) (none : (Option Int)) (false : Bool) (false : Bool) (false : Bool)) : (Option MarksD)) else x_marks); x_self_marks)
@[irreducible] def M.Share_init (x_share : Int) (x_by_line : Bool) (x_marks : (Option MarksD)) : ShareD :=
  (let r1 : (Option MarksD) := (M.Voucher_init_1 x_marks); (let x_self_share : Int := x_share; (let x_self_by_line : Bool := x_by_line; (ShareD.mk r1 x_self_share x_self_by_line))))
@[irreducible] def M.Voucher_init_2 (x_marks : (Option MarksD)) : (Option MarksD) :=
  (let x_self_marks : (Option MarksD) := (if x_marks.isNone = true then (some (M.Marks_init (none : (Option Int)) ((0 : Int) : Int) (none : (Option Int)) (false : Bool) (false : Bool) (false : Bool)) : (Option MarksD)) else x_marks); x_self_marks)
@[irreducible] def M.Cheapest_init (x_many : Int) (x_marks : (Option MarksD)) : CheapestD :=
  (let r1 : (Option MarksD) := (M.Voucher_init_2 x_marks); (let x_self_many : Int := x_many; (CheapestD.mk r1 x_self_many)))
@[irreducible] def M.Voucher_init_3 (x_marks : (Option MarksD)) : (Option MarksD) :=
  (let x_self_marks : (Option MarksD) := (if x_marks.isNone = true then (some (M.Marks_init (none : (Option Int)) ((0 : Int) : Int) (none : (Option Int)) (false : Bool) (false : Bool) (false : Bool)) : (Option MarksD)) else x_marks); x_self_marks)
@[irreducible] def M.Bundle_init (x_many : Int) (x_price : Int) (x_marks : (Option MarksD)) : BundleD :=
  (let r1 : (Option MarksD) := (M.Voucher_init_3 x_marks); (let x_self_many : Int := x_many; (let x_self_price : Int := x_price; (BundleD.mk r1 x_self_many x_self_price))))
@[irreducible] def M.Voucher_init_4 (x_marks : (Option MarksD)) : CarriageD :=
  (let x_self_marks : (Option MarksD) := (if x_marks.isNone = true then (some (M.Marks_init (none : (Option Int)) ((0 : Int) : Int) (none : (Option Int)) (false : Bool) (false : Bool) (false : Bool)) : (Option MarksD)) else x_marks); (CarriageD.mk x_self_marks))
@[irreducible] def M.law_made (x_law_cell : Int) (x_law_own : MarksD) (x_law_how : Int) : Option VoucherD :=
  (let x_law_sort : Int := (x_law_cell % (5 : Int)); (((M.law_mix x_law_cell (69621 : Int) (2147483629 : Int)) >>= fun v2 => M.law_coin v2) >>= fun x_law_amount => (let x_law_many : Int := ((2 : Int) + ((x_law_cell / (5 : Int)) % (19 : Int))); ((atO ((1 : Int) :: ((1000 : Int) :: (((1 : Int) + ((x_law_cell / (10 : Int)) % (1000 : Int))) :: ([] : (List Int))))) ((x_law_cell / (5 : Int)) % (3 : Int))) >>= fun x_law_share => (if (decide (x_law_sort = (0 : Int))) = true then ((atO ((M.Off_init x_law_amount (none : (Option MarksD))) :: ((M.Off_init x_law_amount ((none : (Option MarksD)))) :: ((M.Off_init x_law_amount ((some x_law_own : (Option MarksD)))) :: ((M.Off_init x_law_amount ((some x_law_own : (Option MarksD)))) :: ([] : (List OffD)))))) x_law_how) >>= fun v3 => some ((VoucherD.c_Off v3))) else (if (decide (x_law_sort = (1 : Int))) = true then (let x_law_by : Bool := (decide (((x_law_cell / (35 : Int)) % (2 : Int)) = (1 : Int))); ((atO ((M.Share_init x_law_share (false : Bool) (none : (Option MarksD))) :: ((M.Share_init x_law_share x_law_by (none : (Option MarksD))) :: ((M.Share_init x_law_share x_law_by ((some x_law_own : (Option MarksD)))) :: ((M.Share_init x_law_share (false : Bool) ((some x_law_own : (Option MarksD)))) :: ([] : (List ShareD)))))) x_law_how) >>= fun v4 => some ((VoucherD.c_Share v4)))) else (if (decide (x_law_sort = (2 : Int))) = true then ((atO ((M.Cheapest_init x_law_many (none : (Option MarksD))) :: ((M.Cheapest_init x_law_many ((none : (Option MarksD)))) :: ((M.Cheapest_init x_law_many ((some x_law_own : (Option MarksD)))) :: ((M.Cheapest_init x_law_many ((some x_law_own : (Option MarksD)))) :: ([] : (List CheapestD)))))) x_law_how) >>= fun v5 => some ((VoucherD.c_Cheapest v5))) else (if (decide (x_law_sort = (3 : Int))) = true then (let x_law_some : (List BundleD) := ((M.Bundle_init x_law_many x_law_amount (none : (Option MarksD))) :: ((M.Bundle_init x_law_many x_law_amount ((none : (Option MarksD)))) :: ((M.Bundle_init x_law_many x_law_amount ((some x_law_own : (Option MarksD)))) :: ([] : (List BundleD))))); (((catO x_law_some ((M.Bundle_init x_law_many x_law_amount ((some x_law_own : (Option MarksD)))) :: ([] : (List BundleD)))) >>= fun v7 => (atO v7 x_law_how)) >>= fun v8 => some ((VoucherD.c_Bundle v8)))) else ((atO ((M.Voucher_init_4 (none : (Option MarksD))) :: ((M.Voucher_init_4 ((none : (Option MarksD)))) :: ((M.Voucher_init_4 ((some x_law_own : (Option MarksD)))) :: ((M.Voucher_init_4 ((some x_law_own : (Option MarksD)))) :: ([] : (List CarriageD)))))) x_law_how) >>= fun v9 => some ((VoucherD.c_Carriage v9)))))))))))
@[irreducible] def M.law_whole (x_law_found : Int) : Bool :=
  (true && (!false))
@[irreducible] def M.law_right (x_law_voucher : VoucherD) (x_law_cell : Int) (x_law_how : Int) : Option Bool :=
  (let x_law_sort : Int := (x_law_cell % (5 : Int)); (((M.law_mix x_law_cell (69621 : Int) (2147483629 : Int)) >>= fun v2 => M.law_coin v2) >>= fun x_law_amount => (let x_law_many : Int := ((2 : Int) + ((x_law_cell / (5 : Int)) % (19 : Int))); (let x_law_kinds : (List Bool) := ((match x_law_voucher with | .c_Off _ => true | .c_Share _ => false | .c_Cheapest _ => false | .c_Bundle _ => false | .c_Carriage _ => false) :: ((match x_law_voucher with | .c_Off _ => false | .c_Share _ => true | .c_Cheapest _ => false | .c_Bundle _ => false | .c_Carriage _ => false) :: ((match x_law_voucher with | .c_Off _ => false | .c_Share _ => false | .c_Cheapest _ => true | .c_Bundle _ => false | .c_Carriage _ => false) :: ([] : (List Bool))))); (catO x_law_kinds (((match x_law_voucher with | .c_Off _ => false | .c_Share _ => false | .c_Cheapest _ => false | .c_Bundle _ => true | .c_Carriage _ => false) :: ((match x_law_voucher with | .c_Off _ => false | .c_Share _ => false | .c_Cheapest _ => false | .c_Bundle _ => false | .c_Carriage _ => true) :: ([] : (List Bool))))) >>= fun x_law_kinds => (((((rng1O (5 : Int)) >>= fun v3 => some ((v3.map (fun (x_law_k : Int) => (decide (x_law_k = x_law_sort)))))) >>= fun v4 => some (!decide (x_law_kinds = v4))) >>= fun v5 => (if v5 = true then some true else some ((!(match x_law_voucher with | .c_Off _ => true | .c_Share _ => true | .c_Cheapest _ => true | .c_Bundle _ => true | .c_Carriage _ => true))))) >>= fun v19 => (if v19 = true then some false else (if (decide (x_law_sort = (0 : Int))) = true then (((x_law_voucher.f_amount) >>= fun v6 => some (decide (v6 = x_law_amount))) >>= fun v8 => (if v8 = true then ((x_law_voucher.f_amount) >>= fun v7 => some (M.law_whole v7)) else some false)) else (if (decide (x_law_sort = (1 : Int))) = true then ((atO ((1 : Int) :: ((1000 : Int) :: (((1 : Int) + ((x_law_cell / (10 : Int)) % (1000 : Int))) :: ([] : (List Int))))) ((x_law_cell / (5 : Int)) % (3 : Int))) >>= fun x_law_share => (((((x_law_voucher.f_by_line) >>= fun v9 => some (true)) >>= fun v10 => some ((!v10))) >>= fun v12 => (if v12 = true then some true else ((x_law_voucher.f_by_line) >>= fun v11 => some (!decide (v11 = ((decide (x_law_how ∈ [(T2.mk (1 : Int) (2 : Int)).x0, (T2.mk (1 : Int) (2 : Int)).x1])) && (decide (((x_law_cell / (35 : Int)) % (2 : Int)) = (1 : Int))))))))) >>= fun v14 => (if v14 = true then some false else ((x_law_voucher.f_share) >>= fun v13 => some (decide (v13 = x_law_share)))))) else (if (decide (x_law_sort = (2 : Int))) = true then ((x_law_voucher.f_many) >>= fun v15 => some (decide (v15 = x_law_many))) else (if (decide (x_law_sort = (4 : Int))) = true then some true else (((x_law_voucher.f_many) >>= fun v16 => some (decide (v16 = x_law_many))) >>= fun v18 => (if v18 = true then ((x_law_voucher.f_price) >>= fun v17 => some (decide (v17 = x_law_amount))) else some false)))))))))))))
@[irreducible] def M.law_fields_1 (x_law_own : (Option MarksD)) : Option (List PyData) :=
  (((x_law_own >>= fun v14 => some (v14.f_kind)) >>= fun v15 => some ((PySem.W.Datum.toD (v15 : (Option Int))))) >>= fun v40 => (((x_law_own >>= fun v17 => some (v17.f_needs)) >>= fun v18 => some ((PySem.W.Datum.toD (v18 : Int)))) >>= fun v38 => (((x_law_own >>= fun v20 => some (v20.f_most)) >>= fun v21 => some ((PySem.W.Datum.toD (v21 : (Option Int))))) >>= fun v36 => (((x_law_own >>= fun v23 => some (v23.f_member)) >>= fun v24 => some ((PySem.W.Datum.toD (v24 : Bool)))) >>= fun v34 => (((x_law_own >>= fun v26 => some (v26.f_once)) >>= fun v27 => some ((PySem.W.Datum.toD (v27 : Bool)))) >>= fun v32 => (((x_law_own >>= fun v29 => some (v29.f_lone)) >>= fun v30 => some ((PySem.W.Datum.toD (v30 : Bool)))) >>= fun v31 => some (v31 :: ([] : (List PyData)))) >>= fun v33 => some (v32 :: v33)) >>= fun v35 => some (v34 :: v35)) >>= fun v37 => some (v36 :: v37)) >>= fun v39 => some (v38 :: v39)) >>= fun v41 => some (v40 :: v41))
@[irreducible] def M.law (x_law_script : (List Int)) : Option Bool :=
  ((catO x_law_script ((0 : Int) :: ([] : (List Int)))) >>= fun v23 => (loopC (fun (z1 : Unit) (x_law_cell : Int) => (((M.law_marks_by (x_law_cell / (4 : Int))) >>= fun it2 => ((if (!true) = true then some true else (eqDO (PyData.list ((M.law_fields it2.x0))) (PyData.list it2.x1) >>= fun c => some (!c))) >>= fun v21 => (if v21 = true then some (Ctl.rt false) else ((rng1O (6 : Int)) >>= fun v20 => (loopC (fun (z3 : Unit) (x_law_k : Int) => (((((atO (M.law_fields it2.x0) x_law_k) >>= fun v4 => some ((isiD_bool v4))) >>= fun v6 => ((atO it2.x1 x_law_k) >>= fun v5 => some ((isiD_bool v5))) >>= fun v7 => some (!decide (v6 = v7))) >>= fun v8 => (if v8 = true then some (Ctl.rt false) else some (Ctl.nx ()))) : Option (Ctl Unit Unit Bool))) v20 () >>= Ctl.up fun (z9 : Unit) => (let x_law_how : Int := (x_law_cell % (4 : Int)); ((M.law_mix x_law_cell (39373 : Int) (2147483587 : Int)) >>= fun x_law_drawn => ((M.law_made x_law_drawn it2.x0 x_law_how) >>= fun x_law_voucher => ((((M.law_right x_law_voucher x_law_drawn x_law_how) >>= fun v10 => some ((!v10))) >>= fun v14 => (if v14 = true then some true else ((x_law_voucher.f_marks >>= fun v12 => some (true)) >>= fun v13 => some ((!v13))))) >>= fun v19 => (if v19 = true then some (Ctl.rt false) else (let z15 : (List PyData) := if (decide (x_law_how < (2 : Int))) = true then (let x_law_due : (List PyData) := ((PySem.W.Datum.toD ((none : (Option Int)) : (Option Int))) :: ((PySem.W.Datum.toD ((0 : Int) : Int)) :: ((PySem.W.Datum.toD ((none : (Option Int)) : (Option Int))) :: ((PySem.W.Datum.toD (false : Bool)) :: ((PySem.W.Datum.toD (false : Bool)) :: ((PySem.W.Datum.toD (false : Bool)) :: ([] : (List PyData)))))))); x_law_due) else it2.x1; ((((M.law_fields_1 x_law_voucher.f_marks) >>= fun v16 => some ((PyData.list v16))) >>= fun v17 => (eqDO v17 (PyData.list z15) >>= fun c => some (!c))) >>= fun v18 => (if v18 = true then some (Ctl.rt false) else some (Ctl.nx ())))))))))))))) : Option (Ctl Unit Unit Bool))) v23 () >>= Ctl.seqT fun (z22 : Unit) => some true))
structure Tx (K : PySem.W.Frag) (mg : Str → Option Value) where
  C_Marks : Addr
  m_Marks : mg "Marks" = some (.ref C_Marks)
  cl_Marks : Cls K C_Marks
  ic_Marks : InsC K C_Marks
  C_Off : Addr
  m_Off : mg "Off" = some (.ref C_Off)
  cl_Off : Cls K C_Off
  ic_Off : InsC K C_Off
  C_Share : Addr
  m_Share : mg "Share" = some (.ref C_Share)
  cl_Share : Cls K C_Share
  ic_Share : InsC K C_Share
  C_Cheapest : Addr
  m_Cheapest : mg "Cheapest" = some (.ref C_Cheapest)
  cl_Cheapest : Cls K C_Cheapest
  ic_Cheapest : InsC K C_Cheapest
  C_Bundle : Addr
  m_Bundle : mg "Bundle" = some (.ref C_Bundle)
  cl_Bundle : Cls K C_Bundle
  ic_Bundle : InsC K C_Bundle
  C_Carriage : Addr
  m_Carriage : mg "Carriage" = some (.ref C_Carriage)
  cl_Carriage : Cls K C_Carriage
  ic_Carriage : InsC K C_Carriage
  C_Voucher : Addr
  m_Voucher : mg "Voucher" = some (.ref C_Voucher)
  cl_Voucher : Cls K C_Voucher
  ki_Bundle_Bundle : PySem.W.kitOne K (.ref C_Bundle) (.ref C_Bundle) = some true
  ki_Bundle_Carriage : PySem.W.kitOne K (.ref C_Bundle) (.ref C_Carriage) = some false
  ki_Bundle_Cheapest : PySem.W.kitOne K (.ref C_Bundle) (.ref C_Cheapest) = some false
  ki_Bundle_Off : PySem.W.kitOne K (.ref C_Bundle) (.ref C_Off) = some false
  ki_Bundle_Share : PySem.W.kitOne K (.ref C_Bundle) (.ref C_Share) = some false
  ki_Bundle_Voucher : PySem.W.kitOne K (.ref C_Bundle) (.ref C_Voucher) = some true
  ki_Carriage_Bundle : PySem.W.kitOne K (.ref C_Carriage) (.ref C_Bundle) = some false
  ki_Carriage_Carriage : PySem.W.kitOne K (.ref C_Carriage) (.ref C_Carriage) = some true
  ki_Carriage_Cheapest : PySem.W.kitOne K (.ref C_Carriage) (.ref C_Cheapest) = some false
  ki_Carriage_Off : PySem.W.kitOne K (.ref C_Carriage) (.ref C_Off) = some false
  ki_Carriage_Share : PySem.W.kitOne K (.ref C_Carriage) (.ref C_Share) = some false
  ki_Carriage_Voucher : PySem.W.kitOne K (.ref C_Carriage) (.ref C_Voucher) = some true
  ki_Cheapest_Bundle : PySem.W.kitOne K (.ref C_Cheapest) (.ref C_Bundle) = some false
  ki_Cheapest_Carriage : PySem.W.kitOne K (.ref C_Cheapest) (.ref C_Carriage) = some false
  ki_Cheapest_Cheapest : PySem.W.kitOne K (.ref C_Cheapest) (.ref C_Cheapest) = some true
  ki_Cheapest_Off : PySem.W.kitOne K (.ref C_Cheapest) (.ref C_Off) = some false
  ki_Cheapest_Share : PySem.W.kitOne K (.ref C_Cheapest) (.ref C_Share) = some false
  ki_Cheapest_Voucher : PySem.W.kitOne K (.ref C_Cheapest) (.ref C_Voucher) = some true
  ki_Off_Bundle : PySem.W.kitOne K (.ref C_Off) (.ref C_Bundle) = some false
  ki_Off_Carriage : PySem.W.kitOne K (.ref C_Off) (.ref C_Carriage) = some false
  ki_Off_Cheapest : PySem.W.kitOne K (.ref C_Off) (.ref C_Cheapest) = some false
  ki_Off_Off : PySem.W.kitOne K (.ref C_Off) (.ref C_Off) = some true
  ki_Off_Share : PySem.W.kitOne K (.ref C_Off) (.ref C_Share) = some false
  ki_Off_Voucher : PySem.W.kitOne K (.ref C_Off) (.ref C_Voucher) = some true
  ki_Share_Bundle : PySem.W.kitOne K (.ref C_Share) (.ref C_Bundle) = some false
  ki_Share_Carriage : PySem.W.kitOne K (.ref C_Share) (.ref C_Carriage) = some false
  ki_Share_Cheapest : PySem.W.kitOne K (.ref C_Share) (.ref C_Cheapest) = some false
  ki_Share_Off : PySem.W.kitOne K (.ref C_Share) (.ref C_Off) = some false
  ki_Share_Share : PySem.W.kitOne K (.ref C_Share) (.ref C_Share) = some true
  ki_Share_Voucher : PySem.W.kitOne K (.ref C_Share) (.ref C_Voucher) = some true
  n_Bundle_many : NoAttr K C_Bundle "many"
  n_Bundle_marks : NoAttr K C_Bundle "marks"
  n_Bundle_price : NoAttr K C_Bundle "price"
  n_Carriage_marks : NoAttr K C_Carriage "marks"
  n_Cheapest_many : NoAttr K C_Cheapest "many"
  n_Cheapest_marks : NoAttr K C_Cheapest "marks"
  n_Marks_kind : NoAttr K C_Marks "kind"
  n_Marks_lone : NoAttr K C_Marks "lone"
  n_Marks_member : NoAttr K C_Marks "member"
  n_Marks_most : NoAttr K C_Marks "most"
  n_Marks_needs : NoAttr K C_Marks "needs"
  n_Marks_once : NoAttr K C_Marks "once"
  n_Off_amount : NoAttr K C_Off "amount"
  n_Off_marks : NoAttr K C_Off "marks"
  n_Share_by_line : NoAttr K C_Share "by_line"
  n_Share_marks : NoAttr K C_Share "marks"
  n_Share_share : NoAttr K C_Share "share"
  f_law_mix : Addr
  d_law_mix : FuncData
  F_law_mix : FunX K "_law_mix" "_law_mix" s_law_mix f_law_mix d_law_mix
  m_law_mix : mg "_law_mix" = some (.ref f_law_mix)
  k_law_mix : PySem.W.keepIn K (.ref f_law_mix) = true
  f_law_coin : Addr
  d_law_coin : FuncData
  F_law_coin : FunX K "_law_coin" "_law_coin" s_law_coin f_law_coin d_law_coin
  m_law_coin : mg "_law_coin" = some (.ref f_law_coin)
  k_law_coin : PySem.W.keepIn K (.ref f_law_coin) = true
  f_Marks_init : Addr
  d_Marks_init : FuncData
  F_Marks_init : FunX K "__init__" "Marks.__init__" s_Marks_init f_Marks_init d_Marks_init
  k_Marks_init : PySem.W.keepIn K (.ref f_Marks_init) = true
  f_law_one_named : Addr
  d_law_one_named : FuncData
  F_law_one_named : FunX K "_law_one_named" "_law_one_named" s_law_one_named f_law_one_named d_law_one_named
  m_law_one_named : mg "_law_one_named" = some (.ref f_law_one_named)
  k_law_one_named : PySem.W.keepIn K (.ref f_law_one_named) = true
  f_law_marks_by : Addr
  d_law_marks_by : FuncData
  F_law_marks_by : FunX K "_law_marks_by" "_law_marks_by" s_law_marks_by f_law_marks_by d_law_marks_by
  m_law_marks_by : mg "_law_marks_by" = some (.ref f_law_marks_by)
  k_law_marks_by : PySem.W.keepIn K (.ref f_law_marks_by) = true
  f_law_fields : Addr
  d_law_fields : FuncData
  F_law_fields : FunX K "_law_fields" "_law_fields" s_law_fields f_law_fields d_law_fields
  m_law_fields : mg "_law_fields" = some (.ref f_law_fields)
  k_law_fields : PySem.W.keepIn K (.ref f_law_fields) = true
  f_Voucher_init : Addr
  d_Voucher_init : FuncData
  F_Voucher_init : FunX K "__init__" "Voucher.__init__" s_Voucher_init f_Voucher_init d_Voucher_init
  k_Voucher_init : PySem.W.keepIn K (.ref f_Voucher_init) = true
  f_Off_init : Addr
  d_Off_init : FuncData
  F_Off_init : FunX K "__init__" "Off.__init__" s_Off_init f_Off_init d_Off_init
  k_Off_init : PySem.W.keepIn K (.ref f_Off_init) = true
  f_Share_init : Addr
  d_Share_init : FuncData
  F_Share_init : FunX K "__init__" "Share.__init__" s_Share_init f_Share_init d_Share_init
  k_Share_init : PySem.W.keepIn K (.ref f_Share_init) = true
  f_Cheapest_init : Addr
  d_Cheapest_init : FuncData
  F_Cheapest_init : FunX K "__init__" "Cheapest.__init__" s_Cheapest_init f_Cheapest_init d_Cheapest_init
  k_Cheapest_init : PySem.W.keepIn K (.ref f_Cheapest_init) = true
  f_Bundle_init : Addr
  d_Bundle_init : FuncData
  F_Bundle_init : FunX K "__init__" "Bundle.__init__" s_Bundle_init f_Bundle_init d_Bundle_init
  k_Bundle_init : PySem.W.keepIn K (.ref f_Bundle_init) = true
  f_law_made : Addr
  d_law_made : FuncData
  F_law_made : FunX K "_law_made" "_law_made" s_law_made f_law_made d_law_made
  m_law_made : mg "_law_made" = some (.ref f_law_made)
  k_law_made : PySem.W.keepIn K (.ref f_law_made) = true
  f_law_whole : Addr
  d_law_whole : FuncData
  F_law_whole : FunX K "_law_whole" "_law_whole" s_law_whole f_law_whole d_law_whole
  m_law_whole : mg "_law_whole" = some (.ref f_law_whole)
  k_law_whole : PySem.W.keepIn K (.ref f_law_whole) = true
  f_law_right : Addr
  d_law_right : FuncData
  F_law_right : FunX K "_law_right" "_law_right" s_law_right f_law_right d_law_right
  m_law_right : mg "_law_right" = some (.ref f_law_right)
  k_law_right : PySem.W.keepIn K (.ref f_law_right) = true
  f_law : Addr
  d_law : FuncData
  F_law : FunX K "law" "law" s_law f_law d_law
  m_law : mg "law" = some (.ref f_law)
  k_law : PySem.W.keepIn K (.ref f_law) = true
  ds_Bundle_init_3 : List Value
  b_Bundle_init_3 : Binds K d_Bundle_init ["self", "many", "price", "marks"] ds_Bundle_init_3
  v_Bundle_init_3 : Vals [.non] ds_Bundle_init_3
  b_Bundle_init_4 : Binds K d_Bundle_init ["self", "many", "price", "marks"] []
  ds_Cheapest_init_2 : List Value
  b_Cheapest_init_2 : Binds K d_Cheapest_init ["self", "many", "marks"] ds_Cheapest_init_2
  v_Cheapest_init_2 : Vals [.non] ds_Cheapest_init_2
  b_Cheapest_init_3 : Binds K d_Cheapest_init ["self", "many", "marks"] []
  ds_Marks_init_1 : List Value
  b_Marks_init_1 : Binds K d_Marks_init ["self", "kind", "needs", "most", "member", "once", "lone"] ds_Marks_init_1
  v_Marks_init_1 : Vals [.non, .int 0, .non, .bl false, .bl false, .bl false] ds_Marks_init_1
  ds_Marks_init_2 : List Value
  b_Marks_init_2 : Binds K d_Marks_init ["self", "kind", "needs", "most", "member", "once", "lone"] ds_Marks_init_2
  v_Marks_init_2 : Vals [.int 0, .non, .bl false, .bl false, .bl false] ds_Marks_init_2
  ds_Marks_init_3 : List Value
  b_Marks_init_3 : Binds K d_Marks_init ["self", "kind", "needs", "most", "member", "once", "lone"] ds_Marks_init_3
  v_Marks_init_3 : Vals [.non, .bl false, .bl false, .bl false] ds_Marks_init_3
  ds_Marks_init_4 : List Value
  b_Marks_init_4 : Binds K d_Marks_init ["self", "kind", "needs", "most", "member", "once", "lone"] ds_Marks_init_4
  v_Marks_init_4 : Vals [.bl false, .bl false, .bl false] ds_Marks_init_4
  ds_Marks_init_5 : List Value
  b_Marks_init_5 : Binds K d_Marks_init ["self", "kind", "needs", "most", "member", "once", "lone"] ds_Marks_init_5
  v_Marks_init_5 : Vals [.bl false, .bl false] ds_Marks_init_5
  ds_Marks_init_6 : List Value
  b_Marks_init_6 : Binds K d_Marks_init ["self", "kind", "needs", "most", "member", "once", "lone"] ds_Marks_init_6
  v_Marks_init_6 : Vals [.bl false] ds_Marks_init_6
  b_Marks_init_7 : Binds K d_Marks_init ["self", "kind", "needs", "most", "member", "once", "lone"] []
  ds_Off_init_2 : List Value
  b_Off_init_2 : Binds K d_Off_init ["self", "amount", "marks"] ds_Off_init_2
  v_Off_init_2 : Vals [.non] ds_Off_init_2
  b_Off_init_3 : Binds K d_Off_init ["self", "amount", "marks"] []
  ds_Share_init_2 : List Value
  b_Share_init_2 : Binds K d_Share_init ["self", "share", "by_line", "marks"] ds_Share_init_2
  v_Share_init_2 : Vals [.bl false, .non] ds_Share_init_2
  ds_Share_init_3 : List Value
  b_Share_init_3 : Binds K d_Share_init ["self", "share", "by_line", "marks"] ds_Share_init_3
  v_Share_init_3 : Vals [.non] ds_Share_init_3
  b_Share_init_4 : Binds K d_Share_init ["self", "share", "by_line", "marks"] []
  ds_Voucher_init_1 : List Value
  b_Voucher_init_1 : Binds K d_Voucher_init ["self", "marks"] ds_Voucher_init_1
  v_Voucher_init_1 : Vals [.non] ds_Voucher_init_1
  b_Voucher_init_2 : Binds K d_Voucher_init ["self", "marks"] []
  b_law_coin_1 : Binds K d_law_coin ["_law_cell"] []
  b_law_fields_1 : Binds K d_law_fields ["_law_own"] []
  b_law_made_3 : Binds K d_law_made ["_law_cell", "_law_own", "_law_how"] []
  b_law_marks_by_1 : Binds K d_law_marks_by ["_law_cell"] []
  b_law_mix_3 : Binds K d_law_mix ["_law_cell", "_law_factor", "_law_prime"] []
  b_law_one_named_5 : Binds K d_law_one_named ["_law_branch", "_law_least", "_law_top", "_law_bits", "_law_pick"] []
  b_law_right_3 : Binds K d_law_right ["_law_voucher", "_law_cell", "_law_how"] []
  b_law_whole_1 : Binds K d_law_whole ["_law_found"] []
  its_Bundle_init_3_marks : List Value
  kb_Bundle_init_3_marks : KBn K d_Bundle_init ["self", "many", "price", "marks"] 3 ["marks"] (fun us ws => us ++ ((ws.drop 0).take 1)) (fun vs zs => vs ++ ((zs.drop 0).take 1))
  its_Cheapest_init_2_marks : List Value
  kb_Cheapest_init_2_marks : KBn K d_Cheapest_init ["self", "many", "marks"] 2 ["marks"] (fun us ws => us ++ ((ws.drop 0).take 1)) (fun vs zs => vs ++ ((zs.drop 0).take 1))
  its_Marks_init_1_kind : List Value
  kb_Marks_init_1_kind : KBn K d_Marks_init ["self", "kind", "needs", "most", "member", "once", "lone"] 1 ["kind"] (fun us ws => us ++ ((ws.drop 0).take 1) ++ ((its_Marks_init_1_kind.drop 1).take 1) ++ ((its_Marks_init_1_kind.drop 2).take 1) ++ ((its_Marks_init_1_kind.drop 3).take 1) ++ ((its_Marks_init_1_kind.drop 4).take 1) ++ ((its_Marks_init_1_kind.drop 5).take 1)) (fun vs zs => vs ++ ((zs.drop 0).take 1) ++ (([.non, .int 0, .non, .bl false, .bl false, .bl false].drop 1).take 1) ++ (([.non, .int 0, .non, .bl false, .bl false, .bl false].drop 2).take 1) ++ (([.non, .int 0, .non, .bl false, .bl false, .bl false].drop 3).take 1) ++ (([.non, .int 0, .non, .bl false, .bl false, .bl false].drop 4).take 1) ++ (([.non, .int 0, .non, .bl false, .bl false, .bl false].drop 5).take 1))
  its_Marks_init_1_lone : List Value
  kb_Marks_init_1_lone : KBn K d_Marks_init ["self", "kind", "needs", "most", "member", "once", "lone"] 1 ["lone"] (fun us ws => us ++ ((its_Marks_init_1_lone.drop 0).take 1) ++ ((its_Marks_init_1_lone.drop 1).take 1) ++ ((its_Marks_init_1_lone.drop 2).take 1) ++ ((its_Marks_init_1_lone.drop 3).take 1) ++ ((its_Marks_init_1_lone.drop 4).take 1) ++ ((ws.drop 0).take 1)) (fun vs zs => vs ++ (([.non, .int 0, .non, .bl false, .bl false, .bl false].drop 0).take 1) ++ (([.non, .int 0, .non, .bl false, .bl false, .bl false].drop 1).take 1) ++ (([.non, .int 0, .non, .bl false, .bl false, .bl false].drop 2).take 1) ++ (([.non, .int 0, .non, .bl false, .bl false, .bl false].drop 3).take 1) ++ (([.non, .int 0, .non, .bl false, .bl false, .bl false].drop 4).take 1) ++ ((zs.drop 0).take 1))
  its_Marks_init_1_lone_once_member_most_needs_kind : List Value
  kb_Marks_init_1_lone_once_member_most_needs_kind : KBn K d_Marks_init ["self", "kind", "needs", "most", "member", "once", "lone"] 1 ["lone", "once", "member", "most", "needs", "kind"] (fun us ws => us ++ ((ws.drop 5).take 1) ++ ((ws.drop 4).take 1) ++ ((ws.drop 3).take 1) ++ ((ws.drop 2).take 1) ++ ((ws.drop 1).take 1) ++ ((ws.drop 0).take 1)) (fun vs zs => vs ++ ((zs.drop 5).take 1) ++ ((zs.drop 4).take 1) ++ ((zs.drop 3).take 1) ++ ((zs.drop 2).take 1) ++ ((zs.drop 1).take 1) ++ ((zs.drop 0).take 1))
  its_Marks_init_1_member : List Value
  kb_Marks_init_1_member : KBn K d_Marks_init ["self", "kind", "needs", "most", "member", "once", "lone"] 1 ["member"] (fun us ws => us ++ ((its_Marks_init_1_member.drop 0).take 1) ++ ((its_Marks_init_1_member.drop 1).take 1) ++ ((its_Marks_init_1_member.drop 2).take 1) ++ ((ws.drop 0).take 1) ++ ((its_Marks_init_1_member.drop 4).take 1) ++ ((its_Marks_init_1_member.drop 5).take 1)) (fun vs zs => vs ++ (([.non, .int 0, .non, .bl false, .bl false, .bl false].drop 0).take 1) ++ (([.non, .int 0, .non, .bl false, .bl false, .bl false].drop 1).take 1) ++ (([.non, .int 0, .non, .bl false, .bl false, .bl false].drop 2).take 1) ++ ((zs.drop 0).take 1) ++ (([.non, .int 0, .non, .bl false, .bl false, .bl false].drop 4).take 1) ++ (([.non, .int 0, .non, .bl false, .bl false, .bl false].drop 5).take 1))
  its_Marks_init_1_most : List Value
  kb_Marks_init_1_most : KBn K d_Marks_init ["self", "kind", "needs", "most", "member", "once", "lone"] 1 ["most"] (fun us ws => us ++ ((its_Marks_init_1_most.drop 0).take 1) ++ ((its_Marks_init_1_most.drop 1).take 1) ++ ((ws.drop 0).take 1) ++ ((its_Marks_init_1_most.drop 3).take 1) ++ ((its_Marks_init_1_most.drop 4).take 1) ++ ((its_Marks_init_1_most.drop 5).take 1)) (fun vs zs => vs ++ (([.non, .int 0, .non, .bl false, .bl false, .bl false].drop 0).take 1) ++ (([.non, .int 0, .non, .bl false, .bl false, .bl false].drop 1).take 1) ++ ((zs.drop 0).take 1) ++ (([.non, .int 0, .non, .bl false, .bl false, .bl false].drop 3).take 1) ++ (([.non, .int 0, .non, .bl false, .bl false, .bl false].drop 4).take 1) ++ (([.non, .int 0, .non, .bl false, .bl false, .bl false].drop 5).take 1))
  its_Marks_init_1_needs : List Value
  kb_Marks_init_1_needs : KBn K d_Marks_init ["self", "kind", "needs", "most", "member", "once", "lone"] 1 ["needs"] (fun us ws => us ++ ((its_Marks_init_1_needs.drop 0).take 1) ++ ((ws.drop 0).take 1) ++ ((its_Marks_init_1_needs.drop 2).take 1) ++ ((its_Marks_init_1_needs.drop 3).take 1) ++ ((its_Marks_init_1_needs.drop 4).take 1) ++ ((its_Marks_init_1_needs.drop 5).take 1)) (fun vs zs => vs ++ (([.non, .int 0, .non, .bl false, .bl false, .bl false].drop 0).take 1) ++ ((zs.drop 0).take 1) ++ (([.non, .int 0, .non, .bl false, .bl false, .bl false].drop 2).take 1) ++ (([.non, .int 0, .non, .bl false, .bl false, .bl false].drop 3).take 1) ++ (([.non, .int 0, .non, .bl false, .bl false, .bl false].drop 4).take 1) ++ (([.non, .int 0, .non, .bl false, .bl false, .bl false].drop 5).take 1))
  its_Marks_init_1_once : List Value
  kb_Marks_init_1_once : KBn K d_Marks_init ["self", "kind", "needs", "most", "member", "once", "lone"] 1 ["once"] (fun us ws => us ++ ((its_Marks_init_1_once.drop 0).take 1) ++ ((its_Marks_init_1_once.drop 1).take 1) ++ ((its_Marks_init_1_once.drop 2).take 1) ++ ((its_Marks_init_1_once.drop 3).take 1) ++ ((ws.drop 0).take 1) ++ ((its_Marks_init_1_once.drop 5).take 1)) (fun vs zs => vs ++ (([.non, .int 0, .non, .bl false, .bl false, .bl false].drop 0).take 1) ++ (([.non, .int 0, .non, .bl false, .bl false, .bl false].drop 1).take 1) ++ (([.non, .int 0, .non, .bl false, .bl false, .bl false].drop 2).take 1) ++ (([.non, .int 0, .non, .bl false, .bl false, .bl false].drop 3).take 1) ++ ((zs.drop 0).take 1) ++ (([.non, .int 0, .non, .bl false, .bl false, .bl false].drop 5).take 1))
  its_Off_init_2_marks : List Value
  kb_Off_init_2_marks : KBn K d_Off_init ["self", "amount", "marks"] 2 ["marks"] (fun us ws => us ++ ((ws.drop 0).take 1)) (fun vs zs => vs ++ ((zs.drop 0).take 1))
  its_Share_init_2_marks : List Value
  kb_Share_init_2_marks : KBn K d_Share_init ["self", "share", "by_line", "marks"] 2 ["marks"] (fun us ws => us ++ ((its_Share_init_2_marks.drop 0).take 1) ++ ((ws.drop 0).take 1)) (fun vs zs => vs ++ (([.bl false, .non].drop 0).take 1) ++ ((zs.drop 0).take 1))
  its_Voucher_init_1_marks : List Value
  kb_Voucher_init_1_marks : KBn K d_Voucher_init ["self", "marks"] 1 ["marks"] (fun us ws => us ++ ((ws.drop 0).take 1)) (fun vs zs => vs ++ ((zs.drop 0).take 1))
  mk_Bundle : Mk K C_Bundle f_Bundle_init
  mk_Carriage : Mk K C_Carriage f_Voucher_init
  mk_Cheapest : Mk K C_Cheapest f_Cheapest_init
  mk_Marks : Mk K C_Marks f_Marks_init
  mk_Off : Mk K C_Off f_Off_init
  mk_Share : Mk K C_Share f_Share_init
  cr_Voucher : CRead K C_Voucher (.type "type")
  cv_Voucher_Voucher_init : CVal K C_Voucher (.type "type") "__init__" (.ref f_Voucher_init) (.ref f_Voucher_init)
  g_bool : mg "bool" = none
  g_int : mg "int" = none
  g_isinstance : mg "isinstance" = none
  g_range : mg "range" = none
theorem hA_Bundle_init_3_marks {K : PySem.W.Frag} {mg : Str → Option Value} : ∀ (p : Int × Int × (Option MarksD) × Unit) (vs zs : List V) (I H : Hp), vs.length = 2 → zs.length = 1 → _root_.T.Args (Gb.mk K mg) [.im (Py.r (Gb.mk K mg) p.1), .im (Py.r (Gb.mk K mg) p.2.1), .im (Py.r (Gb.mk K mg) p.2.2.1)] (vs ++ zs) I H → _root_.T.Args (Gb.mk K mg) [.im (Py.r (Gb.mk K mg) p.1), .im (Py.r (Gb.mk K mg) p.2.1), .im (Py.r (Gb.mk K mg) p.2.2.1)] ((fun vs zs => vs ++ ((zs.drop 0).take 1)) vs zs) I H := fun p vs zs I H l1 l2 h => match vs, l1, h with | [a0, a1], _, h => match zs, l2, h with | [b0], _, h => match (show Paired (fun (k : RK) (v : V) => RK.holds (Gb.mk K mg) k H v I H) [.im (Py.r (Gb.mk K mg) p.1), .im (Py.r (Gb.mk K mg) p.2.1), .im (Py.r (Gb.mk K mg) p.2.2.1)] [a0, a1, b0] from h) with | .cons h0 (.cons h1 (.cons h2 (.nil))) => (show Paired (fun (k : RK) (v : V) => RK.holds (Gb.mk K mg) k H v I H) [.im (Py.r (Gb.mk K mg) p.1), .im (Py.r (Gb.mk K mg) p.2.1), .im (Py.r (Gb.mk K mg) p.2.2.1)] [a0, a1, b0] from .cons (by exact h0) (.cons (by exact h1) (.cons (by exact h2) (.nil))))
theorem hA_Cheapest_init_2_marks {K : PySem.W.Frag} {mg : Str → Option Value} : ∀ (p : Int × (Option MarksD) × Unit) (vs zs : List V) (I H : Hp), vs.length = 1 → zs.length = 1 → _root_.T.Args (Gb.mk K mg) [.im (Py.r (Gb.mk K mg) p.1), .im (Py.r (Gb.mk K mg) p.2.1)] (vs ++ zs) I H → _root_.T.Args (Gb.mk K mg) [.im (Py.r (Gb.mk K mg) p.1), .im (Py.r (Gb.mk K mg) p.2.1)] ((fun vs zs => vs ++ ((zs.drop 0).take 1)) vs zs) I H := fun p vs zs I H l1 l2 h => match vs, l1, h with | [a0], _, h => match zs, l2, h with | [b0], _, h => match (show Paired (fun (k : RK) (v : V) => RK.holds (Gb.mk K mg) k H v I H) [.im (Py.r (Gb.mk K mg) p.1), .im (Py.r (Gb.mk K mg) p.2.1)] [a0, b0] from h) with | .cons h0 (.cons h1 (.nil)) => (show Paired (fun (k : RK) (v : V) => RK.holds (Gb.mk K mg) k H v I H) [.im (Py.r (Gb.mk K mg) p.1), .im (Py.r (Gb.mk K mg) p.2.1)] [a0, b0] from .cons (by exact h0) (.cons (by exact h1) (.nil)))
theorem hA_Marks_init_1_kind {K : PySem.W.Frag} {mg : Str → Option Value} : ∀ (p : (Option Int) × Unit) (zs : List V) (I H : Hp), zs.length = 1 → _root_.T.Args (Gb.mk K mg) [.im (Py.r (Gb.mk K mg) p.1)] zs I H → _root_.T.Args (Gb.mk K mg) [.im (Py.r (Gb.mk K mg) p.1), .im (Py.r (Gb.mk K mg) ((0 : Int) : Int)), .im (Py.r (Gb.mk K mg) (none : (Option Int))), .im (Py.r (Gb.mk K mg) (false : Bool)), .im (Py.r (Gb.mk K mg) (false : Bool)), .im (Py.r (Gb.mk K mg) (false : Bool))] ((fun zs => [] ++ ((zs.drop 0).take 1) ++ ((([.non, .int 0, .non, .bl false, .bl false, .bl false] : List V).drop 1).take 1) ++ ((([.non, .int 0, .non, .bl false, .bl false, .bl false] : List V).drop 2).take 1) ++ ((([.non, .int 0, .non, .bl false, .bl false, .bl false] : List V).drop 3).take 1) ++ ((([.non, .int 0, .non, .bl false, .bl false, .bl false] : List V).drop 4).take 1) ++ ((([.non, .int 0, .non, .bl false, .bl false, .bl false] : List V).drop 5).take 1)) zs) I H := fun p zs I H l2 h => match zs, l2, h with | [b0], _, h => match (show Paired (fun (k : RK) (v : V) => RK.holds (Gb.mk K mg) k H v I H) [.im (Py.r (Gb.mk K mg) p.1)] [b0] from h) with | .cons h0 (.nil) => (show Paired (fun (k : RK) (v : V) => RK.holds (Gb.mk K mg) k H v I H) [.im (Py.r (Gb.mk K mg) p.1), .im (Py.r (Gb.mk K mg) ((0 : Int) : Int)), .im (Py.r (Gb.mk K mg) (none : (Option Int))), .im (Py.r (Gb.mk K mg) (false : Bool)), .im (Py.r (Gb.mk K mg) (false : Bool)), .im (Py.r (Gb.mk K mg) (false : Bool))] [b0, .int 0, .non, .bl false, .bl false, .bl false] from .cons (by exact h0) (.cons (by exact rfl) (.cons (by exact rfl) (.cons (by exact rfl) (.cons (by exact rfl) (.cons (by exact rfl) (.nil)))))))
theorem hA_Marks_init_1_lone {K : PySem.W.Frag} {mg : Str → Option Value} : ∀ (p : Bool × Unit) (zs : List V) (I H : Hp), zs.length = 1 → _root_.T.Args (Gb.mk K mg) [.im (Py.r (Gb.mk K mg) p.1)] zs I H → _root_.T.Args (Gb.mk K mg) [.im (Py.r (Gb.mk K mg) (none : (Option Int))), .im (Py.r (Gb.mk K mg) ((0 : Int) : Int)), .im (Py.r (Gb.mk K mg) (none : (Option Int))), .im (Py.r (Gb.mk K mg) (false : Bool)), .im (Py.r (Gb.mk K mg) (false : Bool)), .im (Py.r (Gb.mk K mg) p.1)] ((fun zs => [] ++ ((([.non, .int 0, .non, .bl false, .bl false, .bl false] : List V).drop 0).take 1) ++ ((([.non, .int 0, .non, .bl false, .bl false, .bl false] : List V).drop 1).take 1) ++ ((([.non, .int 0, .non, .bl false, .bl false, .bl false] : List V).drop 2).take 1) ++ ((([.non, .int 0, .non, .bl false, .bl false, .bl false] : List V).drop 3).take 1) ++ ((([.non, .int 0, .non, .bl false, .bl false, .bl false] : List V).drop 4).take 1) ++ ((zs.drop 0).take 1)) zs) I H := fun p zs I H l2 h => match zs, l2, h with | [b0], _, h => match (show Paired (fun (k : RK) (v : V) => RK.holds (Gb.mk K mg) k H v I H) [.im (Py.r (Gb.mk K mg) p.1)] [b0] from h) with | .cons h0 (.nil) => (show Paired (fun (k : RK) (v : V) => RK.holds (Gb.mk K mg) k H v I H) [.im (Py.r (Gb.mk K mg) (none : (Option Int))), .im (Py.r (Gb.mk K mg) ((0 : Int) : Int)), .im (Py.r (Gb.mk K mg) (none : (Option Int))), .im (Py.r (Gb.mk K mg) (false : Bool)), .im (Py.r (Gb.mk K mg) (false : Bool)), .im (Py.r (Gb.mk K mg) p.1)] [.non, .int 0, .non, .bl false, .bl false, b0] from .cons (by exact rfl) (.cons (by exact rfl) (.cons (by exact rfl) (.cons (by exact rfl) (.cons (by exact rfl) (.cons (by exact h0) (.nil)))))))
theorem hA_Marks_init_1_lone_once_member_most_needs_kind {K : PySem.W.Frag} {mg : Str → Option Value} : ∀ (p : Bool × Bool × Bool × (Option Int) × Int × (Option Int) × Unit) (zs : List V) (I H : Hp), zs.length = 6 → _root_.T.Args (Gb.mk K mg) [.im (Py.r (Gb.mk K mg) p.1), .im (Py.r (Gb.mk K mg) p.2.1), .im (Py.r (Gb.mk K mg) p.2.2.1), .im (Py.r (Gb.mk K mg) p.2.2.2.1), .im (Py.r (Gb.mk K mg) p.2.2.2.2.1), .im (Py.r (Gb.mk K mg) p.2.2.2.2.2.1)] zs I H → _root_.T.Args (Gb.mk K mg) [.im (Py.r (Gb.mk K mg) p.2.2.2.2.2.1), .im (Py.r (Gb.mk K mg) p.2.2.2.2.1), .im (Py.r (Gb.mk K mg) p.2.2.2.1), .im (Py.r (Gb.mk K mg) p.2.2.1), .im (Py.r (Gb.mk K mg) p.2.1), .im (Py.r (Gb.mk K mg) p.1)] ((fun zs => [] ++ ((zs.drop 5).take 1) ++ ((zs.drop 4).take 1) ++ ((zs.drop 3).take 1) ++ ((zs.drop 2).take 1) ++ ((zs.drop 1).take 1) ++ ((zs.drop 0).take 1)) zs) I H := fun p zs I H l2 h => match zs, l2, h with | [b0, b1, b2, b3, b4, b5], _, h => match (show Paired (fun (k : RK) (v : V) => RK.holds (Gb.mk K mg) k H v I H) [.im (Py.r (Gb.mk K mg) p.1), .im (Py.r (Gb.mk K mg) p.2.1), .im (Py.r (Gb.mk K mg) p.2.2.1), .im (Py.r (Gb.mk K mg) p.2.2.2.1), .im (Py.r (Gb.mk K mg) p.2.2.2.2.1), .im (Py.r (Gb.mk K mg) p.2.2.2.2.2.1)] [b0, b1, b2, b3, b4, b5] from h) with | .cons h0 (.cons h1 (.cons h2 (.cons h3 (.cons h4 (.cons h5 (.nil)))))) => (show Paired (fun (k : RK) (v : V) => RK.holds (Gb.mk K mg) k H v I H) [.im (Py.r (Gb.mk K mg) p.2.2.2.2.2.1), .im (Py.r (Gb.mk K mg) p.2.2.2.2.1), .im (Py.r (Gb.mk K mg) p.2.2.2.1), .im (Py.r (Gb.mk K mg) p.2.2.1), .im (Py.r (Gb.mk K mg) p.2.1), .im (Py.r (Gb.mk K mg) p.1)] [b5, b4, b3, b2, b1, b0] from .cons (by exact h5) (.cons (by exact h4) (.cons (by exact h3) (.cons (by exact h2) (.cons (by exact h1) (.cons (by exact h0) (.nil)))))))
theorem hA_Marks_init_1_member {K : PySem.W.Frag} {mg : Str → Option Value} : ∀ (p : Bool × Unit) (zs : List V) (I H : Hp), zs.length = 1 → _root_.T.Args (Gb.mk K mg) [.im (Py.r (Gb.mk K mg) p.1)] zs I H → _root_.T.Args (Gb.mk K mg) [.im (Py.r (Gb.mk K mg) (none : (Option Int))), .im (Py.r (Gb.mk K mg) ((0 : Int) : Int)), .im (Py.r (Gb.mk K mg) (none : (Option Int))), .im (Py.r (Gb.mk K mg) p.1), .im (Py.r (Gb.mk K mg) (false : Bool)), .im (Py.r (Gb.mk K mg) (false : Bool))] ((fun zs => [] ++ ((([.non, .int 0, .non, .bl false, .bl false, .bl false] : List V).drop 0).take 1) ++ ((([.non, .int 0, .non, .bl false, .bl false, .bl false] : List V).drop 1).take 1) ++ ((([.non, .int 0, .non, .bl false, .bl false, .bl false] : List V).drop 2).take 1) ++ ((zs.drop 0).take 1) ++ ((([.non, .int 0, .non, .bl false, .bl false, .bl false] : List V).drop 4).take 1) ++ ((([.non, .int 0, .non, .bl false, .bl false, .bl false] : List V).drop 5).take 1)) zs) I H := fun p zs I H l2 h => match zs, l2, h with | [b0], _, h => match (show Paired (fun (k : RK) (v : V) => RK.holds (Gb.mk K mg) k H v I H) [.im (Py.r (Gb.mk K mg) p.1)] [b0] from h) with | .cons h0 (.nil) => (show Paired (fun (k : RK) (v : V) => RK.holds (Gb.mk K mg) k H v I H) [.im (Py.r (Gb.mk K mg) (none : (Option Int))), .im (Py.r (Gb.mk K mg) ((0 : Int) : Int)), .im (Py.r (Gb.mk K mg) (none : (Option Int))), .im (Py.r (Gb.mk K mg) p.1), .im (Py.r (Gb.mk K mg) (false : Bool)), .im (Py.r (Gb.mk K mg) (false : Bool))] [.non, .int 0, .non, b0, .bl false, .bl false] from .cons (by exact rfl) (.cons (by exact rfl) (.cons (by exact rfl) (.cons (by exact h0) (.cons (by exact rfl) (.cons (by exact rfl) (.nil)))))))
theorem hA_Marks_init_1_most {K : PySem.W.Frag} {mg : Str → Option Value} : ∀ (p : (Option Int) × Unit) (zs : List V) (I H : Hp), zs.length = 1 → _root_.T.Args (Gb.mk K mg) [.im (Py.r (Gb.mk K mg) p.1)] zs I H → _root_.T.Args (Gb.mk K mg) [.im (Py.r (Gb.mk K mg) (none : (Option Int))), .im (Py.r (Gb.mk K mg) ((0 : Int) : Int)), .im (Py.r (Gb.mk K mg) p.1), .im (Py.r (Gb.mk K mg) (false : Bool)), .im (Py.r (Gb.mk K mg) (false : Bool)), .im (Py.r (Gb.mk K mg) (false : Bool))] ((fun zs => [] ++ ((([.non, .int 0, .non, .bl false, .bl false, .bl false] : List V).drop 0).take 1) ++ ((([.non, .int 0, .non, .bl false, .bl false, .bl false] : List V).drop 1).take 1) ++ ((zs.drop 0).take 1) ++ ((([.non, .int 0, .non, .bl false, .bl false, .bl false] : List V).drop 3).take 1) ++ ((([.non, .int 0, .non, .bl false, .bl false, .bl false] : List V).drop 4).take 1) ++ ((([.non, .int 0, .non, .bl false, .bl false, .bl false] : List V).drop 5).take 1)) zs) I H := fun p zs I H l2 h => match zs, l2, h with | [b0], _, h => match (show Paired (fun (k : RK) (v : V) => RK.holds (Gb.mk K mg) k H v I H) [.im (Py.r (Gb.mk K mg) p.1)] [b0] from h) with | .cons h0 (.nil) => (show Paired (fun (k : RK) (v : V) => RK.holds (Gb.mk K mg) k H v I H) [.im (Py.r (Gb.mk K mg) (none : (Option Int))), .im (Py.r (Gb.mk K mg) ((0 : Int) : Int)), .im (Py.r (Gb.mk K mg) p.1), .im (Py.r (Gb.mk K mg) (false : Bool)), .im (Py.r (Gb.mk K mg) (false : Bool)), .im (Py.r (Gb.mk K mg) (false : Bool))] [.non, .int 0, b0, .bl false, .bl false, .bl false] from .cons (by exact rfl) (.cons (by exact rfl) (.cons (by exact h0) (.cons (by exact rfl) (.cons (by exact rfl) (.cons (by exact rfl) (.nil)))))))
theorem hA_Marks_init_1_needs {K : PySem.W.Frag} {mg : Str → Option Value} : ∀ (p : Int × Unit) (zs : List V) (I H : Hp), zs.length = 1 → _root_.T.Args (Gb.mk K mg) [.im (Py.r (Gb.mk K mg) p.1)] zs I H → _root_.T.Args (Gb.mk K mg) [.im (Py.r (Gb.mk K mg) (none : (Option Int))), .im (Py.r (Gb.mk K mg) p.1), .im (Py.r (Gb.mk K mg) (none : (Option Int))), .im (Py.r (Gb.mk K mg) (false : Bool)), .im (Py.r (Gb.mk K mg) (false : Bool)), .im (Py.r (Gb.mk K mg) (false : Bool))] ((fun zs => [] ++ ((([.non, .int 0, .non, .bl false, .bl false, .bl false] : List V).drop 0).take 1) ++ ((zs.drop 0).take 1) ++ ((([.non, .int 0, .non, .bl false, .bl false, .bl false] : List V).drop 2).take 1) ++ ((([.non, .int 0, .non, .bl false, .bl false, .bl false] : List V).drop 3).take 1) ++ ((([.non, .int 0, .non, .bl false, .bl false, .bl false] : List V).drop 4).take 1) ++ ((([.non, .int 0, .non, .bl false, .bl false, .bl false] : List V).drop 5).take 1)) zs) I H := fun p zs I H l2 h => match zs, l2, h with | [b0], _, h => match (show Paired (fun (k : RK) (v : V) => RK.holds (Gb.mk K mg) k H v I H) [.im (Py.r (Gb.mk K mg) p.1)] [b0] from h) with | .cons h0 (.nil) => (show Paired (fun (k : RK) (v : V) => RK.holds (Gb.mk K mg) k H v I H) [.im (Py.r (Gb.mk K mg) (none : (Option Int))), .im (Py.r (Gb.mk K mg) p.1), .im (Py.r (Gb.mk K mg) (none : (Option Int))), .im (Py.r (Gb.mk K mg) (false : Bool)), .im (Py.r (Gb.mk K mg) (false : Bool)), .im (Py.r (Gb.mk K mg) (false : Bool))] [.non, b0, .non, .bl false, .bl false, .bl false] from .cons (by exact rfl) (.cons (by exact h0) (.cons (by exact rfl) (.cons (by exact rfl) (.cons (by exact rfl) (.cons (by exact rfl) (.nil)))))))
theorem hA_Marks_init_1_once {K : PySem.W.Frag} {mg : Str → Option Value} : ∀ (p : Bool × Unit) (zs : List V) (I H : Hp), zs.length = 1 → _root_.T.Args (Gb.mk K mg) [.im (Py.r (Gb.mk K mg) p.1)] zs I H → _root_.T.Args (Gb.mk K mg) [.im (Py.r (Gb.mk K mg) (none : (Option Int))), .im (Py.r (Gb.mk K mg) ((0 : Int) : Int)), .im (Py.r (Gb.mk K mg) (none : (Option Int))), .im (Py.r (Gb.mk K mg) (false : Bool)), .im (Py.r (Gb.mk K mg) p.1), .im (Py.r (Gb.mk K mg) (false : Bool))] ((fun zs => [] ++ ((([.non, .int 0, .non, .bl false, .bl false, .bl false] : List V).drop 0).take 1) ++ ((([.non, .int 0, .non, .bl false, .bl false, .bl false] : List V).drop 1).take 1) ++ ((([.non, .int 0, .non, .bl false, .bl false, .bl false] : List V).drop 2).take 1) ++ ((([.non, .int 0, .non, .bl false, .bl false, .bl false] : List V).drop 3).take 1) ++ ((zs.drop 0).take 1) ++ ((([.non, .int 0, .non, .bl false, .bl false, .bl false] : List V).drop 5).take 1)) zs) I H := fun p zs I H l2 h => match zs, l2, h with | [b0], _, h => match (show Paired (fun (k : RK) (v : V) => RK.holds (Gb.mk K mg) k H v I H) [.im (Py.r (Gb.mk K mg) p.1)] [b0] from h) with | .cons h0 (.nil) => (show Paired (fun (k : RK) (v : V) => RK.holds (Gb.mk K mg) k H v I H) [.im (Py.r (Gb.mk K mg) (none : (Option Int))), .im (Py.r (Gb.mk K mg) ((0 : Int) : Int)), .im (Py.r (Gb.mk K mg) (none : (Option Int))), .im (Py.r (Gb.mk K mg) (false : Bool)), .im (Py.r (Gb.mk K mg) p.1), .im (Py.r (Gb.mk K mg) (false : Bool))] [.non, .int 0, .non, .bl false, b0, .bl false] from .cons (by exact rfl) (.cons (by exact rfl) (.cons (by exact rfl) (.cons (by exact rfl) (.cons (by exact h0) (.cons (by exact rfl) (.nil)))))))
theorem hA_Off_init_2_marks {K : PySem.W.Frag} {mg : Str → Option Value} : ∀ (p : Int × (Option MarksD) × Unit) (vs zs : List V) (I H : Hp), vs.length = 1 → zs.length = 1 → _root_.T.Args (Gb.mk K mg) [.im (Py.r (Gb.mk K mg) p.1), .im (Py.r (Gb.mk K mg) p.2.1)] (vs ++ zs) I H → _root_.T.Args (Gb.mk K mg) [.im (Py.r (Gb.mk K mg) p.1), .im (Py.r (Gb.mk K mg) p.2.1)] ((fun vs zs => vs ++ ((zs.drop 0).take 1)) vs zs) I H := fun p vs zs I H l1 l2 h => match vs, l1, h with | [a0], _, h => match zs, l2, h with | [b0], _, h => match (show Paired (fun (k : RK) (v : V) => RK.holds (Gb.mk K mg) k H v I H) [.im (Py.r (Gb.mk K mg) p.1), .im (Py.r (Gb.mk K mg) p.2.1)] [a0, b0] from h) with | .cons h0 (.cons h1 (.nil)) => (show Paired (fun (k : RK) (v : V) => RK.holds (Gb.mk K mg) k H v I H) [.im (Py.r (Gb.mk K mg) p.1), .im (Py.r (Gb.mk K mg) p.2.1)] [a0, b0] from .cons (by exact h0) (.cons (by exact h1) (.nil)))
theorem hA_Share_init_2_marks {K : PySem.W.Frag} {mg : Str → Option Value} : ∀ (p : Int × (Option MarksD) × Unit) (vs zs : List V) (I H : Hp), vs.length = 1 → zs.length = 1 → _root_.T.Args (Gb.mk K mg) [.im (Py.r (Gb.mk K mg) p.1), .im (Py.r (Gb.mk K mg) p.2.1)] (vs ++ zs) I H → _root_.T.Args (Gb.mk K mg) [.im (Py.r (Gb.mk K mg) p.1), .im (Py.r (Gb.mk K mg) (false : Bool)), .im (Py.r (Gb.mk K mg) p.2.1)] ((fun vs zs => vs ++ ((([.bl false, .non] : List V).drop 0).take 1) ++ ((zs.drop 0).take 1)) vs zs) I H := fun p vs zs I H l1 l2 h => match vs, l1, h with | [a0], _, h => match zs, l2, h with | [b0], _, h => match (show Paired (fun (k : RK) (v : V) => RK.holds (Gb.mk K mg) k H v I H) [.im (Py.r (Gb.mk K mg) p.1), .im (Py.r (Gb.mk K mg) p.2.1)] [a0, b0] from h) with | .cons h0 (.cons h1 (.nil)) => (show Paired (fun (k : RK) (v : V) => RK.holds (Gb.mk K mg) k H v I H) [.im (Py.r (Gb.mk K mg) p.1), .im (Py.r (Gb.mk K mg) (false : Bool)), .im (Py.r (Gb.mk K mg) p.2.1)] [a0, .bl false, b0] from .cons (by exact h0) (.cons (by exact rfl) (.cons (by exact h1) (.nil))))
theorem hA_Voucher_init_1_marks {K : PySem.W.Frag} {mg : Str → Option Value} : ∀ (p : (Option MarksD) × Unit) (zs : List V) (I H : Hp), zs.length = 1 → _root_.T.Args (Gb.mk K mg) [.im (Py.r (Gb.mk K mg) p.1)] zs I H → _root_.T.Args (Gb.mk K mg) [.im (Py.r (Gb.mk K mg) p.1)] ((fun zs => [] ++ ((zs.drop 0).take 1)) zs) I H := fun p zs I H l2 h => match zs, l2, h with | [b0], _, h => match (show Paired (fun (k : RK) (v : V) => RK.holds (Gb.mk K mg) k H v I H) [.im (Py.r (Gb.mk K mg) p.1)] [b0] from h) with | .cons h0 (.nil) => (show Paired (fun (k : RK) (v : V) => RK.holds (Gb.mk K mg) k H v I H) [.im (Py.r (Gb.mk K mg) p.1)] [b0] from .cons (by exact h0) (.nil))
section
variable {P : Program} {w : World} {K : PySem.W.Frag} {mg : Str → Option Value} {base : Heap}
theorem ok_law_mix (T : Tx K mg) : FnOk P w K mg base CX0 1 T.f_law_mix T.d_law_mix ["_law_cell", "_law_factor", "_law_prime"] (spT (Gb.mk K mg) (fun p : Int × Int × Int × Unit => [.im (Py.r (Gb.mk K mg) p.1), .im (Py.r (Gb.mk K mg) p.2.1), .im (Py.r (Gb.mk K mg) p.2.2.1)]) (fun p => M.law_mix p.1 p.2.1 p.2.2.1) (fun r => .im (Py.r (Gb.mk K mg) (r : Int)))) := by
  refine fnx_mk T.F_law_mix sc_law_mix (fun _ => rfl) (fun _ => rfl) (by decide) (fun cdv A outer s H E I p hr => ?_)
  obtain ⟨x_law_cell, x_law_factor, x_law_prime, ⟨⟩⟩ := p
  refine MB.eq (mb_retT (ME.p2 (me_mod (ME.p1 (ME.p1 (me_mul (me_var 0) (me_var 1)))) (me_var 2)))) ?_
  delta M.law_mix
  rfl
theorem ok_law_coin (T : Tx K mg) : FnOk P w K mg base CX0 1 T.f_law_coin T.d_law_coin ["_law_cell"] (spT (Gb.mk K mg) (fun p : Int × Unit => [.im (Py.r (Gb.mk K mg) p.1)]) (fun p => M.law_coin p.1) (fun r => .im (Py.r (Gb.mk K mg) (r : Int)))) := by
  refine fnx_mk T.F_law_coin sc_law_coin (fun _ => rfl) (fun _ => rfl) (by decide) (fun cdv A outer s H E I p hr => ?_)
  obtain ⟨x_law_cell, ⟨⟩⟩ := p
  refine MB.eq (MB.p1 (mb_set 1 sc_law_coin.nd (ME.p1 (me_modC (n := 4) (by decide) (me_var 0) me_int)) (fun x_law_how => MB.p1 (mb_ift (mt_cm (MC.p1 (MC.p1 (mc_eq (α := Int) hr.units (Nat.le_of_ble_eq_true rfl) (me_var 1) me_int)))) (mb_retT (ME.p1 (me_modC (n := 10) (by decide) (ME.p1 (me_divC (n := 4) (by decide) (me_var 0) me_int)) me_int))) (MB.p1 (mb_ift (mt_cm (MC.p1 (MC.p1 (mc_eq (α := Int) hr.units (Nat.le_of_ble_eq_true rfl) (me_var 1) me_int)))) (mb_retT (ME.p1 (me_modC (n := 1000) (by decide) (ME.p1 (me_divC (n := 4) (by decide) (me_var 0) me_int)) me_int))) (MB.p1 (mb_ift (mt_cm (MC.p1 (MC.p1 (mc_eq (α := Int) hr.units (Nat.le_of_ble_eq_true rfl) (me_var 1) me_int)))) (mb_eqS (S' := [some (.im (Py.r (Gb.mk K mg) (x_law_cell : Int))), some (.im (Py.r (Gb.mk K mg) (x_law_how : Int)))]) rfl (mb_retT (ME.p1 (ME.p1 (me_ix (me_lst (α := Int) (ML.p1 (ML.p1 (ml_cons me_int (ML.p1 (ML.p1 (ml_cons me_int (ML.p1 (ML.p1 (ml_cons me_int (ML.p1 (ML.p1 (ml_cons me_int ml_nil))))))))))))) (ME.p1 (me_modC (n := 4) (by decide) (ME.p1 (me_divC (n := 4) (by decide) (me_var 0) me_int)) me_int))))))) (mb_eqS (S' := [some (.im (Py.r (Gb.mk K mg) (x_law_cell : Int))), some (.im (Py.r (Gb.mk K mg) (x_law_how : Int)))]) rfl (mb_retT (ME.p1 (me_modC (n := 1000000000001) (by decide) (ME.p1 (me_mulC (n := 48271) (by decide) (ME.p1 (me_divC (n := 4) (by decide) (me_var 0) me_int)) me_int)) me_int)))) hk_t)) hk_t)) hk_t)))) ?_
  delta M.law_coin
  rfl
theorem ok_Marks_init (T : Tx K mg) : FnOk P w K mg base CX0 1 T.f_Marks_init T.d_Marks_init ["self", "kind", "needs", "most", "member", "once", "lone"] (spIO (Gb.mk K mg) (fun p : (Option Int) × Int × (Option Int) × Bool × Bool × Bool × Unit => .ow (oC (wI (Gb.mk K mg) "Marks" []) []) :: [.im (Py.r (Gb.mk K mg) p.1), .im (Py.r (Gb.mk K mg) p.2.1), .im (Py.r (Gb.mk K mg) p.2.2.1), .im (Py.r (Gb.mk K mg) p.2.2.2.1), .im (Py.r (Gb.mk K mg) p.2.2.2.2.1), .im (Py.r (Gb.mk K mg) p.2.2.2.2.2.1)]) (fun p => some (M.Marks_init p.1 p.2.1 p.2.2.1 p.2.2.2.1 p.2.2.2.2.1 p.2.2.2.2.2.1)) (fun _ => .im (Py.r (Gb.mk K mg) ())) (fun r : MarksD => [(0, (o_Marks K mg r))])) := by
  refine fiu_mk T.F_Marks_init sc_Marks_init (fun _ => rfl) (by decide) (fun _ p hp => by rw [List.mem_singleton.mp hp]; exact Nat.succ_pos _) (fun cdv A outer s H E I R u p hr => ?_)
  obtain ⟨x_kind, x_needs, x_most, x_member, x_once, x_lone, ⟨⟩⟩ := p
  refine MB.eq (MB.p1 (MB.p1 (mb_fldN (me_var 1) (mp_pin 0 (v0 := u 0) (o1 := (oC (wI (Gb.mk K mg) "Marks" []) []))) ⟨_, T.m_Marks, T.cl_Marks, T.n_Marks_kind⟩ (fun _ x_self_kind => MB.p1 (MB.p1 (mb_fldN (me_var 2) (mp_pin 0 (v0 := u 0) (o1 := (oC (wI (Gb.mk K mg) "Marks" ["kind"]) [(oI (Py.r (Gb.mk K mg) (x_self_kind : (Option Int))))]))) ⟨_, T.m_Marks, T.cl_Marks, T.n_Marks_needs⟩ (fun _ x_self_needs => MB.p1 (MB.p1 (mb_fldN (me_var 3) (mp_pin 0 (v0 := u 0) (o1 := (oC (wI (Gb.mk K mg) "Marks" ["kind", "needs"]) [(oI (Py.r (Gb.mk K mg) (x_self_kind : (Option Int)))), (oI (Py.r (Gb.mk K mg) (x_self_needs : Int)))]))) ⟨_, T.m_Marks, T.cl_Marks, T.n_Marks_most⟩ (fun _ x_self_most => MB.p1 (MB.p1 (mb_fldN (me_var 4) (mp_pin 0 (v0 := u 0) (o1 := (oC (wI (Gb.mk K mg) "Marks" ["kind", "needs", "most"]) [(oI (Py.r (Gb.mk K mg) (x_self_kind : (Option Int)))), (oI (Py.r (Gb.mk K mg) (x_self_needs : Int))), (oI (Py.r (Gb.mk K mg) (x_self_most : (Option Int))))]))) ⟨_, T.m_Marks, T.cl_Marks, T.n_Marks_member⟩ (fun _ x_self_member => mb_eqS (S' := [some (.ow (oP (u 0) (oC (wI (Gb.mk K mg) "Marks" ["kind", "needs", "most", "member"]) [(oI (Py.r (Gb.mk K mg) (x_self_kind : (Option Int)))), (oI (Py.r (Gb.mk K mg) (x_self_needs : Int))), (oI (Py.r (Gb.mk K mg) (x_self_most : (Option Int)))), (oI (Py.r (Gb.mk K mg) (x_self_member : Bool)))]))), some (.im (Py.r (Gb.mk K mg) (x_kind : (Option Int)))), some (.im (Py.r (Gb.mk K mg) (x_needs : Int))), some (.im (Py.r (Gb.mk K mg) (x_most : (Option Int)))), some (.im (Py.r (Gb.mk K mg) (x_member : Bool))), some (.im (Py.r (Gb.mk K mg) (x_once : Bool))), some (.im (Py.r (Gb.mk K mg) (x_lone : Bool)))]) rfl (MB.p1 (MB.p1 (mb_fldN (me_var 5) (mp_pin 0 (v0 := u 0) (o1 := (oC (wI (Gb.mk K mg) "Marks" ["kind", "needs", "most", "member"]) [(oI (Py.r (Gb.mk K mg) (x_self_kind : (Option Int)))), (oI (Py.r (Gb.mk K mg) (x_self_needs : Int))), (oI (Py.r (Gb.mk K mg) (x_self_most : (Option Int)))), (oI (Py.r (Gb.mk K mg) (x_self_member : Bool)))]))) ⟨_, T.m_Marks, T.cl_Marks, T.n_Marks_once⟩ (fun _ x_self_once => MB.p1 (MB.p1 (mb_fldN (me_var 6) (mp_pin 0 (v0 := u 0) (o1 := (oC (wI (Gb.mk K mg) "Marks" ["kind", "needs", "most", "member", "once"]) [(oI (Py.r (Gb.mk K mg) (x_self_kind : (Option Int)))), (oI (Py.r (Gb.mk K mg) (x_self_needs : Int))), (oI (Py.r (Gb.mk K mg) (x_self_most : (Option Int)))), (oI (Py.r (Gb.mk K mg) (x_self_member : Bool))), (oI (Py.r (Gb.mk K mg) (x_self_once : Bool)))]))) ⟨_, T.m_Marks, T.cl_Marks, T.n_Marks_lone⟩ (fun _ x_self_lone => mb_endU (b := (MarksD.mk x_self_kind x_self_needs x_self_most x_self_member x_self_once x_self_lone)) (.cons rfl .nil))))))))))))))))))))) ?_
  delta M.Marks_init
  rfl
theorem ok_law_one_named (T : Tx K mg) : FnOk P w K mg base CX0 3 T.f_law_one_named T.d_law_one_named ["_law_branch", "_law_least", "_law_top", "_law_bits", "_law_pick"] (spT (Gb.mk K mg) (fun p : (Option Int) × Int × (Option Int) × (List Bool) × Int × Unit => [.im (Py.r (Gb.mk K mg) p.1), .im (Py.r (Gb.mk K mg) p.2.1), .im (Py.r (Gb.mk K mg) p.2.2.1), .bw (rl (Gb.mk K mg) p.2.2.2.1), .im (Py.r (Gb.mk K mg) p.2.2.2.2.1)]) (fun p => M.law_one_named p.1 p.2.1 p.2.2.1 p.2.2.2.1 p.2.2.2.2.1) (fun r => .im (Py.r (Gb.mk K mg) (r : (T2 MarksD (List PyData)))))) := by
  refine fnx_mk T.F_law_one_named sc_law_one_named (fun _ => rfl) (fun _ => rfl) (by decide) (fun cdv A outer s H E I p hr => ?_)
  obtain ⟨x_law_branch, x_law_least, x_law_top, x_law_bits, x_law_pick, ⟨⟩⟩ := p
  refine MB.eq (MB.p1 (mb_set 5 sc_law_one_named.nd (me_lst (α := PyData) (ML.p1 (ML.p1 (ml_cons (ME.p1 (me_toD (α := (Option Int)) me_non)) (ML.p1 (ML.p1 (ml_cons (ME.p1 (me_toD (α := Int) me_int)) (ML.p1 (ML.p1 (ml_cons (ME.p1 (me_toD (α := (Option Int)) me_non)) (ML.p1 (ML.p1 (ml_cons (ME.p1 (me_toD (α := Bool) me_bl)) (ML.p1 (ML.p1 (ml_cons (ME.p1 (me_toD (α := Bool) me_bl)) (ML.p1 (ML.p1 (ml_cons (ME.p1 (me_toD (α := Bool) me_bl)) ml_nil))))))))))))))))))) (fun x_law_rest => MB.p2 (mb_seti 5 (ME.p2 (me_ix (ME.p1 (ME.p1 (me_cat (me_lst (α := PyData) (ML.p1 (ML.p1 (ml_cons (ME.p1 (me_toD (α := (Option Int)) (me_var 0))) (ML.p1 (ML.p1 (ml_cons (ME.p1 (me_toD (α := Int) (me_var 1))) (ML.p1 (ML.p1 (ml_cons (ME.p1 (me_toD (α := (Option Int)) (me_var 2))) ml_nil)))))))))) (ME.p1 (me_toDR (α := Bool) (me_bor 3)))))) (me_var 4))) (me_var 4) (fun x_law_rest => MB.p1 (mb_set 6 sc_law_one_named.nd (me_lst (α := MarksD) (ML.p1 (ML.p1 (ml_cons (me_frzO (fun _ => (z_Marks _)) (ME.eq (m' := (some (M.Marks_init x_law_branch ((0 : Int) : Int) (none : (Option Int)) (false : Bool) (false : Bool) (false : Bool)))) (me_makeK0 (or := fun r => o_Marks K mg r) (fun p : (Option Int) × Unit => (p.1, ((0 : Int) : Int), (none : (Option Int)), (false : Bool), (false : Bool), (false : Bool), ())) (fun zs => [] ++ ((zs.drop 0).take 1) ++ ((([.non, .int 0, .non, .bl false, .bl false, .bl false] : List V).drop 1).take 1) ++ ((([.non, .int 0, .non, .bl false, .bl false, .bl false] : List V).drop 2).take 1) ++ ((([.non, .int 0, .non, .bl false, .bl false, .bl false] : List V).drop 3).take 1) ++ ((([.non, .int 0, .non, .bl false, .bl false, .bl false] : List V).drop 4).take 1) ++ ((([.non, .int 0, .non, .bl false, .bl false, .bl false] : List V).drop 5).take 1)) (ok_Marks_init T) hr (by decide) T.mk_Marks T.m_Marks T.kb_Marks_init_1_kind (mk_cons (args := fun p : Unit => []) (me_var 0) co_im (fun _ => mk_nil)) hA_Marks_init_1_kind) rfl)) (ML.p1 (ML.p1 (ml_cons (me_frzO (fun _ => (z_Marks _)) (ME.eq (m' := (some (M.Marks_init (none : (Option Int)) x_law_least (none : (Option Int)) (false : Bool) (false : Bool) (false : Bool)))) (me_makeK0 (or := fun r => o_Marks K mg r) (fun p : Int × Unit => ((none : (Option Int)), p.1, (none : (Option Int)), (false : Bool), (false : Bool), (false : Bool), ())) (fun zs => [] ++ ((([.non, .int 0, .non, .bl false, .bl false, .bl false] : List V).drop 0).take 1) ++ ((zs.drop 0).take 1) ++ ((([.non, .int 0, .non, .bl false, .bl false, .bl false] : List V).drop 2).take 1) ++ ((([.non, .int 0, .non, .bl false, .bl false, .bl false] : List V).drop 3).take 1) ++ ((([.non, .int 0, .non, .bl false, .bl false, .bl false] : List V).drop 4).take 1) ++ ((([.non, .int 0, .non, .bl false, .bl false, .bl false] : List V).drop 5).take 1)) (ok_Marks_init T) hr (by decide) T.mk_Marks T.m_Marks T.kb_Marks_init_1_needs (mk_cons (args := fun p : Unit => []) (me_var 1) co_im (fun _ => mk_nil)) hA_Marks_init_1_needs) rfl)) (ML.p1 (ML.p1 (ml_cons (me_frzO (fun _ => (z_Marks _)) (ME.eq (m' := (some (M.Marks_init (none : (Option Int)) ((0 : Int) : Int) x_law_top (false : Bool) (false : Bool) (false : Bool)))) (me_makeK0 (or := fun r => o_Marks K mg r) (fun p : (Option Int) × Unit => ((none : (Option Int)), ((0 : Int) : Int), p.1, (false : Bool), (false : Bool), (false : Bool), ())) (fun zs => [] ++ ((([.non, .int 0, .non, .bl false, .bl false, .bl false] : List V).drop 0).take 1) ++ ((([.non, .int 0, .non, .bl false, .bl false, .bl false] : List V).drop 1).take 1) ++ ((zs.drop 0).take 1) ++ ((([.non, .int 0, .non, .bl false, .bl false, .bl false] : List V).drop 3).take 1) ++ ((([.non, .int 0, .non, .bl false, .bl false, .bl false] : List V).drop 4).take 1) ++ ((([.non, .int 0, .non, .bl false, .bl false, .bl false] : List V).drop 5).take 1)) (ok_Marks_init T) hr (by decide) T.mk_Marks T.m_Marks T.kb_Marks_init_1_most (mk_cons (args := fun p : Unit => []) (me_var 2) co_im (fun _ => mk_nil)) hA_Marks_init_1_most) rfl)) ml_nil)))))))))) (fun x_law_some => mb_set 6 sc_law_one_named.nd (ME.p1 (me_cat (me_own 6) (me_lst (α := MarksD) (ml_cons (me_frzO (fun _ => (z_Marks _)) (ME.eq (m' := ((atO x_law_bits (0 : Int)) >>= fun v17 => some (M.Marks_init (none : (Option Int)) ((0 : Int) : Int) (none : (Option Int)) v17 (false : Bool) (false : Bool)))) (me_makeK0 (or := fun r => o_Marks K mg r) (fun p : Bool × Unit => ((none : (Option Int)), ((0 : Int) : Int), (none : (Option Int)), p.1, (false : Bool), (false : Bool), ())) (fun zs => [] ++ ((([.non, .int 0, .non, .bl false, .bl false, .bl false] : List V).drop 0).take 1) ++ ((([.non, .int 0, .non, .bl false, .bl false, .bl false] : List V).drop 1).take 1) ++ ((([.non, .int 0, .non, .bl false, .bl false, .bl false] : List V).drop 2).take 1) ++ ((zs.drop 0).take 1) ++ ((([.non, .int 0, .non, .bl false, .bl false, .bl false] : List V).drop 4).take 1) ++ ((([.non, .int 0, .non, .bl false, .bl false, .bl false] : List V).drop 5).take 1)) (ok_Marks_init T) hr (by decide) T.mk_Marks T.m_Marks T.kb_Marks_init_1_member (mk_cons (args := fun p : Unit => []) (ME.p1 (ME.p1 (me_ix (me_bor 3) me_int))) co_im (fun _ => mk_nil)) hA_Marks_init_1_member) rfl)) (ml_cons (me_frzO (fun _ => (z_Marks _)) (ME.eq (m' := ((atO x_law_bits (1 : Int)) >>= fun v18 => some (M.Marks_init (none : (Option Int)) ((0 : Int) : Int) (none : (Option Int)) (false : Bool) v18 (false : Bool)))) (me_makeK0 (or := fun r => o_Marks K mg r) (fun p : Bool × Unit => ((none : (Option Int)), ((0 : Int) : Int), (none : (Option Int)), (false : Bool), p.1, (false : Bool), ())) (fun zs => [] ++ ((([.non, .int 0, .non, .bl false, .bl false, .bl false] : List V).drop 0).take 1) ++ ((([.non, .int 0, .non, .bl false, .bl false, .bl false] : List V).drop 1).take 1) ++ ((([.non, .int 0, .non, .bl false, .bl false, .bl false] : List V).drop 2).take 1) ++ ((([.non, .int 0, .non, .bl false, .bl false, .bl false] : List V).drop 3).take 1) ++ ((zs.drop 0).take 1) ++ ((([.non, .int 0, .non, .bl false, .bl false, .bl false] : List V).drop 5).take 1)) (ok_Marks_init T) hr (by decide) T.mk_Marks T.m_Marks T.kb_Marks_init_1_once (mk_cons (args := fun p : Unit => []) (ME.p1 (ME.p1 (me_ix (me_bor 3) me_int))) co_im (fun _ => mk_nil)) hA_Marks_init_1_once) rfl)) (ML.p2 (ml_cons (me_frzO (fun _ => (z_Marks _)) (ME.eq (m' := ((atO x_law_bits (2 : Int)) >>= fun v19 => some (M.Marks_init (none : (Option Int)) ((0 : Int) : Int) (none : (Option Int)) (false : Bool) (false : Bool) v19))) (me_makeK0 (or := fun r => o_Marks K mg r) (fun p : Bool × Unit => ((none : (Option Int)), ((0 : Int) : Int), (none : (Option Int)), (false : Bool), (false : Bool), p.1, ())) (fun zs => [] ++ ((([.non, .int 0, .non, .bl false, .bl false, .bl false] : List V).drop 0).take 1) ++ ((([.non, .int 0, .non, .bl false, .bl false, .bl false] : List V).drop 1).take 1) ++ ((([.non, .int 0, .non, .bl false, .bl false, .bl false] : List V).drop 2).take 1) ++ ((([.non, .int 0, .non, .bl false, .bl false, .bl false] : List V).drop 3).take 1) ++ ((([.non, .int 0, .non, .bl false, .bl false, .bl false] : List V).drop 4).take 1) ++ ((zs.drop 0).take 1)) (ok_Marks_init T) hr (by decide) T.mk_Marks T.m_Marks T.kb_Marks_init_1_lone (mk_cons (args := fun p : Unit => []) (ME.p1 (ME.p1 (me_ix (me_bor 3) me_int))) co_im (fun _ => mk_nil)) hA_Marks_init_1_lone) rfl)) ml_nil))))))) (fun x_law_some => mb_eqS (S' := [some (.im (Py.r (Gb.mk K mg) (x_law_branch : (Option Int)))), some (.im (Py.r (Gb.mk K mg) (x_law_least : Int))), some (.im (Py.r (Gb.mk K mg) (x_law_top : (Option Int)))), some (.bw (rl (Gb.mk K mg) (x_law_bits : (List Bool)))), some (.im (Py.r (Gb.mk K mg) (x_law_pick : Int))), some (.fr (rl (Gb.mk K mg) (x_law_rest : (List PyData)))), some (.fr (rl (Gb.mk K mg) (x_law_some : (List MarksD))))]) rfl (mb_frz 5 rfl (mb_retT (ME.p2 (me_t2 (ME.p1 (ME.p1 (me_ix (me_own 6) (me_var 4)))) (me_var 5))))))))))))) ?_
  delta M.law_one_named
  rfl
theorem ok_law_marks_by (T : Tx K mg) : FnOk P w K mg base CX0 4 T.f_law_marks_by T.d_law_marks_by ["_law_cell"] (spT (Gb.mk K mg) (fun p : Int × Unit => [.im (Py.r (Gb.mk K mg) p.1)]) (fun p => M.law_marks_by p.1) (fun r => .im (Py.r (Gb.mk K mg) (r : (T2 MarksD (List PyData)))))) := by
  refine fnx_mk T.F_law_marks_by sc_law_marks_by (fun _ => rfl) (fun _ => rfl) (by decide) (fun cdv A outer s H E I p hr => ?_)
  obtain ⟨x_law_cell, ⟨⟩⟩ := p
  refine MB.eq (MB.p1 (mb_set 1 sc_law_marks_by.nd (me_ifP (mt_cm (MC.p1 (MC.p1 (mc_eq (α := Int) hr.units (Nat.le_of_ble_eq_true rfl) (ME.p1 (me_modC (n := 2) (by decide) (me_var 0) me_int)) me_int)))) me_non (ME.p1 (me_some (ME.p1 (me_modC (n := 20) (by decide) (ME.p1 (me_divC (n := 2) (by decide) (me_var 0) me_int)) me_int))))) (fun x_law_branch => mb_set 2 sc_law_marks_by.nd (me_call (ok_law_coin T) hr (by decide) T.m_law_coin T.k_law_coin T.b_law_coin_1 .nil (ma_cons (args := fun p : Unit => []) (me_call (ok_law_mix T) hr (by decide) T.m_law_mix T.k_law_mix T.b_law_mix_3 .nil (MA.p1 (ma_cons (args := fun p : Int × Int × Unit => [.im (Py.r (Gb.mk K mg) p.1), .im (Py.r (Gb.mk K mg) p.2.1)]) (me_var 0) co_im (fun _ => (MA.p1 (ma_cons (args := fun p : Int × Unit => [.im (Py.r (Gb.mk K mg) p.1)]) me_int co_im (fun _ => (MA.p1 (ma_cons (args := fun p : Unit => []) me_int co_im (fun _ => ma_nl)))))))))) co_im (fun _ => ma_nl))) (fun x_law_least => mb_set 3 sc_law_marks_by.nd (ME.p1 (me_if (mt_cm (MC.p1 (MC.p1 (mc_eq (α := Int) hr.units (Nat.le_of_ble_eq_true rfl) (ME.p1 (me_modC (n := 3) (by decide) (ME.p1 (me_divC (n := 2) (by decide) (me_var 0) me_int)) me_int)) me_int)))) me_non (me_some (me_call (ok_law_coin T) hr (by decide) T.m_law_coin T.k_law_coin T.b_law_coin_1 .nil (ma_cons (args := fun p : Unit => []) (me_call (ok_law_mix T) hr (by decide) T.m_law_mix T.k_law_mix T.b_law_mix_3 .nil (MA.p1 (ma_cons (args := fun p : Int × Int × Unit => [.im (Py.r (Gb.mk K mg) p.1), .im (Py.r (Gb.mk K mg) p.2.1)]) (me_var 0) co_im (fun _ => (MA.p1 (ma_cons (args := fun p : Int × Unit => [.im (Py.r (Gb.mk K mg) p.1)]) me_int co_im (fun _ => (MA.p1 (ma_cons (args := fun p : Unit => []) me_int co_im (fun _ => ma_nl)))))))))) co_im (fun _ => ma_nl)))))) (fun x_law_top => MB.p1 (mb_set 4 sc_law_marks_by.nd (me_lst (α := Bool) (ML.p1 (ML.p1 (ml_cons (me_cm (MC.p1 (MC.p1 (mc_eq (α := Int) hr.units (Nat.le_of_ble_eq_true rfl) (ME.p1 (me_modC (n := 2) (by decide) (ME.p1 (me_divC (n := 6) (by decide) (me_var 0) me_int)) me_int)) me_int)))) (ML.p1 (ML.p1 (ml_cons (me_cm (MC.p1 (MC.p1 (mc_eq (α := Int) hr.units (Nat.le_of_ble_eq_true rfl) (ME.p1 (me_modC (n := 2) (by decide) (ME.p1 (me_divC (n := 12) (by decide) (me_var 0) me_int)) me_int)) me_int)))) (ML.p1 (ML.p1 (ml_cons (me_cm (MC.p1 (MC.p1 (mc_eq (α := Int) hr.units (Nat.le_of_ble_eq_true rfl) (ME.p1 (me_modC (n := 2) (by decide) (ME.p1 (me_divC (n := 24) (by decide) (me_var 0) me_int)) me_int)) me_int)))) ml_nil)))))))))) (fun x_law_bits => mb_eqS (S' := [some (.im (Py.r (Gb.mk K mg) (x_law_cell : Int))), some (.im (Py.r (Gb.mk K mg) (x_law_branch : (Option Int)))), some (.im (Py.r (Gb.mk K mg) (x_law_least : Int))), some (.im (Py.r (Gb.mk K mg) (x_law_top : (Option Int)))), some (.fr (rl (Gb.mk K mg) (x_law_bits : (List Bool)))), none, none]) rfl (MB.p1 (mb_set 5 sc_law_marks_by.nd (ME.p1 (me_modC (n := 9) (by decide) (ME.p1 (me_divC (n := 48) (by decide) (me_var 0) me_int)) me_int)) (fun x_law_how => MB.p1 (mb_ift (mt_cm (MC.p1 (MC.p1 (mc_eq (α := Int) hr.units (Nat.le_of_ble_eq_true rfl) (me_var 5) me_int)))) (mb_retT (me_frzO (fun _ => (frz_T2 (z_Marks _) frz_F)) (ME.p1 (ME.p1 (me_t2O (ME.eq (me_make0 (or := fun r => o_Marks K mg r) ((none : (Option Int)), ((0 : Int) : Int), (none : (Option Int)), (false : Bool), (false : Bool), (false : Bool), ()) (ok_Marks_init T) hr (by decide) T.mk_Marks T.m_Marks T.b_Marks_init_1 T.v_Marks_init_1 (by exact (fun _ _ => .cons rfl (.cons rfl (.cons rfl (.cons rfl (.cons rfl (.cons rfl (.nil))))))))) (m' := some (M.Marks_init (none : (Option Int)) ((0 : Int) : Int) (none : (Option Int)) (false : Bool) (false : Bool) (false : Bool))) rfl) (me_lst (α := PyData) (ML.p1 (ML.p1 (ml_cons (ME.p1 (me_toD (α := (Option Int)) me_non)) (ML.p1 (ML.p1 (ml_cons (ME.p1 (me_toD (α := Int) me_int)) (ML.p1 (ML.p1 (ml_cons (ME.p1 (me_toD (α := (Option Int)) me_non)) (ML.p1 (ML.p1 (ml_cons (ME.p1 (me_toD (α := Bool) me_bl)) (ML.p1 (ML.p1 (ml_cons (ME.p1 (me_toD (α := Bool) me_bl)) (ML.p1 (ML.p1 (ml_cons (ME.p1 (me_toD (α := Bool) me_bl)) ml_nil)))))))))))))))))))))))) (MB.p1 (mb_ift (mt_cm (MC.p1 (MC.p1 (mc_eq (α := Int) hr.units (Nat.le_of_ble_eq_true rfl) (me_var 5) me_int)))) (mb_retT (me_frzO (fun _ => (frz_T2 (z_Marks _) frz_F)) (ME.p1 (ME.p1 (me_t2O (me_make (or := fun r => o_Marks K mg r) (ok_Marks_init T) hr (by decide) T.mk_Marks T.m_Marks T.b_Marks_init_2 T.v_Marks_init_2 (MA.p1 (ma_cons (args := fun p : Int × (Option Int) × Bool × Bool × Bool × Unit => [.im (Py.r (Gb.mk K mg) p.1), .im (Py.r (Gb.mk K mg) p.2.1), .im (Py.r (Gb.mk K mg) p.2.2.1), .im (Py.r (Gb.mk K mg) p.2.2.2.1), .im (Py.r (Gb.mk K mg) p.2.2.2.2.1)]) (me_var 1) co_im (fun _ => (MA.eqm (ma_dfl (((0 : Int) : Int), (none : (Option Int)), (false : Bool), (false : Bool), (false : Bool), ()) (fun _ _ => .cons rfl (.cons rfl (.cons rfl (.cons rfl (.cons rfl (.nil))))))) rfl))))) (me_lst (α := PyData) (ML.p1 (ML.p1 (ml_cons (ME.p1 (me_toD (α := (Option Int)) (me_var 1))) (ML.p1 (ML.p1 (ml_cons (ME.p1 (me_toD (α := Int) me_int)) (ML.p1 (ML.p1 (ml_cons (ME.p1 (me_toD (α := (Option Int)) me_non)) (ML.p1 (ML.p1 (ml_cons (ME.p1 (me_toD (α := Bool) me_bl)) (ML.p1 (ML.p1 (ml_cons (ME.p1 (me_toD (α := Bool) me_bl)) (ML.p1 (ML.p1 (ml_cons (ME.p1 (me_toD (α := Bool) me_bl)) ml_nil)))))))))))))))))))))))) (MB.p1 (mb_ift (mt_cm (MC.p1 (MC.p1 (mc_eq (α := Int) hr.units (Nat.le_of_ble_eq_true rfl) (me_var 5) me_int)))) (mb_eqS (S' := [some (.im (Py.r (Gb.mk K mg) (x_law_cell : Int))), some (.im (Py.r (Gb.mk K mg) (x_law_branch : (Option Int)))), some (.im (Py.r (Gb.mk K mg) (x_law_least : Int))), some (.im (Py.r (Gb.mk K mg) (x_law_top : (Option Int)))), some (.fr (rl (Gb.mk K mg) (x_law_bits : (List Bool)))), some (.im (Py.r (Gb.mk K mg) (x_law_how : Int))), none]) rfl (mb_retT (me_frzO (fun _ => (frz_T2 (z_Marks _) frz_F)) (ME.p1 (ME.p1 (me_t2O (me_make (or := fun r => o_Marks K mg r) (ok_Marks_init T) hr (by decide) T.mk_Marks T.m_Marks T.b_Marks_init_3 T.v_Marks_init_3 (MA.p1 (ma_cons (args := fun p : Int × (Option Int) × Bool × Bool × Bool × Unit => [.im (Py.r (Gb.mk K mg) p.1), .im (Py.r (Gb.mk K mg) p.2.1), .im (Py.r (Gb.mk K mg) p.2.2.1), .im (Py.r (Gb.mk K mg) p.2.2.2.1), .im (Py.r (Gb.mk K mg) p.2.2.2.2.1)]) (me_var 1) co_im (fun _ => (MA.p1 (ma_cons (args := fun p : (Option Int) × Bool × Bool × Bool × Unit => [.im (Py.r (Gb.mk K mg) p.1), .im (Py.r (Gb.mk K mg) p.2.1), .im (Py.r (Gb.mk K mg) p.2.2.1), .im (Py.r (Gb.mk K mg) p.2.2.2.1)]) (me_var 2) co_im (fun _ => (MA.eqm (ma_dfl ((none : (Option Int)), (false : Bool), (false : Bool), (false : Bool), ()) (fun _ _ => .cons rfl (.cons rfl (.cons rfl (.cons rfl (.nil)))))) rfl)))))))) (me_lst (α := PyData) (ML.p1 (ML.p1 (ml_cons (ME.p1 (me_toD (α := (Option Int)) (me_var 1))) (ML.p1 (ML.p1 (ml_cons (ME.p1 (me_toD (α := Int) (me_var 2))) (ML.p1 (ML.p1 (ml_cons (ME.p1 (me_toD (α := (Option Int)) me_non)) (ML.p1 (ML.p1 (ml_cons (ME.p1 (me_toD (α := Bool) me_bl)) (ML.p1 (ML.p1 (ml_cons (ME.p1 (me_toD (α := Bool) me_bl)) (ML.p1 (ML.p1 (ml_cons (ME.p1 (me_toD (α := Bool) me_bl)) ml_nil))))))))))))))))))))))))) (mb_eqS (S' := [some (.im (Py.r (Gb.mk K mg) (x_law_cell : Int))), some (.im (Py.r (Gb.mk K mg) (x_law_branch : (Option Int)))), some (.im (Py.r (Gb.mk K mg) (x_law_least : Int))), some (.im (Py.r (Gb.mk K mg) (x_law_top : (Option Int)))), some (.fr (rl (Gb.mk K mg) (x_law_bits : (List Bool)))), some (.im (Py.r (Gb.mk K mg) (x_law_how : Int))), none]) rfl (MB.p1 (mb_ift (mt_cm (MC.p1 (MC.p1 (mc_eq (α := Int) hr.units (Nat.le_of_ble_eq_true rfl) (me_var 5) me_int)))) (mb_retT (me_frzO (fun _ => (frz_T2 (z_Marks _) frz_F)) (me_t2O (me_make (or := fun r => o_Marks K mg r) (ok_Marks_init T) hr (by decide) T.mk_Marks T.m_Marks T.b_Marks_init_5 T.v_Marks_init_5 (MA.p1 (ma_cons (args := fun p : Int × (Option Int) × Bool × Bool × Bool × Unit => [.im (Py.r (Gb.mk K mg) p.1), .im (Py.r (Gb.mk K mg) p.2.1), .im (Py.r (Gb.mk K mg) p.2.2.1), .im (Py.r (Gb.mk K mg) p.2.2.2.1), .im (Py.r (Gb.mk K mg) p.2.2.2.2.1)]) (me_var 1) co_im (fun _ => (MA.p1 (ma_cons (args := fun p : (Option Int) × Bool × Bool × Bool × Unit => [.im (Py.r (Gb.mk K mg) p.1), .im (Py.r (Gb.mk K mg) p.2.1), .im (Py.r (Gb.mk K mg) p.2.2.1), .im (Py.r (Gb.mk K mg) p.2.2.2.1)]) (me_var 2) co_im (fun _ => (MA.p1 (ma_cons (args := fun p : Bool × Bool × Bool × Unit => [.im (Py.r (Gb.mk K mg) p.1), .im (Py.r (Gb.mk K mg) p.2.1), .im (Py.r (Gb.mk K mg) p.2.2.1)]) (me_var 3) co_im (fun _ => (ma_cons (args := fun p : Bool × Bool × Unit => [.im (Py.r (Gb.mk K mg) p.1), .im (Py.r (Gb.mk K mg) p.2.1)]) (ME.p1 (ME.p1 (me_ix (me_own 4) me_int))) co_im (fun _ => (MA.eqm (ma_dfl ((false : Bool), (false : Bool), ()) (fun _ _ => .cons rfl (.cons rfl (.nil)))) rfl))))))))))))) (me_lst (α := PyData) (ML.p1 (ml_cons (ME.p1 (me_toD (α := (Option Int)) (me_var 1))) (ML.p1 (ml_cons (ME.p1 (me_toD (α := Int) (me_var 2))) (ML.p1 (ml_cons (ME.p1 (me_toD (α := (Option Int)) (me_var 3))) (ML.p2 (ml_cons (me_toD (α := Bool) (ME.p1 (ME.p1 (me_ix (me_own 4) me_int)))) (ML.p1 (ML.p1 (ml_cons (ME.p1 (me_toD (α := Bool) me_bl)) (ML.p1 (ML.p1 (ml_cons (ME.p1 (me_toD (α := Bool) me_bl)) ml_nil)))))))))))))))))) (MB.p1 (mb_ift (mt_cm (MC.p1 (MC.p1 (mc_eq (α := Int) hr.units (Nat.le_of_ble_eq_true rfl) (me_var 5) me_int)))) (mb_retT (me_frzO (fun _ => (frz_T2 (z_Marks _) frz_F)) (me_t2O (me_make (or := fun r => o_Marks K mg r) (ok_Marks_init T) hr (by decide) T.mk_Marks T.m_Marks T.b_Marks_init_6 T.v_Marks_init_6 (MA.p1 (ma_cons (args := fun p : Int × (Option Int) × Bool × Bool × Bool × Unit => [.im (Py.r (Gb.mk K mg) p.1), .im (Py.r (Gb.mk K mg) p.2.1), .im (Py.r (Gb.mk K mg) p.2.2.1), .im (Py.r (Gb.mk K mg) p.2.2.2.1), .im (Py.r (Gb.mk K mg) p.2.2.2.2.1)]) (me_var 1) co_im (fun _ => (MA.p1 (ma_cons (args := fun p : (Option Int) × Bool × Bool × Bool × Unit => [.im (Py.r (Gb.mk K mg) p.1), .im (Py.r (Gb.mk K mg) p.2.1), .im (Py.r (Gb.mk K mg) p.2.2.1), .im (Py.r (Gb.mk K mg) p.2.2.2.1)]) (me_var 2) co_im (fun _ => (MA.p1 (ma_cons (args := fun p : Bool × Bool × Bool × Unit => [.im (Py.r (Gb.mk K mg) p.1), .im (Py.r (Gb.mk K mg) p.2.1), .im (Py.r (Gb.mk K mg) p.2.2.1)]) (me_var 3) co_im (fun _ => (ma_cons (args := fun p : Bool × Bool × Unit => [.im (Py.r (Gb.mk K mg) p.1), .im (Py.r (Gb.mk K mg) p.2.1)]) (ME.p1 (ME.p1 (me_ix (me_own 4) me_int))) co_im (fun _ => (ma_cons (args := fun p : Bool × Unit => [.im (Py.r (Gb.mk K mg) p.1)]) (ME.p1 (ME.p1 (me_ix (me_own 4) me_int))) co_im (fun _ => (MA.eqm (ma_dfl ((false : Bool), ()) (fun _ _ => .cons rfl (.nil))) rfl))))))))))))))) (me_lst (α := PyData) (ML.p1 (ml_cons (ME.p1 (me_toD (α := (Option Int)) (me_var 1))) (ML.p1 (ml_cons (ME.p1 (me_toD (α := Int) (me_var 2))) (ML.p1 (ml_cons (ME.p1 (me_toD (α := (Option Int)) (me_var 3))) (ml_cons (me_toD (α := Bool) (ME.p1 (ME.p1 (me_ix (me_own 4) me_int)))) (ML.p2 (ml_cons (me_toD (α := Bool) (ME.p1 (ME.p1 (me_ix (me_own 4) me_int)))) (ML.p1 (ML.p1 (ml_cons (ME.p1 (me_toD (α := Bool) me_bl)) ml_nil)))))))))))))))) (MB.p1 (mb_ift (mt_cm (MC.p1 (MC.p1 (mc_eq (α := Int) hr.units (Nat.le_of_ble_eq_true rfl) (me_var 5) me_int)))) (mb_retT (me_frzO (fun _ => (frz_T2 (z_Marks _) frz_F)) (ME.p1 (ME.p1 (me_t2O (me_make (or := fun r => o_Marks K mg r) (ok_Marks_init T) hr (by decide) T.mk_Marks T.m_Marks T.b_Marks_init_4 T.v_Marks_init_4 (MA.p1 (ma_cons (args := fun p : Int × (Option Int) × Bool × Bool × Bool × Unit => [.im (Py.r (Gb.mk K mg) p.1), .im (Py.r (Gb.mk K mg) p.2.1), .im (Py.r (Gb.mk K mg) p.2.2.1), .im (Py.r (Gb.mk K mg) p.2.2.2.1), .im (Py.r (Gb.mk K mg) p.2.2.2.2.1)]) (me_var 1) co_im (fun _ => (MA.p1 (ma_cons (args := fun p : (Option Int) × Bool × Bool × Bool × Unit => [.im (Py.r (Gb.mk K mg) p.1), .im (Py.r (Gb.mk K mg) p.2.1), .im (Py.r (Gb.mk K mg) p.2.2.1), .im (Py.r (Gb.mk K mg) p.2.2.2.1)]) (me_var 2) co_im (fun _ => (MA.p1 (ma_cons (args := fun p : Bool × Bool × Bool × Unit => [.im (Py.r (Gb.mk K mg) p.1), .im (Py.r (Gb.mk K mg) p.2.1), .im (Py.r (Gb.mk K mg) p.2.2.1)]) (me_var 3) co_im (fun _ => (MA.eqm (ma_dfl ((false : Bool), (false : Bool), (false : Bool), ()) (fun _ _ => .cons rfl (.cons rfl (.cons rfl (.nil))))) rfl))))))))))) (me_lst (α := PyData) (ML.p1 (ML.p1 (ml_cons (ME.p1 (me_toD (α := (Option Int)) (me_var 1))) (ML.p1 (ML.p1 (ml_cons (ME.p1 (me_toD (α := Int) (me_var 2))) (ML.p1 (ML.p1 (ml_cons (ME.p1 (me_toD (α := (Option Int)) (me_var 3))) (ML.p1 (ML.p1 (ml_cons (ME.p1 (me_toD (α := Bool) me_bl)) (ML.p1 (ML.p1 (ml_cons (ME.p1 (me_toD (α := Bool) me_bl)) (ML.p1 (ML.p1 (ml_cons (ME.p1 (me_toD (α := Bool) me_bl)) ml_nil)))))))))))))))))))))))) (MB.p1 (mb_ift (mt_cm (MC.p1 (MC.p1 (mc_eq (α := Int) hr.units (Nat.le_of_ble_eq_true rfl) (me_var 5) me_int)))) (mb_eqS (S' := [some (.im (Py.r (Gb.mk K mg) (x_law_cell : Int))), some (.im (Py.r (Gb.mk K mg) (x_law_branch : (Option Int)))), some (.im (Py.r (Gb.mk K mg) (x_law_least : Int))), some (.im (Py.r (Gb.mk K mg) (x_law_top : (Option Int)))), some (.fr (rl (Gb.mk K mg) (x_law_bits : (List Bool)))), some (.im (Py.r (Gb.mk K mg) (x_law_how : Int))), none]) rfl (mb_retT (me_frzO (fun _ => (frz_T2 (z_Marks _) frz_F)) (me_t2O (me_make (or := fun r => o_Marks K mg r) (ok_Marks_init T) hr (by decide) T.mk_Marks T.m_Marks T.b_Marks_init_7 .nil (MA.p1 (ma_cons (args := fun p : Int × (Option Int) × Bool × Bool × Bool × Unit => [.im (Py.r (Gb.mk K mg) p.1), .im (Py.r (Gb.mk K mg) p.2.1), .im (Py.r (Gb.mk K mg) p.2.2.1), .im (Py.r (Gb.mk K mg) p.2.2.2.1), .im (Py.r (Gb.mk K mg) p.2.2.2.2.1)]) (me_var 1) co_im (fun _ => (MA.p1 (ma_cons (args := fun p : (Option Int) × Bool × Bool × Bool × Unit => [.im (Py.r (Gb.mk K mg) p.1), .im (Py.r (Gb.mk K mg) p.2.1), .im (Py.r (Gb.mk K mg) p.2.2.1), .im (Py.r (Gb.mk K mg) p.2.2.2.1)]) (me_var 2) co_im (fun _ => (MA.p1 (ma_cons (args := fun p : Bool × Bool × Bool × Unit => [.im (Py.r (Gb.mk K mg) p.1), .im (Py.r (Gb.mk K mg) p.2.1), .im (Py.r (Gb.mk K mg) p.2.2.1)]) (me_var 3) co_im (fun _ => (ma_cons (args := fun p : Bool × Bool × Unit => [.im (Py.r (Gb.mk K mg) p.1), .im (Py.r (Gb.mk K mg) p.2.1)]) (ME.p1 (ME.p1 (me_ix (me_own 4) me_int))) co_im (fun _ => (ma_cons (args := fun p : Bool × Unit => [.im (Py.r (Gb.mk K mg) p.1)]) (ME.p1 (ME.p1 (me_ix (me_own 4) me_int))) co_im (fun _ => (ma_cons (args := fun p : Unit => []) (ME.p1 (ME.p1 (me_ix (me_own 4) me_int))) co_im (fun _ => ma_nl)))))))))))))))) (ME.p1 (ME.p1 (me_cat (me_lst (α := PyData) (ML.p1 (ML.p1 (ml_cons (ME.p1 (me_toD (α := (Option Int)) (me_var 1))) (ML.p1 (ML.p1 (ml_cons (ME.p1 (me_toD (α := Int) (me_var 2))) (ML.p1 (ML.p1 (ml_cons (ME.p1 (me_toD (α := (Option Int)) (me_var 3))) ml_nil)))))))))) (ME.p1 (me_toDR (α := Bool) (me_own 4)))))))))) (mb_eqS (S' := [some (.im (Py.r (Gb.mk K mg) (x_law_cell : Int))), some (.im (Py.r (Gb.mk K mg) (x_law_branch : (Option Int)))), some (.im (Py.r (Gb.mk K mg) (x_law_least : Int))), some (.im (Py.r (Gb.mk K mg) (x_law_top : (Option Int)))), some (.fr (rl (Gb.mk K mg) (x_law_bits : (List Bool)))), some (.im (Py.r (Gb.mk K mg) (x_law_how : Int))), none]) rfl (MB.p1 (mb_ift (mt_cm (MC.p1 (MC.p1 (mc_eq (α := Int) hr.units (Nat.le_of_ble_eq_true rfl) (me_var 5) me_int)))) (mb_set 6 sc_law_marks_by.nd (ME.eq (m' := ((atO x_law_bits (2 : Int)) >>= fun v34 => (atO x_law_bits (1 : Int)) >>= fun v35 => (atO x_law_bits (0 : Int)) >>= fun v36 => some (M.Marks_init x_law_branch x_law_least x_law_top v36 v35 v34))) (me_makeK0 (or := fun r => o_Marks K mg r) (fun p : Bool × Bool × Bool × (Option Int) × Int × (Option Int) × Unit => (p.2.2.2.2.2.1, p.2.2.2.2.1, p.2.2.2.1, p.2.2.1, p.2.1, p.1, ())) (fun zs => [] ++ ((zs.drop 5).take 1) ++ ((zs.drop 4).take 1) ++ ((zs.drop 3).take 1) ++ ((zs.drop 2).take 1) ++ ((zs.drop 1).take 1) ++ ((zs.drop 0).take 1)) (ok_Marks_init T) hr (by decide) T.mk_Marks T.m_Marks T.kb_Marks_init_1_lone_once_member_most_needs_kind (mk_cons (args := fun p : Bool × Bool × (Option Int) × Int × (Option Int) × Unit => [.im (Py.r (Gb.mk K mg) p.1), .im (Py.r (Gb.mk K mg) p.2.1), .im (Py.r (Gb.mk K mg) p.2.2.1), .im (Py.r (Gb.mk K mg) p.2.2.2.1), .im (Py.r (Gb.mk K mg) p.2.2.2.2.1)]) (ME.p1 (ME.p1 (me_ix (me_own 4) me_int))) co_im (fun _ => (mk_cons (args := fun p : Bool × (Option Int) × Int × (Option Int) × Unit => [.im (Py.r (Gb.mk K mg) p.1), .im (Py.r (Gb.mk K mg) p.2.1), .im (Py.r (Gb.mk K mg) p.2.2.1), .im (Py.r (Gb.mk K mg) p.2.2.2.1)]) (ME.p1 (ME.p1 (me_ix (me_own 4) me_int))) co_im (fun _ => (mk_cons (args := fun p : (Option Int) × Int × (Option Int) × Unit => [.im (Py.r (Gb.mk K mg) p.1), .im (Py.r (Gb.mk K mg) p.2.1), .im (Py.r (Gb.mk K mg) p.2.2.1)]) (ME.p1 (ME.p1 (me_ix (me_own 4) me_int))) co_im (fun _ => (mk_cons (args := fun p : Int × (Option Int) × Unit => [.im (Py.r (Gb.mk K mg) p.1), .im (Py.r (Gb.mk K mg) p.2.1)]) (me_var 3) co_im (fun _ => (mk_cons (args := fun p : (Option Int) × Unit => [.im (Py.r (Gb.mk K mg) p.1)]) (me_var 2) co_im (fun _ => (mk_cons (args := fun p : Unit => []) (me_var 1) co_im (fun _ => mk_nil)))))))))))) hA_Marks_init_1_lone_once_member_most_needs_kind) rfl) (fun x_law_made_here => mb_frzO (a := x_law_made_here) 6 (z_Marks _) rfl (mb_retT (me_frzO (fun _ => (frz_T2 frz_I frz_F)) (ME.p1 (me_t2O (me_var 6) (ME.p1 (ME.p1 (me_cat (me_lst (α := PyData) (ML.p1 (ML.p1 (ml_cons (ME.p1 (me_toD (α := (Option Int)) (me_var 1))) (ML.p1 (ML.p1 (ml_cons (ME.p1 (me_toD (α := Int) (me_var 2))) (ML.p1 (ML.p1 (ml_cons (ME.p1 (me_toD (α := (Option Int)) (me_var 3))) ml_nil)))))))))) (ME.p1 (me_toDR (α := Bool) (me_own 4)))))))))))) (mb_retT (me_call (ok_law_one_named T) hr (by decide) T.m_law_one_named T.k_law_one_named T.b_law_one_named_5 .nil (MA.p1 (ma_cons (args := fun p : Int × (Option Int) × (List Bool) × Int × Unit => [.im (Py.r (Gb.mk K mg) p.1), .im (Py.r (Gb.mk K mg) p.2.1), .bw (rl (Gb.mk K mg) p.2.2.1), .im (Py.r (Gb.mk K mg) p.2.2.2.1)]) (me_var 1) co_im (fun _ => (MA.p1 (ma_cons (args := fun p : (Option Int) × (List Bool) × Int × Unit => [.im (Py.r (Gb.mk K mg) p.1), .bw (rl (Gb.mk K mg) p.2.1), .im (Py.r (Gb.mk K mg) p.2.2.1)]) (me_var 2) co_im (fun _ => (MA.p1 (ma_cons (args := fun p : (List Bool) × Int × Unit => [.bw (rl (Gb.mk K mg) p.1), .im (Py.r (Gb.mk K mg) p.2.1)]) (me_var 3) co_im (fun _ => (MA.p1 (ma_cons (args := fun p : Int × Unit => [.im (Py.r (Gb.mk K mg) p.1)]) (me_own 4) (co_bw lr_rd) (fun _ => (MA.p1 (ma_cons (args := fun p : Unit => []) (ME.p1 (me_modC (n := 6) (by decide) (ME.p1 (me_divC (n := 432) (by decide) (me_var 0) me_int)) me_int)) co_im (fun _ => ma_nl))))))))))))))))) hk_t))) hk_t)) hk_t)) hk_t)) hk_t))) hk_t)) hk_t)) hk_t))))))))))) ?_
  delta M.law_marks_by
  rfl
theorem ok_law_fields (T : Tx K mg) : FnOk P w K mg base CX0 1 T.f_law_fields T.d_law_fields ["_law_own"] (spT (Gb.mk K mg) (fun p : MarksD × Unit => [.im (Py.r (Gb.mk K mg) p.1)]) (fun p => some (M.law_fields p.1)) (fun r => .fr (rl (Gb.mk K mg) (r : (List PyData))))) := by
  refine fnx_mk T.F_law_fields sc_law_fields (fun _ => rfl) (fun _ => rfl) (by decide) (fun cdv A outer s H E I p hr => ?_)
  obtain ⟨x_law_own, ⟨⟩⟩ := p
  refine MB.eq (mb_retT (me_lst (α := PyData) (ML.p1 (ML.p1 (ml_cons (ME.p1 (me_toD (α := (Option Int)) (ME.p1 (me_fld (pr := MarksD.f_kind) (me_var 0) (fun d I v h => rIns_fld 0 ⟨_, T.m_Marks, T.cl_Marks, T.n_Marks_kind⟩ h))))) (ML.p1 (ML.p1 (ml_cons (ME.p1 (me_toD (α := Int) (ME.p1 (me_fld (pr := MarksD.f_needs) (me_var 0) (fun d I v h => rIns_fld 1 ⟨_, T.m_Marks, T.cl_Marks, T.n_Marks_needs⟩ h))))) (ML.p1 (ML.p1 (ml_cons (ME.p1 (me_toD (α := (Option Int)) (ME.p1 (me_fld (pr := MarksD.f_most) (me_var 0) (fun d I v h => rIns_fld 2 ⟨_, T.m_Marks, T.cl_Marks, T.n_Marks_most⟩ h))))) (ML.p1 (ML.p1 (ml_cons (ME.p1 (me_toD (α := Bool) (ME.p1 (me_fld (pr := MarksD.f_member) (me_var 0) (fun d I v h => rIns_fld 3 ⟨_, T.m_Marks, T.cl_Marks, T.n_Marks_member⟩ h))))) (ML.p1 (ML.p1 (ml_cons (ME.p1 (me_toD (α := Bool) (ME.p1 (me_fld (pr := MarksD.f_once) (me_var 0) (fun d I v h => rIns_fld 4 ⟨_, T.m_Marks, T.cl_Marks, T.n_Marks_once⟩ h))))) (ML.p1 (ML.p1 (ml_cons (ME.p1 (me_toD (α := Bool) (ME.p1 (me_fld (pr := MarksD.f_lone) (me_var 0) (fun d I v h => rIns_fld 5 ⟨_, T.m_Marks, T.cl_Marks, T.n_Marks_lone⟩ h))))) ml_nil)))))))))))))))))))) ?_
  delta M.law_fields
  rfl
theorem ok_Voucher_init (T : Tx K mg) : FnOk P w K mg base CX0 3 T.f_Voucher_init T.d_Voucher_init ["self", "marks"] (spIO (Gb.mk K mg) (fun p : (Option MarksD) × Unit => .ow (oC (wI (Gb.mk K mg) "Off" []) []) :: [.im (Py.r (Gb.mk K mg) p.1)]) (fun p => some (M.Voucher_init p.1)) (fun _ => .im (Py.r (Gb.mk K mg) ())) (fun r : (Option MarksD) => [(0, (oC (wI (Gb.mk K mg) "Off" ["marks"]) [(oI (Py.r (Gb.mk K mg) (r : (Option MarksD))))]))])) := by
  refine fiu_mk T.F_Voucher_init sc_Voucher_init (fun _ => rfl) (by decide) (fun _ p hp => by rw [List.mem_singleton.mp hp]; exact Nat.succ_pos _) (fun cdv A outer s H E I R u p hr => ?_)
  obtain ⟨x_marks, ⟨⟩⟩ := p
  refine MB.eq (MB.p1 (MB.p1 (mb_fldN (me_ifP (mt_cm (MC.p1 (mc_isN (me_var 1)))) (ME.p1 (me_some (me_frzO (fun _ => (z_Marks _)) (ME.eq (me_make0 (or := fun r => o_Marks K mg r) ((none : (Option Int)), ((0 : Int) : Int), (none : (Option Int)), (false : Bool), (false : Bool), (false : Bool), ()) (ok_Marks_init T) hr (by decide) T.mk_Marks T.m_Marks T.b_Marks_init_1 T.v_Marks_init_1 (by exact (fun _ _ => .cons rfl (.cons rfl (.cons rfl (.cons rfl (.cons rfl (.cons rfl (.nil))))))))) (m' := some (M.Marks_init (none : (Option Int)) ((0 : Int) : Int) (none : (Option Int)) (false : Bool) (false : Bool) (false : Bool))) rfl)))) (me_var 1)) (mp_pin 0 (v0 := u 0) (o1 := (oC (wI (Gb.mk K mg) "Off" []) []))) ⟨_, T.m_Off, T.cl_Off, T.n_Off_marks⟩ (fun _ x_self_marks => mb_endU (b := x_self_marks) (.cons rfl .nil))))) ?_
  delta M.Voucher_init
  rfl
theorem ok_Off_init (T : Tx K mg) : FnOk P w K mg base CX0 4 T.f_Off_init T.d_Off_init ["self", "amount", "marks"] (spIO (Gb.mk K mg) (fun p : Int × (Option MarksD) × Unit => .ow (oC (wI (Gb.mk K mg) "Off" []) []) :: [.im (Py.r (Gb.mk K mg) p.1), .im (Py.r (Gb.mk K mg) p.2.1)]) (fun p => some (M.Off_init p.1 p.2.1)) (fun _ => .im (Py.r (Gb.mk K mg) ())) (fun r : OffD => [(0, (o_Off K mg r))])) := by
  refine fiu_mk T.F_Off_init sc_Off_init (fun _ => rfl) (by decide) (fun _ p hp => by rw [List.mem_singleton.mp hp]; exact Nat.succ_pos _) (fun cdv A outer s H E I R u p hr => ?_)
  obtain ⟨x_amount, x_marks, ⟨⟩⟩ := p
  refine MB.eq (MB.p1 (mb_clsInit (or := fun r : (Option MarksD) => (oC (wI (Gb.mk K mg) "Off" ["marks"]) [(oI (Py.r (Gb.mk K mg) (r : (Option MarksD))))])) 0 (ok_Voucher_init T) hr (by decide) T.m_Voucher T.cr_Voucher T.cv_Voucher_Voucher_init T.k_Voucher_init T.b_Voucher_init_2 .nil (MA.p1 (ma_cons (args := fun p : Unit => []) (me_var 2) co_im (fun _ => ma_nl))) (fun r1 => MB.p1 (MB.p1 (mb_fldN (me_var 1) (mp_pin 0 (v0 := u 0) (o1 := (oC (wI (Gb.mk K mg) "Off" ["marks"]) [(oI (Py.r (Gb.mk K mg) (r1 : (Option MarksD))))]))) ⟨_, T.m_Off, T.cl_Off, T.n_Off_amount⟩ (fun _ x_self_amount => mb_endU (b := (OffD.mk r1 x_self_amount)) (.cons rfl .nil))))))) ?_
  delta M.Off_init
  rfl
theorem ok_Voucher_init_1 (T : Tx K mg) : FnOk P w K mg base CX0 3 T.f_Voucher_init T.d_Voucher_init ["self", "marks"] (spIO (Gb.mk K mg) (fun p : (Option MarksD) × Unit => .ow (oC (wI (Gb.mk K mg) "Share" []) []) :: [.im (Py.r (Gb.mk K mg) p.1)]) (fun p => some (M.Voucher_init_1 p.1)) (fun _ => .im (Py.r (Gb.mk K mg) ())) (fun r : (Option MarksD) => [(0, (oC (wI (Gb.mk K mg) "Share" ["marks"]) [(oI (Py.r (Gb.mk K mg) (r : (Option MarksD))))]))])) := by
  refine fiu_mk T.F_Voucher_init sc_Voucher_init (fun _ => rfl) (by decide) (fun _ p hp => by rw [List.mem_singleton.mp hp]; exact Nat.succ_pos _) (fun cdv A outer s H E I R u p hr => ?_)
  obtain ⟨x_marks, ⟨⟩⟩ := p
  refine MB.eq (MB.p1 (MB.p1 (mb_fldN (me_ifP (mt_cm (MC.p1 (mc_isN (me_var 1)))) (ME.p1 (me_some (me_frzO (fun _ => (z_Marks _)) (ME.eq (me_make0 (or := fun r => o_Marks K mg r) ((none : (Option Int)), ((0 : Int) : Int), (none : (Option Int)), (false : Bool), (false : Bool), (false : Bool), ()) (ok_Marks_init T) hr (by decide) T.mk_Marks T.m_Marks T.b_Marks_init_1 T.v_Marks_init_1 (by exact (fun _ _ => .cons rfl (.cons rfl (.cons rfl (.cons rfl (.cons rfl (.cons rfl (.nil))))))))) (m' := some (M.Marks_init (none : (Option Int)) ((0 : Int) : Int) (none : (Option Int)) (false : Bool) (false : Bool) (false : Bool))) rfl)))) (me_var 1)) (mp_pin 0 (v0 := u 0) (o1 := (oC (wI (Gb.mk K mg) "Share" []) []))) ⟨_, T.m_Share, T.cl_Share, T.n_Share_marks⟩ (fun _ x_self_marks => mb_endU (b := x_self_marks) (.cons rfl .nil))))) ?_
  delta M.Voucher_init_1
  rfl
theorem ok_Share_init (T : Tx K mg) : FnOk P w K mg base CX0 4 T.f_Share_init T.d_Share_init ["self", "share", "by_line", "marks"] (spIO (Gb.mk K mg) (fun p : Int × Bool × (Option MarksD) × Unit => .ow (oC (wI (Gb.mk K mg) "Share" []) []) :: [.im (Py.r (Gb.mk K mg) p.1), .im (Py.r (Gb.mk K mg) p.2.1), .im (Py.r (Gb.mk K mg) p.2.2.1)]) (fun p => some (M.Share_init p.1 p.2.1 p.2.2.1)) (fun _ => .im (Py.r (Gb.mk K mg) ())) (fun r : ShareD => [(0, (o_Share K mg r))])) := by
  refine fiu_mk T.F_Share_init sc_Share_init (fun _ => rfl) (by decide) (fun _ p hp => by rw [List.mem_singleton.mp hp]; exact Nat.succ_pos _) (fun cdv A outer s H E I R u p hr => ?_)
  obtain ⟨x_share, x_by_line, x_marks, ⟨⟩⟩ := p
  refine MB.eq (MB.p1 (mb_clsInit (or := fun r : (Option MarksD) => (oC (wI (Gb.mk K mg) "Share" ["marks"]) [(oI (Py.r (Gb.mk K mg) (r : (Option MarksD))))])) 0 (ok_Voucher_init_1 T) hr (by decide) T.m_Voucher T.cr_Voucher T.cv_Voucher_Voucher_init T.k_Voucher_init T.b_Voucher_init_2 .nil (MA.p1 (ma_cons (args := fun p : Unit => []) (me_var 3) co_im (fun _ => ma_nl))) (fun r1 => MB.p1 (MB.p1 (mb_fldN (me_var 1) (mp_pin 0 (v0 := u 0) (o1 := (oC (wI (Gb.mk K mg) "Share" ["marks"]) [(oI (Py.r (Gb.mk K mg) (r1 : (Option MarksD))))]))) ⟨_, T.m_Share, T.cl_Share, T.n_Share_share⟩ (fun _ x_self_share => MB.p1 (MB.p1 (mb_fldN (me_var 2) (mp_pin 0 (v0 := u 0) (o1 := (oC (wI (Gb.mk K mg) "Share" ["marks", "share"]) [(oI (Py.r (Gb.mk K mg) (r1 : (Option MarksD)))), (oI (Py.r (Gb.mk K mg) (x_self_share : Int)))]))) ⟨_, T.m_Share, T.cl_Share, T.n_Share_by_line⟩ (fun _ x_self_by_line => mb_endU (b := (ShareD.mk r1 x_self_share x_self_by_line)) (.cons rfl .nil)))))))))) ?_
  delta M.Share_init
  rfl
theorem ok_Voucher_init_2 (T : Tx K mg) : FnOk P w K mg base CX0 3 T.f_Voucher_init T.d_Voucher_init ["self", "marks"] (spIO (Gb.mk K mg) (fun p : (Option MarksD) × Unit => .ow (oC (wI (Gb.mk K mg) "Cheapest" []) []) :: [.im (Py.r (Gb.mk K mg) p.1)]) (fun p => some (M.Voucher_init_2 p.1)) (fun _ => .im (Py.r (Gb.mk K mg) ())) (fun r : (Option MarksD) => [(0, (oC (wI (Gb.mk K mg) "Cheapest" ["marks"]) [(oI (Py.r (Gb.mk K mg) (r : (Option MarksD))))]))])) := by
  refine fiu_mk T.F_Voucher_init sc_Voucher_init (fun _ => rfl) (by decide) (fun _ p hp => by rw [List.mem_singleton.mp hp]; exact Nat.succ_pos _) (fun cdv A outer s H E I R u p hr => ?_)
  obtain ⟨x_marks, ⟨⟩⟩ := p
  refine MB.eq (MB.p1 (MB.p1 (mb_fldN (me_ifP (mt_cm (MC.p1 (mc_isN (me_var 1)))) (ME.p1 (me_some (me_frzO (fun _ => (z_Marks _)) (ME.eq (me_make0 (or := fun r => o_Marks K mg r) ((none : (Option Int)), ((0 : Int) : Int), (none : (Option Int)), (false : Bool), (false : Bool), (false : Bool), ()) (ok_Marks_init T) hr (by decide) T.mk_Marks T.m_Marks T.b_Marks_init_1 T.v_Marks_init_1 (by exact (fun _ _ => .cons rfl (.cons rfl (.cons rfl (.cons rfl (.cons rfl (.cons rfl (.nil))))))))) (m' := some (M.Marks_init (none : (Option Int)) ((0 : Int) : Int) (none : (Option Int)) (false : Bool) (false : Bool) (false : Bool))) rfl)))) (me_var 1)) (mp_pin 0 (v0 := u 0) (o1 := (oC (wI (Gb.mk K mg) "Cheapest" []) []))) ⟨_, T.m_Cheapest, T.cl_Cheapest, T.n_Cheapest_marks⟩ (fun _ x_self_marks => mb_endU (b := x_self_marks) (.cons rfl .nil))))) ?_
  delta M.Voucher_init_2
  rfl
theorem ok_Cheapest_init (T : Tx K mg) : FnOk P w K mg base CX0 4 T.f_Cheapest_init T.d_Cheapest_init ["self", "many", "marks"] (spIO (Gb.mk K mg) (fun p : Int × (Option MarksD) × Unit => .ow (oC (wI (Gb.mk K mg) "Cheapest" []) []) :: [.im (Py.r (Gb.mk K mg) p.1), .im (Py.r (Gb.mk K mg) p.2.1)]) (fun p => some (M.Cheapest_init p.1 p.2.1)) (fun _ => .im (Py.r (Gb.mk K mg) ())) (fun r : CheapestD => [(0, (o_Cheapest K mg r))])) := by
  refine fiu_mk T.F_Cheapest_init sc_Cheapest_init (fun _ => rfl) (by decide) (fun _ p hp => by rw [List.mem_singleton.mp hp]; exact Nat.succ_pos _) (fun cdv A outer s H E I R u p hr => ?_)
  obtain ⟨x_many, x_marks, ⟨⟩⟩ := p
  refine MB.eq (MB.p1 (mb_clsInit (or := fun r : (Option MarksD) => (oC (wI (Gb.mk K mg) "Cheapest" ["marks"]) [(oI (Py.r (Gb.mk K mg) (r : (Option MarksD))))])) 0 (ok_Voucher_init_2 T) hr (by decide) T.m_Voucher T.cr_Voucher T.cv_Voucher_Voucher_init T.k_Voucher_init T.b_Voucher_init_2 .nil (MA.p1 (ma_cons (args := fun p : Unit => []) (me_var 2) co_im (fun _ => ma_nl))) (fun r1 => MB.p1 (MB.p1 (mb_fldN (me_var 1) (mp_pin 0 (v0 := u 0) (o1 := (oC (wI (Gb.mk K mg) "Cheapest" ["marks"]) [(oI (Py.r (Gb.mk K mg) (r1 : (Option MarksD))))]))) ⟨_, T.m_Cheapest, T.cl_Cheapest, T.n_Cheapest_many⟩ (fun _ x_self_many => mb_endU (b := (CheapestD.mk r1 x_self_many)) (.cons rfl .nil))))))) ?_
  delta M.Cheapest_init
  rfl
theorem ok_Voucher_init_3 (T : Tx K mg) : FnOk P w K mg base CX0 3 T.f_Voucher_init T.d_Voucher_init ["self", "marks"] (spIO (Gb.mk K mg) (fun p : (Option MarksD) × Unit => .ow (oC (wI (Gb.mk K mg) "Bundle" []) []) :: [.im (Py.r (Gb.mk K mg) p.1)]) (fun p => some (M.Voucher_init_3 p.1)) (fun _ => .im (Py.r (Gb.mk K mg) ())) (fun r : (Option MarksD) => [(0, (oC (wI (Gb.mk K mg) "Bundle" ["marks"]) [(oI (Py.r (Gb.mk K mg) (r : (Option MarksD))))]))])) := by
  refine fiu_mk T.F_Voucher_init sc_Voucher_init (fun _ => rfl) (by decide) (fun _ p hp => by rw [List.mem_singleton.mp hp]; exact Nat.succ_pos _) (fun cdv A outer s H E I R u p hr => ?_)
  obtain ⟨x_marks, ⟨⟩⟩ := p
  refine MB.eq (MB.p1 (MB.p1 (mb_fldN (me_ifP (mt_cm (MC.p1 (mc_isN (me_var 1)))) (ME.p1 (me_some (me_frzO (fun _ => (z_Marks _)) (ME.eq (me_make0 (or := fun r => o_Marks K mg r) ((none : (Option Int)), ((0 : Int) : Int), (none : (Option Int)), (false : Bool), (false : Bool), (false : Bool), ()) (ok_Marks_init T) hr (by decide) T.mk_Marks T.m_Marks T.b_Marks_init_1 T.v_Marks_init_1 (by exact (fun _ _ => .cons rfl (.cons rfl (.cons rfl (.cons rfl (.cons rfl (.cons rfl (.nil))))))))) (m' := some (M.Marks_init (none : (Option Int)) ((0 : Int) : Int) (none : (Option Int)) (false : Bool) (false : Bool) (false : Bool))) rfl)))) (me_var 1)) (mp_pin 0 (v0 := u 0) (o1 := (oC (wI (Gb.mk K mg) "Bundle" []) []))) ⟨_, T.m_Bundle, T.cl_Bundle, T.n_Bundle_marks⟩ (fun _ x_self_marks => mb_endU (b := x_self_marks) (.cons rfl .nil))))) ?_
  delta M.Voucher_init_3
  rfl
theorem ok_Bundle_init (T : Tx K mg) : FnOk P w K mg base CX0 4 T.f_Bundle_init T.d_Bundle_init ["self", "many", "price", "marks"] (spIO (Gb.mk K mg) (fun p : Int × Int × (Option MarksD) × Unit => .ow (oC (wI (Gb.mk K mg) "Bundle" []) []) :: [.im (Py.r (Gb.mk K mg) p.1), .im (Py.r (Gb.mk K mg) p.2.1), .im (Py.r (Gb.mk K mg) p.2.2.1)]) (fun p => some (M.Bundle_init p.1 p.2.1 p.2.2.1)) (fun _ => .im (Py.r (Gb.mk K mg) ())) (fun r : BundleD => [(0, (o_Bundle K mg r))])) := by
  refine fiu_mk T.F_Bundle_init sc_Bundle_init (fun _ => rfl) (by decide) (fun _ p hp => by rw [List.mem_singleton.mp hp]; exact Nat.succ_pos _) (fun cdv A outer s H E I R u p hr => ?_)
  obtain ⟨x_many, x_price, x_marks, ⟨⟩⟩ := p
  refine MB.eq (MB.p1 (mb_clsInit (or := fun r : (Option MarksD) => (oC (wI (Gb.mk K mg) "Bundle" ["marks"]) [(oI (Py.r (Gb.mk K mg) (r : (Option MarksD))))])) 0 (ok_Voucher_init_3 T) hr (by decide) T.m_Voucher T.cr_Voucher T.cv_Voucher_Voucher_init T.k_Voucher_init T.b_Voucher_init_2 .nil (MA.p1 (ma_cons (args := fun p : Unit => []) (me_var 3) co_im (fun _ => ma_nl))) (fun r1 => MB.p1 (MB.p1 (mb_fldN (me_var 1) (mp_pin 0 (v0 := u 0) (o1 := (oC (wI (Gb.mk K mg) "Bundle" ["marks"]) [(oI (Py.r (Gb.mk K mg) (r1 : (Option MarksD))))]))) ⟨_, T.m_Bundle, T.cl_Bundle, T.n_Bundle_many⟩ (fun _ x_self_many => MB.p1 (MB.p1 (mb_fldN (me_var 2) (mp_pin 0 (v0 := u 0) (o1 := (oC (wI (Gb.mk K mg) "Bundle" ["marks", "many"]) [(oI (Py.r (Gb.mk K mg) (r1 : (Option MarksD)))), (oI (Py.r (Gb.mk K mg) (x_self_many : Int)))]))) ⟨_, T.m_Bundle, T.cl_Bundle, T.n_Bundle_price⟩ (fun _ x_self_price => mb_endU (b := (BundleD.mk r1 x_self_many x_self_price)) (.cons rfl .nil)))))))))) ?_
  delta M.Bundle_init
  rfl
theorem ok_Voucher_init_4 (T : Tx K mg) : FnOk P w K mg base CX0 3 T.f_Voucher_init T.d_Voucher_init ["self", "marks"] (spIO (Gb.mk K mg) (fun p : (Option MarksD) × Unit => .ow (oC (wI (Gb.mk K mg) "Carriage" []) []) :: [.im (Py.r (Gb.mk K mg) p.1)]) (fun p => some (M.Voucher_init_4 p.1)) (fun _ => .im (Py.r (Gb.mk K mg) ())) (fun r : CarriageD => [(0, (o_Carriage K mg r))])) := by
  refine fiu_mk T.F_Voucher_init sc_Voucher_init (fun _ => rfl) (by decide) (fun _ p hp => by rw [List.mem_singleton.mp hp]; exact Nat.succ_pos _) (fun cdv A outer s H E I R u p hr => ?_)
  obtain ⟨x_marks, ⟨⟩⟩ := p
  refine MB.eq (MB.p1 (MB.p1 (mb_fldN (me_ifP (mt_cm (MC.p1 (mc_isN (me_var 1)))) (ME.p1 (me_some (me_frzO (fun _ => (z_Marks _)) (ME.eq (me_make0 (or := fun r => o_Marks K mg r) ((none : (Option Int)), ((0 : Int) : Int), (none : (Option Int)), (false : Bool), (false : Bool), (false : Bool), ()) (ok_Marks_init T) hr (by decide) T.mk_Marks T.m_Marks T.b_Marks_init_1 T.v_Marks_init_1 (by exact (fun _ _ => .cons rfl (.cons rfl (.cons rfl (.cons rfl (.cons rfl (.cons rfl (.nil))))))))) (m' := some (M.Marks_init (none : (Option Int)) ((0 : Int) : Int) (none : (Option Int)) (false : Bool) (false : Bool) (false : Bool))) rfl)))) (me_var 1)) (mp_pin 0 (v0 := u 0) (o1 := (oC (wI (Gb.mk K mg) "Carriage" []) []))) ⟨_, T.m_Carriage, T.cl_Carriage, T.n_Carriage_marks⟩ (fun _ x_self_marks => mb_endU (b := (CarriageD.mk x_self_marks)) (.cons rfl .nil))))) ?_
  delta M.Voucher_init_4
  rfl
theorem ok_law_made (T : Tx K mg) : FnOk P w K mg base CX0 6 T.f_law_made T.d_law_made ["_law_cell", "_law_own", "_law_how"] (spT (Gb.mk K mg) (fun p : Int × MarksD × Int × Unit => [.im (Py.r (Gb.mk K mg) p.1), .im (Py.r (Gb.mk K mg) p.2.1), .im (Py.r (Gb.mk K mg) p.2.2.1)]) (fun p => M.law_made p.1 p.2.1 p.2.2.1) (fun r => .im (Py.r (Gb.mk K mg) (r : VoucherD)))) := by
  refine fnx_mk T.F_law_made sc_law_made (fun _ => rfl) (fun _ => rfl) (by decide) (fun cdv A outer s H E I p hr => ?_)
  obtain ⟨x_law_cell, x_law_own, x_law_how, ⟨⟩⟩ := p
  refine MB.eq (MB.p1 (mb_set 3 sc_law_made.nd (ME.p1 (me_modC (n := 5) (by decide) (me_var 0) me_int)) (fun x_law_sort => mb_set 4 sc_law_made.nd (me_call (ok_law_coin T) hr (by decide) T.m_law_coin T.k_law_coin T.b_law_coin_1 .nil (ma_cons (args := fun p : Unit => []) (me_call (ok_law_mix T) hr (by decide) T.m_law_mix T.k_law_mix T.b_law_mix_3 .nil (MA.p1 (ma_cons (args := fun p : Int × Int × Unit => [.im (Py.r (Gb.mk K mg) p.1), .im (Py.r (Gb.mk K mg) p.2.1)]) (me_var 0) co_im (fun _ => (MA.p1 (ma_cons (args := fun p : Int × Unit => [.im (Py.r (Gb.mk K mg) p.1)]) me_int co_im (fun _ => (MA.p1 (ma_cons (args := fun p : Unit => []) me_int co_im (fun _ => ma_nl)))))))))) co_im (fun _ => ma_nl))) (fun x_law_amount => MB.p1 (mb_set 5 sc_law_made.nd (ME.p1 (ME.p1 (me_add me_int (ME.p1 (me_modC (n := 19) (by decide) (ME.p1 (me_divC (n := 5) (by decide) (me_var 0) me_int)) me_int))))) (fun x_law_many => mb_set 6 sc_law_made.nd (ME.p1 (ME.p1 (me_ix (me_lst (α := Int) (ML.p1 (ML.p1 (ml_cons me_int (ML.p1 (ML.p1 (ml_cons me_int (ML.p1 (ML.p1 (ml_cons (ME.p1 (ME.p1 (me_add me_int (ME.p1 (me_modC (n := 1000) (by decide) (ME.p1 (me_divC (n := 10) (by decide) (me_var 0) me_int)) me_int))))) ml_nil)))))))))) (ME.p1 (me_modC (n := 3) (by decide) (ME.p1 (me_divC (n := 5) (by decide) (me_var 0) me_int)) me_int))))) (fun x_law_share => mb_eqS (S' := [some (.im (Py.r (Gb.mk K mg) (x_law_cell : Int))), some (.im (Py.r (Gb.mk K mg) (x_law_own : MarksD))), some (.im (Py.r (Gb.mk K mg) (x_law_how : Int))), some (.im (Py.r (Gb.mk K mg) (x_law_sort : Int))), some (.im (Py.r (Gb.mk K mg) (x_law_amount : Int))), some (.im (Py.r (Gb.mk K mg) (x_law_many : Int))), some (.im (Py.r (Gb.mk K mg) (x_law_share : Int))), none, none]) rfl (MB.p1 (mb_ift (mt_cm (MC.p1 (MC.p1 (mc_eq (α := Int) hr.units (Nat.le_of_ble_eq_true rfl) (me_var 3) me_int)))) (mb_retT (me_up (f := VoucherD.c_Off) (ME.p1 (ME.p1 (me_ix (me_lst (α := OffD) (ML.p1 (ML.p1 (ml_cons (me_frzO (fun _ => (z_Off _)) (me_make (or := fun r => o_Off K mg r) (ok_Off_init T) hr (by decide) T.mk_Off T.m_Off T.b_Off_init_2 T.v_Off_init_2 (MA.p1 (ma_cons (args := fun p : (Option MarksD) × Unit => [.im (Py.r (Gb.mk K mg) p.1)]) (me_var 4) co_im (fun _ => (MA.eqm (ma_dfl ((none : (Option MarksD)), ()) (fun _ _ => .cons rfl (.nil))) rfl)))))) (ML.p1 (ML.p1 (ml_cons (me_frzO (fun _ => (z_Off _)) (me_make (or := fun r => o_Off K mg r) (ok_Off_init T) hr (by decide) T.mk_Off T.m_Off T.b_Off_init_3 .nil (MA.p1 (ma_cons (args := fun p : (Option MarksD) × Unit => [.im (Py.r (Gb.mk K mg) p.1)]) (me_var 4) co_im (fun _ => (MA.p1 (ma_cons (args := fun p : Unit => []) me_non co_im (fun _ => ma_nl)))))))) (ML.p1 (ML.p1 (ml_cons (me_frzO (fun _ => (z_Off _)) (me_make (or := fun r => o_Off K mg r) (ok_Off_init T) hr (by decide) T.mk_Off T.m_Off T.b_Off_init_3 .nil (MA.p1 (ma_cons (args := fun p : (Option MarksD) × Unit => [.im (Py.r (Gb.mk K mg) p.1)]) (me_var 4) co_im (fun _ => (MA.p1 (ma_cons (args := fun p : Unit => []) (ME.p1 (me_some (me_var 1))) co_im (fun _ => ma_nl)))))))) (ML.p1 (ML.p1 (ml_cons (me_frzO (fun _ => (z_Off _)) (ME.eq (m' := (some (M.Off_init x_law_amount ((some x_law_own : (Option MarksD)))))) (me_makeK (or := fun r => o_Off K mg r) (fun p : Int × (Option MarksD) × Unit => (p.1, p.2.1, ())) (fun vs zs => vs ++ ((zs.drop 0).take 1)) (ok_Off_init T) hr (by decide) T.mk_Off T.m_Off T.kb_Off_init_2_marks (mx_cons (args := fun p : (Option MarksD) × Unit => [.im (Py.r (Gb.mk K mg) p.1)]) (me_var 4) co_im (fun _ => (mx_kw (mk_cons (args := fun p : Unit => []) (ME.p1 (me_some (me_var 1))) co_im (fun _ => mk_nil))))) hA_Off_init_2_marks) rfl)) ml_nil))))))))))))) (me_var 2)))))) (MB.p1 (mb_ift (mt_cm (MC.p1 (MC.p1 (mc_eq (α := Int) hr.units (Nat.le_of_ble_eq_true rfl) (me_var 3) me_int)))) (MB.p1 (mb_set 7 sc_law_made.nd (me_cm (MC.p1 (MC.p1 (mc_eq (α := Int) hr.units (Nat.le_of_ble_eq_true rfl) (ME.p1 (me_modC (n := 2) (by decide) (ME.p1 (me_divC (n := 35) (by decide) (me_var 0) me_int)) me_int)) me_int)))) (fun x_law_by => mb_retT (me_up (f := VoucherD.c_Share) (ME.p1 (ME.p1 (me_ix (me_lst (α := ShareD) (ML.p1 (ML.p1 (ml_cons (me_frzO (fun _ => (z_Share _)) (me_make (or := fun r => o_Share K mg r) (ok_Share_init T) hr (by decide) T.mk_Share T.m_Share T.b_Share_init_2 T.v_Share_init_2 (MA.p1 (ma_cons (args := fun p : Bool × (Option MarksD) × Unit => [.im (Py.r (Gb.mk K mg) p.1), .im (Py.r (Gb.mk K mg) p.2.1)]) (me_var 6) co_im (fun _ => (MA.eqm (ma_dfl ((false : Bool), (none : (Option MarksD)), ()) (fun _ _ => .cons rfl (.cons rfl (.nil)))) rfl)))))) (ML.p1 (ML.p1 (ml_cons (me_frzO (fun _ => (z_Share _)) (me_make (or := fun r => o_Share K mg r) (ok_Share_init T) hr (by decide) T.mk_Share T.m_Share T.b_Share_init_3 T.v_Share_init_3 (MA.p1 (ma_cons (args := fun p : Bool × (Option MarksD) × Unit => [.im (Py.r (Gb.mk K mg) p.1), .im (Py.r (Gb.mk K mg) p.2.1)]) (me_var 6) co_im (fun _ => (MA.p1 (ma_cons (args := fun p : (Option MarksD) × Unit => [.im (Py.r (Gb.mk K mg) p.1)]) (me_var 7) co_im (fun _ => (MA.eqm (ma_dfl ((none : (Option MarksD)), ()) (fun _ _ => .cons rfl (.nil))) rfl))))))))) (ML.p1 (ML.p1 (ml_cons (me_frzO (fun _ => (z_Share _)) (me_make (or := fun r => o_Share K mg r) (ok_Share_init T) hr (by decide) T.mk_Share T.m_Share T.b_Share_init_4 .nil (MA.p1 (ma_cons (args := fun p : Bool × (Option MarksD) × Unit => [.im (Py.r (Gb.mk K mg) p.1), .im (Py.r (Gb.mk K mg) p.2.1)]) (me_var 6) co_im (fun _ => (MA.p1 (ma_cons (args := fun p : (Option MarksD) × Unit => [.im (Py.r (Gb.mk K mg) p.1)]) (me_var 7) co_im (fun _ => (MA.p1 (ma_cons (args := fun p : Unit => []) (ME.p1 (me_some (me_var 1))) co_im (fun _ => ma_nl))))))))))) (ML.p1 (ML.p1 (ml_cons (me_frzO (fun _ => (z_Share _)) (ME.eq (m' := (some (M.Share_init x_law_share (false : Bool) ((some x_law_own : (Option MarksD)))))) (me_makeK (or := fun r => o_Share K mg r) (fun p : Int × (Option MarksD) × Unit => (p.1, (false : Bool), p.2.1, ())) (fun vs zs => vs ++ ((([.bl false, .non] : List V).drop 0).take 1) ++ ((zs.drop 0).take 1)) (ok_Share_init T) hr (by decide) T.mk_Share T.m_Share T.kb_Share_init_2_marks (mx_cons (args := fun p : (Option MarksD) × Unit => [.im (Py.r (Gb.mk K mg) p.1)]) (me_var 6) co_im (fun _ => (mx_kw (mk_cons (args := fun p : Unit => []) (ME.p1 (me_some (me_var 1))) co_im (fun _ => mk_nil))))) hA_Share_init_2_marks) rfl)) ml_nil))))))))))))) (me_var 2)))))))) (MB.p1 (mb_ift (mt_cm (MC.p1 (MC.p1 (mc_eq (α := Int) hr.units (Nat.le_of_ble_eq_true rfl) (me_var 3) me_int)))) (mb_retT (me_up (f := VoucherD.c_Cheapest) (ME.p1 (ME.p1 (me_ix (me_lst (α := CheapestD) (ML.p1 (ML.p1 (ml_cons (me_frzO (fun _ => (z_Cheapest _)) (me_make (or := fun r => o_Cheapest K mg r) (ok_Cheapest_init T) hr (by decide) T.mk_Cheapest T.m_Cheapest T.b_Cheapest_init_2 T.v_Cheapest_init_2 (MA.p1 (ma_cons (args := fun p : (Option MarksD) × Unit => [.im (Py.r (Gb.mk K mg) p.1)]) (me_var 5) co_im (fun _ => (MA.eqm (ma_dfl ((none : (Option MarksD)), ()) (fun _ _ => .cons rfl (.nil))) rfl)))))) (ML.p1 (ML.p1 (ml_cons (me_frzO (fun _ => (z_Cheapest _)) (me_make (or := fun r => o_Cheapest K mg r) (ok_Cheapest_init T) hr (by decide) T.mk_Cheapest T.m_Cheapest T.b_Cheapest_init_3 .nil (MA.p1 (ma_cons (args := fun p : (Option MarksD) × Unit => [.im (Py.r (Gb.mk K mg) p.1)]) (me_var 5) co_im (fun _ => (MA.p1 (ma_cons (args := fun p : Unit => []) me_non co_im (fun _ => ma_nl)))))))) (ML.p1 (ML.p1 (ml_cons (me_frzO (fun _ => (z_Cheapest _)) (me_make (or := fun r => o_Cheapest K mg r) (ok_Cheapest_init T) hr (by decide) T.mk_Cheapest T.m_Cheapest T.b_Cheapest_init_3 .nil (MA.p1 (ma_cons (args := fun p : (Option MarksD) × Unit => [.im (Py.r (Gb.mk K mg) p.1)]) (me_var 5) co_im (fun _ => (MA.p1 (ma_cons (args := fun p : Unit => []) (ME.p1 (me_some (me_var 1))) co_im (fun _ => ma_nl)))))))) (ML.p1 (ML.p1 (ml_cons (me_frzO (fun _ => (z_Cheapest _)) (ME.eq (m' := (some (M.Cheapest_init x_law_many ((some x_law_own : (Option MarksD)))))) (me_makeK (or := fun r => o_Cheapest K mg r) (fun p : Int × (Option MarksD) × Unit => (p.1, p.2.1, ())) (fun vs zs => vs ++ ((zs.drop 0).take 1)) (ok_Cheapest_init T) hr (by decide) T.mk_Cheapest T.m_Cheapest T.kb_Cheapest_init_2_marks (mx_cons (args := fun p : (Option MarksD) × Unit => [.im (Py.r (Gb.mk K mg) p.1)]) (me_var 5) co_im (fun _ => (mx_kw (mk_cons (args := fun p : Unit => []) (ME.p1 (me_some (me_var 1))) co_im (fun _ => mk_nil))))) hA_Cheapest_init_2_marks) rfl)) ml_nil))))))))))))) (me_var 2)))))) (MB.p1 (mb_ift (mt_cm (MC.p1 (MC.p1 (mc_eq (α := Int) hr.units (Nat.le_of_ble_eq_true rfl) (me_var 3) me_int)))) (mb_eqS (S' := [some (.im (Py.r (Gb.mk K mg) (x_law_cell : Int))), some (.im (Py.r (Gb.mk K mg) (x_law_own : MarksD))), some (.im (Py.r (Gb.mk K mg) (x_law_how : Int))), some (.im (Py.r (Gb.mk K mg) (x_law_sort : Int))), some (.im (Py.r (Gb.mk K mg) (x_law_amount : Int))), some (.im (Py.r (Gb.mk K mg) (x_law_many : Int))), some (.im (Py.r (Gb.mk K mg) (x_law_share : Int))), none, none]) rfl (MB.p1 (mb_set 8 sc_law_made.nd (me_lst (α := BundleD) (ML.p1 (ML.p1 (ml_cons (me_frzO (fun _ => (z_Bundle _)) (me_make (or := fun r => o_Bundle K mg r) (ok_Bundle_init T) hr (by decide) T.mk_Bundle T.m_Bundle T.b_Bundle_init_3 T.v_Bundle_init_3 (MA.p1 (ma_cons (args := fun p : Int × (Option MarksD) × Unit => [.im (Py.r (Gb.mk K mg) p.1), .im (Py.r (Gb.mk K mg) p.2.1)]) (me_var 5) co_im (fun _ => (MA.p1 (ma_cons (args := fun p : (Option MarksD) × Unit => [.im (Py.r (Gb.mk K mg) p.1)]) (me_var 4) co_im (fun _ => (MA.eqm (ma_dfl ((none : (Option MarksD)), ()) (fun _ _ => .cons rfl (.nil))) rfl))))))))) (ML.p1 (ML.p1 (ml_cons (me_frzO (fun _ => (z_Bundle _)) (me_make (or := fun r => o_Bundle K mg r) (ok_Bundle_init T) hr (by decide) T.mk_Bundle T.m_Bundle T.b_Bundle_init_4 .nil (MA.p1 (ma_cons (args := fun p : Int × (Option MarksD) × Unit => [.im (Py.r (Gb.mk K mg) p.1), .im (Py.r (Gb.mk K mg) p.2.1)]) (me_var 5) co_im (fun _ => (MA.p1 (ma_cons (args := fun p : (Option MarksD) × Unit => [.im (Py.r (Gb.mk K mg) p.1)]) (me_var 4) co_im (fun _ => (MA.p1 (ma_cons (args := fun p : Unit => []) me_non co_im (fun _ => ma_nl))))))))))) (ML.p1 (ML.p1 (ml_cons (me_frzO (fun _ => (z_Bundle _)) (me_make (or := fun r => o_Bundle K mg r) (ok_Bundle_init T) hr (by decide) T.mk_Bundle T.m_Bundle T.b_Bundle_init_4 .nil (MA.p1 (ma_cons (args := fun p : Int × (Option MarksD) × Unit => [.im (Py.r (Gb.mk K mg) p.1), .im (Py.r (Gb.mk K mg) p.2.1)]) (me_var 5) co_im (fun _ => (MA.p1 (ma_cons (args := fun p : (Option MarksD) × Unit => [.im (Py.r (Gb.mk K mg) p.1)]) (me_var 4) co_im (fun _ => (MA.p1 (ma_cons (args := fun p : Unit => []) (ME.p1 (me_some (me_var 1))) co_im (fun _ => ma_nl))))))))))) ml_nil)))))))))) (fun x_law_some => mb_retT (me_up (f := VoucherD.c_Bundle) (ME.p2 (me_ix (ME.p1 (ME.p1 (me_cat (me_own 8) (me_lst (α := BundleD) (ML.p1 (ML.p1 (ml_cons (me_frzO (fun _ => (z_Bundle _)) (ME.eq (m' := (some (M.Bundle_init x_law_many x_law_amount ((some x_law_own : (Option MarksD)))))) (me_makeK (or := fun r => o_Bundle K mg r) (fun p : Int × Int × (Option MarksD) × Unit => (p.1, p.2.1, p.2.2.1, ())) (fun vs zs => vs ++ ((zs.drop 0).take 1)) (ok_Bundle_init T) hr (by decide) T.mk_Bundle T.m_Bundle T.kb_Bundle_init_3_marks (mx_cons (args := fun p : Int × (Option MarksD) × Unit => [.im (Py.r (Gb.mk K mg) p.1), .im (Py.r (Gb.mk K mg) p.2.1)]) (me_var 5) co_im (fun _ => (mx_cons (args := fun p : (Option MarksD) × Unit => [.im (Py.r (Gb.mk K mg) p.1)]) (me_var 4) co_im (fun _ => (mx_kw (mk_cons (args := fun p : Unit => []) (ME.p1 (me_some (me_var 1))) co_im (fun _ => mk_nil))))))) hA_Bundle_init_3_marks) rfl)) ml_nil))))))) (me_var 2)))))))) (mb_eqS (S' := [some (.im (Py.r (Gb.mk K mg) (x_law_cell : Int))), some (.im (Py.r (Gb.mk K mg) (x_law_own : MarksD))), some (.im (Py.r (Gb.mk K mg) (x_law_how : Int))), some (.im (Py.r (Gb.mk K mg) (x_law_sort : Int))), some (.im (Py.r (Gb.mk K mg) (x_law_amount : Int))), some (.im (Py.r (Gb.mk K mg) (x_law_many : Int))), some (.im (Py.r (Gb.mk K mg) (x_law_share : Int))), none, none]) rfl (mb_retT (me_up (f := VoucherD.c_Carriage) (ME.p1 (ME.p1 (me_ix (me_lst (α := CarriageD) (ML.p1 (ML.p1 (ml_cons (me_frzO (fun _ => (z_Carriage _)) (ME.eq (me_make0 (or := fun r => o_Carriage K mg r) ((none : (Option MarksD)), ()) (ok_Voucher_init_4 T) hr (by decide) T.mk_Carriage T.m_Carriage T.b_Voucher_init_1 T.v_Voucher_init_1 (by exact (fun _ _ => .cons rfl (.nil)))) (m' := some (M.Voucher_init_4 (none : (Option MarksD)))) rfl)) (ML.p1 (ML.p1 (ml_cons (me_frzO (fun _ => (z_Carriage _)) (me_make (or := fun r => o_Carriage K mg r) (ok_Voucher_init_4 T) hr (by decide) T.mk_Carriage T.m_Carriage T.b_Voucher_init_2 .nil (MA.p1 (ma_cons (args := fun p : Unit => []) me_non co_im (fun _ => ma_nl))))) (ML.p1 (ML.p1 (ml_cons (me_frzO (fun _ => (z_Carriage _)) (me_make (or := fun r => o_Carriage K mg r) (ok_Voucher_init_4 T) hr (by decide) T.mk_Carriage T.m_Carriage T.b_Voucher_init_2 .nil (MA.p1 (ma_cons (args := fun p : Unit => []) (ME.p1 (me_some (me_var 1))) co_im (fun _ => ma_nl))))) (ML.p1 (ML.p1 (ml_cons (me_frzO (fun _ => (z_Carriage _)) (ME.eq (m' := (some (M.Voucher_init_4 ((some x_law_own : (Option MarksD)))))) (me_makeK0 (or := fun r => o_Carriage K mg r) (fun p : (Option MarksD) × Unit => (p.1, ())) (fun zs => [] ++ ((zs.drop 0).take 1)) (ok_Voucher_init_4 T) hr (by decide) T.mk_Carriage T.m_Carriage T.kb_Voucher_init_1_marks (mk_cons (args := fun p : Unit => []) (ME.p1 (me_some (me_var 1))) co_im (fun _ => mk_nil)) hA_Voucher_init_1_marks) rfl)) ml_nil))))))))))))) (me_var 2))))))) hk_t)) hk_t)) hk_t)) hk_t))))))))) ?_
  delta M.law_made
  rfl
theorem ok_law_whole (T : Tx K mg) : FnOk P w K mg base CX0 1 T.f_law_whole T.d_law_whole ["_law_found"] (spT (Gb.mk K mg) (fun p : Int × Unit => [.im (Py.r (Gb.mk K mg) p.1)]) (fun p => some (M.law_whole p.1)) (fun r => .im (Py.r (Gb.mk K mg) (r : Bool)))) := by
  refine fnx_mk T.F_law_whole sc_law_whole (fun _ => rfl) (fun _ => rfl) (by decide) (fun cdv A outer s H E I p hr => ?_)
  obtain ⟨x_law_found, ⟨⟩⟩ := p
  refine MB.eq (mb_retT (me_andP (ME.p1 (me_isiG (Ty := "int") (bf := (fun _ => true)) T.g_isinstance T.g_int (me_var 0) (tg_of (t := "int") tr_im) (fun _ => kit_ty (a := "int") (b := "int") (r := true) (by decide +kernel)) (by decide +kernel))) (me_one (ME.p1 (me_not (ME.p1 (me_isiG (Ty := "bool") (bf := (fun _ => false)) T.g_isinstance T.g_bool (me_var 0) (tg_of (t := "int") tr_im) (fun _ => kit_ty (a := "int") (b := "bool") (r := false) (by decide +kernel)) (by decide +kernel)))))))) ?_
  delta M.law_whole
  rfl
theorem ok_law_right (T : Tx K mg) : FnOk P w K mg base CX0 2 T.f_law_right T.d_law_right ["_law_voucher", "_law_cell", "_law_how"] (spT (Gb.mk K mg) (fun p : VoucherD × Int × Int × Unit => [.im (Py.r (Gb.mk K mg) p.1), .im (Py.r (Gb.mk K mg) p.2.1), .im (Py.r (Gb.mk K mg) p.2.2.1)]) (fun p => M.law_right p.1 p.2.1 p.2.2.1) (fun r => .im (Py.r (Gb.mk K mg) (r : Bool)))) := by
  refine fnx_mk T.F_law_right sc_law_right (fun _ => rfl) (fun _ => rfl) (by decide) (fun cdv A outer s H E I p hr => ?_)
  obtain ⟨x_law_voucher, x_law_cell, x_law_how, ⟨⟩⟩ := p
  refine MB.eq (MB.p1 (mb_set 3 sc_law_right.nd (ME.p1 (me_modC (n := 5) (by decide) (me_var 1) me_int)) (fun x_law_sort => mb_set 4 sc_law_right.nd (me_call (ok_law_coin T) hr (by decide) T.m_law_coin T.k_law_coin T.b_law_coin_1 .nil (ma_cons (args := fun p : Unit => []) (me_call (ok_law_mix T) hr (by decide) T.m_law_mix T.k_law_mix T.b_law_mix_3 .nil (MA.p1 (ma_cons (args := fun p : Int × Int × Unit => [.im (Py.r (Gb.mk K mg) p.1), .im (Py.r (Gb.mk K mg) p.2.1)]) (me_var 1) co_im (fun _ => (MA.p1 (ma_cons (args := fun p : Int × Unit => [.im (Py.r (Gb.mk K mg) p.1)]) me_int co_im (fun _ => (MA.p1 (ma_cons (args := fun p : Unit => []) me_int co_im (fun _ => ma_nl)))))))))) co_im (fun _ => ma_nl))) (fun x_law_amount => MB.p1 (mb_set 5 sc_law_right.nd (ME.p1 (ME.p1 (me_add me_int (ME.p1 (me_modC (n := 19) (by decide) (ME.p1 (me_divC (n := 5) (by decide) (me_var 1) me_int)) me_int))))) (fun x_law_many => MB.p1 (mb_set 6 sc_law_right.nd (me_lst (α := Bool) (ML.p1 (ML.p1 (ml_cons (ME.p1 (me_isiGC (tf := (fun (d : VoucherD) => match d with | .c_Off _ => .ref T.C_Off | .c_Share _ => .ref T.C_Share | .c_Cheapest _ => .ref T.C_Cheapest | .c_Bundle _ => .ref T.C_Bundle | .c_Carriage _ => .ref T.C_Carriage)) (bf := (fun (d : VoucherD) => match d with | .c_Off _ => true | .c_Share _ => false | .c_Cheapest _ => false | .c_Bundle _ => false | .c_Carriage _ => false)) T.g_isinstance T.m_Off (me_var 0) (fun a H0 v I H s h => by cases a with | c_Off o => exact tyx_ins T.ic_Off T.m_Off s h | c_Share o => exact tyx_ins T.ic_Share T.m_Share s h | c_Cheapest o => exact tyx_ins T.ic_Cheapest T.m_Cheapest s h | c_Bundle o => exact tyx_ins T.ic_Bundle T.m_Bundle s h | c_Carriage o => exact tyx_ins T.ic_Carriage T.m_Carriage s h) (fun a => by cases a with | c_Off o => exact T.ki_Off_Off | c_Share o => exact T.ki_Share_Off | c_Cheapest o => exact T.ki_Cheapest_Off | c_Bundle o => exact T.ki_Bundle_Off | c_Carriage o => exact T.ki_Carriage_Off))) (ML.p1 (ML.p1 (ml_cons (ME.p1 (me_isiGC (tf := (fun (d : VoucherD) => match d with | .c_Off _ => .ref T.C_Off | .c_Share _ => .ref T.C_Share | .c_Cheapest _ => .ref T.C_Cheapest | .c_Bundle _ => .ref T.C_Bundle | .c_Carriage _ => .ref T.C_Carriage)) (bf := (fun (d : VoucherD) => match d with | .c_Off _ => false | .c_Share _ => true | .c_Cheapest _ => false | .c_Bundle _ => false | .c_Carriage _ => false)) T.g_isinstance T.m_Share (me_var 0) (fun a H0 v I H s h => by cases a with | c_Off o => exact tyx_ins T.ic_Off T.m_Off s h | c_Share o => exact tyx_ins T.ic_Share T.m_Share s h | c_Cheapest o => exact tyx_ins T.ic_Cheapest T.m_Cheapest s h | c_Bundle o => exact tyx_ins T.ic_Bundle T.m_Bundle s h | c_Carriage o => exact tyx_ins T.ic_Carriage T.m_Carriage s h) (fun a => by cases a with | c_Off o => exact T.ki_Off_Share | c_Share o => exact T.ki_Share_Share | c_Cheapest o => exact T.ki_Cheapest_Share | c_Bundle o => exact T.ki_Bundle_Share | c_Carriage o => exact T.ki_Carriage_Share))) (ML.p1 (ML.p1 (ml_cons (ME.p1 (me_isiGC (tf := (fun (d : VoucherD) => match d with | .c_Off _ => .ref T.C_Off | .c_Share _ => .ref T.C_Share | .c_Cheapest _ => .ref T.C_Cheapest | .c_Bundle _ => .ref T.C_Bundle | .c_Carriage _ => .ref T.C_Carriage)) (bf := (fun (d : VoucherD) => match d with | .c_Off _ => false | .c_Share _ => false | .c_Cheapest _ => true | .c_Bundle _ => false | .c_Carriage _ => false)) T.g_isinstance T.m_Cheapest (me_var 0) (fun a H0 v I H s h => by cases a with | c_Off o => exact tyx_ins T.ic_Off T.m_Off s h | c_Share o => exact tyx_ins T.ic_Share T.m_Share s h | c_Cheapest o => exact tyx_ins T.ic_Cheapest T.m_Cheapest s h | c_Bundle o => exact tyx_ins T.ic_Bundle T.m_Bundle s h | c_Carriage o => exact tyx_ins T.ic_Carriage T.m_Carriage s h) (fun a => by cases a with | c_Off o => exact T.ki_Off_Cheapest | c_Share o => exact T.ki_Share_Cheapest | c_Cheapest o => exact T.ki_Cheapest_Cheapest | c_Bundle o => exact T.ki_Bundle_Cheapest | c_Carriage o => exact T.ki_Carriage_Cheapest))) ml_nil)))))))))) (fun x_law_kinds => mb_eqS (S' := [some (.im (Py.r (Gb.mk K mg) (x_law_voucher : VoucherD))), some (.im (Py.r (Gb.mk K mg) (x_law_cell : Int))), some (.im (Py.r (Gb.mk K mg) (x_law_how : Int))), some (.im (Py.r (Gb.mk K mg) (x_law_sort : Int))), some (.im (Py.r (Gb.mk K mg) (x_law_amount : Int))), some (.im (Py.r (Gb.mk K mg) (x_law_many : Int))), some (.fr (rl (Gb.mk K mg) (x_law_kinds : (List Bool)))), none, none]) rfl (MB.p1 (MB.p1 (mb_extP (mp_fr 6 (as := (x_law_kinds : (List Bool)))) (me_lst (α := Bool) (ML.p1 (ML.p1 (ml_cons (ME.p1 (me_isiGC (tf := (fun (d : VoucherD) => match d with | .c_Off _ => .ref T.C_Off | .c_Share _ => .ref T.C_Share | .c_Cheapest _ => .ref T.C_Cheapest | .c_Bundle _ => .ref T.C_Bundle | .c_Carriage _ => .ref T.C_Carriage)) (bf := (fun (d : VoucherD) => match d with | .c_Off _ => false | .c_Share _ => false | .c_Cheapest _ => false | .c_Bundle _ => true | .c_Carriage _ => false)) T.g_isinstance T.m_Bundle (me_var 0) (fun a H0 v I H s h => by cases a with | c_Off o => exact tyx_ins T.ic_Off T.m_Off s h | c_Share o => exact tyx_ins T.ic_Share T.m_Share s h | c_Cheapest o => exact tyx_ins T.ic_Cheapest T.m_Cheapest s h | c_Bundle o => exact tyx_ins T.ic_Bundle T.m_Bundle s h | c_Carriage o => exact tyx_ins T.ic_Carriage T.m_Carriage s h) (fun a => by cases a with | c_Off o => exact T.ki_Off_Bundle | c_Share o => exact T.ki_Share_Bundle | c_Cheapest o => exact T.ki_Cheapest_Bundle | c_Bundle o => exact T.ki_Bundle_Bundle | c_Carriage o => exact T.ki_Carriage_Bundle))) (ML.p1 (ML.p1 (ml_cons (ME.p1 (me_isiGC (tf := (fun (d : VoucherD) => match d with | .c_Off _ => .ref T.C_Off | .c_Share _ => .ref T.C_Share | .c_Cheapest _ => .ref T.C_Cheapest | .c_Bundle _ => .ref T.C_Bundle | .c_Carriage _ => .ref T.C_Carriage)) (bf := (fun (d : VoucherD) => match d with | .c_Off _ => false | .c_Share _ => false | .c_Cheapest _ => false | .c_Bundle _ => false | .c_Carriage _ => true)) T.g_isinstance T.m_Carriage (me_var 0) (fun a H0 v I H s h => by cases a with | c_Off o => exact tyx_ins T.ic_Off T.m_Off s h | c_Share o => exact tyx_ins T.ic_Share T.m_Share s h | c_Cheapest o => exact tyx_ins T.ic_Cheapest T.m_Cheapest s h | c_Bundle o => exact tyx_ins T.ic_Bundle T.m_Bundle s h | c_Carriage o => exact tyx_ins T.ic_Carriage T.m_Carriage s h) (fun a => by cases a with | c_Off o => exact T.ki_Off_Carriage | c_Share o => exact T.ki_Share_Carriage | c_Cheapest o => exact T.ki_Cheapest_Carriage | c_Bundle o => exact T.ki_Bundle_Carriage | c_Carriage o => exact T.ki_Carriage_Carriage))) ml_nil))))))) (fun _ x_law_kinds => mb_unow 6 rfl (mb_ift (mt_w (mw_or (mt_cm (MC.p1 (mc_ne (α := (List Bool)) hr.units (Nat.le_of_ble_eq_true rfl) (me_own 6) (me_lcP (α := Int) (own := [("_law_k", 8)]) sc_law_right.nd (MI.p1 (mi_rng1 T.g_range me_int)) (by first | (show blkC ["_law_voucher", "_law_cell", "_law_how", "_law_sort", "_law_amount", "_law_many", "_law_kinds", "_law_share", "_law_k"] (defScope s_law_right) _ _ = true; decide +kernel) | rfl) (by decide) (fun _ _ _ _ _ => (mg_name 8 sc_law_right.nd)) (fun _ _ _ _ _ (x_law_k : Int) => (me_cm (MC.p1 (MC.p1 (mc_eq (α := Int) hr.units (Nat.le_of_ble_eq_true rfl) (me_var 8) (me_var 3)))))))))) (mw_or1 (MT.p1 (mt_not (mt_val (ME.p1 (me_isiGC (tf := (fun (d : VoucherD) => match d with | .c_Off _ => .ref T.C_Off | .c_Share _ => .ref T.C_Share | .c_Cheapest _ => .ref T.C_Cheapest | .c_Bundle _ => .ref T.C_Bundle | .c_Carriage _ => .ref T.C_Carriage)) (bf := (fun (d : VoucherD) => match d with | .c_Off _ => true | .c_Share _ => true | .c_Cheapest _ => true | .c_Bundle _ => true | .c_Carriage _ => true)) T.g_isinstance T.m_Voucher (me_var 0) (fun a H0 v I H s h => by cases a with | c_Off o => exact tyx_ins T.ic_Off T.m_Off s h | c_Share o => exact tyx_ins T.ic_Share T.m_Share s h | c_Cheapest o => exact tyx_ins T.ic_Cheapest T.m_Cheapest s h | c_Bundle o => exact tyx_ins T.ic_Bundle T.m_Bundle s h | c_Carriage o => exact tyx_ins T.ic_Carriage T.m_Carriage s h) (fun a => by cases a with | c_Off o => exact T.ki_Off_Voucher | c_Share o => exact T.ki_Share_Voucher | c_Cheapest o => exact T.ki_Cheapest_Voucher | c_Bundle o => exact T.ki_Bundle_Voucher | c_Carriage o => exact T.ki_Carriage_Voucher))))))))) (mb_retT me_bl) (MB.p1 (mb_ift (mt_cm (MC.p1 (MC.p1 (mc_eq (α := Int) hr.units (Nat.le_of_ble_eq_true rfl) (me_var 3) me_int)))) (mb_retT (me_and (me_cm (MC.p2 (mc_eq (α := Int) hr.units (Nat.le_of_ble_eq_true rfl) (ME.p1 (me_fldU (pr := VoucherD.f_amount) (me_var 0) (fun d => by cases d with | c_Off o => exact (fun b z I v h => by cases z; exact rIns_fld 1 ⟨_, T.m_Off, T.cl_Off, T.n_Off_amount⟩ h) | c_Share o => exact (fun b z => by cases z) | c_Cheapest o => exact (fun b z => by cases z) | c_Bundle o => exact (fun b z => by cases z) | c_Carriage o => exact (fun b z => by cases z)))) (me_var 4)))) (me_one (me_call (ok_law_whole T) hr (by decide) T.m_law_whole T.k_law_whole T.b_law_whole_1 .nil (ma_cons (args := fun p : Unit => []) (ME.p1 (me_fldU (pr := VoucherD.f_amount) (me_var 0) (fun d => by cases d with | c_Off o => exact (fun b z I v h => by cases z; exact rIns_fld 1 ⟨_, T.m_Off, T.cl_Off, T.n_Off_amount⟩ h) | c_Share o => exact (fun b z => by cases z) | c_Cheapest o => exact (fun b z => by cases z) | c_Bundle o => exact (fun b z => by cases z) | c_Carriage o => exact (fun b z => by cases z)))) co_im (fun _ => ma_nl)))))) (MB.p1 (mb_ift (mt_cm (MC.p1 (MC.p1 (mc_eq (α := Int) hr.units (Nat.le_of_ble_eq_true rfl) (me_var 3) me_int)))) (mb_eqS (S' := [some (.im (Py.r (Gb.mk K mg) (x_law_voucher : VoucherD))), some (.im (Py.r (Gb.mk K mg) (x_law_cell : Int))), some (.im (Py.r (Gb.mk K mg) (x_law_how : Int))), some (.im (Py.r (Gb.mk K mg) (x_law_sort : Int))), some (.im (Py.r (Gb.mk K mg) (x_law_amount : Int))), some (.im (Py.r (Gb.mk K mg) (x_law_many : Int))), some (.fr (rl (Gb.mk K mg) (x_law_kinds : (List Bool)))), none, none]) rfl (mb_set 7 sc_law_right.nd (ME.p1 (ME.p1 (me_ix (me_lst (α := Int) (ML.p1 (ML.p1 (ml_cons me_int (ML.p1 (ML.p1 (ml_cons me_int (ML.p1 (ML.p1 (ml_cons (ME.p1 (ME.p1 (me_add me_int (ME.p1 (me_modC (n := 1000) (by decide) (ME.p1 (me_divC (n := 10) (by decide) (me_var 1) me_int)) me_int))))) ml_nil)))))))))) (ME.p1 (me_modC (n := 3) (by decide) (ME.p1 (me_divC (n := 5) (by decide) (me_var 1) me_int)) me_int))))) (fun x_law_share => mb_ift (mt_w (mw_or (mt_not (mt_val (me_isiG (Ty := "bool") (bf := (fun _ => true)) T.g_isinstance T.g_bool (ME.p1 (me_fldU (pr := VoucherD.f_by_line) (me_var 0) (fun d => by cases d with | c_Off o => exact (fun b z => by cases z) | c_Share o => exact (fun b z I v h => by cases z; exact rIns_fld 2 ⟨_, T.m_Share, T.cl_Share, T.n_Share_by_line⟩ h) | c_Cheapest o => exact (fun b z => by cases z) | c_Bundle o => exact (fun b z => by cases z) | c_Carriage o => exact (fun b z => by cases z)))) (tg_of (t := "bool") tr_im) (fun _ => kit_ty (a := "bool") (b := "bool") (r := true) (by decide +kernel)) (by decide +kernel)))) (mw_or1 (mt_cm (MC.p2 (mc_ne (α := Bool) hr.units (Nat.le_of_ble_eq_true rfl) (ME.p1 (me_fldU (pr := VoucherD.f_by_line) (me_var 0) (fun d => by cases d with | c_Off o => exact (fun b z => by cases z) | c_Share o => exact (fun b z I v h => by cases z; exact rIns_fld 2 ⟨_, T.m_Share, T.cl_Share, T.n_Share_by_line⟩ h) | c_Cheapest o => exact (fun b z => by cases z) | c_Bundle o => exact (fun b z => by cases z) | c_Carriage o => exact (fun b z => by cases z)))) (me_andP (me_cm (MC.p1 (MC.p1 (mc_inT (α := Int) (fun t : (T2 Int Int) => [t.x0, t.x1]) hr.units (Nat.le_of_ble_eq_true rfl) (fun _ => rfl) (me_var 2) (ME.p1 (ME.p1 (me_t2 me_int me_int))))))) (me_one (me_cm (MC.p1 (MC.p1 (mc_eq (α := Int) hr.units (Nat.le_of_ble_eq_true rfl) (ME.p1 (me_modC (n := 2) (by decide) (ME.p1 (me_divC (n := 35) (by decide) (me_var 1) me_int)) me_int)) me_int)))))))))))) (mb_retT me_bl) (mb_retT (me_cm (MC.p2 (mc_eq (α := Int) hr.units (Nat.le_of_ble_eq_true rfl) (ME.p1 (me_fldU (pr := VoucherD.f_share) (me_var 0) (fun d => by cases d with | c_Off o => exact (fun b z => by cases z) | c_Share o => exact (fun b z I v h => by cases z; exact rIns_fld 1 ⟨_, T.m_Share, T.cl_Share, T.n_Share_share⟩ h) | c_Cheapest o => exact (fun b z => by cases z) | c_Bundle o => exact (fun b z => by cases z) | c_Carriage o => exact (fun b z => by cases z)))) (me_var 7))))) hk_t))) (mb_eqS (S' := [some (.im (Py.r (Gb.mk K mg) (x_law_voucher : VoucherD))), some (.im (Py.r (Gb.mk K mg) (x_law_cell : Int))), some (.im (Py.r (Gb.mk K mg) (x_law_how : Int))), some (.im (Py.r (Gb.mk K mg) (x_law_sort : Int))), some (.im (Py.r (Gb.mk K mg) (x_law_amount : Int))), some (.im (Py.r (Gb.mk K mg) (x_law_many : Int))), some (.fr (rl (Gb.mk K mg) (x_law_kinds : (List Bool)))), none, none]) rfl (MB.p1 (mb_ift (mt_cm (MC.p1 (MC.p1 (mc_eq (α := Int) hr.units (Nat.le_of_ble_eq_true rfl) (me_var 3) me_int)))) (mb_retT (me_cm (MC.p2 (mc_eq (α := Int) hr.units (Nat.le_of_ble_eq_true rfl) (ME.p1 (me_fldU (pr := VoucherD.f_many) (me_var 0) (fun d => by cases d with | c_Off o => exact (fun b z => by cases z) | c_Share o => exact (fun b z => by cases z) | c_Cheapest o => exact (fun b z I v h => by cases z; exact rIns_fld 1 ⟨_, T.m_Cheapest, T.cl_Cheapest, T.n_Cheapest_many⟩ h) | c_Bundle o => exact (fun b z I v h => by cases z; exact rIns_fld 1 ⟨_, T.m_Bundle, T.cl_Bundle, T.n_Bundle_many⟩ h) | c_Carriage o => exact (fun b z => by cases z)))) (me_var 5))))) (mb_retT (ME.p1 (me_or (me_cm (MC.p1 (MC.p1 (mc_eq (α := Int) hr.units (Nat.le_of_ble_eq_true rfl) (me_var 3) me_int)))) (me_one (me_and (me_cm (MC.p2 (mc_eq (α := Int) hr.units (Nat.le_of_ble_eq_true rfl) (ME.p1 (me_fldU (pr := VoucherD.f_many) (me_var 0) (fun d => by cases d with | c_Off o => exact (fun b z => by cases z) | c_Share o => exact (fun b z => by cases z) | c_Cheapest o => exact (fun b z I v h => by cases z; exact rIns_fld 1 ⟨_, T.m_Cheapest, T.cl_Cheapest, T.n_Cheapest_many⟩ h) | c_Bundle o => exact (fun b z I v h => by cases z; exact rIns_fld 1 ⟨_, T.m_Bundle, T.cl_Bundle, T.n_Bundle_many⟩ h) | c_Carriage o => exact (fun b z => by cases z)))) (me_var 5)))) (me_one (me_cm (MC.p2 (mc_eq (α := Int) hr.units (Nat.le_of_ble_eq_true rfl) (ME.p1 (me_fldU (pr := VoucherD.f_price) (me_var 0) (fun d => by cases d with | c_Off o => exact (fun b z => by cases z) | c_Share o => exact (fun b z => by cases z) | c_Cheapest o => exact (fun b z => by cases z) | c_Bundle o => exact (fun b z I v h => by cases z; exact rIns_fld 2 ⟨_, T.m_Bundle, T.cl_Bundle, T.n_Bundle_price⟩ h) | c_Carriage o => exact (fun b z => by cases z)))) (me_var 4)))))))))) hk_t))) hk_t)) hk_t)) hk_t))))))))))))) ?_
  delta M.law_right
  rfl
theorem ok_law_fields_1 (T : Tx K mg) : FnOk P w K mg base CX0 1 T.f_law_fields T.d_law_fields ["_law_own"] (spT (Gb.mk K mg) (fun p : (Option MarksD) × Unit => [.im (Py.r (Gb.mk K mg) p.1)]) (fun p => M.law_fields_1 p.1) (fun r => .fr (rl (Gb.mk K mg) (r : (List PyData))))) := by
  refine fnx_mk T.F_law_fields sc_law_fields (fun _ => rfl) (fun _ => rfl) (by decide) (fun cdv A outer s H E I p hr => ?_)
  obtain ⟨x_law_own, ⟨⟩⟩ := p
  refine MB.eq (mb_retT (me_lst (α := PyData) (ml_cons (me_toD (α := (Option Int)) (me_fld (pr := MarksD.f_kind) (ME.p1 (me_get (me_var 0))) (fun d I v h => rIns_fld 0 ⟨_, T.m_Marks, T.cl_Marks, T.n_Marks_kind⟩ h))) (ml_cons (me_toD (α := Int) (me_fld (pr := MarksD.f_needs) (ME.p1 (me_get (me_var 0))) (fun d I v h => rIns_fld 1 ⟨_, T.m_Marks, T.cl_Marks, T.n_Marks_needs⟩ h))) (ml_cons (me_toD (α := (Option Int)) (me_fld (pr := MarksD.f_most) (ME.p1 (me_get (me_var 0))) (fun d I v h => rIns_fld 2 ⟨_, T.m_Marks, T.cl_Marks, T.n_Marks_most⟩ h))) (ml_cons (me_toD (α := Bool) (me_fld (pr := MarksD.f_member) (ME.p1 (me_get (me_var 0))) (fun d I v h => rIns_fld 3 ⟨_, T.m_Marks, T.cl_Marks, T.n_Marks_member⟩ h))) (ml_cons (me_toD (α := Bool) (me_fld (pr := MarksD.f_once) (ME.p1 (me_get (me_var 0))) (fun d I v h => rIns_fld 4 ⟨_, T.m_Marks, T.cl_Marks, T.n_Marks_once⟩ h))) (ML.p2 (ml_cons (me_toD (α := Bool) (me_fld (pr := MarksD.f_lone) (ME.p1 (me_get (me_var 0))) (fun d I v h => rIns_fld 5 ⟨_, T.m_Marks, T.cl_Marks, T.n_Marks_lone⟩ h))) ml_nil))))))))) ?_
  delta M.law_fields_1
  rfl
theorem ok_law (T : Tx K mg) : FnOk P w K mg base CX0 7 T.f_law T.d_law ["_law_script"] (spT (Gb.mk K mg) (fun p : (List Int) × Unit => [.bw (rl (Gb.mk K mg) p.1)]) (fun p => M.law p.1) (fun r => .im (Py.r (Gb.mk K mg) (r : Bool)))) := by
  refine fnx_mk T.F_law sc_law (fun _ => rfl) (fun _ => rfl) (by decide) (fun cdv A outer s H E I p hr => ?_)
  obtain ⟨x_law_script, ⟨⟩⟩ := p
  refine MB.eq (mb_forT (S' := (fun z1 : Unit => [some (.bw (rl (Gb.mk K mg) (x_law_script : (List Int)))), none, none, none, none, none, none, none])) (s0 := ()) (mi_lst (ms_im (me_frz (ME.p1 (ME.p1 (me_cat (me_bor 0) (me_lst (α := Int) (ML.p1 (ML.p1 (ml_cons me_int ml_nil)))))))))) (mg_name 1 sc_law.nd) (.keep (.keep (.keep (.keep (.keep (.keep (.keep (.keep .nil)))))))) (fun _ (z1 : Unit) (x_law_cell : Int) => mb_asg (me_call (ok_law_marks_by T) hr (by decide) T.m_law_marks_by T.k_law_marks_by T.b_law_marks_by_1 .nil (MA.p1 (ma_cons (args := fun p : Unit => []) (ME.p1 (me_divC (n := 4) (by decide) (me_var 1) me_int)) co_im (fun _ => ma_nl)))) (mg_t2 2 3 sc_law.nd) (fun it2 => mb_ift (mt_w (MW.p1 (mw_or (MT.p1 (mt_not (mt_val (ME.p1 (me_isiC T.g_isinstance (me_var 2) T.m_Marks T.ic_Marks (fun d I v h => rIns_at T.m_Marks I v h)))))) (mw_or1 (mt_cm (MC.p1 (MC.p1 (mc_neD hr.units (ME.p1 (me_listD (me_frz (me_call (ok_law_fields T) hr (by decide) T.m_law_fields T.k_law_fields T.b_law_fields_1 .nil (MA.p1 (ma_cons (args := fun p : Unit => []) (me_var 2) co_im (fun _ => ma_nl))))))) (ME.p1 (me_listD (me_var 3))))))))))) (MB.p1 (mb_ret kr_c me_bl)) (mb_forU (S' := (fun z3 : Unit => [some (.bw (rl (Gb.mk K mg) (x_law_script : (List Int)))), some (.im (Py.r (Gb.mk K mg) (x_law_cell : Int))), some (.im (Py.r (Gb.mk K mg) (it2.x0 : MarksD))), some (.im (Py.r (Gb.mk K mg) (it2.x1 : (List PyData)))), none, none, none, none])) (s0 := ()) (MI.p1 (mi_rng1 T.g_range me_int)) (mg_name 4 sc_law.nd) (.keep (.keep (.keep (.keep (.keep (.keep (.keep (.keep .nil)))))))) (fun _ (z3 : Unit) (x_law_k : Int) => mb_ift (mt_cm (mc_ne (α := Bool) hr.units (Nat.le_of_ble_eq_true rfl) (me_isiG (Ty := "bool") (bf := isiD_bool) T.g_isinstance T.g_bool (ME.p1 (ME.p1 (me_ix (me_call (ok_law_fields T) hr (by decide) T.m_law_fields T.k_law_fields T.b_law_fields_1 .nil (MA.p1 (ma_cons (args := fun p : Unit => []) (me_var 2) co_im (fun _ => ma_nl)))) (me_var 4)))) tg_dy kitD_bool (by decide +kernel)) (me_isiG (Ty := "bool") (bf := isiD_bool) T.g_isinstance T.g_bool (ME.p1 (ME.p1 (me_ix (me_var 3) (me_var 4)))) tg_dy kitD_bool (by decide +kernel)))) (MB.p1 (mb_ret kr_c me_bl)) (mb_nil (b := ()) kx_c (.keep (.keep (.keep (.keep (.drop (.keep (.keep (.keep .nil))))))))) (hk_c (by repeat (first | exact nn_rt | exact nn_ct | exact nn_bk | refine nn_ite ?_ ?_ | refine nn_bind fun _ => ?_)))) (fun (z9 : Unit) => MB.p1 (mb_set 5 sc_law.nd (ME.p1 (me_modC (n := 4) (by decide) (me_var 1) me_int)) (fun x_law_how => mb_set 6 sc_law.nd (me_call (ok_law_mix T) hr (by decide) T.m_law_mix T.k_law_mix T.b_law_mix_3 .nil (MA.p1 (ma_cons (args := fun p : Int × Int × Unit => [.im (Py.r (Gb.mk K mg) p.1), .im (Py.r (Gb.mk K mg) p.2.1)]) (me_var 1) co_im (fun _ => (MA.p1 (ma_cons (args := fun p : Int × Unit => [.im (Py.r (Gb.mk K mg) p.1)]) me_int co_im (fun _ => (MA.p1 (ma_cons (args := fun p : Unit => []) me_int co_im (fun _ => ma_nl)))))))))) (fun x_law_drawn => mb_set 7 sc_law.nd (me_call (ok_law_made T) hr (by decide) T.m_law_made T.k_law_made T.b_law_made_3 .nil (MA.p1 (ma_cons (args := fun p : MarksD × Int × Unit => [.im (Py.r (Gb.mk K mg) p.1), .im (Py.r (Gb.mk K mg) p.2.1)]) (me_var 6) co_im (fun _ => (MA.p1 (ma_cons (args := fun p : Int × Unit => [.im (Py.r (Gb.mk K mg) p.1)]) (me_var 2) co_im (fun _ => (MA.p1 (ma_cons (args := fun p : Unit => []) (me_var 5) co_im (fun _ => ma_nl)))))))))) (fun x_law_voucher => mb_ift (mt_w (mw_or (mt_not (mt_val (me_call (ok_law_right T) hr (by decide) T.m_law_right T.k_law_right T.b_law_right_3 .nil (MA.p1 (ma_cons (args := fun p : Int × Int × Unit => [.im (Py.r (Gb.mk K mg) p.1), .im (Py.r (Gb.mk K mg) p.2.1)]) (me_var 7) co_im (fun _ => (MA.p1 (ma_cons (args := fun p : Int × Unit => [.im (Py.r (Gb.mk K mg) p.1)]) (me_var 6) co_im (fun _ => (MA.p1 (ma_cons (args := fun p : Unit => []) (me_var 5) co_im (fun _ => ma_nl)))))))))))) (mw_or1 (mt_not (mt_val (me_isiC T.g_isinstance (ME.p1 (me_get (ME.p1 (me_fld (pr := VoucherD.f_marks) (me_var 7) (fun d I v h => by cases d with | c_Off o => exact rIns_fld 0 ⟨_, T.m_Off, T.cl_Off, T.n_Off_marks⟩ h | c_Share o => exact rIns_fld 0 ⟨_, T.m_Share, T.cl_Share, T.n_Share_marks⟩ h | c_Cheapest o => exact rIns_fld 0 ⟨_, T.m_Cheapest, T.cl_Cheapest, T.n_Cheapest_marks⟩ h | c_Bundle o => exact rIns_fld 0 ⟨_, T.m_Bundle, T.cl_Bundle, T.n_Bundle_marks⟩ h | c_Carriage o => exact rIns_fld 0 ⟨_, T.m_Carriage, T.cl_Carriage, T.n_Carriage_marks⟩ h))))) T.m_Marks T.ic_Marks (fun d I v h => rIns_at T.m_Marks I v h))))))) (mb_eqS (S' := [some (.bw (rl (Gb.mk K mg) (x_law_script : (List Int)))), some (.im (Py.r (Gb.mk K mg) (x_law_cell : Int))), some (.im (Py.r (Gb.mk K mg) (it2.x0 : MarksD))), some (.im (Py.r (Gb.mk K mg) (it2.x1 : (List PyData)))), none, some (.im (Py.r (Gb.mk K mg) (x_law_how : Int))), some (.im (Py.r (Gb.mk K mg) (x_law_drawn : Int))), some (.im (Py.r (Gb.mk K mg) (x_law_voucher : VoucherD)))]) rfl (MB.p1 (mb_ret kr_c me_bl))) (mb_eqS (S' := [some (.bw (rl (Gb.mk K mg) (x_law_script : (List Int)))), some (.im (Py.r (Gb.mk K mg) (x_law_cell : Int))), some (.im (Py.r (Gb.mk K mg) (it2.x0 : MarksD))), some (.im (Py.r (Gb.mk K mg) (it2.x1 : (List PyData)))), none, some (.im (Py.r (Gb.mk K mg) (x_law_how : Int))), some (.im (Py.r (Gb.mk K mg) (x_law_drawn : Int))), some (.im (Py.r (Gb.mk K mg) (x_law_voucher : VoucherD)))]) rfl (mb_ifP (S' := (fun z15 : (List PyData) => [some (.bw (rl (Gb.mk K mg) (x_law_script : (List Int)))), some (.im (Py.r (Gb.mk K mg) (x_law_cell : Int))), some (.im (Py.r (Gb.mk K mg) (it2.x0 : MarksD))), some (.im (Py.r (Gb.mk K mg) (z15 : (List PyData)))), none, some (.im (Py.r (Gb.mk K mg) (x_law_how : Int))), some (.im (Py.r (Gb.mk K mg) (x_law_drawn : Int))), some (.im (Py.r (Gb.mk K mg) (x_law_voucher : VoucherD)))])) (mt_cm (MC.p1 (MC.p1 (mc_lt (me_var 5) me_int)))) (MB.p1 (mb_set 3 sc_law.nd (me_lst (α := PyData) (ML.p1 (ML.p1 (ml_cons (ME.p1 (me_toD (α := (Option Int)) me_non)) (ML.p1 (ML.p1 (ml_cons (ME.p1 (me_toD (α := Int) me_int)) (ML.p1 (ML.p1 (ml_cons (ME.p1 (me_toD (α := (Option Int)) me_non)) (ML.p1 (ML.p1 (ml_cons (ME.p1 (me_toD (α := Bool) me_bl)) (ML.p1 (ML.p1 (ml_cons (ME.p1 (me_toD (α := Bool) me_bl)) (ML.p1 (ML.p1 (ml_cons (ME.p1 (me_toD (α := Bool) me_bl)) ml_nil))))))))))))))))))) (fun x_law_due => mb_frz 3 rfl (mb_nil (b := x_law_due) kx_n (.keep (.keep (.keep (.keep (.keep (.keep (.keep (.keep .nil)))))))))))) (mb_nil (b := it2.x1) kx_n (.keep (.keep (.keep (.keep (.keep (.keep (.keep (.keep .nil))))))))) (fun (z15 : (List PyData)) => mb_ift (mt_cm (MC.p2 (mc_neD hr.units (me_listD (me_frz (me_call (ok_law_fields_1 T) hr (by decide) T.m_law_fields T.k_law_fields T.b_law_fields_1 .nil (MA.p1 (ma_cons (args := fun p : Unit => []) (ME.p1 (me_fld (pr := VoucherD.f_marks) (me_var 7) (fun d I v h => by cases d with | c_Off o => exact rIns_fld 0 ⟨_, T.m_Off, T.cl_Off, T.n_Off_marks⟩ h | c_Share o => exact rIns_fld 0 ⟨_, T.m_Share, T.cl_Share, T.n_Share_marks⟩ h | c_Cheapest o => exact rIns_fld 0 ⟨_, T.m_Cheapest, T.cl_Cheapest, T.n_Cheapest_marks⟩ h | c_Bundle o => exact rIns_fld 0 ⟨_, T.m_Bundle, T.cl_Bundle, T.n_Bundle_marks⟩ h | c_Carriage o => exact rIns_fld 0 ⟨_, T.m_Carriage, T.cl_Carriage, T.n_Carriage_marks⟩ h))) co_im (fun _ => ma_nl)))))) (ME.p1 (me_listD (me_var 3)))))) (MB.p1 (mb_ret kr_c me_bl)) (mb_nil (b := ()) kx_c (.keep (.drop (.drop (.drop (.keep (.drop (.drop (.drop .nil))))))))) (hk_c (by repeat (first | exact nn_rt | exact nn_ct | exact nn_bk | refine nn_ite ?_ ?_ | refine nn_bind fun _ => ?_)))))) (hk_c (by repeat (first | exact nn_rt | exact nn_ct | exact nn_bk | refine nn_ite ?_ ?_ | refine nn_bind fun _ => ?_))))))))) (hk_c (by repeat (first | exact nn_rt | exact nn_ct | exact nn_bk | refine nn_ite ?_ ?_ | refine nn_bind fun _ => ?_))))) (fun (z22 : Unit) => mb_retT me_bl)) ?_
  delta M.law
  rfl
end
def lawsp (K : PySem.W.Frag) (mg : Str → Option Value) : Sp := spT (Gb.mk K mg) (fun p : (List Int) × Unit => [.bw (rl (Gb.mk K mg) p.1)]) (fun p => M.law p.1) (fun r => .im (Py.r (Gb.mk K mg) (r : Bool)))
theorem all_mk {l : PySem.W.OpenLaw} {w : World} {K : PySem.W.Frag} {h : Heap} {mg : Str → Option Value} {fa : Addr} (X : K.In h) (G : h.Ns mainGlobals mg) (hfa : mg "law" = some (.ref fa))
    {C_Marks : Addr}
    {C_Off : Addr}
    {C_Share : Addr}
    {C_Cheapest : Addr}
    {C_Bundle : Addr}
    {C_Carriage : Addr}
    {C_Voucher : Addr}
    {f_law_mix : Addr}
    {f_law_coin : Addr}
    {f_Marks_init : Addr}
    {f_law_one_named : Addr}
    {f_law_marks_by : Addr}
    {f_law_fields : Addr}
    {f_Voucher_init : Addr}
    {f_Off_init : Addr}
    {f_Share_init : Addr}
    {f_Cheapest_init : Addr}
    {f_Bundle_init : Addr}
    {f_law_made : Addr}
    {f_law_whole : Addr}
    {f_law_right : Addr}
    {f_law : Addr}
    {oc_law_mix kV_law_mix dc_law_mix pm_law_mix cd_law_mix ct_law_mix : Value} {od_law_mix an_law_mix : Option Addr} {sl_law_mix : Array (Option Value)}
    {oc_law_coin kV_law_coin dc_law_coin pm_law_coin cd_law_coin ct_law_coin : Value} {od_law_coin an_law_coin : Option Addr} {sl_law_coin : Array (Option Value)}
    {oc_Marks_init kV_Marks_init dc_Marks_init pm_Marks_init cd_Marks_init ct_Marks_init : Value} {od_Marks_init an_Marks_init : Option Addr} {sl_Marks_init : Array (Option Value)}
    {tp_Marks_init : Addr} {tc_Marks_init : Value} {to_Marks_init : Option Addr} {tn_Marks_init : Nat} {ts_Marks_init : Array (Option Value)}
    {tk_Marks_init_1 : Tok}
    {oc_law_one_named kV_law_one_named dc_law_one_named pm_law_one_named cd_law_one_named ct_law_one_named : Value} {od_law_one_named an_law_one_named : Option Addr} {sl_law_one_named : Array (Option Value)}
    {oc_law_marks_by kV_law_marks_by dc_law_marks_by pm_law_marks_by cd_law_marks_by ct_law_marks_by : Value} {od_law_marks_by an_law_marks_by : Option Addr} {sl_law_marks_by : Array (Option Value)}
    {oc_law_fields kV_law_fields dc_law_fields pm_law_fields cd_law_fields ct_law_fields : Value} {od_law_fields an_law_fields : Option Addr} {sl_law_fields : Array (Option Value)}
    {oc_Voucher_init kV_Voucher_init dc_Voucher_init pm_Voucher_init cd_Voucher_init ct_Voucher_init : Value} {od_Voucher_init an_Voucher_init : Option Addr} {sl_Voucher_init : Array (Option Value)}
    {tp_Voucher_init : Addr} {tc_Voucher_init : Value} {to_Voucher_init : Option Addr} {tn_Voucher_init : Nat} {ts_Voucher_init : Array (Option Value)}
    {oc_Off_init kV_Off_init dc_Off_init pm_Off_init cd_Off_init ct_Off_init : Value} {od_Off_init an_Off_init : Option Addr} {sl_Off_init : Array (Option Value)}
    {tp_Off_init : Addr} {tc_Off_init : Value} {to_Off_init : Option Addr} {tn_Off_init : Nat} {ts_Off_init : Array (Option Value)}
    {oc_Share_init kV_Share_init dc_Share_init pm_Share_init cd_Share_init ct_Share_init : Value} {od_Share_init an_Share_init : Option Addr} {sl_Share_init : Array (Option Value)}
    {tp_Share_init : Addr} {tc_Share_init : Value} {to_Share_init : Option Addr} {tn_Share_init : Nat} {ts_Share_init : Array (Option Value)}
    {oc_Cheapest_init kV_Cheapest_init dc_Cheapest_init pm_Cheapest_init cd_Cheapest_init ct_Cheapest_init : Value} {od_Cheapest_init an_Cheapest_init : Option Addr} {sl_Cheapest_init : Array (Option Value)}
    {tp_Cheapest_init : Addr} {tc_Cheapest_init : Value} {to_Cheapest_init : Option Addr} {tn_Cheapest_init : Nat} {ts_Cheapest_init : Array (Option Value)}
    {oc_Bundle_init kV_Bundle_init dc_Bundle_init pm_Bundle_init cd_Bundle_init ct_Bundle_init : Value} {od_Bundle_init an_Bundle_init : Option Addr} {sl_Bundle_init : Array (Option Value)}
    {tp_Bundle_init : Addr} {tc_Bundle_init : Value} {to_Bundle_init : Option Addr} {tn_Bundle_init : Nat} {ts_Bundle_init : Array (Option Value)}
    {oc_law_made kV_law_made dc_law_made pm_law_made cd_law_made ct_law_made : Value} {od_law_made an_law_made : Option Addr} {sl_law_made : Array (Option Value)}
    {oc_law_whole kV_law_whole dc_law_whole pm_law_whole cd_law_whole ct_law_whole : Value} {od_law_whole an_law_whole : Option Addr} {sl_law_whole : Array (Option Value)}
    {oc_law_right kV_law_right dc_law_right pm_law_right cd_law_right ct_law_right : Value} {od_law_right an_law_right : Option Addr} {sl_law_right : Array (Option Value)}
    {oc_law kV_law dc_law pm_law cd_law ct_law : Value} {od_law an_law : Option Addr} {sl_law : Array (Option Value)}
    (a_Marks : PySem.W.nsIn K mainGlobals "Marks" = some (some (.ref C_Marks)))
    (pg_Marks : PySem.W.plainGet K C_Marks Str.empty = true)
    (hd_Marks : PySem.W.hasDictIn K C_Marks = true)
    (po_Marks : PySem.W.plainOver K C_Marks = true)
    (sa_Marks : PySem.W.findIn K (.ref C_Marks) "__setattr__" = some (some (.builtin "object.__setattr__")))
    (ha_Marks : PySem.W.findIn K (.ref C_Marks) "__class__" = some (some (.builtin "object.__class__")))
    (hn_Marks : PySem.W.specialIn K (.builtin "object.__class__") "__get__" = some (some (.builtin "getset_descriptor.__get__")))
    (ht_Marks : PySem.W.takesIn K (.builtin "object.__class__") = some true)
    (hm_Marks : PySem.W.mroIn K C_Marks (.type "object") = some true)
    (a_Off : PySem.W.nsIn K mainGlobals "Off" = some (some (.ref C_Off)))
    (pg_Off : PySem.W.plainGet K C_Off Str.empty = true)
    (hd_Off : PySem.W.hasDictIn K C_Off = true)
    (po_Off : PySem.W.plainOver K C_Off = true)
    (sa_Off : PySem.W.findIn K (.ref C_Off) "__setattr__" = some (some (.builtin "object.__setattr__")))
    (ha_Off : PySem.W.findIn K (.ref C_Off) "__class__" = some (some (.builtin "object.__class__")))
    (hn_Off : PySem.W.specialIn K (.builtin "object.__class__") "__get__" = some (some (.builtin "getset_descriptor.__get__")))
    (ht_Off : PySem.W.takesIn K (.builtin "object.__class__") = some true)
    (hm_Off : PySem.W.mroIn K C_Off (.type "object") = some true)
    (a_Share : PySem.W.nsIn K mainGlobals "Share" = some (some (.ref C_Share)))
    (pg_Share : PySem.W.plainGet K C_Share Str.empty = true)
    (hd_Share : PySem.W.hasDictIn K C_Share = true)
    (po_Share : PySem.W.plainOver K C_Share = true)
    (sa_Share : PySem.W.findIn K (.ref C_Share) "__setattr__" = some (some (.builtin "object.__setattr__")))
    (ha_Share : PySem.W.findIn K (.ref C_Share) "__class__" = some (some (.builtin "object.__class__")))
    (hn_Share : PySem.W.specialIn K (.builtin "object.__class__") "__get__" = some (some (.builtin "getset_descriptor.__get__")))
    (ht_Share : PySem.W.takesIn K (.builtin "object.__class__") = some true)
    (hm_Share : PySem.W.mroIn K C_Share (.type "object") = some true)
    (a_Cheapest : PySem.W.nsIn K mainGlobals "Cheapest" = some (some (.ref C_Cheapest)))
    (pg_Cheapest : PySem.W.plainGet K C_Cheapest Str.empty = true)
    (hd_Cheapest : PySem.W.hasDictIn K C_Cheapest = true)
    (po_Cheapest : PySem.W.plainOver K C_Cheapest = true)
    (sa_Cheapest : PySem.W.findIn K (.ref C_Cheapest) "__setattr__" = some (some (.builtin "object.__setattr__")))
    (ha_Cheapest : PySem.W.findIn K (.ref C_Cheapest) "__class__" = some (some (.builtin "object.__class__")))
    (hn_Cheapest : PySem.W.specialIn K (.builtin "object.__class__") "__get__" = some (some (.builtin "getset_descriptor.__get__")))
    (ht_Cheapest : PySem.W.takesIn K (.builtin "object.__class__") = some true)
    (hm_Cheapest : PySem.W.mroIn K C_Cheapest (.type "object") = some true)
    (a_Bundle : PySem.W.nsIn K mainGlobals "Bundle" = some (some (.ref C_Bundle)))
    (pg_Bundle : PySem.W.plainGet K C_Bundle Str.empty = true)
    (hd_Bundle : PySem.W.hasDictIn K C_Bundle = true)
    (po_Bundle : PySem.W.plainOver K C_Bundle = true)
    (sa_Bundle : PySem.W.findIn K (.ref C_Bundle) "__setattr__" = some (some (.builtin "object.__setattr__")))
    (ha_Bundle : PySem.W.findIn K (.ref C_Bundle) "__class__" = some (some (.builtin "object.__class__")))
    (hn_Bundle : PySem.W.specialIn K (.builtin "object.__class__") "__get__" = some (some (.builtin "getset_descriptor.__get__")))
    (ht_Bundle : PySem.W.takesIn K (.builtin "object.__class__") = some true)
    (hm_Bundle : PySem.W.mroIn K C_Bundle (.type "object") = some true)
    (a_Carriage : PySem.W.nsIn K mainGlobals "Carriage" = some (some (.ref C_Carriage)))
    (pg_Carriage : PySem.W.plainGet K C_Carriage Str.empty = true)
    (hd_Carriage : PySem.W.hasDictIn K C_Carriage = true)
    (po_Carriage : PySem.W.plainOver K C_Carriage = true)
    (sa_Carriage : PySem.W.findIn K (.ref C_Carriage) "__setattr__" = some (some (.builtin "object.__setattr__")))
    (ha_Carriage : PySem.W.findIn K (.ref C_Carriage) "__class__" = some (some (.builtin "object.__class__")))
    (hn_Carriage : PySem.W.specialIn K (.builtin "object.__class__") "__get__" = some (some (.builtin "getset_descriptor.__get__")))
    (ht_Carriage : PySem.W.takesIn K (.builtin "object.__class__") = some true)
    (hm_Carriage : PySem.W.mroIn K C_Carriage (.type "object") = some true)
    (a_Voucher : PySem.W.nsIn K mainGlobals "Voucher" = some (some (.ref C_Voucher)))
    (pg_Voucher : PySem.W.plainGet K C_Voucher Str.empty = true)
    (hd_Voucher : PySem.W.hasDictIn K C_Voucher = true)
    (po_Voucher : PySem.W.plainOver K C_Voucher = true)
    (sa_Voucher : PySem.W.findIn K (.ref C_Voucher) "__setattr__" = some (some (.builtin "object.__setattr__")))
    (ki_Bundle_Bundle : PySem.W.kitOne K (.ref C_Bundle) (.ref C_Bundle) = some true)
    (ki_Bundle_Carriage : PySem.W.kitOne K (.ref C_Bundle) (.ref C_Carriage) = some false)
    (ki_Bundle_Cheapest : PySem.W.kitOne K (.ref C_Bundle) (.ref C_Cheapest) = some false)
    (ki_Bundle_Off : PySem.W.kitOne K (.ref C_Bundle) (.ref C_Off) = some false)
    (ki_Bundle_Share : PySem.W.kitOne K (.ref C_Bundle) (.ref C_Share) = some false)
    (ki_Bundle_Voucher : PySem.W.kitOne K (.ref C_Bundle) (.ref C_Voucher) = some true)
    (ki_Carriage_Bundle : PySem.W.kitOne K (.ref C_Carriage) (.ref C_Bundle) = some false)
    (ki_Carriage_Carriage : PySem.W.kitOne K (.ref C_Carriage) (.ref C_Carriage) = some true)
    (ki_Carriage_Cheapest : PySem.W.kitOne K (.ref C_Carriage) (.ref C_Cheapest) = some false)
    (ki_Carriage_Off : PySem.W.kitOne K (.ref C_Carriage) (.ref C_Off) = some false)
    (ki_Carriage_Share : PySem.W.kitOne K (.ref C_Carriage) (.ref C_Share) = some false)
    (ki_Carriage_Voucher : PySem.W.kitOne K (.ref C_Carriage) (.ref C_Voucher) = some true)
    (ki_Cheapest_Bundle : PySem.W.kitOne K (.ref C_Cheapest) (.ref C_Bundle) = some false)
    (ki_Cheapest_Carriage : PySem.W.kitOne K (.ref C_Cheapest) (.ref C_Carriage) = some false)
    (ki_Cheapest_Cheapest : PySem.W.kitOne K (.ref C_Cheapest) (.ref C_Cheapest) = some true)
    (ki_Cheapest_Off : PySem.W.kitOne K (.ref C_Cheapest) (.ref C_Off) = some false)
    (ki_Cheapest_Share : PySem.W.kitOne K (.ref C_Cheapest) (.ref C_Share) = some false)
    (ki_Cheapest_Voucher : PySem.W.kitOne K (.ref C_Cheapest) (.ref C_Voucher) = some true)
    (ki_Off_Bundle : PySem.W.kitOne K (.ref C_Off) (.ref C_Bundle) = some false)
    (ki_Off_Carriage : PySem.W.kitOne K (.ref C_Off) (.ref C_Carriage) = some false)
    (ki_Off_Cheapest : PySem.W.kitOne K (.ref C_Off) (.ref C_Cheapest) = some false)
    (ki_Off_Off : PySem.W.kitOne K (.ref C_Off) (.ref C_Off) = some true)
    (ki_Off_Share : PySem.W.kitOne K (.ref C_Off) (.ref C_Share) = some false)
    (ki_Off_Voucher : PySem.W.kitOne K (.ref C_Off) (.ref C_Voucher) = some true)
    (ki_Share_Bundle : PySem.W.kitOne K (.ref C_Share) (.ref C_Bundle) = some false)
    (ki_Share_Carriage : PySem.W.kitOne K (.ref C_Share) (.ref C_Carriage) = some false)
    (ki_Share_Cheapest : PySem.W.kitOne K (.ref C_Share) (.ref C_Cheapest) = some false)
    (ki_Share_Off : PySem.W.kitOne K (.ref C_Share) (.ref C_Off) = some false)
    (ki_Share_Share : PySem.W.kitOne K (.ref C_Share) (.ref C_Share) = some true)
    (ki_Share_Voucher : PySem.W.kitOne K (.ref C_Share) (.ref C_Voucher) = some true)
    (n_Bundle_many : PySem.W.findIn K (.ref C_Bundle) "many" = some none)
    (n_Bundle_marks : PySem.W.findIn K (.ref C_Bundle) "marks" = some none)
    (n_Bundle_price : PySem.W.findIn K (.ref C_Bundle) "price" = some none)
    (n_Carriage_marks : PySem.W.findIn K (.ref C_Carriage) "marks" = some none)
    (n_Cheapest_many : PySem.W.findIn K (.ref C_Cheapest) "many" = some none)
    (n_Cheapest_marks : PySem.W.findIn K (.ref C_Cheapest) "marks" = some none)
    (n_Marks_kind : PySem.W.findIn K (.ref C_Marks) "kind" = some none)
    (n_Marks_lone : PySem.W.findIn K (.ref C_Marks) "lone" = some none)
    (n_Marks_member : PySem.W.findIn K (.ref C_Marks) "member" = some none)
    (n_Marks_most : PySem.W.findIn K (.ref C_Marks) "most" = some none)
    (n_Marks_needs : PySem.W.findIn K (.ref C_Marks) "needs" = some none)
    (n_Marks_once : PySem.W.findIn K (.ref C_Marks) "once" = some none)
    (n_Off_amount : PySem.W.findIn K (.ref C_Off) "amount" = some none)
    (n_Off_marks : PySem.W.findIn K (.ref C_Off) "marks" = some none)
    (n_Share_by_line : PySem.W.findIn K (.ref C_Share) "by_line" = some none)
    (n_Share_marks : PySem.W.findIn K (.ref C_Share) "marks" = some none)
    (n_Share_share : PySem.W.findIn K (.ref C_Share) "share" = some none)
    (mi_Bundle : PySem.W.findIn K (.ref C_Bundle) "__init__" = some (some (.ref f_Bundle_init)))
    (mm_Bundle : PySem.W.makesIn K C_Bundle = true)
    (mf_Bundle : PySem.W.isFn K (.ref f_Bundle_init) = true)
    (mk_Bundle : PySem.W.keepIn K (.ref C_Bundle) = true)
    (mi_Carriage : PySem.W.findIn K (.ref C_Carriage) "__init__" = some (some (.ref f_Voucher_init)))
    (mm_Carriage : PySem.W.makesIn K C_Carriage = true)
    (mf_Carriage : PySem.W.isFn K (.ref f_Voucher_init) = true)
    (mk_Carriage : PySem.W.keepIn K (.ref C_Carriage) = true)
    (mi_Cheapest : PySem.W.findIn K (.ref C_Cheapest) "__init__" = some (some (.ref f_Cheapest_init)))
    (mm_Cheapest : PySem.W.makesIn K C_Cheapest = true)
    (mf_Cheapest : PySem.W.isFn K (.ref f_Cheapest_init) = true)
    (mk_Cheapest : PySem.W.keepIn K (.ref C_Cheapest) = true)
    (mi_Marks : PySem.W.findIn K (.ref C_Marks) "__init__" = some (some (.ref f_Marks_init)))
    (mm_Marks : PySem.W.makesIn K C_Marks = true)
    (mf_Marks : PySem.W.isFn K (.ref f_Marks_init) = true)
    (mk_Marks : PySem.W.keepIn K (.ref C_Marks) = true)
    (mi_Off : PySem.W.findIn K (.ref C_Off) "__init__" = some (some (.ref f_Off_init)))
    (mm_Off : PySem.W.makesIn K C_Off = true)
    (mf_Off : PySem.W.isFn K (.ref f_Off_init) = true)
    (mk_Off : PySem.W.keepIn K (.ref C_Off) = true)
    (mi_Share : PySem.W.findIn K (.ref C_Share) "__init__" = some (some (.ref f_Share_init)))
    (mm_Share : PySem.W.makesIn K C_Share = true)
    (mf_Share : PySem.W.isFn K (.ref f_Share_init) = true)
    (mk_Share : PySem.W.keepIn K (.ref C_Share) = true)
    (cr_Voucher : PySem.W.readsIn K C_Voucher (.type "type") = true)
    (cg_Voucher : PySem.W.specialIn K (.ref C_Voucher) "__getattribute__" = some (some (.builtin "type.__getattribute__")))
    (cv_Voucher_Voucher_init : PySem.W.findCls K (.ref C_Voucher) (.type "type") "__init__" = some (.val (.ref f_Voucher_init)))
    (a_law_mix : PySem.W.nsIn K mainGlobals "_law_mix" = some (some (.ref f_law_mix)))
    (l_law_mix : K.lookup f_law_mix = some ⟨oc_law_mix, od_law_mix, .func (PySem.W.fnOf "_law_mix" "_law_mix" (defArgs s_law_mix) (defBody s_law_mix) (defScope s_law_mix) .none kV_law_mix dc_law_mix pm_law_mix an_law_mix cd_law_mix ct_law_mix), sl_law_mix⟩)
    (c_law_mix : PySem.W.codeIn K cd_law_mix "_law_mix" = true)
    (k_law_mix : PySem.W.keepIn K (.ref f_law_mix) = true)
    (a_law_coin : PySem.W.nsIn K mainGlobals "_law_coin" = some (some (.ref f_law_coin)))
    (l_law_coin : K.lookup f_law_coin = some ⟨oc_law_coin, od_law_coin, .func (PySem.W.fnOf "_law_coin" "_law_coin" (defArgs s_law_coin) (defBody s_law_coin) (defScope s_law_coin) .none kV_law_coin dc_law_coin pm_law_coin an_law_coin cd_law_coin ct_law_coin), sl_law_coin⟩)
    (c_law_coin : PySem.W.codeIn K cd_law_coin "_law_coin" = true)
    (k_law_coin : PySem.W.keepIn K (.ref f_law_coin) = true)
    (l_Marks_init : K.lookup f_Marks_init = some ⟨oc_Marks_init, od_Marks_init, .func (PySem.W.fnOf "__init__" "Marks.__init__" (defArgs s_Marks_init) (defBody s_Marks_init) (defScope s_Marks_init) (.ref tp_Marks_init) kV_Marks_init dc_Marks_init pm_Marks_init an_Marks_init cd_Marks_init ct_Marks_init), sl_Marks_init⟩)
    (t_Marks_init : K.lookup tp_Marks_init = some ⟨tc_Marks_init, to_Marks_init, .seq #[Value.none, Value.int 0 tk_Marks_init_1, Value.none, Value.bool false, Value.bool false, Value.bool false] tn_Marks_init, ts_Marks_init⟩)
    (c_Marks_init : PySem.W.codeIn K cd_Marks_init "Marks.__init__" = true)
    (k_Marks_init : PySem.W.keepIn K (.ref f_Marks_init) = true)
    (a_law_one_named : PySem.W.nsIn K mainGlobals "_law_one_named" = some (some (.ref f_law_one_named)))
    (l_law_one_named : K.lookup f_law_one_named = some ⟨oc_law_one_named, od_law_one_named, .func (PySem.W.fnOf "_law_one_named" "_law_one_named" (defArgs s_law_one_named) (defBody s_law_one_named) (defScope s_law_one_named) .none kV_law_one_named dc_law_one_named pm_law_one_named an_law_one_named cd_law_one_named ct_law_one_named), sl_law_one_named⟩)
    (c_law_one_named : PySem.W.codeIn K cd_law_one_named "_law_one_named" = true)
    (k_law_one_named : PySem.W.keepIn K (.ref f_law_one_named) = true)
    (a_law_marks_by : PySem.W.nsIn K mainGlobals "_law_marks_by" = some (some (.ref f_law_marks_by)))
    (l_law_marks_by : K.lookup f_law_marks_by = some ⟨oc_law_marks_by, od_law_marks_by, .func (PySem.W.fnOf "_law_marks_by" "_law_marks_by" (defArgs s_law_marks_by) (defBody s_law_marks_by) (defScope s_law_marks_by) .none kV_law_marks_by dc_law_marks_by pm_law_marks_by an_law_marks_by cd_law_marks_by ct_law_marks_by), sl_law_marks_by⟩)
    (c_law_marks_by : PySem.W.codeIn K cd_law_marks_by "_law_marks_by" = true)
    (k_law_marks_by : PySem.W.keepIn K (.ref f_law_marks_by) = true)
    (a_law_fields : PySem.W.nsIn K mainGlobals "_law_fields" = some (some (.ref f_law_fields)))
    (l_law_fields : K.lookup f_law_fields = some ⟨oc_law_fields, od_law_fields, .func (PySem.W.fnOf "_law_fields" "_law_fields" (defArgs s_law_fields) (defBody s_law_fields) (defScope s_law_fields) .none kV_law_fields dc_law_fields pm_law_fields an_law_fields cd_law_fields ct_law_fields), sl_law_fields⟩)
    (c_law_fields : PySem.W.codeIn K cd_law_fields "_law_fields" = true)
    (k_law_fields : PySem.W.keepIn K (.ref f_law_fields) = true)
    (l_Voucher_init : K.lookup f_Voucher_init = some ⟨oc_Voucher_init, od_Voucher_init, .func (PySem.W.fnOf "__init__" "Voucher.__init__" (defArgs s_Voucher_init) (defBody s_Voucher_init) (defScope s_Voucher_init) (.ref tp_Voucher_init) kV_Voucher_init dc_Voucher_init pm_Voucher_init an_Voucher_init cd_Voucher_init ct_Voucher_init), sl_Voucher_init⟩)
    (t_Voucher_init : K.lookup tp_Voucher_init = some ⟨tc_Voucher_init, to_Voucher_init, .seq #[Value.none] tn_Voucher_init, ts_Voucher_init⟩)
    (c_Voucher_init : PySem.W.codeIn K cd_Voucher_init "Voucher.__init__" = true)
    (k_Voucher_init : PySem.W.keepIn K (.ref f_Voucher_init) = true)
    (l_Off_init : K.lookup f_Off_init = some ⟨oc_Off_init, od_Off_init, .func (PySem.W.fnOf "__init__" "Off.__init__" (defArgs s_Off_init) (defBody s_Off_init) (defScope s_Off_init) (.ref tp_Off_init) kV_Off_init dc_Off_init pm_Off_init an_Off_init cd_Off_init ct_Off_init), sl_Off_init⟩)
    (t_Off_init : K.lookup tp_Off_init = some ⟨tc_Off_init, to_Off_init, .seq #[Value.none] tn_Off_init, ts_Off_init⟩)
    (c_Off_init : PySem.W.codeIn K cd_Off_init "Off.__init__" = true)
    (k_Off_init : PySem.W.keepIn K (.ref f_Off_init) = true)
    (l_Share_init : K.lookup f_Share_init = some ⟨oc_Share_init, od_Share_init, .func (PySem.W.fnOf "__init__" "Share.__init__" (defArgs s_Share_init) (defBody s_Share_init) (defScope s_Share_init) (.ref tp_Share_init) kV_Share_init dc_Share_init pm_Share_init an_Share_init cd_Share_init ct_Share_init), sl_Share_init⟩)
    (t_Share_init : K.lookup tp_Share_init = some ⟨tc_Share_init, to_Share_init, .seq #[Value.bool false, Value.none] tn_Share_init, ts_Share_init⟩)
    (c_Share_init : PySem.W.codeIn K cd_Share_init "Share.__init__" = true)
    (k_Share_init : PySem.W.keepIn K (.ref f_Share_init) = true)
    (l_Cheapest_init : K.lookup f_Cheapest_init = some ⟨oc_Cheapest_init, od_Cheapest_init, .func (PySem.W.fnOf "__init__" "Cheapest.__init__" (defArgs s_Cheapest_init) (defBody s_Cheapest_init) (defScope s_Cheapest_init) (.ref tp_Cheapest_init) kV_Cheapest_init dc_Cheapest_init pm_Cheapest_init an_Cheapest_init cd_Cheapest_init ct_Cheapest_init), sl_Cheapest_init⟩)
    (t_Cheapest_init : K.lookup tp_Cheapest_init = some ⟨tc_Cheapest_init, to_Cheapest_init, .seq #[Value.none] tn_Cheapest_init, ts_Cheapest_init⟩)
    (c_Cheapest_init : PySem.W.codeIn K cd_Cheapest_init "Cheapest.__init__" = true)
    (k_Cheapest_init : PySem.W.keepIn K (.ref f_Cheapest_init) = true)
    (l_Bundle_init : K.lookup f_Bundle_init = some ⟨oc_Bundle_init, od_Bundle_init, .func (PySem.W.fnOf "__init__" "Bundle.__init__" (defArgs s_Bundle_init) (defBody s_Bundle_init) (defScope s_Bundle_init) (.ref tp_Bundle_init) kV_Bundle_init dc_Bundle_init pm_Bundle_init an_Bundle_init cd_Bundle_init ct_Bundle_init), sl_Bundle_init⟩)
    (t_Bundle_init : K.lookup tp_Bundle_init = some ⟨tc_Bundle_init, to_Bundle_init, .seq #[Value.none] tn_Bundle_init, ts_Bundle_init⟩)
    (c_Bundle_init : PySem.W.codeIn K cd_Bundle_init "Bundle.__init__" = true)
    (k_Bundle_init : PySem.W.keepIn K (.ref f_Bundle_init) = true)
    (a_law_made : PySem.W.nsIn K mainGlobals "_law_made" = some (some (.ref f_law_made)))
    (l_law_made : K.lookup f_law_made = some ⟨oc_law_made, od_law_made, .func (PySem.W.fnOf "_law_made" "_law_made" (defArgs s_law_made) (defBody s_law_made) (defScope s_law_made) .none kV_law_made dc_law_made pm_law_made an_law_made cd_law_made ct_law_made), sl_law_made⟩)
    (c_law_made : PySem.W.codeIn K cd_law_made "_law_made" = true)
    (k_law_made : PySem.W.keepIn K (.ref f_law_made) = true)
    (a_law_whole : PySem.W.nsIn K mainGlobals "_law_whole" = some (some (.ref f_law_whole)))
    (l_law_whole : K.lookup f_law_whole = some ⟨oc_law_whole, od_law_whole, .func (PySem.W.fnOf "_law_whole" "_law_whole" (defArgs s_law_whole) (defBody s_law_whole) (defScope s_law_whole) .none kV_law_whole dc_law_whole pm_law_whole an_law_whole cd_law_whole ct_law_whole), sl_law_whole⟩)
    (c_law_whole : PySem.W.codeIn K cd_law_whole "_law_whole" = true)
    (k_law_whole : PySem.W.keepIn K (.ref f_law_whole) = true)
    (a_law_right : PySem.W.nsIn K mainGlobals "_law_right" = some (some (.ref f_law_right)))
    (l_law_right : K.lookup f_law_right = some ⟨oc_law_right, od_law_right, .func (PySem.W.fnOf "_law_right" "_law_right" (defArgs s_law_right) (defBody s_law_right) (defScope s_law_right) .none kV_law_right dc_law_right pm_law_right an_law_right cd_law_right ct_law_right), sl_law_right⟩)
    (c_law_right : PySem.W.codeIn K cd_law_right "_law_right" = true)
    (k_law_right : PySem.W.keepIn K (.ref f_law_right) = true)
    (a_law : PySem.W.nsIn K mainGlobals "law" = some (some (.ref f_law)))
    (l_law : K.lookup f_law = some ⟨oc_law, od_law, .func (PySem.W.fnOf "law" "law" (defArgs s_law) (defBody s_law) (defScope s_law) .none kV_law dc_law pm_law an_law cd_law ct_law), sl_law⟩)
    (c_law : PySem.W.codeIn K cd_law "law" = true)
    (k_law : PySem.W.keepIn K (.ref f_law) = true)
    (z_bool : PySem.W.nsIn K mainGlobals "bool" = some none)
    (z_int : PySem.W.nsIn K mainGlobals "int" = some none)
    (z_isinstance : PySem.W.nsIn K mainGlobals "isinstance" = some none)
    (z_range : PySem.W.nsIn K mainGlobals "range" = some none) :
    ∃ fd : FuncData, (∀ (s : Shared) (v : Value), BindsTo s fd ⟨[v], []⟩ [("_law_script", v)]) ∧ ∀ base : Heap, K.In base → base.Ns mainGlobals mg → FnOk l.prog w K mg base CX0 7 fa fd ["_law_script"] (lawsp K mg) := by
  have e := hfa.symm.trans (PySem.W.mg_of X G a_law)
  cases e
  have D_law_mix := fun_mk (st := s_law_mix) l_law_mix c_law_mix k_law_mix
  have F_law_mix : FunX K "_law_mix" "_law_mix" s_law_mix _ _ := ⟨⟨_, _, _, _, _, _, _, _, _, _, rfl, l_law_mix, c_law_mix⟩, k_law_mix⟩
  have D_law_coin := fun_mk (st := s_law_coin) l_law_coin c_law_coin k_law_coin
  have F_law_coin : FunX K "_law_coin" "_law_coin" s_law_coin _ _ := ⟨⟨_, _, _, _, _, _, _, _, _, _, rfl, l_law_coin, c_law_coin⟩, k_law_coin⟩
  have D_Marks_init : FunD K "__init__" "Marks.__init__" (defArgs s_Marks_init) (defBody s_Marks_init) (defScope s_Marks_init) [.non, .int 0, .non, .bl false, .bl false, .bl false] [] f_Marks_init _ := ⟨⟨_, _, _, _, _, _, _, _, _, _, rfl, l_Marks_init, c_Marks_init, .inr ⟨by simp, tp_Marks_init, _, [Value.none, Value.int 0 tk_Marks_init_1, Value.none, Value.bool false, Value.bool false, Value.bool false], _, rfl, t_Marks_init, rfl, .cons rfl (.cons ⟨_, rfl⟩ (.cons rfl (.cons rfl (.cons rfl (.cons rfl (.nil))))))⟩, .inl rfl⟩, k_Marks_init⟩
  have F_Marks_init : FunX K "__init__" "Marks.__init__" s_Marks_init _ _ := ⟨⟨_, _, _, _, _, _, _, _, _, _, rfl, l_Marks_init, c_Marks_init⟩, k_Marks_init⟩
  have D_law_one_named := fun_mk (st := s_law_one_named) l_law_one_named c_law_one_named k_law_one_named
  have F_law_one_named : FunX K "_law_one_named" "_law_one_named" s_law_one_named _ _ := ⟨⟨_, _, _, _, _, _, _, _, _, _, rfl, l_law_one_named, c_law_one_named⟩, k_law_one_named⟩
  have D_law_marks_by := fun_mk (st := s_law_marks_by) l_law_marks_by c_law_marks_by k_law_marks_by
  have F_law_marks_by : FunX K "_law_marks_by" "_law_marks_by" s_law_marks_by _ _ := ⟨⟨_, _, _, _, _, _, _, _, _, _, rfl, l_law_marks_by, c_law_marks_by⟩, k_law_marks_by⟩
  have D_law_fields := fun_mk (st := s_law_fields) l_law_fields c_law_fields k_law_fields
  have F_law_fields : FunX K "_law_fields" "_law_fields" s_law_fields _ _ := ⟨⟨_, _, _, _, _, _, _, _, _, _, rfl, l_law_fields, c_law_fields⟩, k_law_fields⟩
  have D_Voucher_init : FunD K "__init__" "Voucher.__init__" (defArgs s_Voucher_init) (defBody s_Voucher_init) (defScope s_Voucher_init) [.non] [] f_Voucher_init _ := ⟨⟨_, _, _, _, _, _, _, _, _, _, rfl, l_Voucher_init, c_Voucher_init, .inr ⟨by simp, tp_Voucher_init, _, [Value.none], _, rfl, t_Voucher_init, rfl, .cons rfl (.nil)⟩, .inl rfl⟩, k_Voucher_init⟩
  have F_Voucher_init : FunX K "__init__" "Voucher.__init__" s_Voucher_init _ _ := ⟨⟨_, _, _, _, _, _, _, _, _, _, rfl, l_Voucher_init, c_Voucher_init⟩, k_Voucher_init⟩
  have D_Off_init : FunD K "__init__" "Off.__init__" (defArgs s_Off_init) (defBody s_Off_init) (defScope s_Off_init) [.non] [] f_Off_init _ := ⟨⟨_, _, _, _, _, _, _, _, _, _, rfl, l_Off_init, c_Off_init, .inr ⟨by simp, tp_Off_init, _, [Value.none], _, rfl, t_Off_init, rfl, .cons rfl (.nil)⟩, .inl rfl⟩, k_Off_init⟩
  have F_Off_init : FunX K "__init__" "Off.__init__" s_Off_init _ _ := ⟨⟨_, _, _, _, _, _, _, _, _, _, rfl, l_Off_init, c_Off_init⟩, k_Off_init⟩
  have D_Share_init : FunD K "__init__" "Share.__init__" (defArgs s_Share_init) (defBody s_Share_init) (defScope s_Share_init) [.bl false, .non] [] f_Share_init _ := ⟨⟨_, _, _, _, _, _, _, _, _, _, rfl, l_Share_init, c_Share_init, .inr ⟨by simp, tp_Share_init, _, [Value.bool false, Value.none], _, rfl, t_Share_init, rfl, .cons rfl (.cons rfl (.nil))⟩, .inl rfl⟩, k_Share_init⟩
  have F_Share_init : FunX K "__init__" "Share.__init__" s_Share_init _ _ := ⟨⟨_, _, _, _, _, _, _, _, _, _, rfl, l_Share_init, c_Share_init⟩, k_Share_init⟩
  have D_Cheapest_init : FunD K "__init__" "Cheapest.__init__" (defArgs s_Cheapest_init) (defBody s_Cheapest_init) (defScope s_Cheapest_init) [.non] [] f_Cheapest_init _ := ⟨⟨_, _, _, _, _, _, _, _, _, _, rfl, l_Cheapest_init, c_Cheapest_init, .inr ⟨by simp, tp_Cheapest_init, _, [Value.none], _, rfl, t_Cheapest_init, rfl, .cons rfl (.nil)⟩, .inl rfl⟩, k_Cheapest_init⟩
  have F_Cheapest_init : FunX K "__init__" "Cheapest.__init__" s_Cheapest_init _ _ := ⟨⟨_, _, _, _, _, _, _, _, _, _, rfl, l_Cheapest_init, c_Cheapest_init⟩, k_Cheapest_init⟩
  have D_Bundle_init : FunD K "__init__" "Bundle.__init__" (defArgs s_Bundle_init) (defBody s_Bundle_init) (defScope s_Bundle_init) [.non] [] f_Bundle_init _ := ⟨⟨_, _, _, _, _, _, _, _, _, _, rfl, l_Bundle_init, c_Bundle_init, .inr ⟨by simp, tp_Bundle_init, _, [Value.none], _, rfl, t_Bundle_init, rfl, .cons rfl (.nil)⟩, .inl rfl⟩, k_Bundle_init⟩
  have F_Bundle_init : FunX K "__init__" "Bundle.__init__" s_Bundle_init _ _ := ⟨⟨_, _, _, _, _, _, _, _, _, _, rfl, l_Bundle_init, c_Bundle_init⟩, k_Bundle_init⟩
  have D_law_made := fun_mk (st := s_law_made) l_law_made c_law_made k_law_made
  have F_law_made : FunX K "_law_made" "_law_made" s_law_made _ _ := ⟨⟨_, _, _, _, _, _, _, _, _, _, rfl, l_law_made, c_law_made⟩, k_law_made⟩
  have D_law_whole := fun_mk (st := s_law_whole) l_law_whole c_law_whole k_law_whole
  have F_law_whole : FunX K "_law_whole" "_law_whole" s_law_whole _ _ := ⟨⟨_, _, _, _, _, _, _, _, _, _, rfl, l_law_whole, c_law_whole⟩, k_law_whole⟩
  have D_law_right := fun_mk (st := s_law_right) l_law_right c_law_right k_law_right
  have F_law_right : FunX K "_law_right" "_law_right" s_law_right _ _ := ⟨⟨_, _, _, _, _, _, _, _, _, _, rfl, l_law_right, c_law_right⟩, k_law_right⟩
  have D_law := fun_mk (st := s_law) l_law c_law k_law
  have F_law : FunX K "law" "law" s_law _ _ := ⟨⟨_, _, _, _, _, _, _, _, _, _, rfl, l_law, c_law⟩, k_law⟩
  obtain ⟨ds_Bundle_init_3, v_Bundle_init_3, b_Bundle_init_3⟩ := D_Bundle_init.binds1 (ps := ["self", "many", "price", "marks"]) 3 0 (by simp) rfl fun _ _ _ _ _ _ _ us its h1 h2 => match us, h1, its, h2 with | [_, _, _], _, [_], _ => ⟨_, rfl, rfl⟩
  obtain ⟨ds_Bundle_init_4, v_Bundle_init_4, b_Bundle_init_4⟩ := D_Bundle_init.binds1 (ps := ["self", "many", "price", "marks"]) 4 1 (by simp) rfl fun _ _ _ _ _ _ _ us its h1 h2 => match us, h1, its, h2 with | [_, _, _, _], _, [_], _ => ⟨_, rfl, rfl⟩
  obtain ⟨ds_Cheapest_init_2, v_Cheapest_init_2, b_Cheapest_init_2⟩ := D_Cheapest_init.binds1 (ps := ["self", "many", "marks"]) 2 0 (by simp) rfl fun _ _ _ _ _ _ _ us its h1 h2 => match us, h1, its, h2 with | [_, _], _, [_], _ => ⟨_, rfl, rfl⟩
  obtain ⟨ds_Cheapest_init_3, v_Cheapest_init_3, b_Cheapest_init_3⟩ := D_Cheapest_init.binds1 (ps := ["self", "many", "marks"]) 3 1 (by simp) rfl fun _ _ _ _ _ _ _ us its h1 h2 => match us, h1, its, h2 with | [_, _, _], _, [_], _ => ⟨_, rfl, rfl⟩
  obtain ⟨ds_Marks_init_1, v_Marks_init_1, b_Marks_init_1⟩ := D_Marks_init.binds1 (ps := ["self", "kind", "needs", "most", "member", "once", "lone"]) 1 0 (by simp) rfl fun _ _ _ _ _ _ _ us its h1 h2 => match us, h1, its, h2 with | [_], _, [_, _, _, _, _, _], _ => ⟨_, rfl, rfl⟩
  obtain ⟨ds_Marks_init_2, v_Marks_init_2, b_Marks_init_2⟩ := D_Marks_init.binds1 (ps := ["self", "kind", "needs", "most", "member", "once", "lone"]) 2 1 (by simp) rfl fun _ _ _ _ _ _ _ us its h1 h2 => match us, h1, its, h2 with | [_, _], _, [_, _, _, _, _, _], _ => ⟨_, rfl, rfl⟩
  obtain ⟨ds_Marks_init_3, v_Marks_init_3, b_Marks_init_3⟩ := D_Marks_init.binds1 (ps := ["self", "kind", "needs", "most", "member", "once", "lone"]) 3 2 (by simp) rfl fun _ _ _ _ _ _ _ us its h1 h2 => match us, h1, its, h2 with | [_, _, _], _, [_, _, _, _, _, _], _ => ⟨_, rfl, rfl⟩
  obtain ⟨ds_Marks_init_4, v_Marks_init_4, b_Marks_init_4⟩ := D_Marks_init.binds1 (ps := ["self", "kind", "needs", "most", "member", "once", "lone"]) 4 3 (by simp) rfl fun _ _ _ _ _ _ _ us its h1 h2 => match us, h1, its, h2 with | [_, _, _, _], _, [_, _, _, _, _, _], _ => ⟨_, rfl, rfl⟩
  obtain ⟨ds_Marks_init_5, v_Marks_init_5, b_Marks_init_5⟩ := D_Marks_init.binds1 (ps := ["self", "kind", "needs", "most", "member", "once", "lone"]) 5 4 (by simp) rfl fun _ _ _ _ _ _ _ us its h1 h2 => match us, h1, its, h2 with | [_, _, _, _, _], _, [_, _, _, _, _, _], _ => ⟨_, rfl, rfl⟩
  obtain ⟨ds_Marks_init_6, v_Marks_init_6, b_Marks_init_6⟩ := D_Marks_init.binds1 (ps := ["self", "kind", "needs", "most", "member", "once", "lone"]) 6 5 (by simp) rfl fun _ _ _ _ _ _ _ us its h1 h2 => match us, h1, its, h2 with | [_, _, _, _, _, _], _, [_, _, _, _, _, _], _ => ⟨_, rfl, rfl⟩
  obtain ⟨ds_Marks_init_7, v_Marks_init_7, b_Marks_init_7⟩ := D_Marks_init.binds1 (ps := ["self", "kind", "needs", "most", "member", "once", "lone"]) 7 6 (by simp) rfl fun _ _ _ _ _ _ _ us its h1 h2 => match us, h1, its, h2 with | [_, _, _, _, _, _, _], _, [_, _, _, _, _, _], _ => ⟨_, rfl, rfl⟩
  obtain ⟨ds_Off_init_2, v_Off_init_2, b_Off_init_2⟩ := D_Off_init.binds1 (ps := ["self", "amount", "marks"]) 2 0 (by simp) rfl fun _ _ _ _ _ _ _ us its h1 h2 => match us, h1, its, h2 with | [_, _], _, [_], _ => ⟨_, rfl, rfl⟩
  obtain ⟨ds_Off_init_3, v_Off_init_3, b_Off_init_3⟩ := D_Off_init.binds1 (ps := ["self", "amount", "marks"]) 3 1 (by simp) rfl fun _ _ _ _ _ _ _ us its h1 h2 => match us, h1, its, h2 with | [_, _, _], _, [_], _ => ⟨_, rfl, rfl⟩
  obtain ⟨ds_Share_init_2, v_Share_init_2, b_Share_init_2⟩ := D_Share_init.binds1 (ps := ["self", "share", "by_line", "marks"]) 2 0 (by simp) rfl fun _ _ _ _ _ _ _ us its h1 h2 => match us, h1, its, h2 with | [_, _], _, [_, _], _ => ⟨_, rfl, rfl⟩
  obtain ⟨ds_Share_init_3, v_Share_init_3, b_Share_init_3⟩ := D_Share_init.binds1 (ps := ["self", "share", "by_line", "marks"]) 3 1 (by simp) rfl fun _ _ _ _ _ _ _ us its h1 h2 => match us, h1, its, h2 with | [_, _, _], _, [_, _], _ => ⟨_, rfl, rfl⟩
  obtain ⟨ds_Share_init_4, v_Share_init_4, b_Share_init_4⟩ := D_Share_init.binds1 (ps := ["self", "share", "by_line", "marks"]) 4 2 (by simp) rfl fun _ _ _ _ _ _ _ us its h1 h2 => match us, h1, its, h2 with | [_, _, _, _], _, [_, _], _ => ⟨_, rfl, rfl⟩
  obtain ⟨ds_Voucher_init_1, v_Voucher_init_1, b_Voucher_init_1⟩ := D_Voucher_init.binds1 (ps := ["self", "marks"]) 1 0 (by simp) rfl fun _ _ _ _ _ _ _ us its h1 h2 => match us, h1, its, h2 with | [_], _, [_], _ => ⟨_, rfl, rfl⟩
  obtain ⟨ds_Voucher_init_2, v_Voucher_init_2, b_Voucher_init_2⟩ := D_Voucher_init.binds1 (ps := ["self", "marks"]) 2 1 (by simp) rfl fun _ _ _ _ _ _ _ us its h1 h2 => match us, h1, its, h2 with | [_, _], _, [_], _ => ⟨_, rfl, rfl⟩
  have b_law_coin_1 : Binds K _ ["_law_cell"] [] := D_law_coin.binds (ps := ["_law_cell"]) fun _ _ _ _ _ _ us hl => match us, hl with | [_], _ => rfl
  have b_law_fields_1 : Binds K _ ["_law_own"] [] := D_law_fields.binds (ps := ["_law_own"]) fun _ _ _ _ _ _ us hl => match us, hl with | [_], _ => rfl
  have b_law_made_3 : Binds K _ ["_law_cell", "_law_own", "_law_how"] [] := D_law_made.binds (ps := ["_law_cell", "_law_own", "_law_how"]) fun _ _ _ _ _ _ us hl => match us, hl with | [_, _, _], _ => rfl
  have b_law_marks_by_1 : Binds K _ ["_law_cell"] [] := D_law_marks_by.binds (ps := ["_law_cell"]) fun _ _ _ _ _ _ us hl => match us, hl with | [_], _ => rfl
  have b_law_mix_3 : Binds K _ ["_law_cell", "_law_factor", "_law_prime"] [] := D_law_mix.binds (ps := ["_law_cell", "_law_factor", "_law_prime"]) fun _ _ _ _ _ _ us hl => match us, hl with | [_, _, _], _ => rfl
  have b_law_one_named_5 : Binds K _ ["_law_branch", "_law_least", "_law_top", "_law_bits", "_law_pick"] [] := D_law_one_named.binds (ps := ["_law_branch", "_law_least", "_law_top", "_law_bits", "_law_pick"]) fun _ _ _ _ _ _ us hl => match us, hl with | [_, _, _, _, _], _ => rfl
  have b_law_right_3 : Binds K _ ["_law_voucher", "_law_cell", "_law_how"] [] := D_law_right.binds (ps := ["_law_voucher", "_law_cell", "_law_how"]) fun _ _ _ _ _ _ us hl => match us, hl with | [_, _, _], _ => rfl
  have b_law_whole_1 : Binds K _ ["_law_found"] [] := D_law_whole.binds (ps := ["_law_found"]) fun _ _ _ _ _ _ us hl => match us, hl with | [_], _ => rfl
  obtain ⟨its_Bundle_init_3_marks, kb_Bundle_init_3_marks⟩ := D_Bundle_init.kbindsD (ps := ["self", "many", "price", "marks"]) 3 ["marks"] (fun us its ws => us ++ ((ws.drop 0).take 1)) (by simp) (fun r1 r2 r3 => (r1.append ((r3.drop 0).take 1))) (fun _ _ _ _ _ _ _ us its ws l1 l2 l3 => match us, its, ws, l1, l2, l3 with | [_, _, _], [_], [_], _, _, _ => ⟨_, rfl, rfl⟩)
  obtain ⟨its_Cheapest_init_2_marks, kb_Cheapest_init_2_marks⟩ := D_Cheapest_init.kbindsD (ps := ["self", "many", "marks"]) 2 ["marks"] (fun us its ws => us ++ ((ws.drop 0).take 1)) (by simp) (fun r1 r2 r3 => (r1.append ((r3.drop 0).take 1))) (fun _ _ _ _ _ _ _ us its ws l1 l2 l3 => match us, its, ws, l1, l2, l3 with | [_, _], [_], [_], _, _, _ => ⟨_, rfl, rfl⟩)
  obtain ⟨its_Marks_init_1_kind, kb_Marks_init_1_kind⟩ := D_Marks_init.kbindsD (ps := ["self", "kind", "needs", "most", "member", "once", "lone"]) 1 ["kind"] (fun us its ws => us ++ ((ws.drop 0).take 1) ++ ((its.drop 1).take 1) ++ ((its.drop 2).take 1) ++ ((its.drop 3).take 1) ++ ((its.drop 4).take 1) ++ ((its.drop 5).take 1)) (by simp) (fun r1 r2 r3 => ((((((r1.append ((r3.drop 0).take 1)).append ((r2.drop 1).take 1)).append ((r2.drop 2).take 1)).append ((r2.drop 3).take 1)).append ((r2.drop 4).take 1)).append ((r2.drop 5).take 1))) (fun _ _ _ _ _ _ _ us its ws l1 l2 l3 => match us, its, ws, l1, l2, l3 with | [_], [_, _, _, _, _, _], [_], _, _, _ => ⟨_, rfl, rfl⟩)
  obtain ⟨its_Marks_init_1_lone, kb_Marks_init_1_lone⟩ := D_Marks_init.kbindsD (ps := ["self", "kind", "needs", "most", "member", "once", "lone"]) 1 ["lone"] (fun us its ws => us ++ ((its.drop 0).take 1) ++ ((its.drop 1).take 1) ++ ((its.drop 2).take 1) ++ ((its.drop 3).take 1) ++ ((its.drop 4).take 1) ++ ((ws.drop 0).take 1)) (by simp) (fun r1 r2 r3 => ((((((r1.append ((r2.drop 0).take 1)).append ((r2.drop 1).take 1)).append ((r2.drop 2).take 1)).append ((r2.drop 3).take 1)).append ((r2.drop 4).take 1)).append ((r3.drop 0).take 1))) (fun _ _ _ _ _ _ _ us its ws l1 l2 l3 => match us, its, ws, l1, l2, l3 with | [_], [_, _, _, _, _, _], [_], _, _, _ => ⟨_, rfl, rfl⟩)
  obtain ⟨its_Marks_init_1_lone_once_member_most_needs_kind, kb_Marks_init_1_lone_once_member_most_needs_kind⟩ := D_Marks_init.kbindsD (ps := ["self", "kind", "needs", "most", "member", "once", "lone"]) 1 ["lone", "once", "member", "most", "needs", "kind"] (fun us its ws => us ++ ((ws.drop 5).take 1) ++ ((ws.drop 4).take 1) ++ ((ws.drop 3).take 1) ++ ((ws.drop 2).take 1) ++ ((ws.drop 1).take 1) ++ ((ws.drop 0).take 1)) (by simp) (fun r1 r2 r3 => ((((((r1.append ((r3.drop 5).take 1)).append ((r3.drop 4).take 1)).append ((r3.drop 3).take 1)).append ((r3.drop 2).take 1)).append ((r3.drop 1).take 1)).append ((r3.drop 0).take 1))) (fun _ _ _ _ _ _ _ us its ws l1 l2 l3 => match us, its, ws, l1, l2, l3 with | [_], [_, _, _, _, _, _], [_, _, _, _, _, _], _, _, _ => ⟨_, rfl, rfl⟩)
  obtain ⟨its_Marks_init_1_member, kb_Marks_init_1_member⟩ := D_Marks_init.kbindsD (ps := ["self", "kind", "needs", "most", "member", "once", "lone"]) 1 ["member"] (fun us its ws => us ++ ((its.drop 0).take 1) ++ ((its.drop 1).take 1) ++ ((its.drop 2).take 1) ++ ((ws.drop 0).take 1) ++ ((its.drop 4).take 1) ++ ((its.drop 5).take 1)) (by simp) (fun r1 r2 r3 => ((((((r1.append ((r2.drop 0).take 1)).append ((r2.drop 1).take 1)).append ((r2.drop 2).take 1)).append ((r3.drop 0).take 1)).append ((r2.drop 4).take 1)).append ((r2.drop 5).take 1))) (fun _ _ _ _ _ _ _ us its ws l1 l2 l3 => match us, its, ws, l1, l2, l3 with | [_], [_, _, _, _, _, _], [_], _, _, _ => ⟨_, rfl, rfl⟩)
  obtain ⟨its_Marks_init_1_most, kb_Marks_init_1_most⟩ := D_Marks_init.kbindsD (ps := ["self", "kind", "needs", "most", "member", "once", "lone"]) 1 ["most"] (fun us its ws => us ++ ((its.drop 0).take 1) ++ ((its.drop 1).take 1) ++ ((ws.drop 0).take 1) ++ ((its.drop 3).take 1) ++ ((its.drop 4).take 1) ++ ((its.drop 5).take 1)) (by simp) (fun r1 r2 r3 => ((((((r1.append ((r2.drop 0).take 1)).append ((r2.drop 1).take 1)).append ((r3.drop 0).take 1)).append ((r2.drop 3).take 1)).append ((r2.drop 4).take 1)).append ((r2.drop 5).take 1))) (fun _ _ _ _ _ _ _ us its ws l1 l2 l3 => match us, its, ws, l1, l2, l3 with | [_], [_, _, _, _, _, _], [_], _, _, _ => ⟨_, rfl, rfl⟩)
  obtain ⟨its_Marks_init_1_needs, kb_Marks_init_1_needs⟩ := D_Marks_init.kbindsD (ps := ["self", "kind", "needs", "most", "member", "once", "lone"]) 1 ["needs"] (fun us its ws => us ++ ((its.drop 0).take 1) ++ ((ws.drop 0).take 1) ++ ((its.drop 2).take 1) ++ ((its.drop 3).take 1) ++ ((its.drop 4).take 1) ++ ((its.drop 5).take 1)) (by simp) (fun r1 r2 r3 => ((((((r1.append ((r2.drop 0).take 1)).append ((r3.drop 0).take 1)).append ((r2.drop 2).take 1)).append ((r2.drop 3).take 1)).append ((r2.drop 4).take 1)).append ((r2.drop 5).take 1))) (fun _ _ _ _ _ _ _ us its ws l1 l2 l3 => match us, its, ws, l1, l2, l3 with | [_], [_, _, _, _, _, _], [_], _, _, _ => ⟨_, rfl, rfl⟩)
  obtain ⟨its_Marks_init_1_once, kb_Marks_init_1_once⟩ := D_Marks_init.kbindsD (ps := ["self", "kind", "needs", "most", "member", "once", "lone"]) 1 ["once"] (fun us its ws => us ++ ((its.drop 0).take 1) ++ ((its.drop 1).take 1) ++ ((its.drop 2).take 1) ++ ((its.drop 3).take 1) ++ ((ws.drop 0).take 1) ++ ((its.drop 5).take 1)) (by simp) (fun r1 r2 r3 => ((((((r1.append ((r2.drop 0).take 1)).append ((r2.drop 1).take 1)).append ((r2.drop 2).take 1)).append ((r2.drop 3).take 1)).append ((r3.drop 0).take 1)).append ((r2.drop 5).take 1))) (fun _ _ _ _ _ _ _ us its ws l1 l2 l3 => match us, its, ws, l1, l2, l3 with | [_], [_, _, _, _, _, _], [_], _, _, _ => ⟨_, rfl, rfl⟩)
  obtain ⟨its_Off_init_2_marks, kb_Off_init_2_marks⟩ := D_Off_init.kbindsD (ps := ["self", "amount", "marks"]) 2 ["marks"] (fun us its ws => us ++ ((ws.drop 0).take 1)) (by simp) (fun r1 r2 r3 => (r1.append ((r3.drop 0).take 1))) (fun _ _ _ _ _ _ _ us its ws l1 l2 l3 => match us, its, ws, l1, l2, l3 with | [_, _], [_], [_], _, _, _ => ⟨_, rfl, rfl⟩)
  obtain ⟨its_Share_init_2_marks, kb_Share_init_2_marks⟩ := D_Share_init.kbindsD (ps := ["self", "share", "by_line", "marks"]) 2 ["marks"] (fun us its ws => us ++ ((its.drop 0).take 1) ++ ((ws.drop 0).take 1)) (by simp) (fun r1 r2 r3 => ((r1.append ((r2.drop 0).take 1)).append ((r3.drop 0).take 1))) (fun _ _ _ _ _ _ _ us its ws l1 l2 l3 => match us, its, ws, l1, l2, l3 with | [_, _], [_, _], [_], _, _, _ => ⟨_, rfl, rfl⟩)
  obtain ⟨its_Voucher_init_1_marks, kb_Voucher_init_1_marks⟩ := D_Voucher_init.kbindsD (ps := ["self", "marks"]) 1 ["marks"] (fun us its ws => us ++ ((ws.drop 0).take 1)) (by simp) (fun r1 r2 r3 => (r1.append ((r3.drop 0).take 1))) (fun _ _ _ _ _ _ _ us its ws l1 l2 l3 => match us, its, ws, l1, l2, l3 with | [_], [_], [_], _, _, _ => ⟨_, rfl, rfl⟩)
  exact ⟨_, fun s v => .of_eq rfl, fun base _ _ => ok_law ⟨_, PySem.W.mg_of X G a_Marks, ⟨pg_Marks, hd_Marks, po_Marks, sa_Marks⟩, ⟨⟨pg_Marks, hd_Marks, po_Marks, sa_Marks⟩, ha_Marks, hn_Marks, ht_Marks, hm_Marks, if_pos (beq_self_eq_true _)⟩, _, PySem.W.mg_of X G a_Off, ⟨pg_Off, hd_Off, po_Off, sa_Off⟩, ⟨⟨pg_Off, hd_Off, po_Off, sa_Off⟩, ha_Off, hn_Off, ht_Off, hm_Off, if_pos (beq_self_eq_true _)⟩, _, PySem.W.mg_of X G a_Share, ⟨pg_Share, hd_Share, po_Share, sa_Share⟩, ⟨⟨pg_Share, hd_Share, po_Share, sa_Share⟩, ha_Share, hn_Share, ht_Share, hm_Share, if_pos (beq_self_eq_true _)⟩, _, PySem.W.mg_of X G a_Cheapest, ⟨pg_Cheapest, hd_Cheapest, po_Cheapest, sa_Cheapest⟩, ⟨⟨pg_Cheapest, hd_Cheapest, po_Cheapest, sa_Cheapest⟩, ha_Cheapest, hn_Cheapest, ht_Cheapest, hm_Cheapest, if_pos (beq_self_eq_true _)⟩, _, PySem.W.mg_of X G a_Bundle, ⟨pg_Bundle, hd_Bundle, po_Bundle, sa_Bundle⟩, ⟨⟨pg_Bundle, hd_Bundle, po_Bundle, sa_Bundle⟩, ha_Bundle, hn_Bundle, ht_Bundle, hm_Bundle, if_pos (beq_self_eq_true _)⟩, _, PySem.W.mg_of X G a_Carriage, ⟨pg_Carriage, hd_Carriage, po_Carriage, sa_Carriage⟩, ⟨⟨pg_Carriage, hd_Carriage, po_Carriage, sa_Carriage⟩, ha_Carriage, hn_Carriage, ht_Carriage, hm_Carriage, if_pos (beq_self_eq_true _)⟩, _, PySem.W.mg_of X G a_Voucher, ⟨pg_Voucher, hd_Voucher, po_Voucher, sa_Voucher⟩, ki_Bundle_Bundle, ki_Bundle_Carriage, ki_Bundle_Cheapest, ki_Bundle_Off, ki_Bundle_Share, ki_Bundle_Voucher, ki_Carriage_Bundle, ki_Carriage_Carriage, ki_Carriage_Cheapest, ki_Carriage_Off, ki_Carriage_Share, ki_Carriage_Voucher, ki_Cheapest_Bundle, ki_Cheapest_Carriage, ki_Cheapest_Cheapest, ki_Cheapest_Off, ki_Cheapest_Share, ki_Cheapest_Voucher, ki_Off_Bundle, ki_Off_Carriage, ki_Off_Cheapest, ki_Off_Off, ki_Off_Share, ki_Off_Voucher, ki_Share_Bundle, ki_Share_Carriage, ki_Share_Cheapest, ki_Share_Off, ki_Share_Share, ki_Share_Voucher, n_Bundle_many, n_Bundle_marks, n_Bundle_price, n_Carriage_marks, n_Cheapest_many, n_Cheapest_marks, n_Marks_kind, n_Marks_lone, n_Marks_member, n_Marks_most, n_Marks_needs, n_Marks_once, n_Off_amount, n_Off_marks, n_Share_by_line, n_Share_marks, n_Share_share, _, _, F_law_mix, PySem.W.mg_of X G a_law_mix, k_law_mix, _, _, F_law_coin, PySem.W.mg_of X G a_law_coin, k_law_coin, _, _, F_Marks_init, k_Marks_init, _, _, F_law_one_named, PySem.W.mg_of X G a_law_one_named, k_law_one_named, _, _, F_law_marks_by, PySem.W.mg_of X G a_law_marks_by, k_law_marks_by, _, _, F_law_fields, PySem.W.mg_of X G a_law_fields, k_law_fields, _, _, F_Voucher_init, k_Voucher_init, _, _, F_Off_init, k_Off_init, _, _, F_Share_init, k_Share_init, _, _, F_Cheapest_init, k_Cheapest_init, _, _, F_Bundle_init, k_Bundle_init, _, _, F_law_made, PySem.W.mg_of X G a_law_made, k_law_made, _, _, F_law_whole, PySem.W.mg_of X G a_law_whole, k_law_whole, _, _, F_law_right, PySem.W.mg_of X G a_law_right, k_law_right, _, _, F_law, PySem.W.mg_of X G a_law, k_law, ds_Bundle_init_3, b_Bundle_init_3, v_Bundle_init_3, (match ds_Bundle_init_4, v_Bundle_init_4, b_Bundle_init_4 with | [], _, b => b), ds_Cheapest_init_2, b_Cheapest_init_2, v_Cheapest_init_2, (match ds_Cheapest_init_3, v_Cheapest_init_3, b_Cheapest_init_3 with | [], _, b => b), ds_Marks_init_1, b_Marks_init_1, v_Marks_init_1, ds_Marks_init_2, b_Marks_init_2, v_Marks_init_2, ds_Marks_init_3, b_Marks_init_3, v_Marks_init_3, ds_Marks_init_4, b_Marks_init_4, v_Marks_init_4, ds_Marks_init_5, b_Marks_init_5, v_Marks_init_5, ds_Marks_init_6, b_Marks_init_6, v_Marks_init_6, (match ds_Marks_init_7, v_Marks_init_7, b_Marks_init_7 with | [], _, b => b), ds_Off_init_2, b_Off_init_2, v_Off_init_2, (match ds_Off_init_3, v_Off_init_3, b_Off_init_3 with | [], _, b => b), ds_Share_init_2, b_Share_init_2, v_Share_init_2, ds_Share_init_3, b_Share_init_3, v_Share_init_3, (match ds_Share_init_4, v_Share_init_4, b_Share_init_4 with | [], _, b => b), ds_Voucher_init_1, b_Voucher_init_1, v_Voucher_init_1, (match ds_Voucher_init_2, v_Voucher_init_2, b_Voucher_init_2 with | [], _, b => b), b_law_coin_1, b_law_fields_1, b_law_made_3, b_law_marks_by_1, b_law_mix_3, b_law_one_named_5, b_law_right_3, b_law_whole_1, its_Bundle_init_3_marks, kb_Bundle_init_3_marks, its_Cheapest_init_2_marks, kb_Cheapest_init_2_marks, its_Marks_init_1_kind, kb_Marks_init_1_kind, its_Marks_init_1_lone, kb_Marks_init_1_lone, its_Marks_init_1_lone_once_member_most_needs_kind, kb_Marks_init_1_lone_once_member_most_needs_kind, its_Marks_init_1_member, kb_Marks_init_1_member, its_Marks_init_1_most, kb_Marks_init_1_most, its_Marks_init_1_needs, kb_Marks_init_1_needs, its_Marks_init_1_once, kb_Marks_init_1_once, its_Off_init_2_marks, kb_Off_init_2_marks, its_Share_init_2_marks, kb_Share_init_2_marks, its_Voucher_init_1_marks, kb_Voucher_init_1_marks, ⟨mm_Bundle, mi_Bundle, mf_Bundle, mk_Bundle⟩, ⟨mm_Carriage, mi_Carriage, mf_Carriage, mk_Carriage⟩, ⟨mm_Cheapest, mi_Cheapest, mf_Cheapest, mk_Cheapest⟩, ⟨mm_Marks, mi_Marks, mf_Marks, mk_Marks⟩, ⟨mm_Off, mi_Off, mf_Off, mk_Off⟩, ⟨mm_Share, mi_Share, mf_Share, mk_Share⟩, ⟨cr_Voucher, cg_Voucher⟩, ⟨cv_Voucher_Voucher_init, rfl⟩, PySem.W.mg_none_of X G z_bool, PySem.W.mg_none_of X G z_int, PySem.W.mg_none_of X G z_isinstance, PySem.W.mg_none_of X G z_range⟩⟩
end Law
namespace Law
variable [T.TabsC]
open PySem T L2
theorem mix_ok (c f p : Int) (hf : -(2 ^ 64) < f) (hf2 : f < 2 ^ 64) (hp : 0 < p) : M.law_mix c f p = some (c * f % p) := by
  unfold M.law_mix
  rw [mulO_r hf hf2, bindP, modO_ok hp]
end Law
-- uses: C_mix
namespace Law
variable [T.TabsC]
open PySem T L2 PySem.W
theorem pick_ok {α : Type} {xs : List α} {i : Int} (h0 : 0 ≤ i) (h1 : i < xs.length) : ∃ x ∈ xs, atO xs i = some x := ⟨xs[i.toNat]'(by omega), List.getElem_mem _, atO_get h0 h1⟩
theorem coin_ok (c : Int) : ∃ r, M.law_coin c = some r := by
  unfold M.law_coin
  dsimp only
  split
  · exact ⟨_, rfl⟩
  split
  · exact ⟨_, rfl⟩
  split
  · obtain ⟨x, _, ex⟩ := pick_ok (xs := [(0 : Int), 1, 999999999999, 1000000000000]) (i := c / 4 % 4) (by omega) (by show c / 4 % 4 < 4; omega)
    exact ⟨x, ex⟩
  · exact ⟨_, rfl⟩
def fD (m : MarksD) : List PyData := [Datum.toD m.f_kind, .int m.f_needs, Datum.toD m.f_most, .bool m.f_member, .bool m.f_once, .bool m.f_lone]
theorem fields_eq (m : MarksD) : M.law_fields m = fD m := by unfold M.law_fields; rfl
theorem fields1_eq (m : MarksD) : M.law_fields_1 (some m) = some (fD m) := by unfold M.law_fields_1; rfl
def hlM (m : MarksD) : HL (HC (Option Int) (HC Int (HC (Option Int) (HC Bool (HC Bool (HC Bool HU)))))) := HL.mk (HC.mk m.f_kind (HC.mk m.f_needs (HC.mk m.f_most (HC.mk m.f_member (HC.mk m.f_once (HC.mk m.f_lone HU.mk))))))
theorem eq_self (m : MarksD) : eqDO (.list (fD m)) (.list (fD m)) = some true := by
  have e : PyData.list (fD m) = Datum.toD (hlM m) := rfl
  unfold eqDO
  rw [e, Datum.plain, if_pos, Datum.eqv, decide_eq_true rfl]
  have := Datum.depth_le (hlM m)
  have h2 : Datum.depth (HL (HC (Option Int) (HC Int (HC (Option Int) (HC Bool (HC Bool (HC Bool HU))))))) ≤ 64 := Nat.le_of_ble_eq_true rfl
  rw [decide_eq_true (Nat.le_trans this h2)]
  rfl
theorem init_eq (a : Option Int) (b : Int) (c : Option Int) (d e f : Bool) : M.Marks_init a b c d e f = ⟨a, b, c, d, e, f⟩ := by unfold M.Marks_init; rfl
theorem named_ok (a : Option Int) (b : Int) (c : Option Int) (x y z : Bool) (k : Int) (h0 : 0 ≤ k) (h1 : k < 6) : ∃ m, M.law_one_named a b c [x, y, z] k = some (T2.mk m (fD m)) := by
  unfold M.law_one_named
  dsimp only
  simp only [init_eq]
  rw [atO_ok (i := 0) (v := x) (by decide) rfl, atO_ok (i := 1) (v := y) (by decide) rfl, atO_ok (i := 2) (v := z) (by decide) rfl]
  simp only [bindP, List.map_cons, List.map_nil]
  rw [catO_ok (by show 3 + 3 ≤ 16777216; decide), bindP, catO_ok (by show 3 + 3 ≤ 16777216; decide)]
  rcases (show k = 0 ∨ k = 1 ∨ k = 2 ∨ k = 3 ∨ k = 4 ∨ k = 5 by omega) with rfl | rfl | rfl | rfl | rfl | rfl
  · rw [atO_ok (i := 0) (by decide) rfl, bindP, setO_ok (by decide) (by show (0 : Int) < 6; decide), bindP, bindP, atO_ok (i := 0) (by decide) rfl, bindP]
    exact ⟨⟨a, 0, none, false, false, false⟩, rfl⟩
  · rw [atO_ok (i := 1) (by decide) rfl, bindP, setO_ok (by decide) (by show (1 : Int) < 6; decide), bindP, bindP, atO_ok (i := 1) (by decide) rfl, bindP]
    exact ⟨⟨none, b, none, false, false, false⟩, rfl⟩
  · rw [atO_ok (i := 2) (by decide) rfl, bindP, setO_ok (by decide) (by show (2 : Int) < 6; decide), bindP, bindP, atO_ok (i := 2) (by decide) rfl, bindP]
    exact ⟨⟨none, 0, c, false, false, false⟩, rfl⟩
  · rw [atO_ok (i := 3) (by decide) rfl, bindP, setO_ok (by decide) (by show (3 : Int) < 6; decide), bindP, bindP, atO_ok (i := 3) (by decide) rfl, bindP]
    exact ⟨⟨none, 0, none, x, false, false⟩, rfl⟩
  · rw [atO_ok (i := 4) (by decide) rfl, bindP, setO_ok (by decide) (by show (4 : Int) < 6; decide), bindP, bindP, atO_ok (i := 4) (by decide) rfl, bindP]
    exact ⟨⟨none, 0, none, false, y, false⟩, rfl⟩
  · rw [atO_ok (i := 5) (by decide) rfl, bindP, setO_ok (by decide) (by show (5 : Int) < 6; decide), bindP, bindP, atO_ok (i := 5) (by decide) rfl, bindP]
    exact ⟨⟨none, 0, none, false, false, z⟩, rfl⟩
theorem marks_by_ok (c : Int) : ∃ m, M.law_marks_by c = some (T2.mk m (fD m)) := by
  unfold M.law_marks_by
  dsimp only
  rw [mix_ok _ _ _ (by decide) (by decide) (by decide), mix_ok _ _ _ (by decide) (by decide) (by decide), bindP]
  obtain ⟨n, en⟩ := coin_ok (c * 48271 % 2147483647)
  obtain ⟨t0, et0⟩ := coin_ok (c * 16807 % 2147483399)
  rw [en, bindP, bindP, et0, bindP]
  generalize (if (decide ((c % (2 : Int)) = (0 : Int))) = true then (none : (Option Int)) else (some ((c / (2 : Int)) % (20 : Int)) : (Option Int))) = a
  have ht : ∃ t : Option Int, (if (decide (((c / (2 : Int)) % (3 : Int)) = (0 : Int))) = true then some ((none : (Option Int))) else some ((some t0 : (Option Int)))) = some t := by split <;> exact ⟨_, rfl⟩
  obtain ⟨t, et⟩ := ht
  rw [et, bindP]
  generalize decide (((c / (6 : Int)) % (2 : Int)) = (1 : Int)) = x
  generalize decide (((c / (12 : Int)) % (2 : Int)) = (1 : Int)) = y
  generalize decide (((c / (24 : Int)) % (2 : Int)) = (1 : Int)) = z
  rw [atO_ok (xs := [x, y, z]) (i := 0) (v := x) (by decide) rfl, atO_ok (xs := [x, y, z]) (i := 1) (v := y) (by decide) rfl, atO_ok (xs := [x, y, z]) (i := 2) (v := z) (by decide) rfl]
  simp only [bindP, init_eq]
  split
  · exact ⟨⟨none, 0, none, false, false, false⟩, rfl⟩
  split
  · exact ⟨⟨a, 0, none, false, false, false⟩, rfl⟩
  split
  · exact ⟨⟨a, n, none, false, false, false⟩, rfl⟩
  split
  · exact ⟨⟨a, n, t, x, false, false⟩, rfl⟩
  split
  · exact ⟨⟨a, n, t, x, y, false⟩, rfl⟩
  split
  · exact ⟨⟨a, n, t, false, false, false⟩, rfl⟩
  split
  · rw [catO_ok (by show 3 + 3 ≤ 16777216; decide), bindP]
    exact ⟨⟨a, n, t, x, y, z⟩, rfl⟩
  split
  · rw [catO_ok (by show 3 + 3 ≤ 16777216; decide), bindP]
    exact ⟨⟨a, n, t, x, y, z⟩, rfl⟩
  · exact named_ok a n t x y z _ (by omega) (by omega)
def dM : MarksD := ⟨none, 0, none, false, false, false⟩
theorem made_ok (d : Int) (m : MarksD) (how : Int) (h0 : 0 ≤ how) (h1 : how < 4) : ∃ v, M.law_made d m how = some v ∧ M.law_right v d how = some true ∧ v.f_marks = some (if how < 2 then dM else m) := by
  unfold M.law_made M.law_right
  dsimp only
  rw [mix_ok _ _ _ (by decide) (by decide) (by decide), bindP]
  obtain ⟨a, ea⟩ := coin_ok (d * 69621 % 2147483629)
  obtain ⟨s, _, es⟩ := pick_ok (xs := [(1 : Int), 1000, 1 + d / 10 % 1000]) (i := d / 5 % 3) (by omega) (by show d / 5 % 3 < 3; omega)
  have hw : ∀ n, M.law_whole n = true := fun n => by unfold M.law_whole; rfl
  rw [ea, bindP, es, bindP]
  simp only [bindP, hw]
  rw [rng1O_ok (by decide) (by decide)]
  have hr : (rng 0 (5 : Int).toNat) = [0, 1, 2, 3, 4] := rfl
  rw [hr]
  generalize d / 35 % 2 = by_
  generalize d / 5 % 19 = mm
  have hh : how = 0 ∨ how = 1 ∨ how = 2 ∨ how = 3 := by omega
  rcases (show d % 5 = 0 ∨ d % 5 = 1 ∨ d % 5 = 2 ∨ d % 5 = 3 ∨ d % 5 = 4 by omega) with hd | hd | hd | hd | hd
  all_goals rw [hd]
  · have hr : ∀ mk : MarksD, (catO ([true, false, false] : List Bool) [false, false] >>= fun kinds => ((some (!decide (kinds = [true, false, false, false, false]))) >>= fun v5 => (if v5 = true then some true else some (!true))) >>= fun v19 => if v19 = true then some false else (if decide (a = a) = true then some true else some false)) = some true := fun mk => by
      rw [catO_ok (by show 3 + 2 ≤ 16777216; decide), bindP, decide_eq_true rfl]
      rfl
    rcases hh with rfl | rfl | rfl | rfl
    · exact ⟨.c_Off ⟨some dM, a⟩, by rw [if_pos (by decide), atO_ok (i := 0) (by decide) rfl, bindP]; unfold M.Off_init M.Voucher_init; rw [init_eq]; rfl, hr dM, rfl⟩
    · exact ⟨.c_Off ⟨some dM, a⟩, by rw [if_pos (by decide), atO_ok (i := 1) (by decide) rfl, bindP]; unfold M.Off_init M.Voucher_init; rw [init_eq]; rfl, hr dM, rfl⟩
    · exact ⟨.c_Off ⟨some m, a⟩, by rw [if_pos (by decide), atO_ok (i := 2) (by decide) rfl, bindP]; unfold M.Off_init M.Voucher_init; rfl, hr m, rfl⟩
    · exact ⟨.c_Off ⟨some m, a⟩, by rw [if_pos (by decide), atO_ok (i := 3) (by decide) rfl, bindP]; unfold M.Off_init M.Voucher_init; rfl, hr m, rfl⟩
  · have hr : ∀ (b c : Bool), b = c → (catO ([false, true, false] : List Bool) [false, false] >>= fun kinds => ((some (!decide (kinds = [false, true, false, false, false]))) >>= fun v5 => (if v5 = true then some true else some (!true))) >>= fun v19 => if v19 = true then some false else (((some (!true)) >>= fun v12 => (if v12 = true then some true else some (!decide (b = c)))) >>= fun v14 => if v14 = true then some false else some (decide (s = s)))) = some true := fun b c e => by
      rw [catO_ok (by show 3 + 2 ≤ 16777216; decide), bindP, decide_eq_true e, decide_eq_true rfl]
      rfl
    rcases hh with rfl | rfl | rfl | rfl
    · exact ⟨.c_Share ⟨some dM, s, false⟩, by rw [if_neg (by decide), if_pos (by decide), atO_ok (i := 0) (by decide) rfl, bindP]; unfold M.Share_init M.Voucher_init_1; rw [init_eq]; rfl, hr false _ rfl, rfl⟩
    · exact ⟨.c_Share ⟨some dM, s, (decide (by_ = 1))⟩, by rw [if_neg (by decide), if_pos (by decide), atO_ok (i := 1) (by decide) rfl, bindP]; unfold M.Share_init M.Voucher_init_1; rw [init_eq]; rfl, hr (decide (by_ = 1)) _ rfl, rfl⟩
    · exact ⟨.c_Share ⟨some m, s, (decide (by_ = 1))⟩, by rw [if_neg (by decide), if_pos (by decide), atO_ok (i := 2) (by decide) rfl, bindP]; unfold M.Share_init M.Voucher_init_1; rfl, hr (decide (by_ = 1)) _ rfl, rfl⟩
    · exact ⟨.c_Share ⟨some m, s, false⟩, by rw [if_neg (by decide), if_pos (by decide), atO_ok (i := 3) (by decide) rfl, bindP]; unfold M.Share_init M.Voucher_init_1; rfl, hr false _ rfl, rfl⟩
  · have hr : (catO ([false, false, true] : List Bool) [false, false] >>= fun kinds => ((some (!decide (kinds = [false, false, true, false, false]))) >>= fun v5 => (if v5 = true then some true else some (!true))) >>= fun v19 => if v19 = true then some false else some (decide (2 + mm = 2 + mm))) = some true := by
      rw [catO_ok (by show 3 + 2 ≤ 16777216; decide), bindP, decide_eq_true (rfl : 2 + mm = 2 + mm)]
      rfl
    rcases hh with rfl | rfl | rfl | rfl
    · exact ⟨.c_Cheapest ⟨some dM, 2 + mm⟩, by rw [if_neg (by decide), if_neg (by decide), if_pos (by decide), atO_ok (i := 0) (by decide) rfl, bindP]; unfold M.Cheapest_init M.Voucher_init_2; rw [init_eq]; rfl, hr, rfl⟩
    · exact ⟨.c_Cheapest ⟨some dM, 2 + mm⟩, by rw [if_neg (by decide), if_neg (by decide), if_pos (by decide), atO_ok (i := 1) (by decide) rfl, bindP]; unfold M.Cheapest_init M.Voucher_init_2; rw [init_eq]; rfl, hr, rfl⟩
    · exact ⟨.c_Cheapest ⟨some m, 2 + mm⟩, by rw [if_neg (by decide), if_neg (by decide), if_pos (by decide), atO_ok (i := 2) (by decide) rfl, bindP]; unfold M.Cheapest_init M.Voucher_init_2; rfl, hr, rfl⟩
    · exact ⟨.c_Cheapest ⟨some m, 2 + mm⟩, by rw [if_neg (by decide), if_neg (by decide), if_pos (by decide), atO_ok (i := 3) (by decide) rfl, bindP]; unfold M.Cheapest_init M.Voucher_init_2; rfl, hr, rfl⟩
  · have hr : (catO ([false, false, false] : List Bool) [true, false] >>= fun kinds => ((some (!decide (kinds = [false, false, false, true, false]))) >>= fun v5 => (if v5 = true then some true else some (!true))) >>= fun v19 => if v19 = true then some false else (if decide (2 + mm = 2 + mm) = true then some (decide (a = a)) else some false)) = some true := by
      rw [catO_ok (by show 3 + 2 ≤ 16777216; decide), bindP, decide_eq_true (rfl : 2 + mm = 2 + mm), decide_eq_true (rfl : a = a)]
      rfl
    rcases hh with rfl | rfl | rfl | rfl
    · exact ⟨.c_Bundle ⟨some dM, 2 + mm, a⟩, by rw [if_neg (by decide), if_neg (by decide), if_neg (by decide), if_pos (by decide), catO_ok (by show 3 + 1 ≤ 16777216; decide), bindP, atO_ok (i := 0) (by decide) rfl, bindP]; unfold M.Bundle_init M.Voucher_init_3; rw [init_eq]; rfl, hr, rfl⟩
    · exact ⟨.c_Bundle ⟨some dM, 2 + mm, a⟩, by rw [if_neg (by decide), if_neg (by decide), if_neg (by decide), if_pos (by decide), catO_ok (by show 3 + 1 ≤ 16777216; decide), bindP, atO_ok (i := 1) (by decide) rfl, bindP]; unfold M.Bundle_init M.Voucher_init_3; rw [init_eq]; rfl, hr, rfl⟩
    · exact ⟨.c_Bundle ⟨some m, 2 + mm, a⟩, by rw [if_neg (by decide), if_neg (by decide), if_neg (by decide), if_pos (by decide), catO_ok (by show 3 + 1 ≤ 16777216; decide), bindP, atO_ok (i := 2) (by decide) rfl, bindP]; unfold M.Bundle_init M.Voucher_init_3; rfl, hr, rfl⟩
    · exact ⟨.c_Bundle ⟨some m, 2 + mm, a⟩, by rw [if_neg (by decide), if_neg (by decide), if_neg (by decide), if_pos (by decide), catO_ok (by show 3 + 1 ≤ 16777216; decide), bindP, atO_ok (i := 3) (by decide) rfl, bindP]; unfold M.Bundle_init M.Voucher_init_3; rfl, hr, rfl⟩
  · have hr : (catO ([false, false, false] : List Bool) [false, true] >>= fun kinds => ((some (!decide (kinds = [false, false, false, false, true]))) >>= fun v5 => (if v5 = true then some true else some (!true))) >>= fun v19 => if v19 = true then some false else some true) = some true := by
      rw [catO_ok (by show 3 + 2 ≤ 16777216; decide), bindP]
      rfl
    rcases hh with rfl | rfl | rfl | rfl
    · exact ⟨.c_Carriage ⟨some dM⟩, by rw [if_neg (by decide), if_neg (by decide), if_neg (by decide), if_neg (by decide), atO_ok (i := 0) (by decide) rfl, bindP]; unfold M.Voucher_init_4; rw [init_eq]; rfl, hr, rfl⟩
    · exact ⟨.c_Carriage ⟨some dM⟩, by rw [if_neg (by decide), if_neg (by decide), if_neg (by decide), if_neg (by decide), atO_ok (i := 1) (by decide) rfl, bindP]; unfold M.Voucher_init_4; rw [init_eq]; rfl, hr, rfl⟩
    · exact ⟨.c_Carriage ⟨some m⟩, by rw [if_neg (by decide), if_neg (by decide), if_neg (by decide), if_neg (by decide), atO_ok (i := 2) (by decide) rfl, bindP]; unfold M.Voucher_init_4; rfl, hr, rfl⟩
    · exact ⟨.c_Carriage ⟨some m⟩, by rw [if_neg (by decide), if_neg (by decide), if_neg (by decide), if_neg (by decide), atO_ok (i := 3) (by decide) rfl, bindP]; unfold M.Voucher_init_4; rfl, hr, rfl⟩
theorem law_true (ns : List Int) (h : ns.length ≤ 63) : M.law ns = some true := by
  unfold M.law
  rw [catO_ok (by show ns.length + 1 ≤ 16777216; omega), bindP, loopC_unit]
  · rfl
  intro c _
  left
  obtain ⟨m, em⟩ := marks_by_ok (c / 4)
  rw [em, bindP, if_neg (by decide)]
  dsimp only
  rw [fields_eq, eq_self, bindP, bindP, if_neg (by decide), rng1O_ok (by decide) (by decide), bindP, loopC_unit]
  · show ((M.law_mix c 39373 2147483587) >>= _) = _
    rw [mix_ok _ _ _ (by decide) (by decide) (by decide), bindP]
    obtain ⟨v, ev, er, ek⟩ := made_ok (c * 39373 % 2147483587) m (c % 4) (by omega) (by omega)
    rw [ev, bindP, er, bindP, bindP, if_neg (by decide), ek, bindP, bindP, bindP, if_neg (by decide), fields1_eq, bindP, bindP]
    by_cases hlt : c % 4 < 2
    · rw [if_pos hlt, if_pos (decide_eq_true hlt)]
      show (eqDO (.list (fD dM)) (.list (fD dM)) >>= _) >>= _ = _
      rw [eq_self]
      rfl
    · rw [if_neg hlt, if_neg (by simpa using hlt), eq_self]
      rfl
  · intro k hk
    left
    obtain ⟨k0, k1⟩ := rng_mem hk
    have k1 : k < 6 := k1
    rw [atO_get k0 (by show k < 6; omega), bindP, bindP, bindP, bindP, decide_eq_true rfl]
    rfl
end Law
set_option Elab.async false
set_option linter.all false
set_option maxRecDepth 100000
set_option maxHeartbeats 40000000
set_option synthInstance.maxSize 100000
set_option synthInstance.maxHeartbeats 400000
namespace Law
open PySem PySem.Spec PyProof.Rows L2 T
instance : TabsC := ⟨[]⟩
theorem all_fin {P : Program} {w : World} {K : PySem.W.Frag} {mg : Str → Option Value} {fa : Addr} (h : ∃ fd : FuncData, (∀ (s : Shared) (v : Value), BindsTo s fd ⟨[v], []⟩ [("_law_script", v)]) ∧ ∀ base : Heap, K.In base → base.Ns mainGlobals mg → FnOk P w K mg base CX0 7 fa fd ["_law_script"] (lawsp K mg)) :
    ∃ fd : FuncData, (∀ (s : Shared) (v : Value), BindsTo s fd ⟨[v], []⟩ [("_law_script", v)]) ∧ ∀ base : Heap, K.In base → base.Ns mainGlobals mg → FnOk P w K mg base CX0 7 fa fd ["_law_script"] (T.spL K) := by
  obtain ⟨fd, h1, h2⟩ := h
  exact ⟨fd, h1, fun base a b => T.fin_bw law_true (h2 base a b)⟩
theorem walk {l : PySem.W.OpenLaw} {q : Program} {loose : List Str} {XP : (Str → Option Value) → Heap → Prop} {YP : World → Heap → Prop} {d : DefRec} {K : Params → PySem.W.Frag} (hn : l.most = some 63) (hdf : d.params.defaults = [])
    (hY : ∀ (w : World) (h : Heap), YP w h → (K w.params).In h)
    (F : ∀ (w : World) (mg : Str → Option Value) (fa : Addr) (h : Heap), (K w.params).In h → h.Ns mainGlobals mg → mg d.name = some (.ref fa) →
      ∃ fd : FuncData, (∀ (s : Shared) (u : Value), BindsTo s fd ⟨[u], []⟩ [("_law_script", u)]) ∧ ∀ base : Heap, (K w.params).In base → base.Ns mainGlobals mg → FnOk l.prog w (K w.params) mg base CX0 7 fa fd ["_law_script"] (T.spL (K w.params))) :
    PySem.W.WalkO q loose XP YP l.row.toRowW d [] (fun f vs => PySem.call f vs) :=
  L2.walk_of (n := 63) (k := 7) (x := "_law_script") (CX := fun _ => CX0) (sp := fun w => T.spL (K w.params)) hn (by decide) hdf ⟨rfl, by decide, by decide⟩ hY F (fun _ _ a ns hl _ hS => ⟨(fun _ z => nomatch z), a, ns, rfl, hS, hl, fun _ => rfl⟩) fun _ _ _ _ _ z => z
end Law
open PySem PySem.W PyProof.Rows
set_option maxRecDepth 100000 in
set_option maxHeartbeats 0 in
theorem PySem.Challenge.cw_voucherstack_k08_marks_and_sorts_holds : PySem.Challenge.rw_voucherstack_k08_marks_and_sorts.Holds := by
  w_on; o_law; k_head; (case hw => w_witness2)
  k_fill
  refine Law.walk (l := PySem.Challenge.rw_voucherstack_k08_marks_and_sorts) rfl rfl (fun w h Y => PySem.W.kIn_of Y) ?F
  case F =>
    intro w mg fa h KX G hmg
    refine' Law.all_fin (Law.all_mk (l := PySem.Challenge.rw_voucherstack_k08_marks_and_sorts) KX G hmg ?a_Marks ?pg_Marks ?hd_Marks ?po_Marks ?sa_Marks ?ha_Marks ?hn_Marks ?ht_Marks ?hm_Marks ?a_Off ?pg_Off ?hd_Off ?po_Off ?sa_Off ?ha_Off ?hn_Off ?ht_Off ?hm_Off ?a_Share ?pg_Share ?hd_Share ?po_Share ?sa_Share ?ha_Share ?hn_Share ?ht_Share ?hm_Share ?a_Cheapest ?pg_Cheapest ?hd_Cheapest ?po_Cheapest ?sa_Cheapest ?ha_Cheapest ?hn_Cheapest ?ht_Cheapest ?hm_Cheapest ?a_Bundle ?pg_Bundle ?hd_Bundle ?po_Bundle ?sa_Bundle ?ha_Bundle ?hn_Bundle ?ht_Bundle ?hm_Bundle ?a_Carriage ?pg_Carriage ?hd_Carriage ?po_Carriage ?sa_Carriage ?ha_Carriage ?hn_Carriage ?ht_Carriage ?hm_Carriage ?a_Voucher ?pg_Voucher ?hd_Voucher ?po_Voucher ?sa_Voucher ?ki_Bundle_Bundle ?ki_Bundle_Carriage ?ki_Bundle_Cheapest ?ki_Bundle_Off ?ki_Bundle_Share ?ki_Bundle_Voucher ?ki_Carriage_Bundle ?ki_Carriage_Carriage ?ki_Carriage_Cheapest ?ki_Carriage_Off ?ki_Carriage_Share ?ki_Carriage_Voucher ?ki_Cheapest_Bundle ?ki_Cheapest_Carriage ?ki_Cheapest_Cheapest ?ki_Cheapest_Off ?ki_Cheapest_Share ?ki_Cheapest_Voucher ?ki_Off_Bundle ?ki_Off_Carriage ?ki_Off_Cheapest ?ki_Off_Off ?ki_Off_Share ?ki_Off_Voucher ?ki_Share_Bundle ?ki_Share_Carriage ?ki_Share_Cheapest ?ki_Share_Off ?ki_Share_Share ?ki_Share_Voucher ?n_Bundle_many ?n_Bundle_marks ?n_Bundle_price ?n_Carriage_marks ?n_Cheapest_many ?n_Cheapest_marks ?n_Marks_kind ?n_Marks_lone ?n_Marks_member ?n_Marks_most ?n_Marks_needs ?n_Marks_once ?n_Off_amount ?n_Off_marks ?n_Share_by_line ?n_Share_marks ?n_Share_share ?mi_Bundle ?mm_Bundle ?mf_Bundle ?mk_Bundle ?mi_Carriage ?mm_Carriage ?mf_Carriage ?mk_Carriage ?mi_Cheapest ?mm_Cheapest ?mf_Cheapest ?mk_Cheapest ?mi_Marks ?mm_Marks ?mf_Marks ?mk_Marks ?mi_Off ?mm_Off ?mf_Off ?mk_Off ?mi_Share ?mm_Share ?mf_Share ?mk_Share ?cr_Voucher ?cg_Voucher ?cv_Voucher_Voucher_init ?a_law_mix ?l_law_mix ?c_law_mix ?k_law_mix ?a_law_coin ?l_law_coin ?c_law_coin ?k_law_coin ?l_Marks_init ?t_Marks_init ?c_Marks_init ?k_Marks_init ?a_law_one_named ?l_law_one_named ?c_law_one_named ?k_law_one_named ?a_law_marks_by ?l_law_marks_by ?c_law_marks_by ?k_law_marks_by ?a_law_fields ?l_law_fields ?c_law_fields ?k_law_fields ?l_Voucher_init ?t_Voucher_init ?c_Voucher_init ?k_Voucher_init ?l_Off_init ?t_Off_init ?c_Off_init ?k_Off_init ?l_Share_init ?t_Share_init ?c_Share_init ?k_Share_init ?l_Cheapest_init ?t_Cheapest_init ?c_Cheapest_init ?k_Cheapest_init ?l_Bundle_init ?t_Bundle_init ?c_Bundle_init ?k_Bundle_init ?a_law_made ?l_law_made ?c_law_made ?k_law_made ?a_law_whole ?l_law_whole ?c_law_whole ?k_law_whole ?a_law_right ?l_law_right ?c_law_right ?k_law_right ?a_law ?l_law ?c_law ?k_law ?z_bool ?z_int ?z_isinstance ?z_range)
    (case a_Marks => k_is); (case pg_Marks => k_is); (case hd_Marks => k_is); (case po_Marks => k_is); (case sa_Marks => k_is); (case ha_Marks => k_is)
    (case hn_Marks => k_is); (case ht_Marks => k_is); (case hm_Marks => k_is); (case a_Off => k_is); (case pg_Off => k_is); (case hd_Off => k_is)
    (case po_Off => k_is); (case sa_Off => k_is); (case ha_Off => k_is); (case hn_Off => k_is); (case ht_Off => k_is); (case hm_Off => k_is)
    (case a_Share => k_is); (case pg_Share => k_is); (case hd_Share => k_is); (case po_Share => k_is); (case sa_Share => k_is); (case ha_Share => k_is)
    (case hn_Share => k_is); (case ht_Share => k_is); (case hm_Share => k_is); (case a_Cheapest => k_is); (case pg_Cheapest => k_is); (case hd_Cheapest => k_is)
    (case po_Cheapest => k_is); (case sa_Cheapest => k_is); (case ha_Cheapest => k_is); (case hn_Cheapest => k_is); (case ht_Cheapest => k_is); (case hm_Cheapest => k_is)
    (case a_Bundle => k_is); (case pg_Bundle => k_is); (case hd_Bundle => k_is); (case po_Bundle => k_is); (case sa_Bundle => k_is); (case ha_Bundle => k_is)
    (case hn_Bundle => k_is); (case ht_Bundle => k_is); (case hm_Bundle => k_is); (case a_Carriage => k_is); (case pg_Carriage => k_is); (case hd_Carriage => k_is)
    (case po_Carriage => k_is); (case sa_Carriage => k_is); (case ha_Carriage => k_is); (case hn_Carriage => k_is); (case ht_Carriage => k_is); (case hm_Carriage => k_is)
    (case a_Voucher => k_is); (case pg_Voucher => k_is); (case hd_Voucher => k_is); (case po_Voucher => k_is); (case sa_Voucher => k_is); (case ki_Bundle_Bundle => kit_is)
    (case ki_Bundle_Carriage => kit_is); (case ki_Bundle_Cheapest => kit_is); (case ki_Bundle_Off => kit_is); (case ki_Bundle_Share => kit_is); (case ki_Bundle_Voucher => kit_is); (case ki_Carriage_Bundle => kit_is)
    (case ki_Carriage_Carriage => kit_is); (case ki_Carriage_Cheapest => kit_is); (case ki_Carriage_Off => kit_is); (case ki_Carriage_Share => kit_is); (case ki_Carriage_Voucher => kit_is); (case ki_Cheapest_Bundle => kit_is)
    (case ki_Cheapest_Carriage => kit_is); (case ki_Cheapest_Cheapest => kit_is); (case ki_Cheapest_Off => kit_is); (case ki_Cheapest_Share => kit_is); (case ki_Cheapest_Voucher => kit_is); (case ki_Off_Bundle => kit_is)
    (case ki_Off_Carriage => kit_is); (case ki_Off_Cheapest => kit_is); (case ki_Off_Off => kit_is); (case ki_Off_Share => kit_is); (case ki_Off_Voucher => kit_is); (case ki_Share_Bundle => kit_is)
    (case ki_Share_Carriage => kit_is); (case ki_Share_Cheapest => kit_is); (case ki_Share_Off => kit_is); (case ki_Share_Share => kit_is); (case ki_Share_Voucher => kit_is); (case n_Bundle_many => k_is)
    (case n_Bundle_marks => k_is); (case n_Bundle_price => k_is); (case n_Carriage_marks => k_is); (case n_Cheapest_many => k_is); (case n_Cheapest_marks => k_is); (case n_Marks_kind => k_is)
    (case n_Marks_lone => k_is); (case n_Marks_member => k_is); (case n_Marks_most => k_is); (case n_Marks_needs => k_is); (case n_Marks_once => k_is); (case n_Off_amount => k_is)
    (case n_Off_marks => k_is); (case n_Share_by_line => k_is); (case n_Share_marks => k_is); (case n_Share_share => k_is); (case mi_Bundle => k_is); (case mm_Bundle => k_is)
    (case mf_Bundle => k_is); (case mk_Bundle => k_is); (case mi_Carriage => k_is); (case mm_Carriage => k_is); (case mf_Carriage => k_is); (case mk_Carriage => k_is)
    (case mi_Cheapest => k_is); (case mm_Cheapest => k_is); (case mf_Cheapest => k_is); (case mk_Cheapest => k_is); (case mi_Marks => k_is); (case mm_Marks => k_is)
    (case mf_Marks => k_is); (case mk_Marks => k_is); (case mi_Off => k_is); (case mm_Off => k_is); (case mf_Off => k_is); (case mk_Off => k_is)
    (case mi_Share => k_is); (case mm_Share => k_is); (case mf_Share => k_is); (case mk_Share => k_is); (case cr_Voucher => k_is); (case cg_Voucher => k_is)
    (case cv_Voucher_Voucher_init => k_is); (case a_law_mix => k_is); (case l_law_mix => k_is); (case c_law_mix => k_is); (case k_law_mix => k_is); (case a_law_coin => k_is)
    (case l_law_coin => k_is); (case c_law_coin => k_is); (case k_law_coin => k_is); (case l_Marks_init => k_is); (case t_Marks_init => k_is); (case c_Marks_init => k_is)
    (case k_Marks_init => k_is); (case a_law_one_named => k_is); (case l_law_one_named => k_is); (case c_law_one_named => k_is); (case k_law_one_named => k_is); (case a_law_marks_by => k_is)
    (case l_law_marks_by => k_is); (case c_law_marks_by => k_is); (case k_law_marks_by => k_is); (case a_law_fields => k_is); (case l_law_fields => k_is); (case c_law_fields => k_is)
    (case k_law_fields => k_is); (case l_Voucher_init => k_is); (case t_Voucher_init => k_is); (case c_Voucher_init => k_is); (case k_Voucher_init => k_is); (case l_Off_init => k_is)
    (case t_Off_init => k_is); (case c_Off_init => k_is); (case k_Off_init => k_is); (case l_Share_init => k_is); (case t_Share_init => k_is); (case c_Share_init => k_is)
    (case k_Share_init => k_is); (case l_Cheapest_init => k_is); (case t_Cheapest_init => k_is); (case c_Cheapest_init => k_is); (case k_Cheapest_init => k_is); (case l_Bundle_init => k_is)
    (case t_Bundle_init => k_is); (case c_Bundle_init => k_is); (case k_Bundle_init => k_is); (case a_law_made => k_is); (case l_law_made => k_is); (case c_law_made => k_is)
    (case k_law_made => k_is); (case a_law_whole => k_is); (case l_law_whole => k_is); (case c_law_whole => k_is); (case k_law_whole => k_is); (case a_law_right => k_is)
    (case l_law_right => k_is); (case c_law_right => k_is); (case k_law_right => k_is); (case a_law => k_is); (case l_law => k_is); (case c_law => k_is)
    (case k_law => k_is); (case z_bool => k_is); (case z_int => k_is); (case z_isinstance => k_is); (case z_range => k_is)
