import PyProof.Rows.All
import Wide.All
import OpenK.AllK
import Wide.FinOn
import HandS.ForMost
import HandS.Wide
import HandS.EndBits
import HandS.Defaults
import HandS.Lambda
import HandS.EndTab
import KE.Datum
import KE.DatumIndex
import HandS.IsInst
import HandS.Style
import HandS.ClsMeth
import HandS.Codes
import HandS.Rev
import HandS.Nested
import HandS.Conv
import HandS.SortKw
import KE.SortKeyHeap
import HandS.SetFor
import HandS.Strs
import HandS.MakeKw
import HandS.Zip
import HandS.TupAny
import HandS.SortInts
import KE.DataCmp
import KE.SortData
import HandS.ExcValue
import HandS.ExcIs
import HandS.ExcField
import HandS.ExcInit
import HandS.ExcOwn
import KE.GoesMore
import PySem.Challenge.RW_voucherstack_k05_lines_and_baskets
noncomputable section
set_option Elab.async false
set_option linter.all false
set_option maxRecDepth 100000
namespace T
open PySem PySem.Spec PyProof.Rows L2

/-! the module's facts; what is true of a value in the part of the heap that stays as it is -/
structure Gb where
  K : PySem.W.Frag
  mg : Str → Option Value
abbrev gb (X : Cx) : Gb := ⟨X.K, X.mg⟩
structure PR where
  p : Hp → V → Prop
  mono : ∀ {I I' : Hp} {v : V}, Same I I' → p I v → p I' v
structure PL where
  p : Hp → List V → Prop
  mono : ∀ {I I' : Hp} {vs : List V}, Same I I' → p I vs → p I' vs
class Py (α : Type) where
  r : Gb → α → PR

theorem seqT {K : PySem.W.Frag} {H H' : Hp} {a : Addr} {xs : List V} (e : Same H H') (h : SqT K H a xs) : SqT K H' a xs := by
  rcases h with (h | ⟨o, h⟩) | h
  · exact .inl (.inl (e _ _ h))
  · exact .inl (.inr ⟨o, e _ _ h⟩)
  · exact .inr h
theorem same_new {H : Hp} {p : Addr} {o : HO} (h : H p = none) : Same H (upd H p o) := fun b x e => by
  rw [upd_ne (ne_of_none e h)]
  exact e

/-- items, one by one; no more than a list may hold -/
def rl {α : Type} [Py α] (g : Gb) (as : List α) : PL where
  p := fun I vs => as.length ≤ sizeLine ∧ Paired (fun a v => (Py.r g a).p I v) as vs
  mono := fun s h => ⟨h.1, L2.Paired.mapP h.2 fun _ _ q => (Py.r g _).mono s q⟩
theorem rl_len {α : Type} [Py α] {g : Gb} {as : List α} {I : Hp} {vs : List V} (h : (rl g as).p I vs) : vs.length = as.length := (Paired.length h.2).symm

section
variable {α β γ δ : Type} [Py α] [Py β] [Py γ] [Py δ]
instance : Py Int := ⟨fun _ i => ⟨fun _ v => v = .int i, fun _ h => h⟩⟩
instance : Py Bool := ⟨fun _ i => ⟨fun _ v => v = .bl i, fun _ h => h⟩⟩
instance : Py Str := ⟨fun _ i => ⟨fun _ v => v = .str i, fun _ h => h⟩⟩
instance : Py Unit := ⟨fun _ _ => ⟨fun _ v => v = .non, fun _ h => h⟩⟩
def rOpt (g : Gb) : Option α → PR
  | none => ⟨fun _ v => v = .non, fun _ h => h⟩
  | some a => Py.r g a
instance : Py (Option α) := ⟨rOpt⟩
def rLst (g : Gb) (as : List α) : PR where
  p := fun I v => ∃ l vs, v = .ref l ∧ SqL g.K I l vs ∧ (rl g as).p I vs
  mono := fun s ⟨l, vs, e, h, q⟩ => ⟨l, vs, e, s.seq h, (rl g as).mono s q⟩
instance : Py (List α) := ⟨rLst⟩
end
structure T2 (α β : Type) where
  x0 : α
  x1 : β
  deriving DecidableEq
structure T3 (α β γ : Type) where
  x0 : α
  x1 : β
  x2 : γ
  deriving DecidableEq
structure T4 (α β γ δ : Type) where
  x0 : α
  x1 : β
  x2 : γ
  x3 : δ
  deriving DecidableEq
section
variable {α β γ δ : Type} [Py α] [Py β] [Py γ] [Py δ]
instance : Py (T2 α β) := ⟨fun g t => ⟨fun I v => ∃ p a b, v = .ref p ∧ SqT g.K I p [a, b] ∧ (Py.r g t.x0).p I a ∧ (Py.r g t.x1).p I b,
  fun s ⟨p, a, b, e, h, q1, q2⟩ => ⟨p, a, b, e, seqT s h, (Py.r g _).mono s q1, (Py.r g _).mono s q2⟩⟩⟩
instance : Py (T3 α β γ) := ⟨fun g t => ⟨fun I v => ∃ p a b c, v = .ref p ∧ SqT g.K I p [a, b, c] ∧ (Py.r g t.x0).p I a ∧ (Py.r g t.x1).p I b ∧ (Py.r g t.x2).p I c,
  fun s ⟨p, a, b, c, e, h, q1, q2, q3⟩ => ⟨p, a, b, c, e, seqT s h, (Py.r g _).mono s q1, (Py.r g _).mono s q2, (Py.r g _).mono s q3⟩⟩⟩
instance : Py (T4 α β γ δ) := ⟨fun g t => ⟨fun I v => ∃ p a b c d, v = .ref p ∧ SqT g.K I p [a, b, c, d] ∧ (Py.r g t.x0).p I a ∧ (Py.r g t.x1).p I b ∧ (Py.r g t.x2).p I c ∧ (Py.r g t.x3).p I d,
  fun s ⟨p, a, b, c, d, e, h, q1, q2, q3, q4⟩ => ⟨p, a, b, c, d, e, seqT s h, (Py.r g _).mono s q1, (Py.r g _).mono s q2, (Py.r g _).mono s q3, (Py.r g _).mono s q4⟩⟩⟩
end

/-- a thing owned: by the part that stays, a fragment of the heap of its own, and its value -/
structure OR where
  p : Hp → Hp → V → Prop
  mono : ∀ {I I' F : Hp} {v : V}, Same I I' → p I F v → p I' F v
/-! kinds of values: a thing that stays (im), a new list of one's own (fr), a list of the caller's (bw), a list as it stands now (rd); an owned thing (ow), the caller's (bo), as it stands now (ro) -/
inductive RK where
  | im (p : PR) | fr (q : PL) | bw (q : PL) | rd (q : PL) | ow (o : OR)
def RK.holds (g : Gb) : RK → Hp → V → Hp → Hp → Prop
  | .im p, _, v, I', _ => p.p I' v
  | .fr q, H, v, I', H' => ∃ l vs, v = .ref l ∧ H l = none ∧ I' l = none ∧ H' l = some (.lst vs) ∧ q.p I' vs
  | .bw q, H, v, I', _ => ∃ l vs, v = .ref l ∧ SqL g.K H l vs ∧ q.p I' vs
  | .rd q, _, v, I', H' => ∃ l vs, v = .ref l ∧ SqL g.K H' l vs ∧ q.p I' vs
  | .ow o, H, v, I', H' => ∃ F : Hp, (∀ a, F a ≠ none → H a = none ∧ I' a = none) ∧ Same F H' ∧ o.p I' F v
/-- two parts of the heap together, the second one ahead -/
def Un (I F : Hp) : Hp := fun a => match F a with
  | some o => some o
  | none => I a
theorem un_none {I F : Hp} {a : Addr} (h : F a = none) : Un I F a = I a := by unfold Un; rw [h]
theorem un_r {I F : Hp} {a : Addr} {o : HO} (h : F a = some o) : Un I F a = some o := by unfold Un; rw [h]
theorem un_some {I F : Hp} {a : Addr} {o : HO} (h : Un I F a = some o) : F a = some o ∨ (F a = none ∧ I a = some o) := by
  unfold Un at h
  cases e : F a with
  | none => rw [e] at h; exact .inr ⟨rfl, h⟩
  | some u => rw [e] at h; exact .inl h
theorem un_l {I F : Hp} (h : ∀ a, F a ≠ none → I a = none) : Same I (Un I F) := fun a o e => by
  rw [un_none]
  · exact e
  · cases q : F a with
    | none => rfl
    | some u =>
      have := h a (by rw [q]; simp)
      rw [this] at e; cases e
theorem un_s {I F : Hp} : Same F (Un I F) := fun a o e => un_r e
/-- the tables of code objects that may grow, with the names of what they hold -/
class TabsC where
  T : List (Addr × Str)
variable [TabsC]
def nt : HO → Bool
  | .tbl _ => false
  | _ => true
def Tbs (H : Hp) : Prop := ∀ p ∈ TabsC.T, LamX.TabS H p.1 p.2
/-- the same heap but for more objects, and tables that grew -/
structure SW (H H' : Hp) : Prop where
  k : ∀ b o, H b = some o → H' b = some o ∨ (nt o = false ∧ ∃ p ∈ TabsC.T, p.1 = b)
  f : ∀ b, H' b = none → H b = none
  t : Tbs H → Tbs H'
theorem SW.get {H H' : Hp} (s : SW H H') (b : Addr) (o : HO) (e : H b = some o) (hn : nt o = true := by rfl) : H' b = some o := by
  rcases s.k b o e with h | ⟨h, _⟩
  · exact h
  · rw [hn] at h; cases h
theorem SW.of {H H' : Hp} (s : Same H H') : SW H H' := ⟨fun b o e => .inl (s b o e), fun b e => s.free e, fun t p hp => (t p hp).ext s⟩
instance {H H' : Hp} : Coe (Same H H') (SW H H') := ⟨SW.of⟩
theorem SW.refl (H : Hp) : SW H H := SW.of (Same.refl H)
theorem SW.free {H H' : Hp} (s : SW H H') {l : Addr} (h : H' l = none) : H l = none := s.f l h
theorem SW.trans {H H1 H2 : Hp} (a : SW H H1) (b : SW H1 H2) : SW H H2 := ⟨fun c o e => by
  rcases a.k c o e with h | h
  · exact b.k c o h
  · exact .inr h, fun c e => a.f c (b.f c e), fun t => b.t (a.t t)⟩
theorem SW.seq {K : PySem.W.Frag} {H H' : Hp} {a : Addr} {xs : List V} (e : SW H H') (h : SqL K H a xs) : SqL K H' a xs := by
  rcases h with (h | ⟨o, h⟩) | h
  · exact .inl (.inl (e.get _ _ h))
  · exact .inl (.inr ⟨o, e.get _ _ h⟩)
  · exact .inr h
theorem SW.at_ {H H' : Hp} (s : SW H H') {b : Addr} {o : HO} (e : H b = some o) (hT : ∀ p ∈ TabsC.T, p.1 ≠ b) : H' b = some o := by
  rcases s.k b o e with h | ⟨_, p, hp, h⟩
  · exact h
  · exact absurd h (hT p hp)
/-- a part of the heap without tables stays -/
theorem SW.part {F H H' : Hp} (s : SW H H') (h : Same F H) (hT : ∀ p ∈ TabsC.T, F p.1 = none) : Same F H' := fun a o e => s.at_ (h a o e) fun p hp z => by
  rw [← z, hT p hp] at e; cases e
theorem Tbs.ne {H : Hp} (t : Tbs H) {p : Addr × Str} (hp : p ∈ TabsC.T) : H p.1 ≠ none := by
  obtain ⟨ps, h, _⟩ := t p hp
  rw [h]; simp
def HasT (H : Hp) : Prop := ∀ p ∈ TabsC.T, H p.1 ≠ none
/-- the heap grows: I what stays as it is, H all -/
structure Ext (I H I' H' : Hp) : Prop where
  i : Same I I'
  h : SW H H'
  s : Same I' H'
  n : ∀ l, H l ≠ none → I l = none → I' l = none
theorem Ext.refl {I H : Hp} (s : Same I H) : Ext I H I H := ⟨Same.refl _, SW.refl _, s, fun _ _ h => h⟩
theorem Ext.trans {I H I1 H1 I2 H2 : Hp} (a : Ext I H I1 H1) (b : Ext I1 H1 I2 H2) : Ext I H I2 H2 :=
  ⟨a.i.trans b.i, a.h.trans b.h, b.s, fun l h1 h2 => b.n l (fun z => h1 (a.h.free z)) (a.n l h1 h2)⟩
theorem ne_of_some {H : Hp} {a : Addr} {o : HO} (h : H a = some o) : H a ≠ none := by rw [h]; simp
theorem same_ne {F H : Hp} (s : Same F H) {a : Addr} (h : F a ≠ none) : H a ≠ none := by
  cases e : F a with
  | none => exact absurd e h
  | some o => exact ne_of_some (s _ _ e)
theorem RK.ext {g : Gb} {k : RK} {H : Hp} {v : V} {I1 H1 I2 H2 : Hp} (h : RK.holds g k H v I1 H1) (x : Ext I1 H1 I2 H2) (hT : HasT H) : RK.holds g k H v I2 H2 := by
  cases k with
  | im p => exact p.mono x.i h
  | fr q =>
    obtain ⟨l, vs, e, h1, h2, h3, h4⟩ := h
    exact ⟨l, vs, e, h1, x.n l (by rw [h3]; simp) h2, x.h.get _ _ h3, q.mono x.i h4⟩
  | bw q =>
    obtain ⟨l, vs, e, h1, h4⟩ := h
    exact ⟨l, vs, e, h1, q.mono x.i h4⟩
  | rd q =>
    obtain ⟨l, vs, e, h1, h4⟩ := h
    exact ⟨l, vs, e, x.h.seq h1, q.mono x.i h4⟩
  | ow o =>
    obtain ⟨F, h1, h2, h3⟩ := h
    refine ⟨F, fun a ha => ⟨(h1 a ha).1, x.n a (same_ne h2 ha) (h1 a ha).2⟩, x.h.part h2 fun p hp => ?_, o.mono x.i h3⟩
    cases e : F p.1 with
    | none => rfl
    | some u => exact absurd (h1 p.1 (ne_of_some e)).1 (hT p hp)
/-- borrowed kinds are seen from where they are borrowed -/
def RK.isB : RK → Bool
  | .bw _ => true
  | _ => false
/-- seen from an earlier heap (of a borrowed list: no) -/
theorem RK.back {g : Gb} {k : RK} {H0 H : Hp} {v : V} {I' H' : Hp} (hb : k.isB = false) (s : SW H0 H) (h : RK.holds g k H v I' H') : RK.holds g k H0 v I' H' := by
  cases k with
  | im p => exact h
  | fr q =>
    obtain ⟨l, vs, e, h1, h2, h3, h4⟩ := h
    exact ⟨l, vs, e, s.free h1, h2, h3, h4⟩
  | bw q => cases hb
  | rd q => exact h
  | ow o =>
    obtain ⟨F, h1, h2, h3⟩ := h
    exact ⟨F, fun a ha => ⟨s.free (h1 a ha).1, (h1 a ha).2⟩, h2, h3⟩

/-! the state: what is known of each slot; slots of kinds fr, ow own a fragment -/
structure Bs where
  I : Hp
  H : Hp
abbrev SL := List (Option RK)
/-- a slot's value, F its own fragment -/
def RK.inS (g : Gb) : RK → Hp → V → Hp → Hp → Prop
  | .im p, _, v, I, _ => p.p I v
  | .fr q, _, v, I, F => ∃ l vs, v = .ref l ∧ F l = some (.lst vs) ∧ q.p I vs
  | .bw q, H, v, I, _ => ∃ l vs, v = .ref l ∧ SqL g.K H l vs ∧ q.p I vs
  | .rd _, _, _, _, _ => False
  | .ow o, _, v, I, F => o.p I F v
theorem RK.inS_mono {g : Gb} {k : RK} {H : Hp} {v : V} {I I' F : Hp} (s : Same I I') (h : RK.inS g k H v I F) : RK.inS g k H v I' F := by
  cases k with
  | im p => exact p.mono s h
  | fr q =>
    obtain ⟨l, vs, e, h3, h4⟩ := h
    exact ⟨l, vs, e, h3, q.mono s h4⟩
  | bw q =>
    obtain ⟨l, vs, e, h1, h4⟩ := h
    exact ⟨l, vs, e, h1, q.mono s h4⟩
  | rd q => exact h
  | ow o => exact o.mono s h
/-- the tables: known, none of what stays or is owned -/
structure TbH (BH I H : Hp) : Prop where
  t : Tbs H
  b : HasT BH
  i : ∀ p ∈ TabsC.T, I p.1 = none
def TbI (I H : Hp) : Prop := Tbs H ∧ ∀ p ∈ TabsC.T, I p.1 = none
theorem TbH.of {I H : Hp} (t : TbI I H) : TbH H I H := ⟨t.1, fun _ hp => t.1.ne hp, t.2⟩
theorem TbH.un {BH I H F : Hp} (t : TbH BH I H) (hF : ∀ p ∈ TabsC.T, F p.1 = none) : TbH BH (Un I F) H := ⟨t.t, t.b, fun p hp => by rw [un_none (hF p hp)]; exact t.i p hp⟩
theorem TbH.to {BH I H : Hp} (t : TbH BH I H) : TbI I H := ⟨t.t, t.i⟩
theorem Tbs.keep {H H' : Hp} (t : Tbs H) (hP : ∀ p ∈ TabsC.T, ∀ o, H p.1 = some o → H' p.1 = some o) (hx : ∀ a f, H a = some (.ext f) → H' a = some (.ext f)) : Tbs H' := fun p hp => by
  obtain ⟨ps, h1, h2, h3⟩ := t p hp
  refine ⟨ps, hP p hp _ h1, h2, fun pos cv hc => ?_⟩
  obtain ⟨c, e1, e2⟩ := h3 pos cv hc
  exact ⟨c, e1, hx _ _ e2⟩
/-- all of the base that was there still is -/
theorem SW.kept {BH H H' : Hp} (b : SW BH H) (t : Tbs H') (keep : ∀ a o o', BH a = some o → H a = some o' → H' a = some o') : SW BH H' := by
  refine ⟨fun a o e => ?_, fun a e => ?_, fun _ => t⟩
  · rcases b.k a o e with h | h
    · exact .inl (keep a o o e h)
    · exact .inr h
  · cases q : BH a with
    | none => rfl
    | some o =>
      cases q2 : H a with
      | none => rw [b.f a q2] at q; cases q
      | some o' => rw [keep a o o' q q2] at e; cases e
/-- a list that the base has not, written -/
theorem SW.put {H H' : Hp} {l : Addr} {ob : HO} {ws : List V} (s : SW H H') (h : H l = none) (h' : H' l = some (.lst ws)) : SW H (upd H' l ob) := by
  refine ⟨fun a o e => ?_, fun a e => ?_, fun t => (s.t t).keep (fun p hp o e => ?_) fun a f e => ?_⟩
  · rw [upd_ne (ne_of_none e h)]
    exact s.k a o e
  · by_cases ha : a = l
    · rw [ha]; exact h
    · rw [upd_ne ha] at e; exact s.f a e
  · rw [upd_ne (fun z => t.ne hp (by rw [z]; exact h))]; exact e
  · rw [upd_ne (fun z => by rw [z, h'] at e; cases e)]; exact e
def nx : HO → Bool
  | .ext _ => false
  | _ => true
structure HoldF (g : Gb) (B : Bs) (S : SL) (σ : L2.St) (I H : Hp) (Φ : Nat → Hp) : Prop where
  len : σ.length = S.length
  sub : Same I H
  base : SW B.H H
  tb : TbH B.H I H
  at_ : ∀ (i : Nat) (k : RK), S[i]? = some (some k) → ∃ v, σ[i]? = some (some v) ∧ RK.inS g k B.H v I (Φ i)
  fr : ∀ (i : Nat) (a : Addr) (o : HO), Φ i a = some o → H a = some o ∧ I a = none ∧ B.H a = none
  dj : ∀ (i j : Nat) (a : Addr), Φ i a ≠ none → Φ j a ≠ none → i = j
def Hold (g : Gb) (B : Bs) (S : SL) (σ : L2.St) (I H : Hp) : Prop := ∃ Φ, HoldF g B S σ I H Φ
section
variable {g : Gb} {B : Bs} {S : SL} {σ : L2.St} {I H I' H' : Hp} {Φ : Nat → Hp}
theorem HoldF.ne (h : HoldF g B S σ I H Φ) {i : Nat} {a : Addr} (e : Φ i a ≠ none) : H a ≠ none ∧ I a = none ∧ B.H a = none := by
  cases q : Φ i a with
  | none => exact absurd q e
  | some o =>
    obtain ⟨h1, h2⟩ := h.fr i a o q
    exact ⟨ne_of_some h1, h2⟩
theorem Hold.len (h : Hold g B S σ I H) : σ.length = S.length := h.elim fun _ h => h.len
theorem Hold.sub (h : Hold g B S σ I H) : Same I H := h.elim fun _ h => h.sub
theorem Hold.base (h : Hold g B S σ I H) : SW B.H H := h.elim fun _ h => h.base
theorem Hold.tb (h : Hold g B S σ I H) : TbH B.H I H := h.elim fun _ h => h.tb
theorem TbH.ext {BH : Hp} (t : TbH BH I H) (x : Ext I H I' H') : TbH BH I' H' := ⟨x.h.t t.t, t.b, fun p hp => x.n _ (t.t.ne hp) (t.i p hp)⟩
theorem TbH.has {BH : Hp} (t : TbH BH I H) : HasT H := fun p hp => t.t.ne hp
theorem HoldF.noT (h : HoldF g B S σ I H Φ) (i : Nat) : ∀ p ∈ TabsC.T, Φ i p.1 = none := fun p hp => by
  cases e : Φ i p.1 with
  | none => rfl
  | some u => exact absurd (h.fr i _ u e).2.2 (h.tb.b p hp)
theorem Hold.at_ (h : Hold g B S σ I H) (i : Nat) (k : RK) (e : S[i]? = some (some k)) : ∃ v, σ[i]? = some (some v) ∧ RK.holds g k B.H v I H := by
  obtain ⟨Φ, h⟩ := h
  obtain ⟨v, e1, q⟩ := h.at_ i k e
  refine ⟨v, e1, ?_⟩
  cases k with
  | im p => exact q
  | fr p =>
    obtain ⟨l, vs, e3, h3, h4⟩ := q
    obtain ⟨f1, f2, f3⟩ := h.fr i l _ h3
    exact ⟨l, vs, e3, f3, f2, f1, h4⟩
  | bw p => exact q
  | rd p => exact q.elim
  | ow o => exact ⟨Φ i, fun a ha => ⟨(h.ne ha).2.2, (h.ne ha).2.1⟩, fun a o e => (h.fr i a o e).1, q⟩
theorem HoldF.ext (h : HoldF g B S σ I H Φ) (x : Ext I H I' H') : HoldF g B S σ I' H' Φ :=
  ⟨h.len, x.s, h.base.trans x.h, h.tb.ext x, fun i k e => let ⟨v, e1, q⟩ := h.at_ i k e; ⟨v, e1, RK.inS_mono x.i q⟩, fun i a o e => let ⟨h1, h2, h3⟩ := h.fr i a o e; ⟨x.h.at_ h1 (fun p hp z => by rw [← z, h.noT i p hp] at e; cases e), x.n a (ne_of_some h1) h2, h3⟩, h.dj⟩
theorem Hold.ext (h : Hold g B S σ I H) (x : Ext I H I' H') : Hold g B S σ I' H' := h.elim fun Φ h => ⟨Φ, h.ext x⟩
end
def RK.slotty : RK → Bool
  | .im _ => true
  | .fr _ => true
  | .ow _ => true
  | _ => false
theorem set_some {α : Type} {l : List α} {i j : Nat} {x y : α} (h : (l.set i x)[j]? = some y) : (i = j ∧ x = y ∧ i < l.length) ∨ (i ≠ j ∧ l[j]? = some y) := by
  by_cases hj : i = j
  · subst hj
    have hi : i < l.length := by
      have := (List.getElem?_eq_some_iff.mp h).1
      rwa [List.length_set] at this
    rw [List.getElem?_set_self hi] at h
    exact .inl ⟨rfl, Option.some.inj h, hi⟩
  · rw [List.getElem?_set_ne hj] at h
    exact .inr ⟨hj, h⟩
/-- a single object -/
def one1 (l : Addr) (o : HO) : Hp := fun a => if a = l then some o else none
theorem one1_same {l : Addr} {o : HO} : one1 l o l = some o := if_pos rfl
theorem one1_ne {l a : Addr} {o : HO} (h : one1 l o a ≠ none) : a = l := by
  unfold one1 at h
  by_cases e : a = l
  · exact e
  · rw [if_neg e] at h; exact absurd rfl h
theorem one1_some {l a : Addr} {o u : HO} (h : one1 l o a = some u) : a = l ∧ u = o := by
  have e := one1_ne (ne_of_some h)
  subst e
  rw [one1_same] at h
  exact ⟨rfl, (Option.some.inj h).symm⟩
/-- what a value brings along -/
theorem RK.frag {g : Gb} {k : RK} {H : Hp} {v : V} {I' H' : Hp} (hk : k.slotty = true) (h : RK.holds g k H v I' H') : ∃ F : Hp, (∀ a, F a ≠ none → H a = none ∧ I' a = none) ∧ Same F H' ∧ ∀ B, RK.inS g k B v I' F := by
  cases k with
  | im p => exact ⟨fun _ => none, fun a z => absurd rfl z, fun _ _ z => (by cases z), fun _ => h⟩
  | fr q =>
    obtain ⟨l, vs, e, h1, h2, h3, h4⟩ := h
    refine ⟨one1 l (.lst vs), fun a ha => ?_, fun a o e => ?_, fun _ => ⟨l, vs, e, one1_same, h4⟩⟩
    · rw [one1_ne ha]; exact ⟨h1, h2⟩
    · obtain ⟨e1, e2⟩ := one1_some e
      rw [e1, e2]; exact h3
  | bw q => cases hk
  | rd q => cases hk
  | ow o =>
    obtain ⟨F, h1, h2, h3⟩ := h
    exact ⟨F, h1, h2, fun _ => h3⟩
/-- the fragments with another one at i -/
def putF (Φ : Nat → Hp) (i : Nat) (F : Hp) : Nat → Hp := fun j => if j = i then F else Φ j
theorem putF_same {Φ : Nat → Hp} {i : Nat} {F : Hp} : putF Φ i F i = F := if_pos rfl
theorem putF_ne {Φ : Nat → Hp} {i j : Nat} {F : Hp} (h : j ≠ i) : putF Φ i F j = Φ j := if_neg h
/-- a value goes to a slot -/
theorem HoldF.set {g : Gb} {B : Bs} {S : SL} {σ : L2.St} {I H : Hp} {Φ : Nat → Hp} {i : Nat} {k : RK} {v : V} {F : Hp} (h : HoldF g B S σ I H Φ) (hv : RK.inS g k B.H v I F) (hF : Same F H) (hn : ∀ a, F a ≠ none → I a = none ∧ B.H a = none) (hd : ∀ j a, j ≠ i → F a ≠ none → Φ j a = none) :
    HoldF g B (S.set i (some k)) (σ.set i (some v)) I H (putF Φ i F) := by
  refine ⟨by rw [List.length_set, List.length_set, h.len], h.sub, h.base, h.tb, fun j k' e => ?_, fun j a o e => ?_, fun j l a hj hl => ?_⟩
  · rcases set_some e with ⟨a, b, c⟩ | ⟨a, b⟩
    · subst a
      cases b
      exact ⟨v, List.getElem?_set_self (by rw [h.len]; exact c), by rw [putF_same]; exact hv⟩
    · obtain ⟨u, e1, q⟩ := h.at_ j k' b
      exact ⟨u, by rw [List.getElem?_set_ne a]; exact e1, by rw [putF_ne (fun z => a z.symm)]; exact q⟩
  · by_cases hji : j = i
    · rw [hji, putF_same] at e
      exact ⟨hF _ _ e, hn a (ne_of_some e)⟩
    · rw [putF_ne hji] at e
      exact h.fr j a o e
  · by_cases hji : j = i
    · by_cases hli : l = i
      · rw [hji, hli]
      · rw [hji, putF_same] at hj
        rw [putF_ne hli] at hl
        exact absurd (hd l a hli hj) hl
    · by_cases hli : l = i
      · rw [hli, putF_same] at hl
        rw [putF_ne hji] at hj
        exact absurd (hd j a hji hl) hj
      · rw [putF_ne hji] at hj
        rw [putF_ne hli] at hl
        exact h.dj j l a hj hl
theorem Hold.put {g : Gb} {B : Bs} {S : SL} {σ : L2.St} {I H I' H' : Hp} {i : Nat} {k : RK} {v : V} (h : Hold g B S σ I H) (x : Ext I H I' H') (hk : k.slotty = true) (hv : RK.holds g k H v I' H') : Hold g B (S.set i (some k)) (σ.set i (some v)) I' H' := by
  obtain ⟨Φ, h⟩ := h
  obtain ⟨F, f1, f2, f3⟩ := RK.frag hk hv
  refine ⟨putF Φ i F, (h.ext x).set (f3 _) f2 (fun a ha => ⟨(f1 a ha).2, h.base.free (f1 a ha).1⟩) fun j a _ ha => ?_⟩
  cases q : Φ j a with
  | none => rfl
  | some o => exact absurd (f1 a ha).1 (ne_of_some (h.fr j a o q).1)
end T
set_option Elab.async false
set_option linter.all false
set_option maxRecDepth 100000
namespace T
variable [TabsC]
open PySem PySem.Spec PyProof.Rows L2

/-! judgements: an expression's value, a test's answer, an argument list -/
def rdE (g : Gb) (B : Bs) (S : SL) (k : RK) : TE := fun σ H Q => ∃ I, Hold g B S σ I H ∧ ∀ v I' H', Ext I H I' H' → RK.holds g k H v I' H' → Q v H'
structure ME {α : Type} (X : Cx) (g : Gb) (B : Bs) (S : SL) (e : Expr) (m : Option α) (k : α → RK) : Prop where
  run : ∀ a, m = some a → PE X e (rdE g B S (k a))
def rdT (g : Gb) (B : Bs) (S : SL) (b : Bool) : TT := fun σ H Q => ∃ I, Hold g B S σ I H ∧ ∀ I' H', Ext I H I' H' → Q b H'
structure MT (X : Cx) (g : Gb) (B : Bs) (S : SL) (e : Expr) (m : Option Bool) : Prop where
  run : ∀ b, m = some b → PT X e (rdT g B S b)
structure MW (X : Cx) (g : Gb) (B : Bs) (S : SL) (e : Expr) (m : Option Bool) : Prop where
  run : ∀ b, m = some b → PW X e (rdT g B S b)
theorem pe_imp {X : Cx} {e : Expr} {t t' : TE} (h : PE X e t) (f : ∀ σ H Q, t' σ H Q → t σ H Q) : PE X e t' := ⟨fun pins s σ H Q I hw => h.run pins s σ H Q I (f σ H Q hw)⟩
theorem pt_imp {X : Cx} {e : Expr} {t t' : TT} (h : PT X e t) (f : ∀ σ H Q, t' σ H Q → t σ H Q) : PT X e t' := ⟨fun pins s σ H Q I hw => h.run pins s σ H Q I (f σ H Q hw)⟩
theorem pw_imp {X : Cx} {e : Expr} {t t' : TT} (h : PW X e t) (f : ∀ σ H Q, t' σ H Q → t σ H Q) : PW X e t' := ⟨fun wh pins s σ H Q I hw => h.run wh pins s σ H Q I (f σ H Q hw)⟩
theorem bind_some {α β : Type} {m : Option α} {f : α → Option β} {b : β} (h : (m >>= f) = some b) : ∃ a, m = some a ∧ f a = some b := by
  cases m with
  | none => cases h
  | some a => exact ⟨a, rfl, h⟩
theorem ME.eq {α : Type} {X : Cx} {g : Gb} {B : Bs} {S : SL} {e : Expr} {m m' : Option α} {k : α → RK} (h : ME X g B S e m k) (q : m = m') : ME X g B S e m' k := q ▸ h
theorem MT.eq {X : Cx} {g : Gb} {B : Bs} {S : SL} {e : Expr} {m m' : Option Bool} (h : MT X g B S e m) (q : m = m') : MT X g B S e m' := q ▸ h

/-- a list that can be read -/
def LR {α : Type} [Py α] (g : Gb) (k : List α → RK) : Prop := ∀ xs H v I' H', Same I' H' → RK.holds g (k xs) H v I' H' → ∃ l vs, v = .ref l ∧ SqL g.K H' l vs ∧ (rl g xs).p I' vs
section
variable {α β γ δ : Type} [Py α] [Py β] [Py γ] [Py δ] {g : Gb}
theorem lr_im : LR (α := α) g (fun xs => .im (Py.r g xs)) := fun xs H v I' H' s h => by
  obtain ⟨l, vs, e, h1, h2⟩ := h
  exact ⟨l, vs, e, s.seq h1, h2⟩
theorem lr_fr : LR (α := α) g (fun xs => .fr (rl g xs)) := fun xs H v I' H' s h => by
  obtain ⟨l, vs, e, _, _, h1, h2⟩ := h
  exact ⟨l, vs, e, SqL.of h1, h2⟩
theorem lr_rd : LR (α := α) g (fun xs => .rd (rl g xs)) := fun xs H v I' H' s h => h
end
theorem vals_ints {g : Gb} {I : Hp} : ∀ {ns : List Int} {vs : List V}, Paired (fun a v => (Py.r g a).p I v) ns vs → vs = ns.map V.int
  | _, _, .nil => rfl
  | _, _, .cons (a := a) h t => by
    have e : _ = V.int a := h
    rw [e, List.map_cons, vals_ints t]
theorem paired_get {α β : Type} {F : α → β → Prop} : ∀ {l₁ : List α} {l₂ : List β}, Paired F l₁ l₂ → ∀ {i : Nat} {a : α}, l₁[i]? = some a → ∃ b, l₂[i]? = some b ∧ F a b
  | _, _, .nil, i, a, h => by simp at h
  | _, _, .cons h t, 0, a, e => by
    cases e
    exact ⟨_, rfl, h⟩
  | _, _, .cons h t, i + 1, a, e => paired_get t (i := i) (by simpa using e)
theorem paired_get' {α β : Type} {F : α → β → Prop} : ∀ {l₁ : List α} {l₂ : List β}, Paired F l₁ l₂ → ∀ {i : Nat} {b : β}, l₂[i]? = some b → ∃ a, l₁[i]? = some a ∧ F a b
  | _, _, .nil, i, a, h => by simp at h
  | _, _, .cons h t, 0, a, e => by
    cases e
    exact ⟨_, rfl, h⟩
  | _, _, .cons h t, i + 1, a, e => paired_get' t (i := i) (by simpa using e)
theorem paired_app {α β : Type} {F : α → β → Prop} : ∀ {a : List α} {b : List β} {c : List α} {d : List β}, Paired F a b → Paired F c d → Paired F (a ++ c) (b ++ d)
  | _, _, _, _, .nil, h => h
  | _, _, _, _, .cons x t, h => .cons x (paired_app t h)
theorem paired_take {α β : Type} {F : α → β → Prop} : ∀ {a : List α} {b : List β} (n : Nat), Paired F a b → Paired F (a.take n) (b.take n)
  | _, _, 0, _ => .nil
  | _, _, _ + 1, .nil => .nil
  | _, _, n + 1, .cons x t => .cons x (paired_take n t)
theorem paired_drop {α β : Type} {F : α → β → Prop} : ∀ {a : List α} {b : List β} (n : Nat), Paired F a b → Paired F (a.drop n) (b.drop n)
  | _, _, 0, h => h
  | _, _, _ + 1, .nil => .nil
  | _, _, n + 1, .cons x t => paired_drop n t
theorem paired_rev {α β : Type} {F : α → β → Prop} : ∀ {a : List α} {b : List β}, Paired F a b → Paired F a.reverse b.reverse
  | _, _, .nil => .nil
  | _, _, .cons x t => by
    rw [List.reverse_cons, List.reverse_cons]
    exact paired_app (paired_rev t) (.cons x .nil)
theorem atI_ix {α : Type} {xs : List α} {i : Int} {v : α} (h : atI xs i = some v) : ∃ j, ixN xs.length i = some j ∧ xs[j]? = some v := by
  unfold atI at h
  cases e : ixN xs.length i with
  | none => rw [e] at h; cases h
  | some j => rw [e] at h; exact ⟨j, rfl, h⟩
theorem paired_at {α β : Type} {F : α → β → Prop} {l₁ : List α} {l₂ : List β} (h : Paired F l₁ l₂) {i : Int} {a : α} (e : atI l₁ i = some a) : ∃ b, atI l₂ i = some b ∧ F a b := by
  obtain ⟨j, e1, e2⟩ := atI_ix e
  obtain ⟨b, e3, q⟩ := paired_get h e2
  refine ⟨b, ?_, q⟩
  unfold atI
  rw [← Paired.length h, e1]
  exact e3

/-- the item at a place, counted from the end below 0 -/
@[irreducible] def atO {α : Type} (xs : List α) (i : Int) : Option α := atI xs i
theorem atO_eq {α : Type} (xs : List α) (i : Int) : atO xs i = atI xs i := by unfold atO; rfl

section
variable {X : Cx} {g : Gb} {B : Bs} {S : SL} {e e1 e2 e3 : Expr} {pos pos' : Pos} {α β γ δ : Type} [Py α] [Py β] [Py γ] [Py δ]

/-! names, constants -/
theorem me_var (i : Nat) {x : Str} {a : α} (hS : S[i]? = some (some (.im (Py.r g a))) := by rfl) (hN : X.N[i]? = some x := by rfl) (hv : Vis X.env.scope x := by first | exact Or.inl rfl | exact Or.inr (Or.inl rfl) | exact Or.inr (Or.inr rfl))
    (hd : (x == ("__debug__" : Str)) = false := by decide) (hcd : (x == ("__classdict__" : Str)) = false := by decide) : ME X g B S (.Name x pos) (some a) (fun a => .im (Py.r g a)) := by
  refine ⟨fun a' e => ?_⟩
  cases e
  refine pe_imp (pe_var hN hv hd hcd) fun σ H Q ⟨I, h, q⟩ => ?_
  obtain ⟨v, e1, h1⟩ := h.at_ i _ hS
  exact ⟨v, e1, q v I H (Ext.refl h.sub) h1⟩
/-- an owned list, seen -/
theorem me_own (i : Nat) {x : Str} {as : List α} (hS : S[i]? = some (some (.fr (rl g as))) := by rfl) (hN : X.N[i]? = some x := by rfl) (hv : Vis X.env.scope x := by first | exact Or.inl rfl | exact Or.inr (Or.inl rfl) | exact Or.inr (Or.inr rfl))
    (hd : (x == ("__debug__" : Str)) = false := by decide) (hcd : (x == ("__classdict__" : Str)) = false := by decide) : ME X g B S (.Name x pos) (some as) (fun as => .rd (rl g as)) := by
  refine ⟨fun a' e => ?_⟩
  cases e
  refine pe_imp (pe_var hN hv hd hcd) fun σ H Q ⟨I, h, q⟩ => ?_
  obtain ⟨v, e1, l, vs, e2, _, _, h3, h4⟩ := h.at_ i _ hS
  exact ⟨v, e1, q v I H (Ext.refl h.sub) ⟨l, vs, e2, SqL.of h3, h4⟩⟩
/-- a borrowed list, seen -/
theorem me_bor (i : Nat) {x : Str} {as : List α} (hS : S[i]? = some (some (.bw (rl g as))) := by rfl) (hN : X.N[i]? = some x := by rfl) (hv : Vis X.env.scope x := by first | exact Or.inl rfl | exact Or.inr (Or.inl rfl) | exact Or.inr (Or.inr rfl))
    (hd : (x == ("__debug__" : Str)) = false := by decide) (hcd : (x == ("__classdict__" : Str)) = false := by decide) : ME X g B S (.Name x pos) (some as) (fun as => .rd (rl g as)) := by
  refine ⟨fun a' e => ?_⟩
  cases e
  refine pe_imp (pe_var hN hv hd hcd) fun σ H Q ⟨I, h, q⟩ => ?_
  obtain ⟨v, e1, l, vs, e2, h3, h4⟩ := h.at_ i _ hS
  exact ⟨v, e1, q v I H (Ext.refl h.sub) ⟨l, vs, e2, h.base.seq h3, h4⟩⟩
theorem me_c {v : V} {a : α} (h : PE X e (tC v)) (hv : ∀ I, (Py.r g a).p I v) : ME X g B S e (some a) (fun a => .im (Py.r g a)) := by
  refine ⟨fun a' e => ?_⟩
  cases e
  exact pe_imp h fun σ H Q ⟨I, h, q⟩ => q v I H (Ext.refl h.sub) (hv I)
theorem me_int {i j} : ME X g B S (.Constant (.int i) j pos) (some i) (fun a => .im (Py.r g a)) := me_c pe_int fun _ => rfl
theorem me_bl {b j} : ME X g B S (.Constant (.bool b) j pos) (some b) (fun a => .im (Py.r g a)) := me_c pe_bl fun _ => rfl
theorem me_non {j} : ME X g B S (.Constant .none j pos) (some (none : Option α)) (fun a => .im (Py.r g a)) := me_c pe_non fun _ => rfl
theorem me_unit {j} : ME X g B S (.Constant .none j pos) (some ()) (fun a => .im (Py.r g a)) := me_c pe_non fun _ => rfl
/-- a thing as one that may be None; one that is not -/
theorem me_some {m : Option α} (h : ME X g B S e m (fun a => .im (Py.r g a))) : ME X g B S e (m >>= fun a => some (some a)) (fun a => .im (Py.r g a)) := by
  refine ⟨fun a q => ?_⟩
  obtain ⟨b, e1, e2⟩ := bind_some q
  cases e2
  exact h.run b e1
theorem me_get {m : Option (Option α)} (h : ME X g B S e m (fun a => .im (Py.r g a))) : ME X g B S e (m >>= fun a => a) (fun a => .im (Py.r g a)) := by
  refine ⟨fun a q => ?_⟩
  obtain ⟨b, e1, e2⟩ := bind_some q
  subst e2
  exact h.run _ e1
/-- a new list is let go: it stays as it is from here on -/
theorem me_frz {m : Option (List α)} (h : ME X g B S e m (fun a => .fr (rl g a))) : ME X g B S e m (fun a => .im (Py.r g a)) := by
  refine ⟨fun a q => pe_imp (h.run a q) fun σ H Q ⟨I, hh, k⟩ => ⟨I, hh, fun v I' H' x hv => ?_⟩⟩
  obtain ⟨l, vs, rfl, h1, h2, h3, h4⟩ := hv
  refine k _ (upd I' l (.lst vs)) H' ⟨x.i.trans (same_new h2), x.h, fun b o e => ?_, fun b n1 n2 => ?_⟩ ⟨l, vs, rfl, SqL.of upd_same, (rl g a).mono (same_new h2) h4⟩
  · by_cases hb : b = l
    · subst hb
      rw [upd_same] at e
      cases e
      exact h3
    · rw [upd_ne hb] at e
      exact x.s _ _ e
  · have hb : b ≠ l := fun z => n1 (z ▸ h1)
    rw [upd_ne hb]
    exact x.n b n1 n2

/-! two operands -/
theorem me_bin {op : Operator} {r : R2} {a' b' c' : Type} {m1 : Option a'} {m2 : Option b'} {f : a' → b' → Option c'} {k1 : a' → RK} {k2 : b' → RK} {k : c' → RK} (ho : OpR X (binaryOp op) r) (h1 : ME X g B S e1 m1 k1) (h2 : ME X g B S e2 m2 k2)
    (hr : ∀ a b c, f a b = some c → ∀ v w I H H0 H1 Q, Same I H → RK.holds g (k1 a) H0 v I H → RK.holds g (k2 b) H1 w I H → (∀ u I' H', Ext I H I' H' → RK.holds g (k c) H u I' H' → Q u H') → r v w H Q)
    (hb : ∀ c, (k c).isB = false := by intro _; rfl) : ME X g B S (.BinOp e1 op e2 pos) (m1 >>= fun a => m2 >>= fun b => f a b) k := by
  refine ⟨fun c q => ?_⟩
  obtain ⟨a, q1, q⟩ := bind_some q
  obtain ⟨b, q2, q⟩ := bind_some q
  refine pe_imp (pe_op ho (h1.run a q1) (h2.run b q2)) fun σ H Q ⟨I, hh, kk⟩ => ⟨I, hh, fun v I1 H1 x1 v1 => ⟨I1, hh.ext x1, fun w I2 H2 x2 v2 => ?_⟩⟩
  exact hr a b c q v w I2 H2 _ _ Q x2.s (RK.ext v1 x2 hh.tb.has) v2 fun u I3 H3 x3 v3 => kk u I3 H3 ((x1.trans x2).trans x3) (RK.back (hb c) (x1.trans x2).h v3)
/-- a comparison: as a value and as a test -/
structure MC (X : Cx) (g : Gb) (B : Bs) (S : SL) (e : Expr) (m : Option Bool) : Prop where
  run : ∀ c, m = some c → ∃ t : TE, PE X e t ∧ PT X e (tTest t) ∧ ∀ σ H Q, rdE g B S (.im (Py.r g c)) σ H Q → t σ H Q
theorem me_cm {m : Option Bool} (h : MC X g B S e m) : ME X g B S e m (fun c => .im (Py.r g c)) := ⟨fun c q => by
  obtain ⟨t, h1, _, h3⟩ := h.run c q
  exact pe_imp h1 h3⟩
theorem mt_cm {m : Option Bool} (h : MC X g B S e m) : MT X g B S e m := ⟨fun c q => by
  obtain ⟨t, _, h2, h3⟩ := h.run c q
  exact pt_imp h2 fun σ H Q ⟨I, hh, k⟩ => h3 σ H _ ⟨I, hh, fun v I' H' x hv => ⟨c, hv, k I' H' x⟩⟩⟩
theorem MC.eq {m m' : Option Bool} (h : MC X g B S e m) (q : m = m') : MC X g B S e m' := q ▸ h
theorem mc_cmp {op : CmpOp} {r : R2} {a' b' : Type} {m1 : Option a'} {m2 : Option b'} {f : a' → b' → Option Bool} {k1 : a' → RK} {k2 : b' → RK} (ho : OpR X (compareOp op) r) (h1 : ME X g B S e1 m1 k1) (h2 : ME X g B S e2 m2 k2)
    (hr : ∀ a b c, f a b = some c → ∀ v w I H H0 H1 Q, Same I H → RK.holds g (k1 a) H0 v I H → RK.holds g (k2 b) H1 w I H → (∀ u I' H', Ext I H I' H' → RK.holds g (.im (Py.r g c)) H u I' H' → Q u H') → r v w H Q)
    (hm : behindInMarks op e2 = false := by first | exact nomark _ | rfl) : MC X g B S (.Compare e1 [op] [e2] pos) (m1 >>= fun a => m2 >>= fun b => f a b) := by
  refine ⟨fun c q => ?_⟩
  obtain ⟨a, q1, q⟩ := bind_some q
  obtain ⟨b, q2, q⟩ := bind_some q
  refine ⟨_, pe_cmpR ho (h1.run a q1) (h2.run b q2) hm, pt_cmpR ho (h1.run a q1) (h2.run b q2) hm, fun σ H Q ⟨I, hh, kk⟩ => ⟨I, hh, fun v I1 H1 x1 v1 => ⟨I1, hh.ext x1, fun w I2 H2 x2 v2 => ?_⟩⟩⟩
  exact hr a b c q v w I2 H2 _ _ Q x2.s (RK.ext v1 x2 hh.tb.has) v2 fun u I3 H3 x3 v3 => kk u I3 H3 ((x1.trans x2).trans x3) v3
variable {m m1 : Option Int} {m2 : Option Int}
abbrev KI (g : Gb) {α : Type} [Py α] : α → RK := fun a => .im (Py.r g a)
/-- ints -/
theorem me_i0 {op : Operator} {f : Int → Int → Int} (ho : OpR X (binaryOp op) (rI0 fun i j => .int (f i j))) (h1 : ME X g B S e1 m1 (KI g)) (h2 : ME X g B S e2 m2 (KI g)) :
    ME X g B S (.BinOp e1 op e2 pos) (m1 >>= fun a => m2 >>= fun b => some (f a b)) (KI g) :=
  me_bin ho h1 h2 fun a b c q v w I H H0 H1 Q s v1 v2 k => by
    cases q
    exact ⟨a, b, v1, v2, k _ _ _ (Ext.refl s) rfl⟩
theorem me_i1 {op : Operator} {f : Int → Int → Int} {C : Int → Int → Prop} {D : Int → Int → Bool} (ho : OpR X (binaryOp op) (rI C fun i j => .int (f i j))) (hD : ∀ i j, D i j = true → C i j) (h1 : ME X g B S e1 m1 (KI g)) (h2 : ME X g B S e2 m2 (KI g)) :
    ME X g B S (.BinOp e1 op e2 pos) (m1 >>= fun a => m2 >>= fun b => if D a b = true then some (f a b) else none) (KI g) :=
  me_bin ho h1 h2 fun a b c q v w I H H0 H1 Q s v1 v2 k => by
    by_cases hd : D a b = true
    · rw [if_pos hd] at q
      cases q
      exact ⟨a, b, v1, v2, hD _ _ hd, k _ _ _ (Ext.refl s) rfl⟩
    · rw [if_neg hd] at q
      cases q
theorem me_add (h1 : ME X g B S e1 m1 (KI g)) (h2 : ME X g B S e2 m2 (KI g)) : ME X g B S (.BinOp e1 .Add e2 pos) (m1 >>= fun a => m2 >>= fun b => some (a + b)) (KI g) := me_i0 op_add h1 h2
theorem me_sub (h1 : ME X g B S e1 m1 (KI g)) (h2 : ME X g B S e2 m2 (KI g)) : ME X g B S (.BinOp e1 .Sub e2 pos) (m1 >>= fun a => m2 >>= fun b => some (a - b)) (KI g) := me_i0 op_sub h1 h2
end
/-- a product that can be reckoned -/
def mulOk (i j : Int) : Bool := decide (-(2 ^ 64) < i ∧ i < 2 ^ 64) || decide (-(2 ^ 64) < j ∧ j < 2 ^ 64) || decide (i.natAbs.log2 + j.natAbs.log2 < 1000000)
def divOk (_ j : Int) : Bool := decide (0 < j ∧ j.natAbs.log2 < 9000)
def modOk (_ j : Int) : Bool := decide (0 < j)
@[irreducible] def mulO (i j : Int) : Option Int := if mulOk i j = true then some (i * j) else none
theorem mulO_eq (i j : Int) : mulO i j = if mulOk i j = true then some (i * j) else none := by unfold mulO; rfl
@[irreducible] def divO (i j : Int) : Option Int := if divOk i j = true then some (i / j) else none
theorem divO_eq (i j : Int) : divO i j = if divOk i j = true then some (i / j) else none := by unfold divO; rfl
@[irreducible] def modO (i j : Int) : Option Int := if modOk i j = true then some (i % j) else none
theorem modO_eq (i j : Int) : modO i j = if modOk i j = true then some (i % j) else none := by unfold modO; rfl
section
variable {X : Cx} {g : Gb} {B : Bs} {S : SL} {e e1 e2 e3 : Expr} {pos pos' : Pos} {α β γ δ : Type} [Py α] [Py β] [Py γ] [Py δ] {m m1 m2 : Option Int}
theorem op_mulT : OpR X (binaryOp .Mult) (rI (fun i j => mulOk i j = true) fun i j => .int (i * j)) := opI fun i j _ _ _ _ _ hc q => mul_int q (by
  unfold mulOk at hc
  rw [Bool.or_eq_true, Bool.or_eq_true, decide_eq_true_eq, decide_eq_true_eq, decide_eq_true_eq] at hc
  rcases hc with (h | h) | h
  · exact CMul.ok (.inl h)
  · exact CMul.ok (.inr h)
  · exact CMulW.ok h)
theorem me_mul (h1 : ME X g B S e1 m1 (KI g)) (h2 : ME X g B S e2 m2 (KI g)) : ME X g B S (.BinOp e1 .Mult e2 pos) (m1 >>= fun a => m2 >>= fun b => mulO a b) (KI g) := (me_i1 op_mulT (fun _ _ h => h) h1 h2).eq (by simp only [mulO_eq])
theorem me_div (h1 : ME X g B S e1 m1 (KI g)) (h2 : ME X g B S e2 m2 (KI g)) : ME X g B S (.BinOp e1 .FloorDiv e2 pos) (m1 >>= fun a => m2 >>= fun b => divO a b) (KI g) := (me_i1 op_fdivW (fun i j h => by have q : 0 < j ∧ j.natAbs.log2 < 9000 := of_decide_eq_true h; exact q) h1 h2 (D := divOk)).eq (by simp only [divO_eq])
theorem me_mod (h1 : ME X g B S e1 m1 (KI g)) (h2 : ME X g B S e2 m2 (KI g)) : ME X g B S (.BinOp e1 .Mod e2 pos) (m1 >>= fun a => m2 >>= fun b => modO a b) (KI g) := (me_i1 op_mod (fun _ _ h => of_decide_eq_true h) h1 h2 (D := modOk)).eq (by simp only [modO_eq])
/-- by a written number -/
theorem me_mulC {n : Int} (hn : decide (-(2 ^ 64) < n ∧ n < 2 ^ 64) = true) (h1 : ME X g B S e1 m1 (KI g)) (h2 : ME X g B S e2 (some n) (KI g)) : ME X g B S (.BinOp e1 .Mult e2 pos) (m1 >>= fun a => some (a * n)) (KI g) := by
  refine (me_mul h1 h2).eq ?_
  cases m1 with
  | none => rfl
  | some a =>
    show mulO a n = some (a * n)
    rw [mulO_eq, if_pos (by unfold mulOk; rw [hn]; simp)]
theorem me_mulD {n : Int} (hn : decide (-(2 ^ 64) < n ∧ n < 2 ^ 64) = true) (h1 : ME X g B S e1 (some n) (KI g)) (h2 : ME X g B S e2 m2 (KI g)) : ME X g B S (.BinOp e1 .Mult e2 pos) (m2 >>= fun a => some (n * a)) (KI g) := by
  refine (me_mul h1 h2).eq ?_
  cases m2 with
  | none => rfl
  | some a =>
    show mulO n a = some (n * a)
    rw [mulO_eq, if_pos (by unfold mulOk; rw [hn]; simp)]
theorem me_divC {n : Int} (hn : divOk 0 n = true) (h1 : ME X g B S e1 m1 (KI g)) (h2 : ME X g B S e2 (some n) (KI g)) : ME X g B S (.BinOp e1 .FloorDiv e2 pos) (m1 >>= fun a => some (a / n)) (KI g) := by
  refine (me_div h1 h2).eq ?_
  cases m1 with
  | none => rfl
  | some a =>
    show divO a n = some (a / n)
    rw [divO_eq, if_pos (show divOk a n = true from hn)]
theorem me_modC {n : Int} (hn : modOk 0 n = true) (h1 : ME X g B S e1 m1 (KI g)) (h2 : ME X g B S e2 (some n) (KI g)) : ME X g B S (.BinOp e1 .Mod e2 pos) (m1 >>= fun a => some (a % n)) (KI g) := by
  refine (me_mod h1 h2).eq ?_
  cases m1 with
  | none => rfl
  | some a =>
    show modO a n = some (a % n)
    rw [modO_eq, if_pos (show modOk a n = true from hn)]
/-- comparisons of ints -/
theorem mc_ci {op : CmpOp} {f : Int → Int → Bool} (ho : OpR X (compareOp op) (rI0 fun i j => .bl (f i j))) (h1 : ME X g B S e1 m1 (KI g)) (h2 : ME X g B S e2 m2 (KI g)) (hm : behindInMarks op e2 = false) :
    MC X g B S (.Compare e1 [op] [e2] pos) (m1 >>= fun a => m2 >>= fun b => some (f a b)) :=
  mc_cmp ho h1 h2 (fun a b c q v w I H H0 H1 Q s v1 v2 k => by
    cases q
    exact ⟨a, b, v1, v2, k _ _ _ (Ext.refl s) rfl⟩) hm
theorem mc_lt (h1 : ME X g B S e1 m1 (KI g)) (h2 : ME X g B S e2 m2 (KI g)) : MC X g B S (.Compare e1 [.Lt] [e2] pos) (m1 >>= fun a => m2 >>= fun b => some (decide (a < b))) := mc_ci op_lt h1 h2 (nomark _)
theorem mc_le (h1 : ME X g B S e1 m1 (KI g)) (h2 : ME X g B S e2 m2 (KI g)) : MC X g B S (.Compare e1 [.LtE] [e2] pos) (m1 >>= fun a => m2 >>= fun b => some (decide (a ≤ b))) := mc_ci op_le h1 h2 (nomark _)
theorem mc_gt (h1 : ME X g B S e1 m1 (KI g)) (h2 : ME X g B S e2 m2 (KI g)) : MC X g B S (.Compare e1 [.Gt] [e2] pos) (m1 >>= fun a => m2 >>= fun b => some (decide (b < a))) := mc_ci op_gt h1 h2 (nomark _)
end
end T
set_option Elab.async false
set_option linter.all false
set_option maxRecDepth 100000
namespace T
variable [TabsC]
open PySem PySem.Spec PyProof.Rows L2

/-! data that == reads: PySem.W.Datum, and how it stands in the abstract heap -/
class Pd (α : Type) [Py α] [DecidableEq α] extends PySem.W.Datum α where
  dp : ∀ {g : Gb} {a : α} {I : Hp} {v : V}, (Py.r g a).p I v → Dp g.K I v (toD a)
instance : Pd Int where
  dp := fun h => by cases h; exact .int _
instance : Pd Bool where
  dp := fun h => by cases h; exact .bl _
instance : Pd Str where
  dp := fun h => by cases h; exact .str _
instance : Pd Unit where
  dp := fun h => by cases h; exact .non
theorem dp_mono {K : PySem.W.Frag} {H H' : Hp} (s : Same H H') : ∀ {d : PyData} {v : V}, Dp K H v d → Dp K H' v d := by
  intro d
  refine PyData.rec (motive_1 := fun d => ∀ {v : V}, Dp K H v d → Dp K H' v d) (motive_2 := fun ds => ∀ {vs : List V}, DpAll K H vs ds → DpAll K H' vs ds) (motive_3 := fun _ => True) (motive_4 := fun _ => True)
    ?_ ?_ ?_ ?_ ?_ ?_ ?_ ?_ ?_ ?_ ?_ ?_ d
  · intro v h; cases h; exact .non
  · intro b v h; cases h; exact .bl _
  · intro b v h; cases h; exact .int _
  · intro b v h; cases h; exact .str _
  · intro xs ih v h
    cases h with
    | lst h1 h2 => exact .lst (s.seq h1) (ih h2)
  · intro xs ih v h
    cases h with
    | tup h1 h2 => exact .tup (seqT s h1) (ih h2)
  · intro kvs _ v h; cases h
  · intro vs h; cases h; exact .nil
  · intro x xs i1 i2 vs h
    cases h with
    | cons h1 h2 => exact .cons (i1 h1) (i2 h2)
  · trivial
  · intros; trivial
  · intros; trivial
section
variable {α β γ δ : Type} [Py α] [Py β] [Py γ] [Py δ] [DecidableEq α] [DecidableEq β] [DecidableEq γ] [DecidableEq δ] [Pd α] [Pd β] [Pd γ] [Pd δ]
open PySem.W
theorem dp_all {g : Gb} {I : Hp} : ∀ {as : List α} {vs : List V}, Paired (fun a v => (Py.r g a).p I v) as vs → DpAll g.K I vs (as.map Datum.toD)
  | _, _, .nil => .nil
  | _, _, .cons h t => .cons (Pd.dp h) (dp_all t)
instance : Pd (List α) where
  dp := fun {g a I v} h => by
    obtain ⟨l, vs, rfl, h1, h2⟩ := h
    exact .lst h1 (dp_all h2.2)
instance : Datum (T2 α β) where
  toD := fun t => .tuple [Datum.toD t.x0, Datum.toD t.x1]
  plain := fun t => by simp [PyData.plain, PyData.plainAll, Datum.plain]
  eqv := fun a b => by
    obtain ⟨a0, a1⟩ := a
    obtain ⟨b0, b1⟩ := b
    rw [Bool.eq_iff_iff]
    simp [PyData.eqv, PyData.eqvAll, Datum.eqv]
  depth := max (Datum.depth α) (Datum.depth β) + 1
  depth_le := fun t => by
    have h0 := Datum.depth_le t.x0
    have h1 := Datum.depth_le t.x1
    simp only [PyData.depth, PyData.depthAll]
    omega
instance : Pd (T2 α β) where
  dp := fun {g a I v} h => by
    obtain ⟨p, x, y, rfl, h0, h1, h2⟩ := h
    exact .tup h0 (.cons (Pd.dp h1) (.cons (Pd.dp h2) .nil))
instance : Datum (T3 α β γ) where
  toD := fun t => .tuple [Datum.toD t.x0, Datum.toD t.x1, Datum.toD t.x2]
  plain := fun t => by simp [PyData.plain, PyData.plainAll, Datum.plain]
  eqv := fun a b => by
    obtain ⟨a0, a1, a2⟩ := a
    obtain ⟨b0, b1, b2⟩ := b
    rw [Bool.eq_iff_iff]
    simp [PyData.eqv, PyData.eqvAll, Datum.eqv]
  depth := max (Datum.depth α) (max (Datum.depth β) (Datum.depth γ)) + 1
  depth_le := fun t => by
    have h0 := Datum.depth_le t.x0
    have h1 := Datum.depth_le t.x1
    have h2 := Datum.depth_le t.x2
    simp only [PyData.depth, PyData.depthAll]
    omega
instance : Pd (T3 α β γ) where
  dp := fun {g a I v} h => by
    obtain ⟨p, x, y, z, rfl, h0, h1, h2, h3⟩ := h
    exact .tup h0 (.cons (Pd.dp h1) (.cons (Pd.dp h2) (.cons (Pd.dp h3) .nil)))
instance : Datum (T4 α β γ δ) where
  toD := fun t => .tuple [Datum.toD t.x0, Datum.toD t.x1, Datum.toD t.x2, Datum.toD t.x3]
  plain := fun t => by simp [PyData.plain, PyData.plainAll, Datum.plain]
  eqv := fun a b => by
    obtain ⟨a0, a1, a2, a3⟩ := a
    obtain ⟨b0, b1, b2, b3⟩ := b
    rw [Bool.eq_iff_iff]
    simp [PyData.eqv, PyData.eqvAll, Datum.eqv]
  depth := max (Datum.depth α) (max (Datum.depth β) (max (Datum.depth γ) (Datum.depth δ))) + 1
  depth_le := fun t => by
    have h0 := Datum.depth_le t.x0
    have h1 := Datum.depth_le t.x1
    have h2 := Datum.depth_le t.x2
    have h3 := Datum.depth_le t.x3
    simp only [PyData.depth, PyData.depthAll]
    omega
instance : Pd (T4 α β γ δ) where
  dp := fun {g a I v} h => by
    obtain ⟨p, x, y, z, w, rfl, h0, h1, h2, h3, h4⟩ := h
    exact .tup h0 (.cons (Pd.dp h1) (.cons (Pd.dp h2) (.cons (Pd.dp h3) (.cons (Pd.dp h4) .nil))))
end
/-- what is never None -/
class NN (α : Type) [Py α] [DecidableEq α] [Pd α] : Prop where
  nn : ∀ a : α, PyData.eqv .none (PySem.W.Datum.toD a) = false ∧ PyData.eqv (PySem.W.Datum.toD a) .none = false
instance : NN Int := ⟨fun _ => ⟨rfl, rfl⟩⟩
instance : NN Bool := ⟨fun _ => ⟨rfl, rfl⟩⟩
instance : NN Str := ⟨fun _ => ⟨rfl, rfl⟩⟩
section
variable {α β γ δ : Type} [Py α] [Py β] [Py γ] [Py δ] [DecidableEq α] [DecidableEq β] [DecidableEq γ] [DecidableEq δ] [Pd α] [Pd β] [Pd γ] [Pd δ]
open PySem.W
instance : NN (List α) := ⟨fun _ => ⟨rfl, rfl⟩⟩
instance : NN (T2 α β) := ⟨fun _ => ⟨rfl, rfl⟩⟩
instance : NN (T3 α β γ) := ⟨fun _ => ⟨rfl, rfl⟩⟩
instance : NN (T4 α β γ δ) := ⟨fun _ => ⟨rfl, rfl⟩⟩
instance [NN α] : Datum (Option α) where
  toD := fun o => match o with | none => .none | some a => Datum.toD a
  plain := fun o => by
    cases o with
    | none => rfl
    | some a => exact Datum.plain a
  eqv := fun a b => by
    cases a with
    | none =>
      cases b with
      | none => rfl
      | some b =>
        rw [decide_eq_false (by intro z; cases z)]
        exact (NN.nn b).1
    | some a =>
      cases b with
      | none =>
        rw [decide_eq_false (by intro z; cases z)]
        exact (NN.nn a).2
      | some b =>
        show PyData.eqv (Datum.toD a) (Datum.toD b) = _
        rw [Datum.eqv, Bool.eq_iff_iff]
        simp
  depth := Datum.depth α
  depth_le := fun o => by
    cases o with
    | none => exact Nat.zero_le _
    | some a => exact Datum.depth_le a
instance [NN α] : Pd (Option α) where
  dp := fun {g a I v} h => by
    cases a with
    | none => cases h; exact .non
    | some a => exact Pd.dp (α := α) h
end
section
variable {X : Cx}
open PySem.W PySem.SeqAt
def rEqP (K : PySem.W.Frag) : R2 := fun x y H Q => ∃ d e, Dp K H x d ∧ Dp K H y e ∧ d.plain = true ∧ e.plain = true ∧ d.depth ≤ 64 ∧ Q (.bl (PyData.eqv d e)) H
def rNeP (K : PySem.W.Frag) : R2 := fun x y H Q => ∃ d e, Dp K H x d ∧ Dp K H y e ∧ d.plain = true ∧ e.plain = true ∧ d.depth ≤ 64 ∧ Q (.bl (!PyData.eqv d e)) H
theorem op_eqP (hu : X.A.units + 64 < cLine) : OpR X (compareOp .Eq) (rEqP X.K) := by
  intro pins s σ H x y v u Q I rx ry h
  obtain ⟨d, e, hd, he, sd, se, dd, q⟩ := h
  obtain ⟨as, r1⟩ := Dp.reads I d x v hd rx
  obtain ⟨bs, r2⟩ := Dp.reads I e y u he ry
  exact eq_plain r1 r2 sd se (by have := Nat.min_le_left d.depth e.depth; omega) ⟨.bl _, H, I, rfl, q⟩
theorem op_neP (hu : X.A.units + 64 < cLine) : OpR X (compareOp .NotEq) (rNeP X.K) := by
  intro pins s σ H x y v u Q I rx ry h
  obtain ⟨d, e, hd, he, sd, se, dd, q⟩ := h
  obtain ⟨as, r1⟩ := Dp.reads I d x v hd rx
  obtain ⟨bs, r2⟩ := Dp.reads I e y u he ry
  exact ne_plain r1 r2 sd se (by have := Nat.min_le_left d.depth e.depth; omega) ⟨.bl _, H, I, rfl, q⟩
def rInP (K : PySem.W.Frag) (neg : Bool) : R2 := fun x y H Q => ∃ d ds, Dp K H x d ∧ (Dp K H y (.list ds) ∨ Dp K H y (.tuple ds)) ∧ d.plain = true ∧ PyData.plainAll ds = true ∧ d.depth ≤ 62 ∧ Q (.bl (if neg then !(ds.any fun y => PyData.eqv y d) else ds.any fun y => PyData.eqv y d)) H
end
/-- the left and the right operand of == read as data: kinds im and lists -/
def DR {α : Type} [Py α] [DecidableEq α] [Pd α] (g : Gb) (k : α → RK) : Prop := ∀ a H v I' H', Same I' H' → RK.holds g (k a) H v I' H' → Dp g.K H' v (PySem.W.Datum.toD a)
section
variable {α β : Type} [Py α] [DecidableEq α] [Pd α] [Py β] [DecidableEq β] [Pd β] {g : Gb}
open PySem.W
theorem dr_im : DR (α := α) g (fun a => .im (Py.r g a)) := fun a H v I' H' s h => dp_mono s (Pd.dp h)
theorem dr_lr {k : List α → RK} (h : LR g k) : DR g k := fun a H v I' H' s q => by
  obtain ⟨l, vs, rfl, h1, h2⟩ := h a H v I' H' s q
  exact .lst h1 (dp_all ((rl g a).mono s h2).2)
variable {X : Cx} {B : Bs} {S : SL} {e e1 e2 e3 : Expr} {pos pos' : Pos} {m1 m2 : Option α} {k1 k2 : α → RK}
theorem mc_eq (hu : X.A.units + 64 < cLine) (hd : Datum.depth α ≤ 64) (h1 : ME X g B S e1 m1 k1) (h2 : ME X g B S e2 m2 k2) (r1 : DR g k1 := by first | exact dr_im | exact dr_lr lr_fr | exact dr_lr lr_rd) (r2 : DR g k2 := by first | exact dr_im | exact dr_lr lr_fr | exact dr_lr lr_rd)
    (hg : X.K = g.K := by rfl) : MC X g B S (.Compare e1 [.Eq] [e2] pos) (m1 >>= fun a => m2 >>= fun b => some (decide (a = b))) :=
  mc_cmp (op_eqP hu) h1 h2 (fun a b c q v w I H H0 H1 Q s v1 v2 k => by
    cases q
    refine ⟨_, _, by rw [hg]; exact r1 a _ _ _ _ s v1, by rw [hg]; exact r2 b _ _ _ _ s v2, Datum.plain a, Datum.plain b, Nat.le_trans (Datum.depth_le a) hd, ?_⟩
    rw [Datum.eqv]
    exact k _ _ _ (Ext.refl s) rfl) (nomark _)
theorem mc_ne (hu : X.A.units + 64 < cLine) (hd : Datum.depth α ≤ 64) (h1 : ME X g B S e1 m1 k1) (h2 : ME X g B S e2 m2 k2) (r1 : DR g k1 := by first | exact dr_im | exact dr_lr lr_fr | exact dr_lr lr_rd) (r2 : DR g k2 := by first | exact dr_im | exact dr_lr lr_fr | exact dr_lr lr_rd)
    (hg : X.K = g.K := by rfl) : MC X g B S (.Compare e1 [.NotEq] [e2] pos) (m1 >>= fun a => m2 >>= fun b => some (!decide (a = b))) :=
  mc_cmp (op_neP hu) h1 h2 (fun a b c q v w I H H0 H1 Q s v1 v2 k => by
    cases q
    refine ⟨_, _, by rw [hg]; exact r1 a _ _ _ _ s v1, by rw [hg]; exact r2 b _ _ _ _ s v2, Datum.plain a, Datum.plain b, Nat.le_trans (Datum.depth_le a) hd, ?_⟩
    rw [Datum.eqv]
    exact k _ _ _ (Ext.refl s) rfl) (nomark _)
end
end T
set_option Elab.async false
set_option linter.all false
set_option maxRecDepth 100000
namespace T
variable [TabsC]
open PySem PySem.Spec PyProof.Rows L2

/-- never None -/
class Nz (α : Type) [Py α] : Prop where
  nz : ∀ {g : Gb} {a : α} {I : Hp} {v : V}, (Py.r g a).p I v → v ≠ .non
instance : Nz Int := ⟨fun h z => by cases h; cases z⟩
instance : Nz Bool := ⟨fun h z => by cases h; cases z⟩
instance : Nz Str := ⟨fun h z => by cases h; cases z⟩
instance {α : Type} [Py α] : Nz (List α) := ⟨fun h z => by obtain ⟨_, _, rfl, _⟩ := h; cases z⟩
instance {α β : Type} [Py α] [Py β] : Nz (T2 α β) := ⟨fun h z => by obtain ⟨_, _, _, rfl, _⟩ := h; cases z⟩
instance {α β γ : Type} [Py α] [Py β] [Py γ] : Nz (T3 α β γ) := ⟨fun h z => by obtain ⟨_, _, _, _, rfl, _⟩ := h; cases z⟩
instance {α β γ δ : Type} [Py α] [Py β] [Py γ] [Py δ] : Nz (T4 α β γ δ) := ⟨fun h z => by obtain ⟨_, _, _, _, _, rfl, _⟩ := h; cases z⟩

section
variable {X : Cx} {g : Gb} {B : Bs} {S : SL} {e e1 e2 e3 : Expr} {es : List Expr} {pos pos' : Pos} {α β γ δ : Type} [Py α] [Py β] [Py γ] [Py δ]
/-! tests -/
theorem mt_val {m : Option Bool} (h : ME X g B S e m (KI g)) (he : ∀ whole, isTrue e X.env whole = (do let v ← whole; standAt e.pos; holding [v] (truthy v)) := by intro _; rfl) : MT X g B S e m :=
  ⟨fun b q => pt_imp (pt_val (h.run b q) he) fun σ H Q ⟨I, hh, k⟩ => ⟨I, hh, fun v I' H' x hv => ⟨b, hv, k I' H' x⟩⟩⟩
theorem mt_not {m : Option Bool} (h : MT X g B S e m) : MT X g B S (.UnaryOp .Not e pos) (m >>= fun b => some (!b)) := by
  refine ⟨fun b q => ?_⟩
  obtain ⟨c, q1, q2⟩ := bind_some q
  cases q2
  exact pt_imp (pt_not (h.run c q1)) fun σ H Q ⟨I, hh, k⟩ => ⟨I, hh, fun I' H' x => k I' H' x⟩
theorem mw_and1 {m : Option Bool} (h : MT X g B S e m) : MW X g B S (.BoolOp .And [e] pos) m := ⟨fun b q => pw_and1 (h.run b q)⟩
theorem mw_or1 {m : Option Bool} (h : MT X g B S e m) : MW X g B S (.BoolOp .Or [e] pos) m := ⟨fun b q => pw_or1 (h.run b q)⟩
theorem mw_and {m1 m2 : Option Bool} (h1 : MT X g B S e1 m1) (h2 : MW X g B S (.BoolOp .And (e2 :: es) pos) m2) : MW X g B S (.BoolOp .And (e1 :: e2 :: es) pos) (m1 >>= fun c => if c = true then m2 else some false) := by
  refine ⟨fun b q => ?_⟩
  obtain ⟨c, q1, q2⟩ := bind_some q
  cases c with
  | true =>
    rw [if_pos rfl] at q2
    refine pw_imp (pw_and (h1.run _ q1) (h2.run _ q2)) fun σ H Q ⟨I, hh, k⟩ => ⟨I, hh, fun I1 H1 x1 => ?_⟩
    exact iteT ⟨I1, hh.ext x1, fun I2 H2 x2 => k I2 H2 (x1.trans x2)⟩
  | false =>
    rw [if_neg Bool.false_ne_true] at q2
    cases q2
    refine pw_imp (pw_and (tB' := fun _ _ _ => False) (h1.run _ q1) ⟨fun _ _ _ _ _ _ _ z => z.elim⟩) fun σ H Q ⟨I, hh, k⟩ => ⟨I, hh, fun I1 H1 x1 => ?_⟩
    exact iteF (k I1 H1 x1)
theorem mw_or {m1 m2 : Option Bool} (h1 : MT X g B S e1 m1) (h2 : MW X g B S (.BoolOp .Or (e2 :: es) pos) m2) : MW X g B S (.BoolOp .Or (e1 :: e2 :: es) pos) (m1 >>= fun c => if c = true then some true else m2) := by
  refine ⟨fun b q => ?_⟩
  obtain ⟨c, q1, q2⟩ := bind_some q
  cases c with
  | false =>
    rw [if_neg Bool.false_ne_true] at q2
    refine pw_imp (pw_or (h1.run _ q1) (h2.run _ q2)) fun σ H Q ⟨I, hh, k⟩ => ⟨I, hh, fun I1 H1 x1 => ?_⟩
    exact iteF ⟨I1, hh.ext x1, fun I2 H2 x2 => k I2 H2 (x1.trans x2)⟩
  | true =>
    rw [if_pos rfl] at q2
    cases q2
    refine pw_imp (pw_or (tB' := fun _ _ _ => False) (h1.run _ q1) ⟨fun _ _ _ _ _ _ _ z => z.elim⟩) fun σ H Q ⟨I, hh, k⟩ => ⟨I, hh, fun I1 H1 x1 => ?_⟩
    exact iteT (k I1 H1 x1)
theorem MW.eq {m m' : Option Bool} (h : MW X g B S e m) (q : m = m') : MW X g B S e m' := q ▸ h
theorem mw_andP {a b : Bool} (h1 : MT X g B S e1 (some a)) (h2 : MW X g B S (.BoolOp .And (e2 :: es) pos) (some b)) : MW X g B S (.BoolOp .And (e1 :: e2 :: es) pos) (some (a && b)) := (mw_and h1 h2).eq (by cases a <;> rfl)
theorem mw_orP {a b : Bool} (h1 : MT X g B S e1 (some a)) (h2 : MW X g B S (.BoolOp .Or (e2 :: es) pos) (some b)) : MW X g B S (.BoolOp .Or (e1 :: e2 :: es) pos) (some (a || b)) := (mw_or h1 h2).eq (by cases a <;> rfl)
theorem mt_w {m : Option Bool} (h : MW X g B S e m) : MT X g B S e m := ⟨fun b q => (h.run b q).pt⟩
/-- and, or, not as values -/
theorem me_one {op} {m : Option Bool} (h : ME X g B S e m (KI g)) : ME X g B S (.BoolOp op [e] pos) m (KI g) := ⟨fun b q => pe_one (h.run b q)⟩
theorem me_and {m1 m2 : Option Bool} (h1 : ME X g B S e1 m1 (KI g)) (h2 : ME X g B S (.BoolOp .And (e2 :: es) pos) m2 (KI g)) : ME X g B S (.BoolOp .And (e1 :: e2 :: es) pos) (m1 >>= fun c => if c = true then m2 else some false) (KI g) := by
  refine ⟨fun b q => ?_⟩
  obtain ⟨c, q1, q2⟩ := bind_some q
  cases c with
  | true =>
    rw [if_pos rfl] at q2
    refine pe_imp (pe_and (h1.run _ q1) (h2.run _ q2)) fun σ H Q ⟨I, hh, k⟩ => ⟨I, hh, fun v I1 H1 x1 hv => ⟨true, hv, ?_⟩⟩
    exact iteT ⟨I1, hh.ext x1, fun w I2 H2 x2 hw => k w I2 H2 (x1.trans x2) hw⟩
  | false =>
    rw [if_neg Bool.false_ne_true] at q2
    cases q2
    refine pe_imp (pe_and (tb := fun _ _ _ => False) (h1.run _ q1) ⟨fun _ _ _ _ _ _ z => z.elim⟩) fun σ H Q ⟨I, hh, k⟩ => ⟨I, hh, fun v I1 H1 x1 hv => ⟨false, hv, ?_⟩⟩
    exact iteF (k _ I1 H1 x1 rfl)
theorem me_andP {a b : Bool} (h1 : ME X g B S e1 (some a) (KI g)) (h2 : ME X g B S (.BoolOp .And (e2 :: es) pos) (some b) (KI g)) : ME X g B S (.BoolOp .And (e1 :: e2 :: es) pos) (some (a && b)) (KI g) := (me_and h1 h2).eq (by cases a <;> rfl)
theorem me_not {m : Option Bool} (h : ME X g B S e m (KI g)) : ME X g B S (.UnaryOp .Not e pos) (m >>= fun b => some (!b)) (KI g) := by
  refine ⟨fun b q => ?_⟩
  obtain ⟨c, q1, q2⟩ := bind_some q
  cases q2
  exact pe_imp (pe_not (h.run c q1)) fun σ H Q ⟨I, hh, k⟩ => ⟨I, hh, fun v I' H' x hv => ⟨c, hv, k _ I' H' x rfl⟩⟩
/-- is None, is not None -/
theorem mc_isN [Nz α] {j} {m : Option (Option α)} (h : ME X g B S e m (KI g)) : MC X g B S (.Compare e [.Is] [.Constant .none j pos'] pos) (m >>= fun o => some o.isNone) :=
  (mc_cmp op_isN h (me_unit (j := j) (pos := pos')) (f := fun o _ => some o.isNone) fun o _ c q v w I H H0 H1 Q s hv hw k => by
    cases q
    refine ⟨hw, ?_⟩
    cases o with
    | none =>
      cases hv
      exact k _ _ _ (Ext.refl s) rfl
    | some a =>
      rw [decide_eq_false (Nz.nz (α := α) hv)]
      exact k _ _ _ (Ext.refl s) rfl).eq (by cases m <;> rfl)
end

/-! arguments -/
def Args (g : Gb) (ks : List RK) (vs : List V) (I H : Hp) : Prop := Paired (fun k v => RK.holds g k H v I H) ks vs
def rdA {ι o : Type} (g : Gb) (B : Bs) (S : SL) (dvs : List V) (args : ι → List RK) (M : ι → Option o) (r : o) : TA := fun σ H Q => ∃ I, Hold g B S σ I H ∧ ∀ a vs I' H', M a = some r → Ext I H I' H' → Args g (args a) (vs ++ dvs) I' H' → Q vs H'
structure MA {ι o : Type} (X : Cx) (g : Gb) (B : Bs) (S : SL) (es : List Expr) (dvs : List V) (args : ι → List RK) (m : Option o) (M : ι → Option o) : Prop where
  run : ∀ r, m = some r → PA X es (rdA g B S dvs args M r)
def Coe {α : Type} (g : Gb) (k k' : α → RK) : Prop := ∀ a H0 v I H, Same I H → RK.holds g (k a) H0 v I H → RK.holds g (k' a) H v I H
section
variable {X : Cx} {g : Gb} {B : Bs} {S : SL} {e e1 e2 e3 : Expr} {es : List Expr} {pos pos' : Pos} {α β γ δ : Type} [Py α] [Py β] [Py γ] [Py δ]
theorem co_im : Coe (α := α) g (KI g) (KI g) := fun _ _ _ _ _ _ h => h
theorem co_bw {k : List α → RK} (h : LR g k) : Coe g k (fun a => .bw (rl g a)) := fun a H0 v I H s q => h a H0 v I H s q
theorem pa_imp {t t' : TA} (h : PA X es t) (f : ∀ σ H Q, t' σ H Q → t σ H Q) : PA X es t' := ⟨fun pos pins s σ H Q I hw => h.run pos pins s σ H Q I (f σ H Q hw)⟩
theorem ma_nil {o : Type} {M : Unit → Option o} : MA X g B S [] [] (fun _ : Unit => []) (M ()) M :=
  ⟨fun r q => pa_imp pa_nil fun σ H Q ⟨I, hh, k⟩ => k () [] I H q (Ext.refl hh.sub) .nil⟩
/-- the rest by defaults -/
theorem ma_dfl {ι o : Type} {dvs : List V} {args : ι → List RK} {M : ι → Option o} (a : ι) (h : ∀ I H, Args g (args a) dvs I H) : MA X g B S [] dvs args (M a) M :=
  ⟨fun r q => pa_imp pa_nil fun σ H Q ⟨I, hh, k⟩ => k a [] I H q (Ext.refl hh.sub) (h I H)⟩
theorem ma_cons {ι o α' : Type} {dvs : List V} {args : ι → List RK} {m1 : Option α'} {m2 : α' → Option o} {M : α' × ι → Option o} {k k' : α' → RK} (h : ME X g B S e m1 k) (c : Coe g k k') (t : ∀ a, MA X g B S es dvs args (m2 a) (fun b => M (a, b)))
    (hs : starEach (e :: es) X.env = (false, eval e X.env) :: starEach es X.env := by rfl) : MA X g B S (e :: es) dvs (fun p : α' × ι => k' p.1 :: args p.2) (m1 >>= m2) M := by
  refine ⟨fun r q => ?_⟩
  obtain ⟨a, q1, q2⟩ := bind_some q
  refine pa_imp (pa_cons (h.run a q1) ((t a).run r q2) hs) fun σ H Q ⟨I, hh, kk⟩ => ⟨I, hh, fun v I1 H1 x1 v1 => ⟨I1, hh.ext x1, fun b vs I2 H2 hM x2 hA => ?_⟩⟩
  exact kk (a, b) (v :: vs) I2 H2 hM (x1.trans x2) (.cons (c a _ _ _ _ x2.s (RK.ext v1 x2 hh.tb.has)) hA)
end
/-! the promise of a def: a typed one -/
def spT {ι β : Type} (g : Gb) (args : ι → List RK) (M : ι → Option β) (k : β → RK) : Sp := fun vs H Q _ => ∃ I a r, Same I H ∧ TbI I H ∧ Args g (args a) vs I H ∧ M a = some r ∧ ∀ v I' H', Ext I H I' H' → RK.holds g (k r) H v I' H' → Q v H'
section
variable {X : Cx} {g : Gb} {B : Bs} {S : SL} {e e1 e2 e3 : Expr} {es : List Expr} {pos pos' p : Pos} {ι β : Type} {args : ι → List RK} {M : ι → Option β} {k : β → RK} {m : Option β} {j kk : Nat} {f : Addr} {fd : FuncData} {ps : List Str} {x : Str} {dvs : List V} {ds : List Value}
theorem sp_use {H : Hp} {I : Hp} {Q : VK} {a : ι} {r : β} {vs : List V} (s : Same I H) (t : TbI I H) (hA : Args g (args a) vs I H) (hM : M a = some r) (q : ∀ v I' H', Ext I H I' H' → RK.holds g (k r) H v I' H' → Q v H') {E : XK} : spT g args M k vs H Q E := ⟨I, a, r, s, t, hA, hM, q⟩
theorem me_call (F : FnOk X.prog X.w X.K X.mg X.base CX0 j f fd ps (spT g args M k)) (hr : Room kk X.A) (hj : j ≤ kk) (hm : X.mg x = some (.ref f)) (hk : PySem.W.keepIn X.K (.ref f) = true) (hb : Binds X.K fd ps ds) (hd : Vals dvs ds)
    (ha : MA X g B S (e :: es) dvs args m M) (hg : Gl X x := by rfl) (hdb : (x == ("__debug__" : Str)) = false := by decide) (he : starEach (e :: es) X.env = (false, eval e X.env) :: starEach es X.env := by rfl) (hpl : (backTo pos (starEach es X.env)).any (·.1) = false := by rfl)
    (hbw : ∀ c, (k c).isB = false := by intro _; rfl) :
    ME X g B S (.Call (.Name x p) (e :: es) [] pos) m k := by
  refine ⟨fun r q => ?_⟩
  refine pe_imp (pe_call F (hr.mono hj) hg hm hk hb hd pass0 (ha.run r q) hdb he hpl) fun σ H Q ⟨I, hh, kc⟩ => ⟨I, hh, fun a vs I1 H1 hM x1 hA => ?_⟩
  exact sp_use x1.s (hh.tb.ext x1).to hA hM fun v I2 H2 x2 hv => kc v I2 H2 (x1.trans x2) (RK.back (hbw r) x1.h hv)
end
end T
set_option Elab.async false
set_option linter.all false
set_option maxRecDepth 100000
namespace T
variable [TabsC]
open PySem PySem.Spec PyProof.Rows L2

/-! blocks -/
/-- a base whose part that stays is known to hold J too -/
structure Ok (g : Gb) (B : Bs) (J : Hp) (S : SL) (σ : L2.St) (I H : Hp) : Prop where
  x : Ext B.I B.H I H
  j : Same J I
  h : Hold g B S σ I H
theorem Ok.ext {g : Gb} {B : Bs} {J : Hp} {S : SL} {σ : L2.St} {I H I' H' : Hp} (o : Ok g B J S σ I H) (x : Ext I H I' H') : Ok g B J S σ I' H' := ⟨o.x.trans x, o.j.trans x.i, o.h.ext x⟩
theorem Ok.put {g : Gb} {B : Bs} {J : Hp} {S : SL} {σ : L2.St} {I H I' H' : Hp} {i : Nat} {k : RK} {v : V} (o : Ok g B J S σ I H) (x : Ext I H I' H') (hk : k.slotty = true) (hv : RK.holds g k H v I' H') : Ok g B J (S.set i (some k)) (σ.set i (some v)) I' H' :=
  ⟨o.x.trans x, o.j.trans x.i, o.h.put x hk hv⟩
/-- less is known -/
inductive Wk : SL → SL → Prop
  | nil : Wk [] []
  | keep {k : Option RK} {S T : SL} : Wk S T → Wk (k :: S) (k :: T)
  | drop {k : Option RK} {S T : SL} : Wk S T → Wk (k :: S) (none :: T)
theorem Wk.len : ∀ {S T : SL}, Wk S T → S.length = T.length
  | _, _, .nil => rfl
  | _, _, .keep h => congrArg (· + 1) h.len
  | _, _, .drop h => congrArg (· + 1) h.len
theorem Wk.get : ∀ {S T : SL}, Wk S T → ∀ {i : Nat} {k : RK}, T[i]? = some (some k) → S[i]? = some (some k)
  | _, _, .nil, i, k, e => e
  | _, _, .keep h, 0, k, e => e
  | _, _, .keep h, i + 1, k, e => h.get (i := i) (by simpa using e)
  | _, _, .drop h, 0, k, e => by simp at e
  | _, _, .drop h, i + 1, k, e => h.get (i := i) (by simpa using e)
theorem Hold.wk {g : Gb} {B : Bs} {S T : SL} {σ : L2.St} {I H : Hp} (w : Wk S T) (h : Hold g B S σ I H) : Hold g B T σ I H :=
  h.elim fun Φ h => ⟨Φ, h.len.trans w.len, h.sub, h.base, h.tb, fun i k e => h.at_ i k (w.get e), h.fr, h.dj⟩
theorem Ok.wk {g : Gb} {B : Bs} {J : Hp} {S T : SL} {σ : L2.St} {I H : Hp} (w : Wk S T) (o : Ok g B J S σ I H) : Ok g B J T σ I H := ⟨o.x, o.j, o.h.wk w⟩
/-- what is to follow an outcome -/
abbrev KT (o : Type) := o → Ends → Prop
structure MB {o : Type} (X : Cx) (g : Gb) (B : Bs) (J : Hp) (S : SL) (sts : List Stmt) (m : Option o) (K : KT o) : Prop where
  run : ∀ r, m = some r → PSs X sts (fun D σ H => ∃ I, Ok g B J S σ I H ∧ K r D)
theorem MB.eq {o : Type} {X : Cx} {g : Gb} {B : Bs} {J : Hp} {S : SL} {sts : List Stmt} {m m' : Option o} {K : KT o} (h : MB X g B J S sts m K) (e : m = m') : MB X g B J S sts m' K := e ▸ h
theorem pss_imp {X : Cx} {sts : List Stmt} {t t' : TS} (h : PSs X sts t) (f : ∀ D σ H, t' D σ H → t D σ H) : PSs X sts t' := ⟨fun pins s σ H D I hw => h.run pins s σ H D I (f D σ H hw)⟩
/-- the def hands back a value; a block goes on; a turn of a loop -/
def Kt {β : Type} (g : Gb) (B : Bs) (k : β → RK) : KT β := fun r D => ∀ v I' H', Ext B.I B.H I' H' → RK.holds g (k r) B.H v I' H' → D.rt v H'
def Kn {β : Type} (g : Gb) (B : Bs) (J : Hp) (S' : β → SL) : KT β := fun b D => ∀ σ I H, Ok g B J (S' b) σ I H → D.nx σ H
inductive Ctl (β γ ρ : Type) where
  | nx (b : β) | rt (r : ρ) | ct (c : γ) | bk (c : γ)
def Kc {β γ ρ : Type} (g : Gb) (B : Bs) (J : Hp) (S' : β → SL) (T' : γ → SL) (k : ρ → RK) : KT (Ctl β γ ρ) := fun c D => match c with
  | .nx b => ∀ σ I H, Ok g B J (S' b) σ I H → D.nx σ H
  | .rt r => ∀ v I' H', Ext B.I B.H I' H' → RK.holds g (k r) B.H v I' H' → D.rt v H'
  | .ct b => ∀ σ I H, Ok g B J (T' b) σ I H → D.ct σ H
  | .bk b => ∀ σ I H, Ok g B J (T' b) σ I H → D.bk σ H
/-- what follows a statement that may leave: within a loop's turn; in a def -/
def Ctl.seq {β β2 γ ρ : Type} (f : β → Option (Ctl β2 γ ρ)) : Ctl β γ ρ → Option (Ctl β2 γ ρ)
  | .nx b => f b
  | .rt r => some (.rt r)
  | .ct c => some (.ct c)
  | .bk c => some (.bk c)
def Ctl.seqT {β γ ρ : Type} (f : β → Option ρ) : Ctl β γ ρ → Option ρ
  | .nx b => f b
  | .rt r => some r
  | .ct _ => none
  | .bk _ => none
def Ctl.isNx {β γ ρ : Type} : Ctl β γ ρ → Bool
  | .nx _ => true
  | _ => false
/-- K hands back r's value at (inj r) -/
def KR {ρ o : Type} (g : Gb) (B : Bs) (K : KT o) (inj : ρ → o) (k : ρ → RK) : Prop := ∀ r D, K (inj r) D → ∀ v I' H', Ext B.I B.H I' H' → RK.holds g (k r) B.H v I' H' → D.rt v H'
/-- K goes on in S' at (inj b) -/
def KX {β o : Type} (g : Gb) (B : Bs) (J : Hp) (K : KT o) (inj : β → o) (S' : β → SL) : Prop := ∀ b D, K (inj b) D → ∀ σ I H, Ok g B J (S' b) σ I H → D.nx σ H
section
variable {X : Cx} {g : Gb} {B : Bs} {J : Hp} {S : SL} {e e1 e2 e3 : Expr} {es : List Expr} {pos pos' p : Pos} {o α' β γ ρ : Type} {K : KT o} {rest : List Stmt}
theorem kr_t {k : ρ → RK} : KR g B (Kt g B k) (fun r => r) k := fun _ _ h => h
theorem kr_c {k : ρ → RK} {S' : β → SL} {T' : γ → SL} : KR g B (Kc g B J S' T' k) (fun r => Ctl.rt r) k := fun _ _ h => h
theorem kx_n {S' : β → SL} : KX g B J (Kn g B J S') (fun b => b) S' := fun _ _ h => h
theorem kx_c {k : ρ → RK} {S' : β → SL} {T' : γ → SL} : KX g B J (Kc g B J S' T' k) (fun b => Ctl.nx b) S' := fun _ _ h => h
/-- the end of a block -/
theorem mb_nil {b : β} {S' : β → SL} {inj : β → o} (kx : KX g B J K inj S') (w : Wk S (S' b)) : MB X g B J S [] (some (inj b)) K := by
  refine ⟨fun r q => ?_⟩
  cases q
  exact pss_imp pss_nil fun D σ H ⟨I, ok, k⟩ => kx b D k σ I H (ok.wk w)
/-- name = e -/
theorem mb_set (i : Nat) {x : Str} {m : Option α'} {k : α' → RK} {f : α' → Option o} (hN : X.N.Nodup) (he : ME X g B S e m k) (hb : ∀ a, MB X g B J (S.set i (some (k a))) rest (f a) K) (hk : ∀ a, (k a).slotty = true := by intro _; rfl)
    (hi : X.N[i]? = some x := by rfl) (hx : Loc X.env.scope x := by first | exact Or.inl rfl | exact Or.inr rfl) (hs : swapsWith e (some (.Name x pos')) pos.line X.env = pure false := by rfl)
    (hf : X.fn x = true ∨ X.env.scope.names.lookup x = some .local := by first | exact .inl rfl | exact .inr rfl) : MB X g B J S (.Assign [.Name x pos'] e pos :: rest) (m >>= f) K := by
  refine ⟨fun r q => ?_⟩
  obtain ⟨a, q1, q2⟩ := bind_some q
  refine pss_imp (pss_cons (ps_set hN hi hx (he.run a q1) hs hf) ((hb a).run r q2)) fun D σ H ⟨I, ok, kk⟩ => ?_
  exact ⟨I, ok.h, fun v I' H' x1 hv => ⟨I', ok.put x1 (hk a) hv, kk⟩⟩
/-- return e -/
theorem mb_ret {m : Option ρ} {k : ρ → RK} {inj : ρ → o} (kr : KR g B K inj k) (he : ME X g B S e m k) (hb : ∀ c, (k c).isB = false := by intro _; rfl) : MB X g B J S [.Return (some e) pos] (m >>= fun r => some (inj r)) K := by
  refine ⟨fun r q => ?_⟩
  obtain ⟨a, q1, q2⟩ := bind_some q
  cases q2
  refine pss_imp (pss_one (ps_ret (he.run a q1))) fun D σ H ⟨I, ok, kk⟩ => ?_
  exact ⟨I, ok.h, fun v I' H' x1 hv => kr a D kk v I' H' (ok.x.trans x1) (RK.back (hb a) ok.x.h hv)⟩
theorem mb_retT {m : Option ρ} {k : ρ → RK} (he : ME X g B S e m k) (hb : ∀ c, (k c).isB = false := by intro _; rfl) : MB X g B J S [.Return (some e) pos] m (Kt g B k) :=
  (mb_ret kr_t he hb).eq (by cases m <;> rfl)
/-- how an owned thing is let go: a thing that stays -/
def Frz (o : OR) (p : PR) : Prop := ∀ I F v, (∀ a, F a ≠ none → I a = none) → o.p I F v → p.p (Un I F) v
/-- the heap of both -/
theorem frz_ok {i : Nat} {o : OR} {r : PR} {σ : L2.St} {I H : Hp} (z : Frz o r) (ok : Ok g B J S σ I H) (hS : ∀ v F, ∃ k, S[i]? = some (some k) ∧ (RK.inS g k B.H v I F → o.p I F v)) : ∃ I', Ok g B J (S.set i (some (.im r))) σ I' H := by
  obtain ⟨x, oj, Φ, h⟩ := ok
  obtain ⟨k, hk, _⟩ := hS .non (Φ i)
  obtain ⟨v, e1, q⟩ := h.at_ i k hk
  obtain ⟨k', hk', c⟩ := hS v (Φ i)
  rw [hk] at hk'
  cases hk'
  have q2 := c q
  have hd : ∀ a, Φ i a ≠ none → I a = none := fun a ha => (h.ne ha).2.1
  have sI : Same I (Un I (Φ i)) := un_l hd
  have x2 : Ext B.I B.H (Un I (Φ i)) H := ⟨x.i.trans sI, x.h, fun b ob eb => (un_some eb).elim (fun e => (h.fr i b ob e).1) fun e => x.s _ _ e.2, fun b n1 n2 => by
    cases e : Φ i b with
    | none => rw [un_none e]; exact x.n b n1 n2
    | some ob => exact absurd (h.fr i b ob e).2.2 n1⟩
  refine ⟨Un I (Φ i), x2, oj.trans sI, putF Φ i (fun _ => none), ?_⟩
  have hσ : σ.set i (some v) = σ := by
    apply List.ext_getElem?
    intro j
    by_cases hj : i = j
    · subst hj
      rw [List.getElem?_set_self (List.getElem?_eq_some_iff.mp e1).1, e1]
    · rw [List.getElem?_set_ne hj]
  have h2 : HoldF g B (S.set i (some (.im r))) (σ.set i (some v)) (Un I (Φ i)) H (putF Φ i (fun _ => none)) := by
    refine ⟨by rw [List.length_set, List.length_set, h.len], x2.s, h.base, h.tb.un (h.noT i), fun j k' e => ?_, fun j a ob e => ?_, fun j l a hj hl => ?_⟩
    · rcases set_some e with ⟨a, b, c⟩ | ⟨a, b⟩
      · subst a
        cases b
        exact ⟨v, List.getElem?_set_self (by rw [h.len]; exact c), z I (Φ i) v hd q2⟩
      · obtain ⟨u, e2, q⟩ := h.at_ j k' b
        exact ⟨u, by rw [List.getElem?_set_ne a]; exact e2, by rw [putF_ne (fun z => a z.symm)]; exact RK.inS_mono sI q⟩
    · by_cases hji : j = i
      · rw [hji, putF_same] at e; cases e
      · rw [putF_ne hji] at e
        obtain ⟨f1, f2, f3⟩ := h.fr j a ob e
        refine ⟨f1, ?_, f3⟩
        rw [un_none]
        · exact f2
        · cases e4 : Φ i a with
          | none => rfl
          | some ou => exact absurd (h.dj j i a (ne_of_some e) (ne_of_some e4)) hji
    · by_cases hji : j = i
      · rw [hji, putF_same] at hj; exact absurd rfl hj
      · by_cases hli : l = i
        · rw [hli, putF_same] at hl; exact absurd rfl hl
        · rw [putF_ne hji] at hj
          rw [putF_ne hli] at hl
          exact h.dj j l a hj hl
  rw [hσ] at h2
  exact h2
theorem frz_list {α : Type} [Py α] {as : List α} {I F : Hp} {l : Addr} {vs : List V} (hd : ∀ a, F a ≠ none → I a = none) (h1 : F l = some (.lst vs)) (h2 : (rl g as).p I vs) : (Py.r g as).p (Un I F) (.ref l) :=
  ⟨l, vs, rfl, SqL.of (un_r h1), (rl g as).mono (un_l hd) h2⟩
theorem mb_frz {α : Type} [Py α] (i : Nat) {as : List α} {sts : List Stmt} {m : Option o} (hS : S[i]? = some (some (.fr (rl g as)))) (hb : MB X g B J (S.set i (some (.im (Py.r g as)))) sts m K) : MB X g B J S sts m K := by
  refine ⟨fun r q => ?_⟩
  refine pss_imp (hb.run r q) fun D σ H ⟨I, ok, kk⟩ => ?_
  obtain ⟨I', ok'⟩ := frz_ok (i := i) (o := ⟨fun I F v => ∃ l vs, v = .ref l ∧ F l = some (.lst vs) ∧ (rl g as).p I vs, fun s ⟨l, vs, e, h3, h4⟩ => ⟨l, vs, e, h3, (rl g as).mono s h4⟩⟩) (r := Py.r g as)
    (fun I F v hd ⟨l, vs, e, h1, h2⟩ => by subst e; exact frz_list hd h1 h2) ok fun v F => ⟨_, hS, fun q => q⟩
  exact ⟨I', ok', kk⟩
/-- if c: (ends) ; rest -/
theorem mb_ift {mc : Option Bool} {m1 m2 : Option o} {b1 : List Stmt} (hc : MT X g B S e mc) (h1 : MB X g B J S b1 m1 K) (h2 : MB X g B J S rest m2 K) (hK : ∀ r D nx, m1 = some r → K r D → K r { D with nx := nx }) : MB X g B J S (.If e b1 [] pos :: rest) (mc >>= fun b => if b = true then m1 else m2) K := by
  refine ⟨fun r q => ?_⟩
  obtain ⟨c, q1, q2⟩ := bind_some q
  cases c with
  | true =>
    rw [if_pos rfl] at q2
    exact pss_imp (pss_cons (ps_if (hc.run _ q1) (h1.run r q2) (pss_never (sts := []))) (pss_never (sts := rest))) fun D σ H ⟨I, ok, kk⟩ => ⟨I, ok.h, fun I1 H1 x1 => iteT ⟨I1, ok.ext x1, hK r D _ q2 kk⟩⟩
  | false =>
    rw [if_neg Bool.false_ne_true] at q2
    exact pss_imp (pss_cons (ps_if (hc.run _ q1) (pss_never (sts := b1)) pss_nil) (h2.run r q2)) fun D σ H ⟨I, ok, kk⟩ => ⟨I, ok.h, fun I1 H1 x1 => iteF ⟨I1, ok.ext x1, kk⟩⟩
theorem hk_t {k : ρ → RK} {m1 : Option ρ} : ∀ r D nx, m1 = some r → Kt g B k r D → Kt g B k r { D with nx := nx } := fun _ _ _ _ h => h
/-- a block that never ends by itself -/
def NoNx {β γ ρ : Type} (m : Option (Ctl β γ ρ)) : Prop := ∀ r, m = some r → r.isNx = false
theorem nn_rt {r : ρ} : NoNx (some (Ctl.rt r : Ctl β γ ρ)) := fun _ q => by cases q; rfl
theorem nn_ct {r : γ} : NoNx (some (Ctl.ct r : Ctl β γ ρ)) := fun _ q => by cases q; rfl
theorem nn_bk {r : γ} : NoNx (some (Ctl.bk r : Ctl β γ ρ)) := fun _ q => by cases q; rfl
theorem nn_bind {m : Option α'} {f : α' → Option (Ctl β γ ρ)} (h : ∀ a, NoNx (f a)) : NoNx (m >>= f) := fun r q => by
  obtain ⟨a, _, q2⟩ := bind_some q
  exact h a r q2
theorem nn_ite {c : Prop} [Decidable c] {m1 m2 : Option (Ctl β γ ρ)} (h1 : NoNx m1) (h2 : NoNx m2) : NoNx (if c then m1 else m2) := by
  split
  · exact h1
  · exact h2
theorem hk_c {k : ρ → RK} {S' : β → SL} {T' : γ → SL} {m1 : Option (Ctl β γ ρ)} (h : NoNx m1) : ∀ r D nx, m1 = some r → Kc g B J S' T' k r D → Kc g B J S' T' k r { D with nx := nx } := fun r D nx e q => by
  have z := h r e
  cases r with
  | nx b => cases z
  | rt r => exact q
  | ct c => exact q
  | bk c => exact q
/-- if c: b1 else: b2 ; rest: both ways go on -/
theorem mb_if {mc : Option Bool} {m1 m2 : Option β} {b1 b2 : List Stmt} {S' : β → SL} {f : β → Option o} (hc : MT X g B S e mc) (h1 : MB X g B J S b1 m1 (Kn g B J S')) (h2 : MB X g B J S b2 m2 (Kn g B J S')) (hb : ∀ b, MB X g B J (S' b) rest (f b) K) :
    MB X g B J S (.If e b1 b2 pos :: rest) (mc >>= fun b => (if b = true then m1 else m2) >>= f) K := by
  refine ⟨fun r q => ?_⟩
  obtain ⟨c, q1, q2⟩ := bind_some q
  obtain ⟨b, q2, q3⟩ := bind_some q2
  cases c with
  | true =>
    rw [if_pos rfl] at q2
    exact pss_imp (pss_cons (ps_if (hc.run _ q1) (h1.run b q2) (pss_never (sts := b2))) ((hb b).run r q3)) fun D σ H ⟨I, ok, kk⟩ => ⟨I, ok.h, fun I1 H1 x1 => iteT ⟨I1, ok.ext x1, fun σ2 I2 H2 ok2 => ⟨I2, ok2, kk⟩⟩⟩
  | false =>
    rw [if_neg Bool.false_ne_true] at q2
    exact pss_imp (pss_cons (ps_if (hc.run _ q1) (pss_never (sts := b1)) (h2.run b q2)) ((hb b).run r q3)) fun D σ H ⟨I, ok, kk⟩ => ⟨I, ok.h, fun I1 H1 x1 => iteF ⟨I1, ok.ext x1, fun σ2 I2 H2 ok2 => ⟨I2, ok2, kk⟩⟩⟩
end
end T
set_option Elab.async false
set_option linter.all false
set_option maxRecDepth 100000
namespace T
variable [TabsC]
open PySem PySem.Spec PyProof.Rows L2

/-! loops -/
def loopC {α γ ρ : Type} (f : γ → α → Option (Ctl γ γ ρ)) : List α → γ → Option (Ctl γ Empty ρ)
  | [], s => some (.nx s)
  | x :: xs, s => f s x >>= fun c => match c with
    | .nx s' => loopC f xs s'
    | .ct s' => loopC f xs s'
    | .rt r => some (.rt r)
    | .bk s' => some (.nx s')
def loopN {α γ : Type} (f : γ → α → Option γ) : List α → γ → Option γ
  | [], s => some s
  | x :: xs, s => f s x >>= fun s' => loopN f xs s'
/-- lo, lo + 1, .. -/
def rng (lo : Int) (n : Nat) : List Int := (List.range n).map fun (i : Nat) => lo + (i : Int)
theorem rng_get {lo : Int} {n i : Nat} (h : i < n) : (rng lo n)[i]? = some (lo + (i : Int)) := by
  unfold rng
  rw [List.getElem?_map, List.getElem?_range h]
  rfl
theorem rng_len {lo : Int} {n : Nat} : (rng lo n).length = n := by
  unfold rng
  rw [List.length_map, List.length_range]
def rngOk (i j : Int) : Bool := decide (-(2 ^ 62) ≤ i ∧ i < 2 ^ 62 ∧ -(2 ^ 62) ≤ j ∧ j < 2 ^ 62) && decide ((j - i).toNat ≤ sizeLine)
@[irreducible] def rng1O (n : Int) : Option (List Int) := if rngOk 0 n = true then some (rng 0 n.toNat) else none
@[irreducible] def rng2O (a b : Int) : Option (List Int) := if rngOk a b = true then some (rng a (b - a).toNat) else none
theorem rngOk_1 {i j : Int} (h : rngOk i j = true) : -(2 ^ 62) ≤ i ∧ i < 2 ^ 62 ∧ -(2 ^ 62) ≤ j ∧ j < 2 ^ 62 := of_decide_eq_true (Bool.and_eq_true _ _ ▸ h).1
theorem rngOk_2 {i j : Int} (h : rngOk i j = true) : (j - i).toNat ≤ sizeLine := of_decide_eq_true (Bool.and_eq_true _ _ ▸ h).2
/-- what an iterator J walks: the typed items as, one after another, in every heap that goes on from I1 -/
structure WalkI {α : Type} [Py α] (g : Gb) (B : Bs) (J : It) (as : List α) (I1 : Hp) : Prop where
  go : ∀ i a I2 H2, as[i]? = some a → Same I1 I2 → Same I2 H2 → SW B.H H2 → J.go i H2
  yl : ∀ i a I2 H2 x H', as[i]? = some a → Same I1 I2 → Same I2 H2 → SW B.H H2 → J.yld i H2 x H' → ∃ I', Ext I2 H2 I' H' ∧ (Py.r g a).p I' x
  st : ∀ I2 H2, Same I1 I2 → Same I2 H2 → SW B.H H2 → J.stop as.length H2
  len : as.length ≤ sizeLine
def rdI {α : Type} [Py α] (g : Gb) (B : Bs) (S : SL) (as : List α) : TI := fun σ H R => ∃ I, Hold g B S σ I H ∧ ∀ (J : It) I' H', Ext I H I' H' → WalkI g B J as I' → R J H'
structure MI {α : Type} [Py α] (X : Cx) (g : Gb) (B : Bs) (S : SL) (tg e : Expr) (m : Option (List α)) : Prop where
  run : ∀ as, m = some as → PI X tg e (rdI g B S as)
theorem pi_imp {X : Cx} {tg e : Expr} {t t' : TI} (h : PI X tg e t) (f : ∀ σ H R, t' σ H R → t σ H R) : PI X tg e t' := ⟨fun pins s σ H R I hw => h.run pins s σ H R I (f σ H R hw)⟩
theorem walk_list {α : Type} [Py α] {g : Gb} {B : Bs} {as : List α} {a : Addr} {vs : List V} {I1 : Hp} (hL : SqL g.K I1 a vs ∨ SqL g.K B.H a vs) (hR : (rl g as).p I1 vs) : WalkI g B (Itl g.K a) as I1 where
  go := fun i x I2 H2 e s1 s2 s3 => by
    obtain ⟨v, e2, _⟩ := paired_get hR.2 e
    exact ⟨vs, v, hL.elim (fun z => s2.seq (s1.seq z)) fun z => s3.seq z, e2⟩
  yl := fun i x I2 H2 v H' e s1 s2 s3 y => by
    obtain ⟨u, e2, q⟩ := paired_get hR.2 e
    obtain ⟨rfl, y⟩ := y
    have e3 := y vs (hL.elim (fun z => s2.seq (s1.seq z)) fun z => s3.seq z)
    rw [e2] at e3
    cases e3
    exact ⟨I2, Ext.refl s2, (Py.r g x).mono s1 q⟩
  st := fun I2 H2 s1 s2 s3 => ⟨vs, hL.elim (fun z => s2.seq (s1.seq z)) fun z => s3.seq z, Nat.le_of_eq (rl_len hR)⟩
  len := hR.1
theorem walk_rng {g : Gb} {B : Bs} {lo : Int} {n : Nat} {I1 : Hp} (hn : n ≤ sizeLine) : WalkI g B (Itr lo n) (rng lo n) I1 where
  go := fun i x I2 H2 e _ _ _ => by
    have := (List.getElem?_eq_some_iff.mp e).1
    rw [rng_len] at this
    exact this
  yl := fun i x I2 H2 v H' e s1 s2 s3 y => by
    have hi := (List.getElem?_eq_some_iff.mp e).1
    rw [rng_len] at hi
    rw [rng_get hi] at e
    cases e
    obtain ⟨rfl, rfl⟩ := y
    exact ⟨I2, Ext.refl s2, rfl⟩
  st := fun I2 H2 _ _ _ => by
    rw [rng_len]
    exact Nat.le_refl _
  len := by
    rw [rng_len]
    exact hn
section
variable {X : Cx} {g : Gb} {B : Bs} {J : Hp} {S : SL} {e e1 e2 e3 tg : Expr} {es : List Expr} {pos pos' p : Pos} {o α' β γ ρ : Type} {K : KT o} {rest body : List Stmt} {α : Type} [Py α]
theorem mi_rng1 {m : Option Int} (hm : X.mg "range" = none) (h : ME X g B S e m (KI g)) (hg : Gl X "range" := by rfl) (hs : starEach [e] X.env = [(false, eval e X.env)] := by rfl) : MI X g B S tg (.Call (.Name "range" p) [e] [] pos) (m >>= fun n => rng1O n) := by
  refine ⟨fun as q => ?_⟩
  obtain ⟨n, q1, q2⟩ := bind_some q
  unfold rng1O at q2
  by_cases hn : rngOk 0 n = true
  · rw [if_pos hn] at q2
    cases q2
    have hb := rngOk_1 hn
    have hz := rngOk_2 hn
    refine pi_imp (pi_range1 hg hm (pa_cons (h.run n q1) pa_nil hs) hs) fun σ H R ⟨I, hh, k⟩ => ⟨I, hh, fun v I' H' x hv => ⟨n, by cases hv; rfl, hb.2.2.1, hb.2.2.2, k _ I' H' x (walk_rng (by rw [Int.sub_zero] at hz; exact hz))⟩⟩
  · rw [if_neg hn] at q2
    cases q2
theorem wipe_get : ∀ (vs : List Nat) (σ : L2.St) (j : Nat), (wipe σ vs)[j]? = if j ∈ vs ∧ j < σ.length then some none else σ[j]?
  | [], σ, j => by rw [if_neg (by simp)]; rfl
  | v :: vs, σ, j => by
    show ((wipe σ vs).set v none)[j]? = _
    rw [List.getElem?_set, wipe_get vs σ j, wipe_length]
    by_cases hv : v = j
    · subst hv
      rw [if_pos rfl]
      by_cases hl : v < σ.length
      · rw [if_pos hl, if_pos ⟨List.mem_cons_self, hl⟩]
      · rw [if_neg hl, if_neg (fun z => hl z.2), List.getElem?_eq_none_iff.mpr (by omega)]
    · rw [if_neg hv]
      by_cases hj : j ∈ vs ∧ j < σ.length
      · rw [if_pos hj, if_pos ⟨List.mem_cons_of_mem _ hj.1, hj.2⟩]
      · rw [if_neg hj, if_neg (fun z => hj ⟨(List.mem_cons.mp z.1).resolve_left (fun q => hv q.symm), z.2⟩)]
theorem wipe_set {σ : L2.St} {i : Nat} {x : Option V} {vs : List Nat} (h : i ∈ vs) : wipe (σ.set i x) vs = wipe σ vs := by
  apply List.ext_getElem?
  intro j
  rw [wipe_get, wipe_get, List.length_set]
  by_cases hj : j ∈ vs ∧ j < σ.length
  · rw [if_pos hj, if_pos hj]
  · rw [if_neg hj, if_neg hj]
    by_cases hij : i = j
    · subst hij
      have hl : ¬ i < σ.length := fun z => hj ⟨h, z⟩
      rw [List.getElem?_eq_none_iff.mpr (by rw [List.length_set]; omega), List.getElem?_eq_none_iff.mpr (by omega)]
    · rw [List.getElem?_set_ne hij]
theorem wipe_wipe {σ : L2.St} {vs : List Nat} : wipe (wipe σ vs) vs = wipe σ vs := by
  apply List.ext_getElem?
  intro j
  rw [wipe_get vs (wipe σ vs) j, wipe_length, wipe_get vs σ j]
  by_cases hj : j ∈ vs ∧ j < σ.length
  · rw [if_pos hj, if_pos hj]
  · rw [if_neg hj]
/-- the target of a for, a typed item put into its slots ts -/
structure MG {α : Type} [Py α] (X : Cx) (g : Gb) (tg : Expr) (gt : TG) (put : α → SL → SL) (ts : List Nat) : Prop where
  pg : PG X tg gt
  ok : ∀ (B : Bs) (S : SL) (a : α) (v : V) σ I H Q, Hold g B S σ I H → (Py.r g a).p I v → (∀ σ', Hold g B (put a S) σ' I H → (∀ vs, (∀ t ∈ ts, t ∈ vs) → wipe σ' vs = wipe σ vs) → Q σ' H) → gt v σ H Q
theorem hold_put {a : α} {v : V} {i : Nat} {σ : L2.St} {I H : Hp} (h : Hold g B S σ I H) (hv : (Py.r g a).p I v) : Hold g B (S.set i (some (.im (Py.r g a)))) (σ.set i (some v)) I H := h.put (Ext.refl h.sub) rfl hv
theorem MG.oks {gt : TG} {put : α → SL → SL} {ts : List Nat} (h : MG X g tg gt put ts) {a : α} {v : V} {σ : L2.St} {I H : Hp} {Q : L2.St → Hp → Prop} (ok : Ok g B J S σ I H) (hv : (Py.r g a).p I v) (k : ∀ σ', Ok g B J (put a S) σ' I H → Q σ' H) : gt v σ H Q :=
  h.ok B S a v σ I H Q ok.h hv fun σ' h' _ => k σ' ⟨ok.x, ok.j, h'⟩
theorem mg_name (i : Nat) {x : Str} (hN : X.N.Nodup) (hi : X.N[i]? = some x := by rfl) (hx : Loc X.env.scope x := by first | exact Or.inl rfl | exact Or.inr rfl) (hf : X.fn x = true ∨ X.env.scope.names.lookup x = some .local := by first | exact .inl rfl | exact .inr rfl) :
    MG (α := α) X g (.Name x pos) (gName i) (fun a S => S.set i (some (.im (Py.r g a)))) [i] :=
  ⟨pg_name hN hi hx hf, fun B S a v σ I H Q h hv k => k _ (hold_put h hv) fun vs ht => wipe_set (ht i List.mem_cons_self)⟩
/-- a turn's reading, at all states and items at once -/
def turnN {α β : Type} [Py α] (g : Gb) (B : Bs) (put : α → SL → SL) (S' : β → SL) (fb : β → α → Option β) : TS := fun D σ H => ∃ J I s a s', Ok g B J (put a (S' s)) σ I H ∧ fb s a = some s' ∧ ∀ σ I H, Ok g B J (S' s') σ I H → D.nx σ H
def turnC {α γ ρ : Type} [Py α] (g : Gb) (B : Bs) (put : α → SL → SL) (S' : γ → SL) (k : ρ → RK) (fb : γ → α → Option (Ctl γ γ ρ)) : TS := fun D σ H => ∃ J I s a c, Ok g B J (put a (S' s)) σ I H ∧ fb s a = some c ∧ Kc g B J S' S' k c D
/-- for over a walk: Pv by the turn -/
theorem for_walk {J : It} {as : List α} {I1 : Hp} {gt : TG} {tb : TS} {D : Ends} {σ : L2.St} {H : Hp} (W : WalkI g B J as I1) (Pv : Nat → L2.St → Hp → Prop) (h0 : Pv 0 σ H)
    (hl : ∀ i σ H, Pv i σ H → ∃ I2, Same I1 I2 ∧ Same I2 H ∧ SW B.H H)
    (hs : ∀ i a σ H x H', as[i]? = some a → Pv i σ H → J.yld i H x H' → gt x σ H' fun σ2 H2 => tb { D with nx := Pv (i + 1), ct := Pv (i + 1), bk := D.nx } σ2 H2) (hd : ∀ σ H, Pv as.length σ H → D.nx σ H) :
    ∃ W : Nat → Nat → L2.St → Hp → Prop, (∃ m, W 0 m σ H) ∧ ∀ i m σ H, W i m σ H →
      (J.stop i H ∧ D.nx σ H) ∨ (J.go i H ∧ ∃ N : L2.St → Hp → Prop, (∀ σ' H', N σ' H' → ∃ m', m' < m ∧ W (i + 1) m' σ' H') ∧ ∀ x H', J.yld i H x H' → gt x σ H' fun σ2 H2 => tb { D with nx := N, ct := N, bk := D.nx } σ2 H2) := by
  refine ⟨fun i m σ H => m = as.length - i ∧ i ≤ as.length ∧ Pv i σ H, ⟨as.length, by simp, Nat.zero_le _, h0⟩, ?_⟩
  rintro i m σ H ⟨rfl, hi, p⟩
  obtain ⟨I2, s1, s2, s3⟩ := hl i σ H p
  by_cases hlt : i < as.length
  · have e : as[i]? = some as[i] := List.getElem?_eq_getElem hlt
    exact .inr ⟨W.go i _ I2 H e s1 s2 s3, Pv (i + 1), fun σ' H' p' => ⟨as.length - (i + 1), by omega, rfl, hlt, p'⟩, fun x H' y => hs i _ σ H x H' e p y⟩
  · have e : i = as.length := by omega
    subst e
    exact .inl ⟨W.st I2 H s1 s2 s3, hd σ H p⟩
theorem drop_at {as : List α} {i : Nat} {it : α} (hit : as[i]? = some it) : as.drop i = it :: as.drop (i + 1) := by
  have hlt : i < as.length := (List.getElem?_eq_some_iff.mp hit).1
  rw [List.drop_eq_getElem_cons hlt]
  rw [List.getElem?_eq_getElem hlt] at hit
  rw [Option.some.inj hit]
/-- for: every turn goes on -/
theorem mb_for {m : Option (List α)} {put : α → SL → SL} {S' : β → SL} {s0 : β} {fb : β → α → Option β} {f : β → Option o} (hp : PassesOwn (model X.prog X.w) X.A X.env X.xe) (hi : MI X g B S tg e m) {gt : TG} {ts : List Nat} (hG : MG X g tg gt put ts) (w : Wk S (S' s0))
    (hb : ∀ J s a, MB X g B J (put a (S' s)) body (fb s a) (Kn g B J S')) (hr : ∀ s, MB X g B J (S' s) rest (f s) K) (hc : X.calm = true := by rfl) (hs : ∀ x, foldedSetIterable e X.env x = pure x := by intro _; rfl) :
    MB X g B J S (.For tg e body [] pos :: rest) (m >>= fun as => loopN fb as s0 >>= f) K := by
  refine ⟨fun r q => ?_⟩
  obtain ⟨as, q1, q⟩ := bind_some q
  obtain ⟨s1, q2, q3⟩ := bind_some q
  have hg1 := hG.pg
  have hbody : PSs X body (turnN g B put S' fb) :=
    ⟨fun pins st σ H D inv ⟨J, I, s, a, s', ok, e1, k⟩ => ((hb J s a).run s' e1).run pins st σ H D inv ⟨I, ok, k⟩⟩
  refine pss_imp (pss_cons (ps_for hp hc (hi.run as q1) hg1 hbody hs) ((hr s1).run r q3)) fun D σ H ⟨I, ok, kk⟩ => ?_
  refine ⟨I, ok.h, fun J1 I1 H1 x1 hW => ?_⟩
  have F := for_walk (gt := gt) (tb := turnN g B put S' fb) (D := { D with nx := fun σ H => ∃ I, Ok g B J (S' s1) σ I H ∧ K r D }) (σ := σ) (H := H1) hW
    (fun i σ H => ∃ s I2, loopN fb (as.drop i) s = some s1 ∧ Same I1 I2 ∧ Ok g B J (S' s) σ I2 H) ⟨s0, I1, q2, Same.refl _, (ok.ext x1).wk w⟩ (fun i σ H ⟨s, I2, _, s2, ok2⟩ => ⟨I2, s2, ok2.h.sub, ok2.h.base⟩) (fun i it σ H x H' hit ⟨s, I2, hl, s2, ok2⟩ hy => ?_) (fun σ H ⟨s, I2, hl, s2, ok2⟩ => ?_)
  · exact F
  · obtain ⟨I3, x3, hv⟩ := hW.yl i it I2 H x H' hit s2 ok2.h.sub ok2.h.base hy
    rw [drop_at hit] at hl
    obtain ⟨s', e1, e2⟩ := bind_some (show (fb s it >>= fun s' => loopN fb (as.drop (i + 1)) s') = some s1 from hl)
    have ok3 : Ok g B I3 (S' s) σ I3 H' := ⟨ok2.x.trans x3, Same.refl _, ok2.h.ext x3⟩
    exact hG.oks ok3 hv fun σ' ok4 => ⟨I3, I3, s, it, s', ok4, e1, fun σ5 I5 H5 ok5 => ⟨s', I5, e2, (s2.trans x3.i).trans ok5.j, ⟨ok5.x, (ok2.j.trans x3.i).trans ok5.j, ok5.h⟩⟩⟩
  · rw [List.drop_of_length_le (Nat.le_refl _)] at hl
    cases hl
    exact ⟨I2, ok2, kk⟩
/-- a way out of the loop, as the block goes on from it -/
structure KL {γ ρ o : Type} (g : Gb) (B : Bs) (K : KT o) (k : ρ → RK) (inj : ρ → o) : Prop where
  rt : ∀ r D, K (inj r) D → ∀ v I' H', Ext B.I B.H I' H' → RK.holds g (k r) B.H v I' H' → D.rt v H'
/-- for: a turn may leave, go on ahead of its end, break -/
theorem mb_forC {m : Option (List α)} {put : α → SL → SL} {S' : γ → SL} {s0 : γ} {k : ρ → RK} {fb : γ → α → Option (Ctl γ γ ρ)} {f : Ctl γ Empty ρ → Option o} {f0 : γ → Option o} {inj : ρ → o} (kr : KR g B K inj k) (hp : PassesOwn (model X.prog X.w) X.A X.env X.xe) (hi : MI X g B S tg e m) {gt : TG} {ts : List Nat} (hG : MG X g tg gt put ts) (w : Wk S (S' s0))
    (hb : ∀ J s a, MB X g B J (put a (S' s)) body (fb s a) (Kc g B J S' S' k)) (hr : ∀ s, MB X g B J (S' s) rest (f0 s) K) (hf : ∀ s, f (.nx s) = f0 s) (hf2 : ∀ r, f (.rt r) = some (inj r)) (hc : X.calm = true := by rfl) (hs : ∀ x, foldedSetIterable e X.env x = pure x := by intro _; rfl) :
    MB X g B J S (.For tg e body [] pos :: rest) (m >>= fun as => loopC fb as s0 >>= f) K := by
  refine ⟨fun r q => ?_⟩
  obtain ⟨as, q1, q⟩ := bind_some q
  obtain ⟨c1, q2, q3⟩ := bind_some q
  have hg1 := hG.pg
  have hbody : PSs X body (turnC g B put S' k fb) :=
    ⟨fun pins st σ H D inv ⟨J, I, s, a, c, ok, e1, k⟩ => ((hb J s a).run c e1).run pins st σ H D inv ⟨I, ok, k⟩⟩
  obtain ⟨u, hu, hk⟩ : ∃ u : TS, PSs X rest u ∧ ∀ D, K r D → (∀ s1, c1 = .nx s1 → ∀ σ I H, Ok g B J (S' s1) σ I H → u D σ H) ∧ (∀ r1, c1 = .rt r1 → ∀ v I' H', Ext B.I B.H I' H' → RK.holds g (k r1) B.H v I' H' → D.rt v H') := by
    cases c1 with
    | nx s1 =>
      rw [hf] at q3
      exact ⟨_, (hr s1).run r q3, fun D kk => ⟨fun s2 e2 σ I H ok => (by cases e2; exact ⟨I, ok, kk⟩), fun r1 e2 => (by cases e2)⟩⟩
    | rt r1 =>
      rw [hf2] at q3
      cases q3
      exact ⟨_, pss_never, fun D kk => ⟨fun s2 e2 => (by cases e2), fun r2 e2 => (by cases e2; exact kr r1 D kk)⟩⟩
    | ct c => exact c.elim
    | bk c => exact c.elim
  refine pss_imp (pss_cons (ps_for hp hc (hi.run as q1) hg1 hbody hs) hu) fun D σ H ⟨I, ok, kk⟩ => ?_
  obtain ⟨hk1, hk2⟩ := hk D kk
  refine ⟨I, ok.h, fun J1 I1 H1 x1 hW => ?_⟩
  have F := for_walk (gt := gt) (tb := turnC g B put S' k fb) (D := { D with nx := u D }) (σ := σ) (H := H1) hW
    (fun i σ H => ∃ s I2, loopC fb (as.drop i) s = some c1 ∧ Same I1 I2 ∧ Ok g B J (S' s) σ I2 H) ⟨s0, I1, q2, Same.refl _, (ok.ext x1).wk w⟩ (fun i σ H ⟨s, I2, _, s2, ok2⟩ => ⟨I2, s2, ok2.h.sub, ok2.h.base⟩) (fun i it σ H x H' hit ⟨s, I2, hl, s2, ok2⟩ hy => ?_) (fun σ H ⟨s, I2, hl, s2, ok2⟩ => ?_)
  · exact F
  · obtain ⟨I3, x3, hv⟩ := hW.yl i it I2 H x H' hit s2 ok2.h.sub ok2.h.base hy
    rw [drop_at hit] at hl
    obtain ⟨c', e1, e2⟩ := bind_some hl
    have ok3 : Ok g B I3 (S' s) σ I3 H' := ⟨ok2.x.trans x3, Same.refl _, ok2.h.ext x3⟩
    refine hG.oks ok3 hv fun σ' ok4 => ⟨I3, I3, s, it, c', ok4, e1, ?_⟩
    cases c' with
    | nx s' => exact fun σ5 I5 H5 ok5 => ⟨s', I5, e2, (s2.trans x3.i).trans ok5.j, ⟨ok5.x, (ok2.j.trans x3.i).trans ok5.j, ok5.h⟩⟩
    | ct s' => exact fun σ5 I5 H5 ok5 => ⟨s', I5, e2, (s2.trans x3.i).trans ok5.j, ⟨ok5.x, (ok2.j.trans x3.i).trans ok5.j, ok5.h⟩⟩
    | rt r1 =>
      cases e2
      exact hk2 r1 rfl
    | bk s' =>
      cases e2
      exact fun σ5 I5 H5 ok5 => hk1 s' rfl σ5 I5 H5 ⟨ok5.x, (ok2.j.trans x3.i).trans ok5.j, ok5.h⟩
  · rw [List.drop_of_length_le (Nat.le_refl _)] at hl
    cases hl
    exact hk1 s rfl σ I2 H ok2
/-! while -/
def whileC {γ ρ : Type} (c : γ → Option Bool) (f : γ → Option (Ctl γ γ ρ)) : Nat → γ → Option (Ctl γ Empty ρ)
  | 0, _ => none
  | n + 1, s => c s >>= fun b => if b = true then (f s >>= fun c' => match c' with
    | .nx s' => whileC c f n s'
    | .ct s' => whileC c f n s'
    | .rt r => some (.rt r)
    | .bk s' => some (.nx s')) else some (.nx s)
def wtest {γ : Type} (g : Gb) (B : Bs) (S' : γ → SL) (cm : γ → Option Bool) : TT := fun σ H Q => ∃ s I b, Hold g B (S' s) σ I H ∧ cm s = some b ∧ ∀ I' H', Ext I H I' H' → Q b H'
def wturn {γ ρ : Type} (g : Gb) (B : Bs) (J : Hp) (S' : γ → SL) (k : ρ → RK) (fb : γ → Option (Ctl γ γ ρ)) : TS := fun D σ H => ∃ I s c, Ok g B J (S' s) σ I H ∧ fb s = some c ∧ Kc g B J S' S' k c D
end
end T
set_option Elab.async false
set_option linter.all false
set_option maxRecDepth 100000
namespace T
variable [TabsC]
open PySem PySem.Spec PyProof.Rows L2

/-! a def -/
def S0 (N : List Str) (ks : List RK) : SL := ks.map some ++ List.replicate (N.length - ks.length) none
def RK.argy : RK → Bool
  | .im _ => true
  | .bw _ => true
  | _ => false
theorem hold_start {g : Gb} {N : List Str} {ks : List RK} {vs : List V} {I H : Hp} (hl : ks.length ≤ N.length) (s : Same I H) (tb : TbI I H) (hA : Args g ks vs I H) (hk : ks.all RK.argy = true) : Ok g ⟨I, H⟩ I (S0 N ks) (L2.start N vs) I H := by
  have hlen : ks.length = vs.length := Paired.length hA
  have arg : ∀ {i : Nat} {k : RK}, (S0 N ks)[i]? = some (some k) → ks[i]? = some k := fun {i k} e => by
    unfold S0 at e
    by_cases hi : i < ks.length
    · rw [List.getElem?_append_left (by rw [List.length_map]; exact hi), List.getElem?_map] at e
      cases q : ks[i]? with
      | none => rw [q] at e; cases e
      | some k' => rw [q] at e; cases e; rfl
    · rw [List.getElem?_append_right (by rw [List.length_map]; omega)] at e
      obtain ⟨h1, h2⟩ := List.getElem?_eq_some_iff.mp e
      rw [List.getElem_replicate] at h2
      cases h2
  refine ⟨Ext.refl s, Same.refl _, fun _ _ => none, ?_, s, SW.refl _, .of tb, fun i k e => ?_, fun i a o z => (by cases z), fun i j a z => absurd rfl z⟩
  · unfold S0 L2.start
    simp only [List.length_append, List.length_map, List.length_replicate]
    omega
  · obtain ⟨v, e2, q⟩ := paired_get hA (arg e)
    refine ⟨v, ?_, ?_⟩
    · unfold L2.start
      rw [List.getElem?_append_left (by rw [List.length_map]; exact (List.getElem?_eq_some_iff.mp e2).1), List.getElem?_map, e2]
      rfl
    · have ha := List.all_eq_true.mp hk _ (List.mem_of_getElem? (arg e))
      cases k with
      | im p => exact q
      | bw p => exact q
      | fr p => cases ha
      | rd p => cases ha
      | ow p => cases ha
section
variable {P : Program} {w : World} {K : PySem.W.Frag} {mg : Str → Option Value} {base : Heap} {ι β : Type} {args : ι → List RK} {M : ι → Option β} {kd : β → RK}
end

section
variable {X : Cx} {g : Gb} {B : Bs} {J : Hp} {S : SL} {e e1 e2 e3 tg : Expr} {es : List Expr} {pos pos' p : Pos} {o α' β' γ ρ : Type} {K : KT o} {rest body : List Stmt} {α β : Type} [Py α] [Py β] {m : Option (List α)} {k : List α → RK}
/-! built-ins -/
theorem me_len (hm : X.mg "len" = none) (h : ME X g B S e m k) (r : LR g k := by first | exact lr_im | exact lr_fr | exact lr_rd) (hg : Gl X "len" := by rfl) (hK : X.K = g.K := by rfl) (he : starEach [e] X.env = (false, eval e X.env) :: starEach [] X.env := by rfl) (hpl : (backTo pos (starEach [] X.env)).any (·.1) = false := by rfl) :
    ME X g B S (.Call (.Name "len" p) [e] [] pos) (m >>= fun xs => some (xs.length : Int)) (KI g) := by
  refine ⟨fun n q => ?_⟩
  obtain ⟨xs, q1, q2⟩ := bind_some q
  cases q2
  refine pe_imp (pe_callB call_len_seq hg hm PySem.boot_len (pa_cons (h.run xs q1) pa_nil he) (he := he) (hpl := hpl)) fun σ H Q ⟨I, hh, kk⟩ => ⟨I, hh, fun v I' H' x hv => ?_⟩
  obtain ⟨l, vs, rfl, h1, h2⟩ := r xs _ _ _ _ x.s hv
  refine ⟨l, vs, rfl, .inl (by rw [hK]; exact h1), ?_⟩
  rw [rl_len h2]
  exact kk _ I' H' x rfl
theorem me_sum {m : Option (List Int)} {k : List Int → RK} (hm : X.mg "sum" = none) (h : ME X g B S e m k) (r : LR g k := by first | exact lr_im | exact lr_fr | exact lr_rd) (hg : Gl X "sum" := by rfl) (hK : X.K = g.K := by rfl) (hc : X.calm = true := by rfl) (he : starEach [e] X.env = (false, eval e X.env) :: starEach [] X.env := by rfl) (hpl : (backTo pos (starEach [] X.env)).any (·.1) = false := by rfl) :
    ME X g B S (.Call (.Name "sum" p) [e] [] pos) (m >>= fun xs => some xs.sum) (KI g) := by
  refine ⟨fun n q => ?_⟩
  obtain ⟨xs, q1, q2⟩ := bind_some q
  cases q2
  refine pe_imp (pe_callB (cr_sum hc) hg hm (by decide +kernel) (pa_cons (h.run xs q1) pa_nil he) (he := he) (hpl := hpl)) fun σ H Q ⟨I, hh, kk⟩ => ⟨I, hh, fun v I' H' x hv => ?_⟩
  obtain ⟨l, vs, rfl, h1, h2⟩ := r xs _ _ _ _ x.s hv
  have e1 := vals_ints h2.2
  subst e1
  exact ⟨l, xs, rfl, by rw [hK]; exact h1, kk _ I' H' x rfl⟩
theorem me_call2B {id : String} {x : Str} {rr : List V → Hp → VK → Prop} {γ' : Type} {m1 : Option α'} {m2 : Option γ'} {k1 : α' → RK} {k2 : γ' → RK} {k3 : β' → RK} {fm : α' → γ' → Option β'} (hm : X.mg x = none) (hr : CallR X (.builtin id) rr) (hv : bootBuiltins x = some (.builtin id)) (h : ME X g B S e m1 k1) (h2 : ME X g B S e2 m2 k2)
    (hq : ∀ a c b, fm a c = some b → ∀ v w H0 H1 I H Q, Same I H → RK.holds g (k1 a) H0 v I H → RK.holds g (k2 c) H1 w I H → (∀ u I' H', Ext I H I' H' → RK.holds g (k3 b) H u I' H' → Q u H') → rr [v, w] H Q) (hb : ∀ c, (k3 c).isB = false := by intro _; rfl)
    (hg : Gl X x := by rfl) (hn : x ≠ "__name__" := by decide) (hdb : (x == ("__debug__" : Str)) = false := by decide) (he : starEach [e, e2] X.env = (false, eval e X.env) :: starEach [e2] X.env := by rfl) (he2 : starEach [e2] X.env = (false, eval e2 X.env) :: starEach [] X.env := by rfl) (hpl : (backTo pos (starEach [e2] X.env)).any (·.1) = false := by rfl) :
    ME X g B S (.Call (.Name x p) [e, e2] [] pos) (m1 >>= fun a => m2 >>= fun c => fm a c) k3 := by
  refine ⟨fun n q => ?_⟩
  obtain ⟨a, q1, q⟩ := bind_some q
  obtain ⟨c, q2, q3⟩ := bind_some q
  refine pe_imp (pe_callB hr hg hm hv (pa_cons (h.run a q1) (pa_cons (h2.run c q2) pa_nil he2) he) hn hdb he hpl) fun σ H Q ⟨I, hh, kk⟩ => ⟨I, hh, fun v I' H' x hv => ⟨I', hh.ext x, fun w I2 H2 x2 hw => ?_⟩⟩
  exact hq a c n q3 v w H H' I2 H2 Q x2.s (RK.ext hv x2 hh.tb.has) hw fun u I3 H3 x3 hu => kk u I3 H3 ((x.trans x2).trans x3) (RK.back (hb n) (x.trans x2).h hu)
theorem me_min {m1 m2 : Option Int} (hm : X.mg "min" = none) (h : ME X g B S e m1 (KI g)) (h2 : ME X g B S e2 m2 (KI g)) (hc : X.calm = true := by rfl) (hg : Gl X "min" := by rfl) (he : starEach [e, e2] X.env = (false, eval e X.env) :: starEach [e2] X.env := by rfl) (he2 : starEach [e2] X.env = (false, eval e2 X.env) :: starEach [] X.env := by rfl) (hpl : (backTo pos (starEach [e2] X.env)).any (·.1) = false := by rfl) :
    ME X g B S (.Call (.Name "min" p) [e, e2] [] pos) (m1 >>= fun a => m2 >>= fun c => some (min a c)) (KI g) :=
  me_call2B hm (call_min2 hc) (by decide +kernel) h h2 (fun a c b q v w H0 H1 I H Q s hv hw k => by
    cases q
    refine ⟨a, c, by cases hv; cases hw; rfl, ?_⟩
    have e : (if c < a then c else a) = min a c := by rw [Int.min_def]; split <;> split <;> omega
    rw [e]
    exact k _ _ _ (Ext.refl s) rfl) (hg := hg) (he := he) (he2 := he2) (hpl := hpl)
theorem me_callTy1 {Ty : String} {x : Str} {rr : List V → Hp → VK → Prop} {m1 : Option α'} {k1 : α' → RK} {k2 : β' → RK} {fm : α' → Option β'} (hm : X.mg x = none) (hr : CallR X (.type Ty) rr) (hv : bootBuiltins x = some (.type Ty)) (h : ME X g B S e m1 k1)
    (hq : ∀ a b, fm a = some b → ∀ v H0 I H Q, Same I H → RK.holds g (k1 a) H0 v I H → (∀ u I' H', Ext I H I' H' → RK.holds g (k2 b) H u I' H' → Q u H') → rr [v] H Q) (hb : ∀ c, (k2 c).isB = false := by intro _; rfl)
    (hg : Gl X x := by rfl) (hn : x ≠ "__name__" := by decide) (hdb : (x == ("__debug__" : Str)) = false := by decide) (he : starEach [e] X.env = (false, eval e X.env) :: starEach [] X.env := by rfl) (hpl : (backTo pos (starEach [] X.env)).any (·.1) = false := by rfl) :
    ME X g B S (.Call (.Name x p) [e] [] pos) (m1 >>= fm) k2 := by
  refine ⟨fun n q => ?_⟩
  obtain ⟨a, q1, q2⟩ := bind_some q
  refine pe_imp (pe_callTy hr hg hm hv (pa_cons (h.run a q1) pa_nil he) hn hdb he hpl) fun σ H Q ⟨I, hh, kk⟩ => ⟨I, hh, fun v I' H' x hv => ?_⟩
  exact hq a n q2 v H I' H' Q x.s hv fun u I2 H2 x2 hu => kk u I2 H2 (x.trans x2) (RK.back (hb n) x.h hu)
/-- int(a truth) -/
def b2z (b : Bool) : Int := if b = true then 1 else 0
theorem me_intB {m1 : Option Bool} (hm : X.mg "int" = none) (h : ME X g B S e m1 (KI g)) (hg : Gl X "int" := by rfl) (he : starEach [e] X.env = (false, eval e X.env) :: starEach [] X.env := by rfl) (hpl : (backTo pos (starEach [] X.env)).any (·.1) = false := by rfl) :
    ME X g B S (.Call (.Name "int" p) [e] [] pos) (m1 >>= fun a => some (b2z a)) (KI g) :=
  me_callTy1 hm call_int1 (by decide +kernel) h (fun a b q v H0 I H Q s hv k => by
    cases q
    exact .inr ⟨a, by cases hv; rfl, k _ _ _ (Ext.refl s) rfl⟩) (hg := hg) (he := he) (hpl := hpl)
/-- a list laid anew -/
theorem new_fr {as : List α} {vs : List V} {I H : Hp} {Q : VK} (s : Same I H) (h : (rl g as).p I vs) (k : ∀ u I' H', Ext I H I' H' → RK.holds g (.fr (rl g as)) H u I' H' → Q u H') {l : Addr} (hl : H l = none) : Q (.ref l) (upd H l (.lst vs)) := by
  have hI : I l = none := s.free hl
  refine k (.ref l) I _ ⟨Same.refl _, SW.of (same_new hl), s.trans (same_new hl), fun _ _ h => h⟩ ⟨l, vs, rfl, hl, hI, upd_same, h⟩
theorem me_list (hm : X.mg "list" = none) (h : ME X g B S e m k) (r : LR g k := by first | exact lr_im | exact lr_fr | exact lr_rd) (hg : Gl X "list" := by rfl) (hK : X.K = g.K := by rfl) (he : starEach [e] X.env = (false, eval e X.env) :: starEach [] X.env := by rfl) (hpl : (backTo pos (starEach [] X.env)).any (·.1) = false := by rfl) :
    ME X g B S (.Call (.Name "list" p) [e] [] pos) (m >>= fun xs => some xs) (fun xs => .fr (rl g xs)) :=
  me_callTy1 hm call_list_of (by decide +kernel) h (fun a b q v H0 I H Q s hv kk => by
    cases q
    obtain ⟨l, vs, rfl, h1, h2⟩ := r a _ _ _ _ s hv
    exact ⟨l, vs, rfl, .inl (by rw [hK]; exact h1), fun p hp => new_fr s h2 kk hp⟩) (hg := hg) (he := he) (hpl := hpl)

/-! items -/
theorem me_ix {m2 : Option Int} (h1 : ME X g B S e1 m k) (h2 : ME X g B S e2 m2 (KI g)) (r : LR g k := by first | exact lr_im | exact lr_fr | exact lr_rd) (hK : X.K = g.K := by rfl) (hs : PlainIx e2 := by exact fun _ _ => rfl) : ME X g B S (.Subscript e1 e2 pos) (m >>= fun xs => m2 >>= fun i => atO xs i) (KI g) := by
  refine ⟨fun a q => ?_⟩
  obtain ⟨xs, q1, q⟩ := bind_some q
  obtain ⟨i, q2, q3⟩ := bind_some q
  rw [atO_eq] at q3
  refine pe_imp (pe_ix ix_list (h1.run xs q1) (h2.run i q2) hs) fun σ H Q ⟨I, hh, kk⟩ => ⟨I, hh, fun v I' H' x hv => ⟨I', hh.ext x, fun w I2 H2 x2 hw => ?_⟩⟩
  obtain ⟨l, vs, rfl, h3, h4⟩ := r xs _ _ _ _ x2.s (RK.ext hv x2 hh.tb.has)
  obtain ⟨u, hu, hq⟩ := paired_at h4.2 q3
  exact ⟨l, vs, i, u, rfl, hw, by rw [hK]; exact h3, hu, kk u I2 H2 (x.trans x2) hq⟩
/-- an item of a tuple at a written place -/
theorem me_tix {γ' : Type} [Py γ'] {m : Option γ'} (n : Nat) {j : Nat} {f : γ' → α} (h1 : ME X g B S e1 m (KI g)) (ht : ∀ (t : γ') I v, (Py.r g t).p I v → ∃ p vs u, v = .ref p ∧ SqT g.K I p vs ∧ vs[n]? = some u ∧ (Py.r g (f t)).p I u) (hK : X.K = g.K := by rfl) :
    ME X g B S (.Subscript e1 (.Constant (.int n) j pos') pos) (m >>= fun t => some (f t)) (KI g) := by
  refine ⟨fun a q => ?_⟩
  obtain ⟨t, q1, q⟩ := bind_some q
  cases q
  refine pe_imp (pe_ix ix_tup (h1.run t q1) pe_int (fun _ _ => rfl)) fun σ H Q ⟨I, hh, kk⟩ => ⟨I, hh, fun v I' H' x hv => ?_⟩
  obtain ⟨p, vs, u, rfl, h3, h4, h5⟩ := ht t _ _ hv
  exact ⟨p, vs, n, u, rfl, rfl, by rw [hK]; exact seqT x.s h3, atI_nat h4, kk u I' H' x h5⟩
end
section
variable {g : Gb} {α β γ δ : Type} [Py α] [Py β] [Py γ] [Py δ]
theorem t4_0 (t : T4 α β γ δ) (I v) (h : (Py.r g t).p I v) : ∃ p vs u, v = V.ref p ∧ SqT g.K I p vs ∧ vs[0]? = some u ∧ (Py.r g t.x0).p I u := by
  obtain ⟨p, a, b, c, d, rfl, h0, h1, h2, h3, h4⟩ := h; exact ⟨p, _, a, rfl, h0, rfl, h1⟩
theorem t4_1 (t : T4 α β γ δ) (I v) (h : (Py.r g t).p I v) : ∃ p vs u, v = V.ref p ∧ SqT g.K I p vs ∧ vs[1]? = some u ∧ (Py.r g t.x1).p I u := by
  obtain ⟨p, a, b, c, d, rfl, h0, h1, h2, h3, h4⟩ := h; exact ⟨p, _, b, rfl, h0, rfl, h2⟩
theorem t4_2 (t : T4 α β γ δ) (I v) (h : (Py.r g t).p I v) : ∃ p vs u, v = V.ref p ∧ SqT g.K I p vs ∧ vs[2]? = some u ∧ (Py.r g t.x2).p I u := by
  obtain ⟨p, a, b, c, d, rfl, h0, h1, h2, h3, h4⟩ := h; exact ⟨p, _, c, rfl, h0, rfl, h3⟩
theorem t4_3 (t : T4 α β γ δ) (I v) (h : (Py.r g t).p I v) : ∃ p vs u, v = V.ref p ∧ SqT g.K I p vs ∧ vs[3]? = some u ∧ (Py.r g t.x3).p I u := by
  obtain ⟨p, a, b, c, d, rfl, h0, h1, h2, h3, h4⟩ := h; exact ⟨p, _, d, rfl, h0, rfl, h4⟩
end
end T
set_option Elab.async false
set_option linter.all false
set_option maxRecDepth 100000
namespace T
variable [TabsC]
open PySem PySem.Spec PyProof.Rows L2

/-! displays -/
/-- the items of a display, all of one type -/
structure ML {α : Type} [Py α] (X : Cx) (g : Gb) (B : Bs) (S : SL) (es : List Expr) (m : Option (List α)) : Prop where
  run : ∀ as, m = some as → PA X es (fun σ H Q => ∃ I, Hold g B S σ I H ∧ ∀ vs I' H', Ext I H I' H' → Paired (fun a v => (Py.r g a).p I' v) as vs → Q vs H') ∧ as.length = es.length
section
variable {X : Cx} {g : Gb} {B : Bs} {J : Hp} {S : SL} {e e1 e2 e3 tg : Expr} {es : List Expr} {pos pos' p : Pos} {o α' β' γ' ρ : Type} {K : KT o} {rest body : List Stmt} {α β γ δ : Type} [Py α] [Py β] [Py γ] [Py δ] {m : Option (List α)} {k : List α → RK}
theorem ml_nil : ML X g B S [] (some ([] : List α)) := ⟨fun as q => by cases q; exact ⟨pa_imp pa_nil fun σ H Q ⟨I, hh, kk⟩ => kk [] I H (Ext.refl hh.sub) .nil, rfl⟩⟩
theorem me_lst (h : ML X g B S es m) (hz : decide (es.length ≤ 1000) = true := by decide) : ME X g B S (.List es pos) m (fun xs => .fr (rl g xs)) := by
  refine ⟨fun as q => ?_⟩
  obtain ⟨ha, hl⟩ := h.run as q
  refine pe_imp (pe_lst ha) fun σ H Q ⟨I, hh, kk⟩ => ⟨I, hh, fun vs I1 H1 x1 hp => ?_⟩
  have hz' : as.length ≤ sizeLine := by rw [hl]; exact Nat.le_trans (of_decide_eq_true hz) (by decide)
  refine ⟨by rw [← Paired.length hp]; exact hz', fun l hl => new_fr (as := as) x1.s ⟨hz', hp⟩ (fun u I2 H2 x2 hu => kk u I2 H2 (x1.trans x2) (RK.back rfl x1.h hu)) hl⟩
theorem me_t4 {e4 : Expr} {m1 : Option α} {m2 : Option β} {m3 : Option γ} {m4 : Option δ} {n : Nat} (h1 : ME X g B S e1 m1 (KI g)) (h2 : ME X g B S e2 m2 (KI g)) (h3 : ME X g B S e3 m3 (KI g)) (h4 : ME X g B S e4 m4 (KI g)) (hs : starEach [e1, e2, e3, e4] X.env = (false, eval e1 X.env) :: starEach [e2, e3, e4] X.env := by rfl) (hs2 : starEach [e2, e3, e4] X.env = (false, eval e2 X.env) :: starEach [e3, e4] X.env := by rfl) (hs3 : starEach [e3, e4] X.env = (false, eval e3 X.env) :: starEach [e4] X.env := by rfl) (hs4 : starEach [e4] X.env = (false, eval e4 X.env) :: starEach [] X.env := by rfl) :
    ME X g B S (.Tuple [e1, e2, e3, e4] n pos) (m1 >>= fun a => m2 >>= fun b => m3 >>= fun c => m4 >>= fun d => some (T4.mk a b c d)) (KI g) := by
  refine ⟨fun t q => ?_⟩
  obtain ⟨a, q1, q⟩ := bind_some q
  obtain ⟨b, q2, q⟩ := bind_some q
  obtain ⟨c, q3, q⟩ := bind_some q
  obtain ⟨d, q4, q5⟩ := bind_some q
  cases q5
  refine pe_imp (pe_tup (pa_cons (h1.run a q1) (pa_cons (h2.run b q2) (pa_cons (h3.run c q3) (pa_cons (h4.run d q4) pa_nil hs4) hs3) hs2) hs)) fun σ H Q ⟨I, hh, kk⟩ => ⟨I, hh, fun v I1 H1 x1 hv => ⟨I1, hh.ext x1, fun w I2 H2 x2 hw => ⟨I2, (hh.ext x1).ext x2, fun u I3 H3 x3 hu => ⟨I3, ((hh.ext x1).ext x2).ext x3, fun y I4 H4 x4 hy => ⟨by show 4 ≤ sizeLine; decide, fun l hl => ?_⟩⟩⟩⟩⟩
  have hI := x4.s.free hl
  refine kk _ (upd I4 l (.tup [v, w, u, y])) _ ((((x1.trans x2).trans x3).trans x4).trans ⟨same_new hI, SW.of (same_new hl), fun b ob eb => ?_, fun b n1 n2 => ?_⟩) ⟨l, v, w, u, y, rfl, SqT.of upd_same, (Py.r g a).mono (((x2.i.trans x3.i).trans x4.i).trans (same_new hI)) hv, (Py.r g b).mono ((x3.i.trans x4.i).trans (same_new hI)) hw, (Py.r g c).mono (x4.i.trans (same_new hI)) hu, (Py.r g d).mono (same_new hI) hy⟩
  · by_cases hb : b = l
    · subst hb; rw [upd_same] at eb ⊢; exact eb
    · rw [upd_ne hb] at eb ⊢; exact x4.s _ _ eb
  · rw [upd_ne (fun z => n1 (by rw [z]; exact hl))]; exact n2
end

/-! slices, +, * of lists -/
/-- xs[lo:hi] -/
def cutO {α : Type} (xs : List α) (lo hi : Option Int) : List α := (xs.drop (HT.sIx xs.length 0 lo)).take (HT.sIx xs.length xs.length hi - HT.sIx xs.length 0 lo)
structure MO (X : Cx) (g : Gb) (B : Bs) (S : SL) (e : Option Expr) (m : Option (Option Int)) : Prop where
  run : ∀ i, m = some i → PO X e (fun σ H Q => ∃ I, Hold g B S σ I H ∧ ∀ I' H', Ext I H I' H' → Q i H')
def catOk (n k : Nat) : Bool := decide (n + k ≤ sizeLine)
@[irreducible] def catO {α : Type} (xs ys : List α) : Option (List α) := if catOk xs.length ys.length = true then some (xs ++ ys) else none
def repOk (n : Nat) (k : Int) : Bool := decide (-(2 ^ 63) ≤ k ∧ k < 2 ^ 63) && decide (n * k.toNat ≤ sizeLine)
@[irreducible] def repO {α : Type} (xs : List α) (k : Int) : Option (List α) := if repOk xs.length k = true then some (List.replicate k.toNat xs).flatten else none
section
variable {X : Cx} {g : Gb} {B : Bs} {J : Hp} {S : SL} {e e1 e2 e3 tg : Expr} {oe oe2 : Option Expr} {es : List Expr} {pos pos' p p2 : Pos} {o α' β' γ' ρ : Type} {K : KT o} {rest body : List Stmt} {α β γ δ : Type} [Py α] [Py β] [Py γ] [Py δ] {m : Option (List α)} {k k2 : List α → RK}
theorem po_imp {t t' : TO} (h : PO X oe t) (f : ∀ σ H Q, t' σ H Q → t σ H Q) : PO X oe t' := ⟨fun pins s σ H Q I hw => h.run pins s σ H Q I (f σ H Q hw)⟩
theorem mo_none : MO X g B S none (some none) := ⟨fun i q => by cases q; exact po_imp po_none fun σ H Q ⟨I, hh, kk⟩ => kk I H (Ext.refl hh.sub)⟩
theorem mo_some {m : Option Int} (h : ME X g B S e m (KI g)) : MO X g B S (some e) (m >>= fun i => some (some i)) := by
  refine ⟨fun i q => ?_⟩
  obtain ⟨a, q1, q2⟩ := bind_some q
  cases q2
  exact po_imp (po_some (h.run a q1)) fun σ H Q ⟨I, hh, kk⟩ => ⟨I, hh, fun v I' H' x hv => ⟨a, hv, kk I' H' x⟩⟩
theorem me_cut {m1 m2 : Option (Option Int)} (h : ME X g B S e m k) (h1 : MO X g B S oe m1) (h2 : MO X g B S oe2 m2) (r : LR g k := by first | exact lr_im | exact lr_fr | exact lr_rd) (hK : X.K = g.K := by rfl) :
    ME X g B S (.Subscript e (.Slice oe oe2 none p2) pos) (m >>= fun xs => m1 >>= fun lo => m2 >>= fun hi => some (cutO xs lo hi)) (fun xs => .fr (rl g xs)) := by
  refine ⟨fun as q => ?_⟩
  obtain ⟨xs, q1, q⟩ := bind_some q
  obtain ⟨lo, q2, q⟩ := bind_some q
  obtain ⟨hi, q3, q4⟩ := bind_some q
  cases q4
  refine pe_imp (pe_slice sl_list (h.run xs q1) (h1.run lo q2) (h2.run hi q3)) fun σ H Q ⟨I, hh, kk⟩ => ⟨I, hh, fun v I1 H1 x1 hv => ⟨I1, hh.ext x1, fun I2 H2 x2 => ⟨I2, (hh.ext x1).ext x2, fun I3 H3 x3 => ?_⟩⟩⟩
  obtain ⟨l, vs, rfl, h3, h4⟩ := r xs _ _ _ _ x3.s (RK.ext (RK.ext hv x2 hh.tb.has) x3 hh.tb.has)
  refine ⟨l, vs, rfl, by rw [hK]; exact h3, fun p hp => ?_⟩
  have hlen := rl_len h4
  refine new_fr (as := cutO xs lo hi) x3.s ?_ (fun u I4 H4 x4 hu => kk u I4 H4 (((x1.trans x2).trans x3).trans x4) (RK.back rfl ((x1.trans x2).trans x3).h hu)) hp
  unfold cutO cutV
  rw [hlen]
  refine ⟨?_, paired_take _ (paired_drop _ h4.2)⟩
  rw [List.length_take, List.length_drop]
  have := h4.1
  omega
theorem op_catS : OpR X (binaryOp .Add) (fun x y H Q => ∃ l b xs zs, x = .ref l ∧ y = .ref b ∧ SqL X.K H l xs ∧ SqL X.K H b zs ∧ xs.length + zs.length ≤ sizeLine ∧ ∀ p, H p = none → Q (.ref p) (upd H p (.lst (xs ++ zs)))) := by
  intro pins s σ H x y v u Q I rx ry h
  obtain ⟨l, b, xs, zs, rfl, rfl, hH, hB, hz, q⟩ := h
  cases rx
  cases ry
  obtain ⟨its, r, pl, z⟩ := I.list hH
  obtain ⟨its2, r2, pl2, z2⟩ := I.list hB
  have hl := r.length
  have hl2 := r2.length
  obtain ⟨⟨cls, dd, data, sl⟩, ho, hc, n, hd⟩ := pl.isList
  obtain ⟨⟨cls2, dd2, data2, sl2⟩, ho2, hc2, n2, hd2⟩ := pl2.isList
  simp only at hc hd hc2 hd2
  subst hc hd hc2 hd2
  have ea : its.toArray ++ its2.toArray = (its ++ its2).toArray := by simp
  refine concat_meets ⟨_, ho, rfl⟩ ⟨_, ho2, rfl⟩ noFill_list_add seq_list_add PySem.F.slot_list_add PySem.F.entry_list_add (PySem.F.args_list_add_2 _ _) (list_addW l b its.toArray its2.toArray n n2 dd dd2 sl sl2 (by rw [List.size_toArray, List.size_toArray]; omega)) ⟨ho, ho2, ?_⟩
  rw [ea]
  exact ⟨.ref _, _, I.lnew (t' := s.toks) (r.append r2) (by rw [List.length_append]; omega), rfl, q _ I.fresh⟩
theorem me_cat {m2 : Option (List α)} (h : ME X g B S e1 m k) (h2 : ME X g B S e2 m2 k2) (r : LR g k := by first | exact lr_im | exact lr_fr | exact lr_rd) (r2 : LR g k2 := by first | exact lr_im | exact lr_fr | exact lr_rd) (hK : X.K = g.K := by rfl) :
    ME X g B S (.BinOp e1 .Add e2 pos) (m >>= fun xs => m2 >>= fun ys => catO xs ys) (fun xs => .fr (rl g xs)) :=
  me_bin op_catS h h2 (fun a b c q v w I H H0 H1 Q s hv hw kk => by
    unfold catO at q
    by_cases hc : catOk a.length b.length = true
    · rw [if_pos hc] at q
      cases q
      obtain ⟨l, vs, rfl, h3, h4⟩ := r a _ _ _ _ s hv
      obtain ⟨l2, ws, rfl, h5, h6⟩ := r2 b _ _ _ _ s hw
      have hz : a.length + b.length ≤ sizeLine := of_decide_eq_true hc
      refine ⟨l, l2, vs, ws, rfl, rfl, by rw [hK]; exact h3, by rw [hK]; exact h5, by rw [rl_len h4, rl_len h6]; exact hz, fun p hp => new_fr (as := a ++ b) s ⟨by rw [List.length_append]; exact hz, paired_app h4.2 h6.2⟩ kk hp⟩
    · rw [if_neg hc] at q
      cases q)
end
/-- xs.append(x) -/
@[irreducible] def appO {α : Type} (xs : List α) (x : α) : Option (List α) := if decide (xs.length < sizeLine) = true then some (xs ++ [x]) else none
@[irreducible] def setO {α : Type} (xs : List α) (i : Int) (x : α) : Option (List α) := (ixN xs.length i).bind fun j => some (xs.set j x)
section
variable {X : Cx} {g : Gb} {B : Bs} {J : Hp} {S : SL} {e e1 e2 e3 tg : Expr} {es : List Expr} {pos pos' p p2 p3 : Pos} {o α' β' γ' ρ : Type} {K : KT o} {rest body : List Stmt} {α β γ δ : Type} [Py α] [Py β] [Py γ] [Py δ]
/-- an owned fragment written: F becomes F', the heap H becomes H' -/
theorem Ok.wrt {σ : L2.St} {I H I' H' : Hp} {i : Nat} {k : RK} {v : V} {F' : Hp} (ok : Ok g B J S σ I H) (e1 : σ[i]? = some (some v)) (w : ∀ Φ, HoldF g B S σ I H Φ → Same I I' ∧ Same I' H' ∧ (∀ l, H l ≠ none → I l = none → I' l = none) ∧ (∀ a o, H a = some o → (Φ i a = none ∨ ∃ f, o = .ext f) → H' a = some o) ∧ Same F' H' ∧ (∀ a, F' a ≠ none → Φ i a ≠ none ∨ (H a = none ∧ I' a = none)) ∧ RK.inS g k B.H v I' F') :
    Ok g B J (S.set i (some k)) σ I' H' := by
  obtain ⟨x, oj, Φ, h⟩ := ok
  obtain ⟨sI, sH, n, keep, sF, nF, hv⟩ := w Φ h
  have other : ∀ a o, B.H a = some o → Φ i a = none := fun a o e => by
    cases q : Φ i a with
    | none => rfl
    | some u => have := (h.fr i a u q).2.2; rw [e] at this; cases this
  have tH : Tbs H' := h.tb.t.keep (fun p hp o e => keep _ o e (.inl (h.noT i p hp))) fun a f e => keep a _ e (.inr ⟨f, rfl⟩)
  have sB : SW B.H H' := h.base.kept tH fun a o o' e e' => keep a o' e' (.inl (other a o e))
  have hσ : σ.set i (some v) = σ := by
    apply List.ext_getElem?
    intro j
    by_cases hj : i = j
    · subst hj
      rw [List.getElem?_set_self (List.getElem?_eq_some_iff.mp e1).1, e1]
    · rw [List.getElem?_set_ne hj]
  have h1 : HoldF g B S σ I' H' (putF Φ i (fun _ => none)) → False → False := fun _ z => z
  refine ⟨⟨x.i.trans sI, sB, sH, fun l n1 n2 => ?_⟩, oj.trans sI, putF Φ i F', ?_⟩
  · cases e : B.H l with
    | none => exact absurd e n1
    | some o => exact n l (fun z => n1 (h.base.f l z)) (x.n l n1 n2)
  · have h2 : HoldF g B (S.set i (some k)) (σ.set i (some v)) I' H' (putF Φ i F') := by
      refine ⟨by rw [List.length_set, List.length_set, h.len], sH, sB, ⟨tH, h.tb.b, fun p hp => n _ (h.tb.t.ne hp) (h.tb.i p hp)⟩, fun j k' e => ?_, fun j a o e => ?_, fun j l a hj hl => ?_⟩
      · rcases set_some e with ⟨a, b, c⟩ | ⟨a, b⟩
        · subst a
          cases b
          exact ⟨v, List.getElem?_set_self (by rw [h.len]; exact c), by rw [putF_same]; exact hv⟩
        · obtain ⟨u, e2, q⟩ := h.at_ j k' b
          exact ⟨u, by rw [List.getElem?_set_ne a]; exact e2, by rw [putF_ne (fun z => a z.symm)]; exact RK.inS_mono sI q⟩
      · by_cases hji : j = i
        · rw [hji, putF_same] at e
          refine ⟨sF a o e, ?_⟩
          rcases nF a (ne_of_some e) with z | ⟨z1, z2⟩
          · obtain ⟨f1, f2, f3⟩ := h.ne z
            exact ⟨n a f1 f2, f3⟩
          · exact ⟨z2, h.base.free z1⟩
        · rw [putF_ne hji] at e
          obtain ⟨f1, f2, f3⟩ := h.fr j a o e
          refine ⟨keep a o f1 (.inl ?_), n a (ne_of_some f1) f2, f3⟩
          cases q : Φ i a with
          | none => rfl
          | some u => exact absurd (h.dj j i a (ne_of_some e) (ne_of_some q)) hji
      · have no : ∀ m, m ≠ i → F' a ≠ none → Φ m a ≠ none → False := fun m hm f1 f2 => by
          rcases nF a f1 with z | ⟨z1, _⟩
          · exact hm (h.dj m i a f2 z)
          · exact (h.ne f2).1 z1
        by_cases hji : j = i
        · by_cases hli : l = i
          · rw [hji, hli]
          · rw [hji, putF_same] at hj
            rw [putF_ne hli] at hl
            exact (no l hli hj hl).elim
        · by_cases hli : l = i
          · rw [hli, putF_same] at hl
            rw [putF_ne hji] at hj
            exact (no j hji hl hj).elim
          · rw [putF_ne hji] at hj
            rw [putF_ne hli] at hl
            exact h.dj j l a hj hl
    rw [hσ] at h2
    exact h2
/-- an owned list written -/
theorem Ok.write {σ : L2.St} {I H : Hp} {i : Nat} {l : Addr} {q0 : PL} {bs : List α} {ws : List V} (ok : Ok g B J S σ I H) (hS : S[i]? = some (some (.fr q0))) (e1 : σ[i]? = some (some (.ref l))) (hw : (rl g bs).p I ws) : Ok g B J (S.set i (some (.fr (rl g bs)))) σ I (upd H l (.lst ws)) := by
  have hsub := ok.h.sub
  refine ok.wrt e1 (F' := one1 l (.lst ws)) fun Φ h => ?_
  obtain ⟨v, e2, l', vs, e3, f1, f2⟩ := h.at_ i _ hS
  rw [e1] at e2
  cases e2
  cases e3
  obtain ⟨g1, g2, g3⟩ := h.fr i l _ f1
  refine ⟨Same.refl _, fun a o e => ?_, fun a _ z => z, fun a o e z => ?_, fun a o e => ?_, fun a ha => ?_, l, ws, rfl, one1_same, hw⟩
  · rw [upd_ne (ne_of_none e g2)]
    exact hsub a o e
  · have : a ≠ l := fun y => by
      rcases z with z | ⟨f, z⟩
      · rw [y, f1] at z; cases z
      · rw [y, g1, z] at e; cases e
    rw [upd_ne this]
    exact e
  · obtain ⟨y1, y2⟩ := one1_some e
    rw [y1, y2, upd_same]
  · rw [one1_ne ha]
    exact .inl (ne_of_some f1)
end
end T
set_option Elab.async false
set_option linter.all false
set_option maxRecDepth 100000
namespace T
variable [TabsC]
open PySem PySem.Spec PyProof.Rows L2

/-! lists that stand still through a loop: those that stay, and the caller's -/
structure MSt {α : Type} [Py α] (X : Cx) (g : Gb) (B : Bs) (S : SL) (e : Expr) (m : Option (List α)) : Prop where
  run : ∀ as, m = some as → PE X e (fun σ H Q => ∃ I, Hold g B S σ I H ∧ ∀ l vs I' H', Ext I H I' H' → (SqL g.K I' l vs ∨ SqL g.K B.H l vs) → (rl g as).p I' vs → Q (.ref l) H')
section
variable {X : Cx} {g : Gb} {B : Bs} {J : Hp} {S : SL} {e e1 e2 e3 tg : Expr} {oe oe2 : Option Expr} {es : List Expr} {pos pos' p p2 p3 apos cpos : Pos} {o α' β' γ' ρ : Type} {K : KT o} {rest body : List Stmt} {α β γ δ : Type} [Py α] [Py β] [Py γ] [Py δ] {m : Option (List α)} {k k2 : List α → RK}
theorem ms_im (h : ME X g B S e m (KI g)) : MSt X g B S e m :=
  ⟨fun as q => pe_imp (h.run as q) fun σ H Q ⟨I, hh, k⟩ => ⟨I, hh, fun v I' H' x ⟨l, vs, e, h1, h2⟩ => e ▸ k l vs I' H' x (.inl h1) h2⟩⟩
theorem ms_bw (i : Nat) {x : Str} {as : List α} (hS : S[i]? = some (some (.bw (rl g as))) := by rfl) (hN : X.N[i]? = some x := by rfl) (hv : Vis X.env.scope x := by first | exact Or.inl rfl | exact Or.inr (Or.inl rfl) | exact Or.inr (Or.inr rfl))
    (hd : (x == ("__debug__" : Str)) = false := by decide) (hcd : (x == ("__classdict__" : Str)) = false := by decide) : MSt X g B S (.Name x pos) (some as) := by
  refine ⟨fun as' q => ?_⟩
  cases q
  refine pe_imp (pe_var hN hv hd hcd) fun σ H Q ⟨I, hh, k⟩ => ?_
  obtain ⟨v, e1, l, vs, rfl, h3, h4⟩ := hh.at_ i _ hS
  exact ⟨_, e1, k l vs I H (Ext.refl hh.sub) (.inr h3) h4⟩
theorem sq_now {I1 I2 H2 BH : Hp} {K : PySem.W.Frag} {l : Addr} {vs : List V} (h : SqL K I1 l vs ∨ SqL K BH l vs) (s1 : Same I1 I2) (s2 : Same I2 H2) (s3 : SW BH H2) : SqL K H2 l vs := h.elim (fun z => s2.seq (s1.seq z)) fun z => s3.seq z
theorem mi_lst (h : MSt X g B S e m) (hg : X.K = g.K := by rfl) : MI X g B S tg e m := by
  refine ⟨fun as q => ?_⟩
  refine pi_imp (pi_list (h.run as q)) fun σ H R ⟨I, hh, k⟩ => ⟨I, hh, fun l vs I' H' x h1 h2 => ?_⟩
  rw [hg]
  exact ⟨l, rfl, ⟨vs, sq_now h1 (Same.refl _) x.s (hh.base.trans x.h)⟩, k _ I' H' x (walk_list h1 h2)⟩
/-- places and items -/
def enumL {α : Type} (as : List α) : List (T2 Int α) := (as.zipIdx).map fun p => T2.mk (p.2 : Int) p.1
theorem enum_get {as : List α} {i : Nat} {t : T2 Int α} (h : (enumL as)[i]? = some t) : ∃ a, as[i]? = some a ∧ t = T2.mk (i : Int) a := by
  unfold enumL at h
  rw [List.getElem?_map, List.getElem?_zipIdx] at h
  cases q : as[i]? with
  | none => rw [q] at h; cases h
  | some a =>
    rw [q] at h
    refine ⟨a, rfl, ?_⟩
    have := Option.some.inj h
    rw [← this]
    simp
theorem enum_len {as : List α} : (enumL as).length = as.length := by
  unfold enumL
  rw [List.length_map, List.length_zipIdx]
theorem new_tup {I H : Hp} {T : Addr} {xs : List V} (s : Same I H) (h : H T = none) : Ext I H (upd I T (.tup xs)) (upd H T (.tup xs)) := by
  have hI := s.free h
  refine ⟨same_new hI, SW.of (same_new h), fun b ob eb => ?_, fun b n1 n2 => ?_⟩
  · by_cases hb : b = T
    · subst hb; rw [upd_same] at eb ⊢; exact eb
    · rw [upd_ne hb] at eb ⊢; exact s _ _ eb
  · rw [upd_ne (fun z => n1 (by rw [z]; exact h))]; exact n2
theorem walk_enum {as : List α} {a : Addr} {vs : List V} {I1 : Hp} (hL : SqL g.K I1 a vs ∨ SqL g.K B.H a vs) (hR : (rl g as).p I1 vs) : WalkI g B (Ite g.K a) (enumL as) I1 where
  go := fun i x I2 H2 e s1 s2 s3 => by
    obtain ⟨b, e1, _⟩ := enum_get e
    obtain ⟨v, e2, _⟩ := paired_get hR.2 e1
    exact ⟨vs, v, sq_now hL s1 s2 s3, e2⟩
  yl := fun i x I2 H2 v H' e s1 s2 s3 y => by
    obtain ⟨b, e1, rfl⟩ := enum_get e
    obtain ⟨u, e2, q⟩ := paired_get hR.2 e1
    obtain ⟨T, x, rfl, hT, rfl, y⟩ := y
    have e3 := y vs (sq_now hL s1 s2 s3)
    rw [e2] at e3
    cases e3
    refine ⟨_, new_tup s2 hT, T, _, _, rfl, SqT.of upd_same, rfl, (Py.r g b).mono (s1.trans (same_new (s2.free hT))) q⟩
  st := fun I2 H2 s1 s2 s3 => ⟨vs, sq_now hL s1 s2 s3, by rw [enum_len]; exact Nat.le_of_eq (rl_len hR)⟩
  len := by rw [enum_len]; exact hR.1
theorem mi_enum {elts : List Expr} {kk : Nat} {tpos : Pos} (hm : X.mg "enumerate" = none) (h : MSt X g B S e m) (hg : Gl X "enumerate" := by rfl) (hK : X.K = g.K := by rfl) (hs : starEach [e] X.env = [(false, eval e X.env)] := by rfl) : MI X g B S (.Tuple elts kk tpos) (.Call (.Name "enumerate" p) [e] [] pos) (m >>= fun as => some (enumL as)) := by
  refine ⟨fun as q => ?_⟩
  obtain ⟨xs, q1, q2⟩ := bind_some q
  cases q2
  refine pi_imp (pi_enum hg hm (pa_cons (h.run xs q1) pa_nil hs) hs) fun σ H R ⟨I, hh, k⟩ => ⟨I, hh, fun l vs I' H' x h1 h2 => ?_⟩
  rw [hK]
  exact ⟨l, vs, rfl, sq_now h1 (Same.refl _) x.s (hh.base.trans x.h), k _ I' H' x (walk_enum h1 h2)⟩
/-- items in pairs -/
def zipL {α β : Type} (as : List α) (bs : List β) : List (T2 α β) := (as.zip bs).map fun p => T2.mk p.1 p.2
/-! targets -/
theorem mg_t2 (i j : Nat) {x y : Str} {k : Nat} (hN : X.N.Nodup) (hi : X.N[i]? = some x := by rfl) (hj : X.N[j]? = some y := by rfl) (hx : Loc X.env.scope x := by first | exact Or.inl rfl | exact Or.inr rfl) (hy : Loc X.env.scope y := by first | exact Or.inl rfl | exact Or.inr rfl) (hf : X.fn x = true ∨ X.env.scope.names.lookup x = some .local := by first | exact .inl rfl | exact .inr rfl) (hf2 : X.fn y = true ∨ X.env.scope.names.lookup y = some .local := by first | exact .inl rfl | exact .inr rfl)
    (hc : X.calm = true := by rfl) (hK : X.K = g.K := by rfl) (hn : (assignEach [Expr.Name x p, Expr.Name y p2] X.env).length = 2 := by rfl) (hst : (assignEach [Expr.Name x p, Expr.Name y p2] X.env).findIdx? (·.1) = none := by rfl) (hs : (assignEach [Expr.Name x p, Expr.Name y p2] X.env).map (·.2) = assign (.Name x p) X.env :: (assignEach [Expr.Name y p2] X.env).map (·.2) := by rfl) (hs2 : (assignEach [Expr.Name y p2] X.env).map (·.2) = assign (.Name y p2) X.env :: (assignEach [] X.env).map (·.2) := by rfl) :
    MG (α := T2 α β) X g (.Tuple [.Name x p, .Name y p2] k pos) (gTup g.K 2 (gCons (gName i) (gCons (gName j) gNil))) (fun t S => (S.set i (some (.im (Py.r g t.x0)))).set j (some (.im (Py.r g t.x1)))) [i, j] :=
  ⟨by rw [← hK]; exact pg_tup hc (pgs_cons (pg_name hN hi hx hf) (pgs_cons (pg_name hN hj hy hf2) pgs_nil hs2) hs) hn hst, fun B S t v σ I H Q h ⟨q, a, b, e, h0, h1, h2⟩ k => ⟨q, [a, b], e, seqT h.sub h0, rfl, a, [b], rfl, b, [], rfl, rfl, k _ (hold_put (hold_put h h1) h2) fun vs ht => (wipe_set (ht j (by simp))).trans (wipe_set (ht i (by simp)))⟩⟩
theorem mg_t3 (i j l : Nat) {x y z : Str} {k : Nat} (hN : X.N.Nodup) (hi : X.N[i]? = some x := by rfl) (hj : X.N[j]? = some y := by rfl) (hl : X.N[l]? = some z := by rfl) (hx : Loc X.env.scope x := by first | exact Or.inl rfl | exact Or.inr rfl) (hy : Loc X.env.scope y := by first | exact Or.inl rfl | exact Or.inr rfl) (hz : Loc X.env.scope z := by first | exact Or.inl rfl | exact Or.inr rfl) (hf : X.fn x = true ∨ X.env.scope.names.lookup x = some .local := by first | exact .inl rfl | exact .inr rfl) (hf2 : X.fn y = true ∨ X.env.scope.names.lookup y = some .local := by first | exact .inl rfl | exact .inr rfl) (hf3 : X.fn z = true ∨ X.env.scope.names.lookup z = some .local := by first | exact .inl rfl | exact .inr rfl)
    (hc : X.calm = true := by rfl) (hK : X.K = g.K := by rfl) (hn : (assignEach [Expr.Name x p, Expr.Name y p2, Expr.Name z p3] X.env).length = 3 := by rfl) (hst : (assignEach [Expr.Name x p, Expr.Name y p2, Expr.Name z p3] X.env).findIdx? (·.1) = none := by rfl) (hs : (assignEach [Expr.Name x p, Expr.Name y p2, Expr.Name z p3] X.env).map (·.2) = assign (.Name x p) X.env :: (assignEach [Expr.Name y p2, Expr.Name z p3] X.env).map (·.2) := by rfl) (hs2 : (assignEach [Expr.Name y p2, Expr.Name z p3] X.env).map (·.2) = assign (.Name y p2) X.env :: (assignEach [Expr.Name z p3] X.env).map (·.2) := by rfl) (hs3 : (assignEach [Expr.Name z p3] X.env).map (·.2) = assign (.Name z p3) X.env :: (assignEach [] X.env).map (·.2) := by rfl) :
    MG (α := T3 α β γ) X g (.Tuple [.Name x p, .Name y p2, .Name z p3] k pos) (gTup g.K 3 (gCons (gName i) (gCons (gName j) (gCons (gName l) gNil)))) (fun t S => ((S.set i (some (.im (Py.r g t.x0)))).set j (some (.im (Py.r g t.x1)))).set l (some (.im (Py.r g t.x2)))) [i, j, l] :=
  ⟨by rw [← hK]; exact pg_tup hc (pgs_cons (pg_name hN hi hx hf) (pgs_cons (pg_name hN hj hy hf2) (pgs_cons (pg_name hN hl hz hf3) pgs_nil hs3) hs2) hs) hn hst, fun B S t v σ I H Q h ⟨q, a, b, c, e, h0, h1, h2, h3⟩ k => ⟨q, [a, b, c], e, seqT h.sub h0, rfl, a, [b, c], rfl, b, [c], rfl, c, [], rfl, rfl, k _ (hold_put (hold_put (hold_put h h1) h2) h3) fun vs ht => (wipe_set (ht l (by simp))).trans ((wipe_set (ht j (by simp))).trans (wipe_set (ht i (by simp))))⟩⟩
/-! lists written -/
theorem mb_app (i : Nat) {x : Str} {as : List α} {m : Option α} {f : List α → Option o} (he : ME X g B S e m (KI g)) (hb : ∀ bs, MB X g B J (S.set i (some (.fr (rl g bs)))) rest (f bs) K) (hS : S[i]? = some (some (.fr (rl g as))) := by rfl) (hN : X.N[i]? = some x := by rfl)
    (hv : Vis X.env.scope x := by first | exact Or.inl rfl | exact Or.inr (Or.inl rfl) | exact Or.inr (Or.inr rfl)) (hs : swapsWith (.Call (.Attribute (.Name x p) "append" apos) [e] [] cpos) none pos.line X.env = pure false := by rfl) (hst : starEach [e] X.env = (false, eval e X.env) :: starEach [] X.env := by rfl)
    (hbase : attributeBase (.Name x p) "append" X.env (eval (.Name x p) X.env) = eval (.Name x p) X.env := by rfl)
    (hfew : ((backTo cpos (starEach [e] X.env)).all (fun x => !x.1) && (backToKw cpos (keywordEach [] X.env)).all (fun x => x.1.isSome) && decide ([e].length + ([] : List Keyword).length + (if ([] : List Keyword).isEmpty then 0 else 1) < 30)) = true := by rfl)
    (hline : (apos.endLine == cpos.line) = true := by rfl) (hplain : (backTo cpos (starEach [] X.env)).any (·.1) = false := by rfl)
    (hd : (x == ("__debug__" : Str)) = false := by decide) (hcd : (x == ("__classdict__" : Str)) = false := by decide) :
    MB X g B J S (.Expr (.Call (.Attribute (.Name x p) "append" apos) [e] [] cpos) pos :: rest) (m >>= fun a => appO as a >>= f) K := by
  refine ⟨fun r q => ?_⟩
  obtain ⟨a, q1, q⟩ := bind_some q
  obtain ⟨bs, q2, q3⟩ := bind_some q
  unfold appO at q2
  by_cases hz : decide (as.length < sizeLine) = true
  · rw [if_pos hz] at q2
    cases q2
    have hz' := of_decide_eq_true hz
    refine pss_imp (pss_cons (ps_expr (pe_bm PySem.F.plainAttrs_list PySem.F.slot_list_append PySem.F.type_list_append mt_append (pe_var hN hv hd hcd) (pa_cons (he.run a q1) pa_nil hst) hbase hfew hline hst hplain) hs) ((hb _).run r q3)) fun D σ H ⟨I, ok, kk⟩ => ?_
    obtain ⟨v, e1, l, vs, rfl, h1, h2, h3, h4⟩ := ok.h.at_ i _ hS
    refine ⟨_, e1, .inl ⟨rfl, _, SqL.of h3⟩, I, ok.h, fun w I' H' x hw => ⟨l, vs, w, rfl, rfl, x.h.get _ _ h3, by rw [rl_len h4]; exact hz', I', (ok.ext x).write hS e1 ⟨?_, paired_app ((rl g as).mono x.i h4).2 (.cons hw .nil)⟩, kk⟩⟩
    rw [List.length_append, List.length_singleton]
    omega
  · rw [if_neg hz] at q2
    cases q2
end
end T
set_option Elab.async false
set_option linter.all false
set_option maxRecDepth 100000
namespace T
variable [TabsC]
open PySem PySem.Spec PyProof.Rows L2

/-! comprehensions -/
def lcM {α β : Type} (f : α → Option β) : List α → Option (List β)
  | [] => some []
  | a :: as => f a >>= fun b => lcM f as >>= fun bs => some (b :: bs)
def lcF {α β : Type} (t : α → Option Bool) (f : α → Option β) : List α → Option (List β)
  | [] => some []
  | a :: as => t a >>= fun b => if b = true then (f a >>= fun y => lcF t f as >>= fun ys => some (y :: ys)) else lcF t f as
theorem lcF_all {α β : Type} (f : α → Option β) : ∀ as : List α, lcF (fun _ => some true) f as = lcM f as
  | [] => rfl
  | a :: as => by
    have e : lcF (fun _ => some true) f (a :: as) = (f a >>= fun y => lcF (fun _ => some true) f as >>= fun ys => some (y :: ys)) := rfl
    rw [e, lcF_all f as]
    rfl
/-- the tests of a comprehension -/
structure MTs (X : Cx) (g : Gb) (B : Bs) (S : SL) (ifs : List Expr) (m : Option Bool) : Prop where
  run : ∀ b, m = some b → PTs X ifs (rdT g B S b)
def wipeS (S : SL) : List Nat → SL
  | [] => S
  | v :: vs => (wipeS S vs).set v none
theorem wipeS_length (S : SL) : ∀ vs, (wipeS S vs).length = S.length
  | [] => rfl
  | v :: vs => by
    show ((wipeS S vs).set v none).length = _
    rw [List.length_set, wipeS_length S vs]
theorem wipeS_some {S : SL} {i : Nat} {k : RK} : ∀ {vs : List Nat}, (wipeS S vs)[i]? = some (some k) → S[i]? = some (some k) ∧ i ∉ vs
  | [], h => ⟨h, by simp⟩
  | v :: vs, h => by
    rcases set_some h with ⟨_, z, _⟩ | ⟨h1, h2⟩
    · cases z
    · obtain ⟨h3, h4⟩ := wipeS_some h2
      exact ⟨h3, fun z => (List.mem_cons.mp z).elim (fun q => h1 q.symm) h4⟩
theorem Hold.wipe {g : Gb} {B : Bs} {S : SL} {σ : L2.St} {I H : Hp} (h : Hold g B S σ I H) (vs : List Nat) : Hold g B (wipeS S vs) (wipe σ vs) I H := by
  have at' : ∀ {i : Nat} {x : V}, (L2.wipe σ vs)[i]? = some (some x) → σ[i]? = some (some x) := fun e => (wipe_some e).1
  obtain ⟨Φ, h⟩ := h
  refine ⟨Φ, by rw [wipe_length, wipeS_length, h.len], h.sub, h.base, h.tb, fun i k e => ?_, h.fr, h.dj⟩
  obtain ⟨e1, e2⟩ := wipeS_some e
  obtain ⟨v, e3, q⟩ := h.at_ i k e1
  exact ⟨v, by rw [wipe_out e2]; exact e3, q⟩
section
variable {X : Cx} {g : Gb} {B : Bs} {J : Hp} {S : SL} {e e1 e2 e3 tg elt iter : Expr} {es ifs : List Expr} {pos pos' p p2 p3 apos cpos : Pos} {o α' β' γ' ρ : Type} {K : KT o} {rest body : List Stmt} {α β γ δ : Type} [Py α] [Py β] [Py γ] [Py δ]
theorem mts_nil : MTs X g B S [] (some true) := ⟨fun b q => by
  cases q
  exact ⟨fun pins s σ H Q I ⟨I', hh, k⟩ => pts_nil.run pins s σ H Q I (k I' H (Ext.refl hh.sub))⟩⟩
def rdTs {α : Type} [Py α] (g : Gb) (B : Bs) (Sp : α → SL) (t : α → Option Bool) : TT := fun σ H Q => ∃ a b I, t a = some b ∧ Hold g B (Sp a) σ I H ∧ ∀ I' H', Ext I H I' H' → Q b H'
def rdEs {α β : Type} [Py α] [Py β] (g : Gb) (B : Bs) (Sp : α → SL) (f : α → Option β) : TE := fun σ H Q => ∃ a b I, f a = some b ∧ Hold g B (Sp a) σ I H ∧ ∀ v I' H', Ext I H I' H' → (Py.r g b).p I' v → Q v H'
/-- the heart of a comprehension's reading -/
theorem lc_use {gt : TG} {put : α → SL → SL} {ts vs : List Nat} {t : α → Option Bool} {f : α → Option β} {as : List α} {bs : List β} {σ : L2.St} {H : Hp} {Q : VK} (hts : ∀ i ∈ ts, i ∈ vs)
    (hG : ∀ (B : Bs) (S : SL) (a : α) (v : V) σ I H Q, Hold g B S σ I H → (Py.r g a).p I v → (∀ σ', Hold g B (put a S) σ' I H → (∀ vs, (∀ t ∈ ts, t ∈ vs) → wipe σ' vs = wipe σ vs) → Q σ' H) → gt v σ H Q)
    (hbs : lcF t f as = some bs) (hq : ∃ I, Hold g B S σ I H ∧ ∀ v I' H', Ext I H I' H' → RK.holds g (.fr (rl g bs)) H v I' H' → Q v H') :
    tLc (rdI g B S as) gt (rdTs g B (fun a => put a (wipeS S vs)) t) (rdEs g B (fun a => put a (wipeS S vs)) f) vs σ H Q := by
  obtain ⟨I, hh, kk⟩ := hq
  refine ⟨I, hh, fun J1 I1 H1 x1 hW => ?_⟩
  intro D hD
  have hI1 : I1 D = none := x1.s.free hD
  refine ⟨fun i m H => m = as.length - i ∧ i ≤ as.length ∧ ∃ I2 ds ws rs, lcF t f (as.drop i) = some rs ∧ ds ++ rs = bs ∧ Ext I1 H1 I2 H ∧ I2 D = none ∧ H D = some (.lst ws) ∧ Paired (fun b v => (Py.r g b).p I2 v) ds ws ∧ ds.length ≤ i,
    ⟨as.length, by simp, Nat.zero_le _, I1, [], [], bs, hbs, rfl, ⟨Same.refl _, SW.of (same_new hD), x1.s.trans (same_new hD), fun _ _ h => h⟩, hI1, upd_same, .nil, Nat.le_refl _⟩, ?_⟩
  rintro i m H2 ⟨rfl, hi, I2, ds, ws, rs, hrs, hds, x2, hI2, hH2, hp, hdl⟩
  have hh2 : Hold g B S σ I2 H2 := (hh.ext x1).ext x2
  by_cases hlt : i < as.length
  · have hit : as[i]? = some as[i] := List.getElem?_eq_getElem hlt
    refine .inr ⟨hW.go i _ I2 H2 hit x2.i x2.s hh2.base, fun H => i + 1 ≤ as.length ∧ ∃ I2 ds ws rs, lcF t f (as.drop (i + 1)) = some rs ∧ ds ++ rs = bs ∧ Ext I1 H1 I2 H ∧ I2 D = none ∧ H D = some (.lst ws) ∧ Paired (fun b v => (Py.r g b).p I2 v) ds ws ∧ ds.length ≤ i + 1, fun H' h => ⟨as.length - (i + 1), by omega, rfl, h.1, h.2⟩, fun x H3 hy => ?_⟩
    obtain ⟨I3, x3, hv⟩ := hW.yl i _ I2 H2 x H3 hit x2.i x2.s hh2.base hy
    have hI3 : I3 D = none := x3.n D (by rw [hH2]; simp) hI2
    rw [drop_at hit] at hrs
    obtain ⟨b, e1, e2⟩ := bind_some (show (t as[i] >>= fun b => if b = true then (f as[i] >>= fun y => lcF t f (as.drop (i + 1)) >>= fun ys => some (y :: ys)) else lcF t f (as.drop (i + 1))) = some rs from hrs)
    refine hG B (wipeS S vs) as[i] x (wipe σ vs) I3 H3 _ ((hh2.ext x3).wipe vs) hv fun σ4 h4 hw => ⟨(hw vs hts).trans wipe_wipe, as[i], b, I3, e1, h4, fun I5 H5 x5 => ?_⟩
    have hI5 : I5 D = none := x5.n D (by rw [x3.h.get _ _ hH2]; simp) hI3
    have hH5 : H5 D = some (.lst ws) := x5.h.get _ _ (x3.h.get _ _ hH2)
    cases b with
    | true =>
      rw [if_pos rfl] at e2
      refine iteT ?_
      obtain ⟨y, e3, e4⟩ := bind_some e2
      obtain ⟨ys, e5, e6⟩ := bind_some e4
      cases e6
      refine ⟨as[i], y, I5, e3, h4.ext x5, fun u I6 H6 x6 hu => ⟨ws, x6.h.get _ _ hH5, ?_, hlt, I6, ds ++ [y], ws ++ [u], ys, e5, by rw [List.append_assoc]; exact hds, ?_, x6.n D (by rw [hH5]; simp) hI5, upd_same, ?_, ?_⟩⟩
      · have := hW.len
        rw [← Paired.length hp]
        omega
      · have x16 := ((x2.trans x3).trans x5).trans x6
        refine ⟨x16.i, x16.h.put hD (x6.h.get _ _ hH5), fun c ob ec => ?_, x16.n⟩
        · rw [upd_ne (ne_of_none ec (x6.n D (by rw [hH5]; simp) hI5))]
          exact x16.s _ _ ec
      · exact paired_app (L2.Paired.mapP hp fun c d q => (Py.r g c).mono ((x3.i.trans x5.i).trans x6.i) q) (.cons hu .nil)
      · rw [List.length_append, List.length_singleton]
        omega
    | false =>
      rw [if_neg Bool.false_ne_true] at e2
      refine iteF ?_
      exact ⟨hlt, I5, ds, ws, rs, e2, hds, (x2.trans x3).trans x5, hI5, hH5, L2.Paired.mapP hp fun c d q => (Py.r g c).mono (x3.i.trans x5.i) q, by omega⟩
  · have e : i = as.length := by omega
    subst e
    rw [List.drop_of_length_le (Nat.le_refl _)] at hrs
    cases hrs
    rw [List.append_nil] at hds
    subst hds
    refine .inl ⟨hW.st I2 H2 x2.i x2.s hh2.base, kk _ I2 H2 (x1.trans x2) ⟨D, ws, rfl, x1.h.free hD, hI2, hH2, ?_, hp⟩⟩
    have := hW.len
    omega
/-- [elt for tg in iter if ..] -/
theorem me_lcF {scope : Scope} {own : List (Str × Nat)} {m : Option (List α)} {gt : TG} {put : α → SL → SL} {ts : List Nat} {t : α → Option Bool} {f : α → Option β} (hN : X.N.Nodup) (hi : MI X g B S tg iter m) (hb : blkC X.N X.env.scope scope own = true) (hts : ∀ i ∈ ts, i ∈ own.map (·.2))
    (hG : ∀ (s : Shared) (H : Hp) (C : Addr) (cl : List (Str × Addr)) (fp : List Addr), MG (X.blk s H scope (compEnvC scope cl C X.env) fp) g tg gt put ts)
    (ht : ∀ (s : Shared) (H : Hp) (C : Addr) (cl : List (Str × Addr)) (fp : List Addr) (a : α), MTs (X.blk s H scope (compEnvC scope cl C X.env) fp) g B (put a (wipeS S (own.map (·.2)))) ifs (t a))
    (he : ∀ (s : Shared) (H : Hp) (C : Addr) (cl : List (Str × Addr)) (fp : List Addr) (a : α), ME (X.blk s H scope (compEnvC scope cl C X.env) fp) g B (put a (wipeS S (own.map (·.2)))) elt (f a) (KI g)) (hc : X.calm = true := by rfl) (hs : ∀ x, foldedSetIterable iter X.env x = pure x := by intro _; rfl) :
    ME X g B S (.ListComp elt [⟨tg, iter, ifs, 0⟩] scope pos) (m >>= fun as => lcF t f as) (fun bs => .fr (rl g bs)) := by
  refine ⟨fun bs q => ?_⟩
  obtain ⟨as, q1, q2⟩ := bind_some q
  refine pe_imp (pe_lc (g := gt) (tt := rdTs g B (fun a => put a (wipeS S (own.map (·.2)))) t) (te := rdEs g B (fun a => put a (wipeS S (own.map (·.2)))) f) hc hN (hi.run as q1) (blkOk_by hb) (fun s H C cl fp => (hG s H C cl fp).pg)
    (fun s H C cl fp => ⟨fun pins st σ H Q I ⟨a, b, I2, e1, h, k⟩ => ((ht _ _ C cl fp a).run b e1).run pins st σ H Q I ⟨I2, h, k⟩⟩)
    (fun s H C cl fp => ⟨fun pins st σ H Q I ⟨a, b, I2, e1, h, k⟩ => ((he _ _ C cl fp a).run b e1).run pins st σ H Q I ⟨I2, h, k⟩⟩) hs) fun σ H Q hq => ?_
  exact lc_use hts (hG X.s_0 X.H_0 0 [] []).ok q2 hq
theorem me_lc {scope : Scope} {own : List (Str × Nat)} {m : Option (List α)} {gt : TG} {put : α → SL → SL} {ts : List Nat} {f : α → Option β} (hN : X.N.Nodup) (hi : MI X g B S tg iter m) (hb : blkC X.N X.env.scope scope own = true) (hts : ∀ i ∈ ts, i ∈ own.map (·.2))
    (hG : ∀ (s : Shared) (H : Hp) (C : Addr) (cl : List (Str × Addr)) (fp : List Addr), MG (X.blk s H scope (compEnvC scope cl C X.env) fp) g tg gt put ts)
    (he : ∀ (s : Shared) (H : Hp) (C : Addr) (cl : List (Str × Addr)) (fp : List Addr) (a : α), ME (X.blk s H scope (compEnvC scope cl C X.env) fp) g B (put a (wipeS S (own.map (·.2)))) elt (f a) (KI g)) (hc : X.calm = true := by rfl) (hs : ∀ x, foldedSetIterable iter X.env x = pure x := by intro _; rfl) :
    ME X g B S (.ListComp elt [⟨tg, iter, [], 0⟩] scope pos) (m >>= fun as => lcM f as) (fun bs => .fr (rl g bs)) :=
  (me_lcF (t := fun _ => some true) hN hi hb hts hG (fun _ _ _ _ _ _ => mts_nil) he hc hs).eq (by cases m with
    | none => rfl
    | some as => exact lcF_all f as)
/-- name = [..] on one line -/
theorem mb_setLcF (i : Nat) {x : Str} {scope : Scope} {own : List (Str × Nat)} {m : Option (List α)} {gt : TG} {put : α → SL → SL} {ts : List Nat} {t : α → Option Bool} {f : α → Option β} {fr : List β → Option o} (hN : X.N.Nodup) (hx : X.env.scope.names.lookup x = some .local) (hsw : swapsWith (.ListComp elt [⟨tg, iter, ifs, 0⟩] scope pos) (some (.Name x p)) pos'.line X.env = pure true) (hi : MI X g B S tg iter m) (hb : blkC X.N X.env.scope scope own = true) (hts : ∀ i ∈ ts, i ∈ own.map (·.2))
    (hG : ∀ (s : Shared) (H : Hp) (C : Addr) (cl : List (Str × Addr)) (fp : List Addr), MG (X.blk s H scope (compEnvC scope cl C X.env) fp) g tg gt put ts)
    (ht : ∀ (s : Shared) (H : Hp) (C : Addr) (cl : List (Str × Addr)) (fp : List Addr) (a : α), MTs (X.blk s H scope (compEnvC scope cl C X.env) fp) g B (put a (wipeS S (own.map (·.2)))) ifs (t a))
    (he : ∀ (s : Shared) (H : Hp) (C : Addr) (cl : List (Str × Addr)) (fp : List Addr) (a : α), ME (X.blk s H scope (compEnvC scope cl C X.env) fp) g B (put a (wipeS S (own.map (·.2)))) elt (f a) (KI g))
    (hr : ∀ bs, MB X g B J (S.set i (some (.fr (rl g bs)))) rest (fr bs) K) (hy : X.N[i]? = some x := by rfl) (hc : X.calm = true := by rfl) (hs : ∀ x, foldedSetIterable iter X.env x = pure x := by intro _; rfl) :
    MB X g B J S (.Assign [.Name x p] (.ListComp elt [⟨tg, iter, ifs, 0⟩] scope pos) pos' :: rest) (m >>= fun as => lcF t f as >>= fr) K := by
  refine ⟨fun r q => ?_⟩
  obtain ⟨as, q1, q⟩ := bind_some q
  obtain ⟨bs, q2, q3⟩ := bind_some q
  refine pss_imp (pss_cons (ps_setLc (i := i) (g := gt) (tt := rdTs g B (fun a => put a (wipeS S (own.map (·.2)))) t) (te := rdEs g B (fun a => put a (wipeS S (own.map (·.2)))) f) hc hN hy hx hsw (hi.run as q1) (blkOk_by hb) (fun s H C cl fp => (hG s H C cl fp).pg)
    (fun s H C cl fp => ⟨fun pins st σ H Q I ⟨a, b, I2, e1, h, k⟩ => ((ht _ _ C cl fp a).run b e1).run pins st σ H Q I ⟨I2, h, k⟩⟩)
    (fun s H C cl fp => ⟨fun pins st σ H Q I ⟨a, b, I2, e1, h, k⟩ => ((he _ _ C cl fp a).run b e1).run pins st σ H Q I ⟨I2, h, k⟩⟩) hs) ((hr bs).run r q3)) fun D σ H ⟨I, ok, kk⟩ => ?_
  exact lc_use (Q := fun x H1 => gName i x σ H1 (fun σ H => ∃ I, Ok g B J (List.set S i (some (RK.fr (rl g bs)))) σ I H ∧ K r D)) hts (hG X.s_0 X.H_0 0 [] []).ok q2 ⟨I, ok.h, fun v I' H' x hv => ⟨I', ok.put x rfl hv, kk⟩⟩
theorem mb_setLc (i : Nat) {x : Str} {scope : Scope} {own : List (Str × Nat)} {m : Option (List α)} {gt : TG} {put : α → SL → SL} {ts : List Nat} {f : α → Option β} {fr : List β → Option o} (hN : X.N.Nodup) (hx : X.env.scope.names.lookup x = some .local) (hsw : swapsWith (.ListComp elt [⟨tg, iter, [], 0⟩] scope pos) (some (.Name x p)) pos'.line X.env = pure true) (hi : MI X g B S tg iter m) (hb : blkC X.N X.env.scope scope own = true) (hts : ∀ i ∈ ts, i ∈ own.map (·.2))
    (hG : ∀ (s : Shared) (H : Hp) (C : Addr) (cl : List (Str × Addr)) (fp : List Addr), MG (X.blk s H scope (compEnvC scope cl C X.env) fp) g tg gt put ts)
    (he : ∀ (s : Shared) (H : Hp) (C : Addr) (cl : List (Str × Addr)) (fp : List Addr) (a : α), ME (X.blk s H scope (compEnvC scope cl C X.env) fp) g B (put a (wipeS S (own.map (·.2)))) elt (f a) (KI g))
    (hr : ∀ bs, MB X g B J (S.set i (some (.fr (rl g bs)))) rest (fr bs) K) (hy : X.N[i]? = some x := by rfl) (hc : X.calm = true := by rfl) (hs : ∀ x, foldedSetIterable iter X.env x = pure x := by intro _; rfl) :
    MB X g B J S (.Assign [.Name x p] (.ListComp elt [⟨tg, iter, [], 0⟩] scope pos) pos' :: rest) (m >>= fun as => lcM f as >>= fr) K :=
  (mb_setLcF (t := fun _ => some true) i hN hx hsw hi hb hts hG (fun _ _ _ _ _ _ => mts_nil) he hr hy hc hs).eq (by cases m with
    | none => rfl
    | some as => exact congrArg (fun z => z >>= fr) (lcF_all f as))
end
end T
set_option Elab.async false
set_option linter.all false
set_option maxRecDepth 100000
namespace T
variable [TabsC]
open PySem PySem.Spec PyProof.Rows L2

/-- behind a loop that may leave, within a turn of another -/
def Ctl.up {β β2 γ ρ : Type} (f : β → Option (Ctl β2 γ ρ)) : Ctl β Empty ρ → Option (Ctl β2 γ ρ)
  | .nx b => f b
  | .rt r => some (.rt r)
  | .ct c => c.elim
  | .bk c => c.elim
theorem lcM_pure {α β : Type} (f : α → β) : ∀ as : List α, lcM (fun a => some (f a)) as = some (as.map f)
  | [] => rfl
  | a :: as => by
    show (lcM (fun a => some (f a)) as >>= fun bs => some (f a :: bs)) = _
    rw [lcM_pure f as]; rfl
/-- lo, lo + c, .. -/
def rng3 (lo c : Int) (n : Nat) : List Int := (List.range n).map fun (i : Nat) => lo + (i : Int) * c
def rng3Ok (i j c : Int) : Bool := decide (0 < c ∧ c < 1073741824) && Builtin.Range.small i j c && decide ((Builtin.Range.rangeSize i j c).toNat ≤ sizeLine)
@[irreducible] def rng3O (i j c : Int) : Option (List Int) := if rng3Ok i j c = true then some (rng3 i c (Builtin.Range.rangeSize i j c).toNat) else none
/-! isinstance: known by the kind of thing -/
/-- things of one built-in type -/
class IsT (α : Type) [Py α] where
  ty : String
  ok : ∀ {g : Gb} {a : α} {I : Hp} {v : V}, (Py.r g a).p I v → TyX g.K I v (.type ty)
theorem tyx_sq {K : PySem.W.Frag} {H : Hp} {l : Addr} {vs : List V} (h : SqL K H l vs) : TyX K H (.ref l) (.type "list") := by
  rcases h with (h | ⟨o, h⟩) | ⟨o, its, n, h1, h2, _⟩
  · exact .base (.lst h)
  · exact .base (.frz h)
  · exact .kList h1 h2
theorem tyx_tq {K : PySem.W.Frag} {H : Hp} {l : Addr} {vs : List V} (h : SqT K H l vs) : TyX K H (.ref l) (.type "tuple") := by
  rcases h with (h | ⟨o, h⟩) | ⟨o, its, n, h1, h2, _⟩
  · exact .base (.tup h)
  · exact .fTuple h
  · exact .kTuple h1 h2
instance : IsT Int := ⟨"int", fun h => by cases h; exact .base (.int _)⟩
instance : IsT Bool := ⟨"bool", fun h => by cases h; exact .base (.bl _)⟩
instance : IsT Str := ⟨"str", fun h => by cases h; exact .base (.str _)⟩
section
variable {α β γ δ : Type} [Py α] [Py β] [Py γ] [Py δ]
instance : IsT (T2 α β) := ⟨"tuple", fun h => by obtain ⟨_, _, _, rfl, h, _⟩ := h; exact tyx_tq h⟩
instance : IsT (T3 α β γ) := ⟨"tuple", fun h => by obtain ⟨_, _, _, _, rfl, h, _⟩ := h; exact tyx_tq h⟩
instance : IsT (T4 α β γ δ) := ⟨"tuple", fun h => by obtain ⟨_, _, _, _, _, rfl, h, _⟩ := h; exact tyx_tq h⟩
theorem tyx_mono {K : PySem.W.Frag} {H H' : Hp} {v : V} {t : Value} (s : Same H H') (h : TyX K H v t) : TyX K H' v t := by
  cases h with
  | base h =>
    cases h with
    | non => exact .base .non
    | bl x => exact .base (.bl x)
    | int x => exact .base (.int x)
    | str x => exact .base (.str x)
    | flt x => exact .base (.flt x)
    | lst e => exact .base (.lst (s _ _ e))
    | frz e => exact .base (.frz (s _ _ e))
    | tup e => exact .base (.tup (s _ _ e))
    | dK e => exact .base (.dK (s _ _ e))
    | dT e => exact .base (.dT (s _ _ e))
    | ins e cl ha hn htk hm => exact .base (.ins (s _ _ e) cl ha hn htk hm)
  | byt b => exact .byt b
  | set e => exact .set (s _ _ e)
  | kList e c => exact .kList e c
  | kTuple e c => exact .kTuple e c
  | kDict e c => exact .kDict e c
  | fTuple e => exact .fTuple (s _ _ e)
  | fDict e => exact .fDict (s _ _ e)
end
/-- a thing of kind k is of the type t -/
def TR {α' : Type} (g : Gb) (k : α' → RK) (t : Value) : Prop := ∀ a H0 v I H, Same I H → RK.holds g (k a) H0 v I H → TyX g.K H v t
section
variable {X : Cx} {g : Gb} {B : Bs} {J : Hp} {S : SL} {e e1 e2 e3 tg : Expr} {es : List Expr} {pos pos' p p2 : Pos} {o α' β' γ' ρ : Type} {K : KT o} {rest body : List Stmt} {α β : Type} [Py α] [Py β] {m : Option (List α)} {k : List α → RK}
theorem tr_im [i : IsT α] : TR (α' := α) g (KI g) (.type i.ty) := fun a H0 v I H s h => tyx_mono s (IsT.ok h)
theorem tr_lr {k : List α → RK} (h : LR g k) : TR g k (.type "list") := fun a H0 v I H s q => by
  obtain ⟨l, vs, rfl, h1, _⟩ := h a H0 v I H s q
  exact tyx_sq h1
end
end T
set_option Elab.async false
set_option linter.all false
set_option maxRecDepth 100000
namespace T
variable [TabsC]
open PySem PySem.Spec PyProof.Rows L2
/-! the same rules where nothing can fail -/
section
variable {X : Cx} {g : Gb} {B : Bs} {J : Hp} {S : SL} {e e1 e2 e3 tg elt iter : Expr} {es ifs : List Expr} {pos pos' p p2 p3 apos cpos : Pos} {o α' β' γ' ρ : Type} {K : KT o} {rest body : List Stmt} {α β γ δ : Type} [Py α] [Py β] [Py γ] [Py δ]
theorem mb_iftP {c : Bool} {a b : o} {b1 : List Stmt} (hc : MT X g B S e (some c)) (h1 : MB X g B J S b1 (some a) K) (h2 : MB X g B J S rest (some b) K) (hK : ∀ r D nx, some a = some r → K r D → K r { D with nx := nx }) : MB X g B J S (.If e b1 [] pos :: rest) (some (if c = true then a else b)) K :=
  (mb_ift hc h1 h2 hK).eq (by cases c <;> rfl)
theorem me_lcP {scope : Scope} {own : List (Str × Nat)} {m : Option (List α)} {gt : TG} {put : α → SL → SL} {ts : List Nat} {f : α → β} (hN : X.N.Nodup) (hi : MI X g B S tg iter m) (hb : blkC X.N X.env.scope scope own = true) (hts : ∀ i ∈ ts, i ∈ own.map (·.2))
    (hG : ∀ (s : Shared) (H : Hp) (C : Addr) (cl : List (Str × Addr)) (fp : List Addr), MG (X.blk s H scope (compEnvC scope cl C X.env) fp) g tg gt put ts)
    (he : ∀ (s : Shared) (H : Hp) (C : Addr) (cl : List (Str × Addr)) (fp : List Addr) (a : α), ME (X.blk s H scope (compEnvC scope cl C X.env) fp) g B (put a (wipeS S (own.map (·.2)))) elt (some (f a)) (KI g)) (hc : X.calm = true := by rfl) (hs : ∀ x, foldedSetIterable iter X.env x = pure x := by intro _; rfl) :
    ME X g B S (.ListComp elt [⟨tg, iter, [], 0⟩] scope pos) (m >>= fun as => some (as.map f)) (fun bs => .fr (rl g bs)) :=
  (me_lc hN hi hb hts hG he hc hs).eq (by cases m with
    | none => rfl
    | some as => exact lcM_pure f as)
theorem mb_setLcP (i : Nat) {x : Str} {scope : Scope} {own : List (Str × Nat)} {m : Option (List α)} {gt : TG} {put : α → SL → SL} {ts : List Nat} {f : α → β} {fr : List β → Option o} (hN : X.N.Nodup) (hx : X.env.scope.names.lookup x = some .local) (hsw : swapsWith (.ListComp elt [⟨tg, iter, [], 0⟩] scope pos) (some (.Name x p)) pos'.line X.env = pure true) (hi : MI X g B S tg iter m) (hb : blkC X.N X.env.scope scope own = true) (hts : ∀ i ∈ ts, i ∈ own.map (·.2))
    (hG : ∀ (s : Shared) (H : Hp) (C : Addr) (cl : List (Str × Addr)) (fp : List Addr), MG (X.blk s H scope (compEnvC scope cl C X.env) fp) g tg gt put ts)
    (he : ∀ (s : Shared) (H : Hp) (C : Addr) (cl : List (Str × Addr)) (fp : List Addr) (a : α), ME (X.blk s H scope (compEnvC scope cl C X.env) fp) g B (put a (wipeS S (own.map (·.2)))) elt (some (f a)) (KI g))
    (hr : ∀ bs, MB X g B J (S.set i (some (.fr (rl g bs)))) rest (fr bs) K) (hy : X.N[i]? = some x := by rfl) (hc : X.calm = true := by rfl) (hs : ∀ x, foldedSetIterable iter X.env x = pure x := by intro _; rfl) :
    MB X g B J S (.Assign [.Name x p] (.ListComp elt [⟨tg, iter, [], 0⟩] scope pos) pos' :: rest) (m >>= fun as => fr (as.map f)) K :=
  (mb_setLc i hN hx hsw hi hb hts hG he hr hy hc hs).eq (by cases m with
    | none => rfl
    | some as =>
      show (lcM (fun a => some (f a)) as >>= fr) = _
      rw [lcM_pure]; rfl)
end
end T
set_option Elab.async false
set_option linter.all false
set_option maxRecDepth 100000
namespace T
variable [TabsC]
open PySem PySem.Spec PyProof.Rows L2
/-- behind a loop that no value leaves -/
def Ctl.upN {β β2 : Type} (f : β → Option β2) : Ctl β Empty Empty → Option β2
  | .nx b => f b
  | .rt r => r.elim
  | .ct c => c.elim
  | .bk c => c.elim
theorem bindP {α β : Type} (a : α) (f : α → Option β) : ((some a : Option α) >>= f) = f a := rfl
section
variable {X : Cx} {g : Gb} {B : Bs} {J : Hp} {S : SL} {e tg c : Expr} {pos : Pos} {o α β β2 γ γ2 ρ : Type} {K : KT o} {rest body : List Stmt} [Py α]
/-- loops that may be left: at a def's level; within a turn or a part that may leave; where only their own turns are left -/
theorem mb_forT {m : Option (List α)} {put : α → SL → SL} {S' : γ → SL} {s0 : γ} {k : ρ → RK} {fb : γ → α → Option (Ctl γ γ ρ)} {f : γ → Option ρ} (hi : MI X g B S tg e m) {gt : TG} {ts : List Nat} (hG : MG X g tg gt put ts) (w : Wk S (S' s0))
    (hb : ∀ J s a, MB X g B J (put a (S' s)) body (fb s a) (Kc g B J S' S' k)) (hr : ∀ s, MB X g B J (S' s) rest (f s) (Kt g B k)) (hp : PassesOwn (model X.prog X.w) X.A X.env X.xe := by exact PassesOwn.never) (hc : X.calm = true := by rfl) (hs : ∀ x, foldedSetIterable e X.env x = pure x := by intro _; rfl) :
    MB X g B J S (.For tg e body [] pos :: rest) (m >>= fun as => loopC fb as s0 >>= Ctl.seqT f) (Kt g B k) :=
  mb_forC kr_t hp hi hG w hb hr (fun _ => rfl) (fun _ => rfl) hc hs
end
end T
set_option Elab.async false
set_option linter.all false
set_option maxRecDepth 100000
namespace T
variable [TabsC]
open PySem PySem.Spec PyProof.Rows L2
/-! what is known ahead of a step is put in -/
section
variable {X : Cx} {g : Gb} {B : Bs} {J : Hp} {S : SL} {e tg : Expr} {oe : Option Expr} {es ifs : List Expr} {sts : List Stmt} {α β γ δ ε : Type}
theorem ME.p1 {a : α} {f : α → Option δ} {r : Option δ} {k : δ → RK} (h : ME X g B S e (some a >>= f) k) (q : f a = r := by exact rfl) : ME X g B S e r k := q ▸ h
theorem ME.p2 {m : Option α} {b : β} {f : α → β → Option δ} {r : Option δ} {k : δ → RK} (h : ME X g B S e (m >>= fun a => some b >>= f a) k) (q : (m >>= fun a => f a b) = r := by exact rfl) : ME X g B S e r k := q ▸ h
theorem ME.p3 {m : Option α} {m2 : α → Option β} {c : γ} {f : α → β → γ → Option δ} {r : Option δ} {k : δ → RK} (h : ME X g B S e (m >>= fun a => m2 a >>= fun b => some c >>= f a b) k) (q : (m >>= fun a => m2 a >>= fun b => f a b c) = r := by exact rfl) : ME X g B S e r k := q ▸ h
theorem MT.p1 {a : α} {f : α → Option Bool} {r : Option Bool} (h : MT X g B S e (some a >>= f)) (q : f a = r := by exact rfl) : MT X g B S e r := q ▸ h
theorem MT.p2 {m : Option α} {b : β} {f : α → β → Option Bool} {r : Option Bool} (h : MT X g B S e (m >>= fun a => some b >>= f a)) (q : (m >>= fun a => f a b) = r := by exact rfl) : MT X g B S e r := q ▸ h
theorem MT.p3 {m : Option α} {m2 : α → Option β} {c : γ} {f : α → β → γ → Option Bool} {r : Option Bool} (h : MT X g B S e (m >>= fun a => m2 a >>= fun b => some c >>= f a b)) (q : (m >>= fun a => m2 a >>= fun b => f a b c) = r := by exact rfl) : MT X g B S e r := q ▸ h
theorem MC.p1 {a : α} {f : α → Option Bool} {r : Option Bool} (h : MC X g B S e (some a >>= f)) (q : f a = r := by exact rfl) : MC X g B S e r := q ▸ h
theorem MC.p2 {m : Option α} {b : β} {f : α → β → Option Bool} {r : Option Bool} (h : MC X g B S e (m >>= fun a => some b >>= f a)) (q : (m >>= fun a => f a b) = r := by exact rfl) : MC X g B S e r := q ▸ h
theorem MC.p3 {m : Option α} {m2 : α → Option β} {c : γ} {f : α → β → γ → Option Bool} {r : Option Bool} (h : MC X g B S e (m >>= fun a => m2 a >>= fun b => some c >>= f a b)) (q : (m >>= fun a => m2 a >>= fun b => f a b c) = r := by exact rfl) : MC X g B S e r := q ▸ h
theorem MW.p1 {a : α} {f : α → Option Bool} {r : Option Bool} (h : MW X g B S e (some a >>= f)) (q : f a = r := by exact rfl) : MW X g B S e r := q ▸ h
theorem MW.p2 {m : Option α} {b : β} {f : α → β → Option Bool} {r : Option Bool} (h : MW X g B S e (m >>= fun a => some b >>= f a)) (q : (m >>= fun a => f a b) = r := by exact rfl) : MW X g B S e r := q ▸ h
theorem MW.p3 {m : Option α} {m2 : α → Option β} {c : γ} {f : α → β → γ → Option Bool} {r : Option Bool} (h : MW X g B S e (m >>= fun a => m2 a >>= fun b => some c >>= f a b)) (q : (m >>= fun a => m2 a >>= fun b => f a b c) = r := by exact rfl) : MW X g B S e r := q ▸ h
theorem MTs.p1 {a : α} {f : α → Option Bool} {r : Option Bool} (h : MTs X g B S ifs (some a >>= f)) (q : f a = r := by exact rfl) : MTs X g B S ifs r := q ▸ h
theorem MTs.p2 {m : Option α} {b : β} {f : α → β → Option Bool} {r : Option Bool} (h : MTs X g B S ifs (m >>= fun a => some b >>= f a)) (q : (m >>= fun a => f a b) = r := by exact rfl) : MTs X g B S ifs r := q ▸ h
theorem MTs.p3 {m : Option α} {m2 : α → Option β} {c : γ} {f : α → β → γ → Option Bool} {r : Option Bool} (h : MTs X g B S ifs (m >>= fun a => m2 a >>= fun b => some c >>= f a b)) (q : (m >>= fun a => m2 a >>= fun b => f a b c) = r := by exact rfl) : MTs X g B S ifs r := q ▸ h
theorem MI.p1 [Py δ] {a : α} {f : α → Option (List δ)} {r : Option (List δ)} (h : MI X g B S tg e (some a >>= f)) (q : f a = r := by exact rfl) : MI X g B S tg e r := q ▸ h
theorem MI.p2 [Py δ] {m : Option α} {b : β} {f : α → β → Option (List δ)} {r : Option (List δ)} (h : MI X g B S tg e (m >>= fun a => some b >>= f a)) (q : (m >>= fun a => f a b) = r := by exact rfl) : MI X g B S tg e r := q ▸ h
theorem MI.p3 [Py δ] {m : Option α} {m2 : α → Option β} {c : γ} {f : α → β → γ → Option (List δ)} {r : Option (List δ)} (h : MI X g B S tg e (m >>= fun a => m2 a >>= fun b => some c >>= f a b)) (q : (m >>= fun a => m2 a >>= fun b => f a b c) = r := by exact rfl) : MI X g B S tg e r := q ▸ h
theorem MSt.p1 [Py δ] {a : α} {f : α → Option (List δ)} {r : Option (List δ)} (h : MSt X g B S e (some a >>= f)) (q : f a = r := by exact rfl) : MSt X g B S e r := q ▸ h
theorem MSt.p2 [Py δ] {m : Option α} {b : β} {f : α → β → Option (List δ)} {r : Option (List δ)} (h : MSt X g B S e (m >>= fun a => some b >>= f a)) (q : (m >>= fun a => f a b) = r := by exact rfl) : MSt X g B S e r := q ▸ h
theorem MSt.p3 [Py δ] {m : Option α} {m2 : α → Option β} {c : γ} {f : α → β → γ → Option (List δ)} {r : Option (List δ)} (h : MSt X g B S e (m >>= fun a => m2 a >>= fun b => some c >>= f a b)) (q : (m >>= fun a => m2 a >>= fun b => f a b c) = r := by exact rfl) : MSt X g B S e r := q ▸ h
theorem ML.p1 [Py δ] {a : α} {f : α → Option (List δ)} {r : Option (List δ)} (h : ML X g B S es (some a >>= f)) (q : f a = r := by exact rfl) : ML X g B S es r := q ▸ h
theorem ML.p2 [Py δ] {m : Option α} {b : β} {f : α → β → Option (List δ)} {r : Option (List δ)} (h : ML X g B S es (m >>= fun a => some b >>= f a)) (q : (m >>= fun a => f a b) = r := by exact rfl) : ML X g B S es r := q ▸ h
theorem ML.p3 [Py δ] {m : Option α} {m2 : α → Option β} {c : γ} {f : α → β → γ → Option (List δ)} {r : Option (List δ)} (h : ML X g B S es (m >>= fun a => m2 a >>= fun b => some c >>= f a b)) (q : (m >>= fun a => m2 a >>= fun b => f a b c) = r := by exact rfl) : ML X g B S es r := q ▸ h
theorem MO.p1 {a : α} {f : α → Option (Option Int)} {r : Option (Option Int)} (h : MO X g B S oe (some a >>= f)) (q : f a = r := by exact rfl) : MO X g B S oe r := q ▸ h
theorem MO.p2 {m : Option α} {b : β} {f : α → β → Option (Option Int)} {r : Option (Option Int)} (h : MO X g B S oe (m >>= fun a => some b >>= f a)) (q : (m >>= fun a => f a b) = r := by exact rfl) : MO X g B S oe r := q ▸ h
theorem MO.p3 {m : Option α} {m2 : α → Option β} {c : γ} {f : α → β → γ → Option (Option Int)} {r : Option (Option Int)} (h : MO X g B S oe (m >>= fun a => m2 a >>= fun b => some c >>= f a b)) (q : (m >>= fun a => m2 a >>= fun b => f a b c) = r := by exact rfl) : MO X g B S oe r := q ▸ h
theorem MB.p1 {a : α} {f : α → Option δ} {r : Option δ} {K : KT δ} (h : MB X g B J S sts (some a >>= f) K) (q : f a = r := by exact rfl) : MB X g B J S sts r K := q ▸ h
theorem MB.p2 {m : Option α} {b : β} {f : α → β → Option δ} {r : Option δ} {K : KT δ} (h : MB X g B J S sts (m >>= fun a => some b >>= f a) K) (q : (m >>= fun a => f a b) = r := by exact rfl) : MB X g B J S sts r K := q ▸ h
theorem MB.p3 {m : Option α} {m2 : α → Option β} {c : γ} {f : α → β → γ → Option δ} {r : Option δ} {K : KT δ} (h : MB X g B J S sts (m >>= fun a => m2 a >>= fun b => some c >>= f a b) K) (q : (m >>= fun a => m2 a >>= fun b => f a b c) = r := by exact rfl) : MB X g B J S sts r K := q ▸ h
theorem MA.p1 {ι : Type} {dvs : List V} {args : ι → List RK} {a : α} {f : α → Option δ} {r : Option δ} {M : ι → Option δ} (h : MA X g B S es dvs args (some a >>= f) M) (q : f a = r := by exact rfl) : MA X g B S es dvs args r M := q ▸ h
theorem ma_nl {o : Type} {M : Unit → Option o} {r : Option o} (q : M () = r := by exact rfl) : MA X g B S [] [] (fun _ : Unit => []) r M := q ▸ ma_nil
end
theorem paired_ints {g : Gb} {I : Hp} : ∀ ns : List Int, Paired (fun a v => (Py.r g a).p I v) ns (ns.map V.int)
  | [] => .nil
  | _ :: ns => .cons rfl (paired_ints ns)
/-- the heap without the tables -/
def noT (H : Hp) : Hp := fun b => if (TabsC.T.any fun p => decide (p.1 = b)) = true then none else H b
theorem noT_at {H : Hp} {p : Addr × Str} (hp : p ∈ TabsC.T) : noT H p.1 = none := by
  unfold noT
  rw [if_pos (List.any_eq_true.mpr ⟨p, hp, by simp⟩)]
theorem noT_same {H : Hp} : Same (noT H) H := fun b o e => by
  unfold noT at e
  split at e
  · cases e
  · exact e
/-- a law's own promise -/
def spL (K : PySem.W.Frag) : Sp := fun vs H Q _ => Tbs H ∧ ∃ (a : Addr) (ns : List Int), vs = [.ref a] ∧ SqL K H a (ns.map V.int) ∧ ns.length ≤ 63 ∧ ∀ H', Q (.bl true) H'
theorem fin_bw {P : Program} {w : World} {K : PySem.W.Frag} {mg : Str → Option Value} {base : Heap} {k : Nat} {f : Addr} {fd : FuncData} {ps : List Str} {M : List Int → Option Bool} (hM : ∀ ns : List Int, ns.length ≤ 63 → M ns = some true)
    (F : FnOk P w K mg base CX0 k f fd ps (spT (Gb.mk K mg) (fun p : List Int × Unit => [.bw (rl (Gb.mk K mg) p.1)]) (fun p => M p.1) (fun r => .im (Py.r (Gb.mk K mg) (r : Bool))))) : FnOk P w K mg base CX0 k f fd ps (spL K) :=
  F.imp fun vs H Q E ⟨tb, a, ns, e, hS, hl, q⟩ => by
    subst e
    exact ⟨noT H, (ns, ()), true, noT_same, ⟨tb, fun _ hp => noT_at hp⟩, .cons ⟨a, _, rfl, hS, Nat.le_trans hl (by decide), paired_ints ns⟩ .nil, hM ns hl, fun v I' H' _ hv => by cases hv; exact q H'⟩
end T
set_option Elab.async false
set_option linter.all false
set_option maxRecDepth 100000
namespace T
variable [TabsC]
open PySem PySem.Spec PyProof.Rows L2
/-! owned trees -/
def oI (r : PR) : OR := ⟨fun I _ v => r.p I v, fun s h => r.mono s h⟩
def oF (q : PL) : OR := ⟨fun I F v => ∃ l vs, v = .ref l ∧ F l = some (.lst vs) ∧ q.p I vs, fun s ⟨l, vs, e, h, q'⟩ => ⟨l, vs, e, h, q.mono s q'⟩⟩
/-- children side by side in F, none at the root -/
structure Kids (os : List OR) (I F : Hp) (vs : List V) (l : Addr) : Prop where
  len : os.length = vs.length
  ex : ∃ Ψ : Nat → Hp, (∀ (j : Nat) (o : OR) (v : V), os[j]? = some o → vs[j]? = some v → o.p I (Ψ j) v) ∧ (∀ j, Same (Ψ j) F) ∧ (∀ j, Ψ j l = none) ∧ (∀ i j a, Ψ i a ≠ none → Ψ j a ≠ none → i = j)
theorem Kids.mono {os : List OR} {I I' F : Hp} {vs : List V} {l : Addr} (s : Same I I') (h : Kids os I F vs l) : Kids os I' F vs l := by
  obtain ⟨h1, Ψ, a, b⟩ := h
  exact ⟨h1, Ψ, fun j o v e1 e2 => o.mono s (a j o v e1 e2), b⟩
def oC (W : List V → HO → Prop) (os : List OR) : OR := ⟨fun I F v => ∃ l ob vs, v = .ref l ∧ F l = some ob ∧ W vs ob ∧ Kids os I F vs l, fun s ⟨l, ob, vs, e, h, w, k⟩ => ⟨l, ob, vs, e, h, w, k.mono s⟩⟩
def wL : List V → HO → Prop := fun vs ob => ob = .lst vs ∧ vs.length ≤ sizeLine
def wT : List V → HO → Prop := fun vs ob => ob = .tup vs
def wI (g : Gb) (c : Str) (names : List Str) : List V → HO → Prop := fun vs ob => ∃ C dx, g.mg c = some (.ref C) ∧ ob = .ins C dx (names.zip vs) ∧ names.length = vs.length
/-- an instance that stays -/
def rIns (g : Gb) (c : Str) (names : List Str) (rs : List PR) : PR where
  p := fun I v => ∃ l C dx vs, v = .ref l ∧ g.mg c = some (.ref C) ∧ I l = some (.ins C dx (names.zip vs)) ∧ names.length = vs.length ∧ Paired (fun (r : PR) v => r.p I v) rs vs
  mono := fun s ⟨l, C, dx, vs, e, h1, h2, h3, h4⟩ => ⟨l, C, dx, vs, e, h1, s _ _ h2, h3, L2.Paired.mapP h4 fun r _ q => r.mono s q⟩
/-! let go -/
theorem frz_I {r : PR} : Frz (oI r) r := fun I F v hd h => r.mono (un_l hd) h
theorem frz_F {g : Gb} {α : Type} [Py α] {as : List α} : Frz (oF (rl g as)) (Py.r g as) := fun I F v hd ⟨l, vs, e, h1, h2⟩ => by subst e; exact frz_list hd h1 h2
theorem un_same {I F Ψ : Hp} (hd : ∀ a, F a ≠ none → I a = none) (s : Same Ψ F) : Same (Un I Ψ) (Un I F) := fun a o e => by
  rcases un_some e with e | ⟨e1, e2⟩
  · exact un_r (s a o e)
  · cases q : F a with
    | none => rw [un_none q]; exact e2
    | some u => have := hd a (ne_of_some q); rw [this] at e2; cases e2
theorem kids_frz {g : Gb} {os : List OR} {rs : List PR} {I F : Hp} {vs : List V} {l : Addr} (hd : ∀ a, F a ≠ none → I a = none) (z : Paired Frz os rs) (h : Kids os I F vs l) : Paired (fun (r : PR) v => r.p (Un I F) v) rs vs := by
  obtain ⟨hl, Ψ, h1, h2, _, _⟩ := h
  have key : ∀ (os : List OR) (rs : List PR) (vs : List V) (Ψ : Nat → Hp), Paired Frz os rs → os.length = vs.length → (∀ (j : Nat) (o : OR) (v : V), os[j]? = some o → vs[j]? = some v → o.p I (Ψ j) v) → (∀ j, Same (Ψ j) F) → Paired (fun (r : PR) v => r.p (Un I F) v) rs vs := by
    intro os rs vs Ψ z
    induction z generalizing vs Ψ with
    | nil =>
      intro hl _ _
      cases vs with
      | nil => exact .nil
      | cons _ _ => cases hl
    | cons zf _ ih =>
      intro hl h1 h2
      cases vs with
      | nil => cases hl
      | cons v vs =>
        refine .cons ?_ (ih vs (fun j => Ψ (j + 1)) (by simpa using hl) (fun j o v e1 e2 => h1 (j + 1) o v (by simpa using e1) (by simpa using e2)) fun j => h2 (j + 1))
        have hp := h1 0 _ v rfl rfl
        have hd0 : ∀ a, Ψ 0 a ≠ none → I a = none := fun a ha => hd a (same_ne (h2 0) ha)
        exact PR.mono _ (un_same hd (h2 0)) (zf I (Ψ 0) v hd0 hp)
  exact key os rs vs Ψ z hl h1 h2
theorem frz_C {g : Gb} {c : Str} {names : List Str} {os : List OR} {rs : List PR} (z : Paired Frz os rs) : Frz (oC (wI g c names) os) (rIns g c names rs) := fun I F v hd ⟨l, ob, vs, e, h, ⟨C, dx, h1, h2, h3⟩, k⟩ => by
  subst e h2
  exact ⟨l, C, dx, vs, rfl, h1, un_r h, h3, kids_frz (g := g) hd z k⟩
section
variable {g : Gb} {α β γ δ : Type} [Py α] [Py β] [Py γ] [Py δ] {o0 o1 o2 o3 : OR}
end
/-- a kind as an owned one -/
def RK.orOf : RK → OR
  | .im p => oI p
  | .fr q => oF q
  | .ow o => o
  | .bw q => oF q
  | .rd q => oF q
theorem RK.fragO {g : Gb} {k : RK} {H : Hp} {v : V} {I' H' : Hp} (hk : k.slotty = true) (h : RK.holds g k H v I' H') : ∃ F : Hp, (∀ a, F a ≠ none → H a = none ∧ I' a = none) ∧ Same F H' ∧ k.orOf.p I' F v := by
  obtain ⟨F, f1, f2, f3⟩ := RK.frag hk h
  refine ⟨F, f1, f2, ?_⟩
  have f4 := f3 H
  cases k with
  | im p => exact f4
  | fr q => exact f4
  | ow o => exact f4
  | bw q => cases hk
  | rd q => cases hk
/-! a part of an owned tree -/
def Rp (F F1 F1' : Hp) : Hp := fun a => match F1' a with
  | some o => some o
  | none => match F1 a with
    | some _ => none
    | none => F a
theorem rp_new {F F1 F1' : Hp} {a : Addr} {o : HO} (h : F1' a = some o) : Rp F F1 F1' a = some o := by unfold Rp; rw [h]
theorem rp_gone {F F1 F1' : Hp} {a : Addr} (h : F1' a = none) (h2 : F1 a ≠ none) : Rp F F1 F1' a = none := by
  unfold Rp
  rw [h]
  cases q : F1 a with
  | none => exact absurd q h2
  | some o => rfl
theorem rp_old {F F1 F1' : Hp} {a : Addr} (h : F1' a = none) (h2 : F1 a = none) : Rp F F1 F1' a = F a := by unfold Rp; rw [h, h2]
theorem rp_self {F F' : Hp} : Rp F F F' = F' := by
  funext a
  cases q : F' a with
  | some o => exact rp_new q
  | none =>
    cases r : F a with
    | none => rw [rp_old q r, r]
    | some o => exact rp_gone q (ne_of_some r)
/-- v1 is the part of v that o1 tells; mk says what the whole is with another part -/
def FocAt (o1 : OR) (mk : OR → OR) (I F : Hp) (v v1 : V) : Prop := ∃ F1, Same F1 F ∧ o1.p I F1 v1 ∧ ∀ (o' : OR) (I' F1' : Hp), Same I I' → (∀ a, F1' a ≠ none → F1 a ≠ none ∨ F a = none) → o'.p I' F1' v1 → (mk o').p I' (Rp F F1 F1') v
theorem FocAt.mono {o1 : OR} {mk : OR → OR} {I I' F : Hp} {v v1 : V} (s : Same I I') (h : FocAt o1 mk I F v v1) : FocAt o1 mk I' F v v1 := by
  obtain ⟨F1, h1, h2, h3⟩ := h
  exact ⟨F1, h1, o1.mono s h2, fun o' I2 F1' s2 => h3 o' I2 F1' (s.trans s2)⟩
theorem foc_self {o : OR} {I F : Hp} {v : V} (h : o.p I F v) : FocAt o (fun o => o) I F v v := ⟨F, Same.refl _, h, fun o' I' F1' _ _ h' => by rw [rp_self]; exact h'⟩
end T
set_option Elab.async false
set_option linter.all false
set_option maxRecDepth 100000
namespace T
variable [TabsC]
open PySem PySem.Spec PyProof.Rows L2
/-! writing into an owned tree -/
def NewF (F : Hp) (l : Addr) (ob : HO) (F' : Hp) : Hp := fun a => if a = l then some ob else match F' a with
  | some o => some o
  | none => F a
theorem newF_root {F F' : Hp} {l : Addr} {ob : HO} : NewF F l ob F' l = some ob := by unfold NewF; rw [if_pos rfl]
theorem newF_new {F F' : Hp} {l a : Addr} {ob o : HO} (h : a ≠ l) (e : F' a = some o) : NewF F l ob F' a = some o := by unfold NewF; rw [if_neg h, e]
theorem newF_old {F F' : Hp} {l a : Addr} {ob : HO} (h : a ≠ l) (e : F' a = none) : NewF F l ob F' a = F a := by unfold NewF; rw [if_neg h, e]
theorem newF_ne {F F' : Hp} {l a : Addr} {ob : HO} (h : NewF F l ob F' a ≠ none) : a = l ∨ F' a ≠ none ∨ F a ≠ none := by
  by_cases e : a = l
  · exact .inl e
  · cases q : F' a with
    | some o => exact .inr (.inl (by simp))
    | none => rw [newF_old e q] at h; exact .inr (.inr h)
theorem rp_newF {F F1 F' : Hp} {l : Addr} {ob ob0 : HO} (s : Same F1 F) (hl : F1 l = some ob0) : Rp F F1 (NewF F1 l ob F') = NewF F l ob F' := by
  funext a
  by_cases e : a = l
  · subst e; rw [rp_new newF_root, newF_root]
  · cases q : F' a with
    | some o => rw [rp_new (newF_new e q), newF_new e q]
    | none =>
      rw [newF_old e q]
      cases r : F1 a with
      | some o => rw [rp_new (by rw [newF_old e q]; exact r), s _ _ r]
      | none => rw [rp_old (by rw [newF_old e q]; exact r) r]
theorem foc_root {W : List V → HO → Prop} {os : List OR} {mk : OR → OR} {I F : Hp} {v v1 : V} (h : FocAt (oC W os) mk I F v v1) : ∃ l ob vs, v1 = .ref l ∧ F l = some ob ∧ W vs ob ∧ os.length = vs.length ∧
    ∀ (W' : List V → HO → Prop) (os' : List OR) (vs' : List V) (ob' : HO) (j : Nat) (I' F' : Hp), Same I I' → (∀ a, F' a ≠ none → F a = none) → W' vs' ob' → os'.length = vs'.length →
      (∀ i o u, os'[i]? = some o → vs'[i]? = some u → if i = j then o.p I' F' u else os[i]? = some o ∧ vs[i]? = some u) → (mk (oC W' os')).p I' (NewF F l ob' F') v := by
  obtain ⟨F1, s1, ⟨l, ob, vs, e, hl, w, hlen, Ψ, k1, k2, k3, k4⟩, h3⟩ := h
  refine ⟨l, ob, vs, e, s1 _ _ hl, w, hlen, fun W' os' vs' ob' j I' F' sI nF w' hlen' hk => ?_⟩
  have F'l : F' l = none := by
    cases q : F' l with
    | none => rfl
    | some u => have := nF l (ne_of_some q); rw [s1 _ _ hl] at this; cases this
  have apart : ∀ i a, Ψ i a ≠ none → F' a = none := fun i a ha => by
    cases q : F' a with
    | none => rfl
    | some u => exact absurd (nF a (ne_of_some q)) (same_ne ((k2 i).trans s1) ha)
  rw [← rp_newF (F' := F') (ob := ob') s1 hl]
  refine h3 (oC W' os') I' _ sI (fun a ha => ?_) ⟨l, ob', vs', e, newF_root, w', hlen', putF Ψ j F', fun i o u e1 e2 => ?_, fun i a o ea => ?_, fun i => ?_, fun i m a e1 e2 => ?_⟩
  · rcases newF_ne ha with z | z | z
    · subst z; exact .inl (ne_of_some hl)
    · exact .inr (nF a z)
    · exact .inl z
  · have := hk i o u e1 e2
    by_cases hi : i = j
    · rw [if_pos hi] at this
      rw [hi, putF_same]; exact this
    · rw [if_neg hi] at this
      rw [putF_ne hi]
      exact o.mono sI (k1 i o u this.1 this.2)
  · by_cases hi : i = j
    · rw [hi, putF_same] at ea
      exact newF_new (fun z => by rw [z, F'l] at ea; cases ea) ea
    · rw [putF_ne hi] at ea
      have hn := ne_of_some ea
      rw [newF_old (fun z => by rw [z, k3 i] at ea; cases ea) (apart i a hn)]
      exact k2 i a o ea
  · by_cases hi : i = j
    · rw [hi, putF_same]; exact F'l
    · rw [putF_ne hi]; exact k3 i
  · by_cases hi : i = j
    · by_cases hm : m = j
      · rw [hi, hm]
      · rw [hi, putF_same] at e1
        rw [putF_ne hm] at e2
        exact absurd (apart m a e2) e1
    · by_cases hm : m = j
      · rw [hm, putF_same] at e2
        rw [putF_ne hi] at e1
        exact absurd (apart i a e1) e2
      · rw [putF_ne hi] at e1
        rw [putF_ne hm] at e2
        exact k4 i m a e1 e2
theorem foc_leaf {q : PL} {mk : OR → OR} {I F : Hp} {v v1 : V} (h : FocAt (oF q) mk I F v v1) : ∃ l vs, v1 = .ref l ∧ F l = some (.lst vs) ∧ q.p I vs ∧ ∀ (q' : PL) (vs' : List V) (I' : Hp), Same I I' → q'.p I' vs' → (mk (oF q')).p I' (NewF F l (.lst vs') fun _ => none) v := by
  obtain ⟨F1, s1, ⟨l, vs, e, hl, hq⟩, h3⟩ := h
  refine ⟨l, vs, e, s1 _ _ hl, hq, fun q' vs' I' sI hq' => ?_⟩
  rw [← rp_newF (F' := fun _ => none) (ob := .lst vs') s1 hl]
  refine h3 (oF q') I' _ sI (fun a ha => ?_) ⟨l, vs', e, newF_root, hq'⟩
  rcases newF_ne ha with z | z | z
  · subst z; exact .inl (ne_of_some hl)
  · exact absurd rfl z
  · exact .inl z
section
variable {X : Cx} {g : Gb} {B : Bs} {J : Hp} {S : SL} {σ : L2.St} {I H : Hp} {Φ : Nat → Hp} {i : Nat} {k : RK} {v : V}
/-- the heap is written within slot i's fragment -/
theorem HoldF.okw {H' F' : Hp} (x : Ext B.I B.H I H) (oj : Same J I) (h : HoldF g B S σ I H Φ) (e1 : σ[i]? = some (some v)) (sH : Same I H') (keep : ∀ a o, H a = some o → (Φ i a = none ∨ ∃ f, o = .ext f) → H' a = some o) (sF : Same F' H') (nF : ∀ a, F' a ≠ none → Φ i a ≠ none ∨ (I a = none ∧ B.H a = none ∧ ∀ j, Φ j a = none)) (hv : RK.inS g k B.H v I F') :
    Ok g B J (S.set i (some k)) σ I H' := by
  have other : ∀ a o, B.H a = some o → Φ i a = none := fun a o e => by
    cases q : Φ i a with
    | none => rfl
    | some u => have := (h.fr i a u q).2.2; rw [e] at this; cases this
  have tH : Tbs H' := h.tb.t.keep (fun p hp o e => keep _ o e (.inl (h.noT i p hp))) fun a f e => keep a _ e (.inr ⟨f, rfl⟩)
  have sB : SW B.H H' := h.base.kept tH fun a o o' e e' => keep a o' e' (.inl (other a o e))
  have hσ : σ.set i (some v) = σ := by
    apply List.ext_getElem?
    intro j
    by_cases hj : i = j
    · subst hj
      rw [List.getElem?_set_self (List.getElem?_eq_some_iff.mp e1).1, e1]
    · rw [List.getElem?_set_ne hj]
  refine ⟨⟨x.i, sB, sH, x.n⟩, oj, putF Φ i F', ?_⟩
  have h2 : HoldF g B (S.set i (some k)) (σ.set i (some v)) I H' (putF Φ i F') := by
    refine ⟨by rw [List.length_set, List.length_set, h.len], sH, sB, ⟨tH, h.tb.b, h.tb.i⟩, fun j k' e => ?_, fun j a o e => ?_, fun j l a hj hl => ?_⟩
    · rcases set_some e with ⟨a, b, c⟩ | ⟨a, b⟩
      · subst a
        cases b
        exact ⟨v, List.getElem?_set_self (by rw [h.len]; exact c), by rw [putF_same]; exact hv⟩
      · obtain ⟨u, e2, q⟩ := h.at_ j k' b
        exact ⟨u, by rw [List.getElem?_set_ne a]; exact e2, by rw [putF_ne (fun z => a z.symm)]; exact q⟩
    · by_cases hji : j = i
      · rw [hji, putF_same] at e
        refine ⟨sF a o e, ?_⟩
        rcases nF a (ne_of_some e) with z | ⟨z1, z2, _⟩
        · exact (h.ne z).2
        · exact ⟨z1, z2⟩
      · rw [putF_ne hji] at e
        obtain ⟨f1, f2, f3⟩ := h.fr j a o e
        refine ⟨keep a o f1 (.inl ?_), f2, f3⟩
        cases q : Φ i a with
        | none => rfl
        | some u => exact absurd (h.dj j i a (ne_of_some e) (ne_of_some q)) hji
    · have no : ∀ m, m ≠ i → F' a ≠ none → Φ m a ≠ none → False := fun m hm f1 f2 => by
        rcases nF a f1 with z | ⟨_, _, z3⟩
        · exact hm (h.dj m i a f2 z)
        · exact f2 (z3 m)
      by_cases hji : j = i
      · by_cases hli : l = i
        · rw [hji, hli]
        · rw [hji, putF_same] at hj
          rw [putF_ne hli] at hl
          exact (no l hli hj hl).elim
      · by_cases hli : l = i
        · rw [hli, putF_same] at hl
          rw [putF_ne hji] at hj
          exact (no j hji hl hj).elim
        · rw [putF_ne hji] at hj
          rw [putF_ne hli] at hl
          exact h.dj j l a hj hl
  rw [hσ] at h2
  exact h2
/-- one object of slot i's fragment gets new contents; F' comes along -/
theorem HoldF.store {l : Addr} {ob ob0 : HO} {F' : Hp} {o : OR} (x : Ext B.I B.H I H) (oj : Same J I) (h : HoldF g B S σ I H Φ) (e1 : σ[i]? = some (some v)) (hl : Φ i l = some ob0) (sF : Same F' H) (nF : ∀ a, F' a ≠ none → I a = none ∧ B.H a = none ∧ ∀ j, Φ j a = none) (hv : o.p I (NewF (Φ i) l ob F') v) (hx : nx ob0 = true := by rfl) :
    Ok g B J (S.set i (some (.ow o))) σ I (upd H l ob) := by
  obtain ⟨f1, f2, f3⟩ := h.fr i l _ hl
  refine h.okw x oj e1 (F' := NewF (Φ i) l ob F') (fun a o e => ?_) (fun a o e z => ?_) (fun a o e => ?_) (fun a ha => ?_) hv
  · rw [upd_ne (ne_of_none e f2)]
    exact h.sub a o e
  · rw [upd_ne (fun y => by
      rcases z with z | ⟨f, z⟩
      · rw [y, hl] at z; cases z
      · rw [y, f1] at e
        cases e
        rw [z] at hx; cases hx)]
    exact e
  · by_cases hal : a = l
    · subst hal
      rw [newF_root] at e
      rw [upd_same]; exact e
    · rw [upd_ne hal]
      cases q : F' a with
      | some u =>
        rw [newF_new hal q] at e
        cases e
        exact sF a _ q
      | none =>
        rw [newF_old hal q] at e
        exact (h.fr i a o e).1
  · rcases newF_ne ha with z | z | z
    · subst z; exact .inl (ne_of_some hl)
    · exact .inr (nF a z)
    · exact .inl z
end
/-- e is a place in the tree of slot i -/
structure MP {ι : Type} (X : Cx) (g : Gb) (B : Bs) (S : SL) (i : Nat) (e : Expr) (m : Option ι) (o1 : ι → OR) (mk : ι → OR → OR) : Prop where
  run : ∀ x, m = some x → PE X e (fun σ H Q => ∃ I Φ, HoldF g B S σ I H Φ ∧ ∀ v1 I' H', Ext I H I' H' → (∃ v, σ[i]? = some (some v) ∧ FocAt (o1 x) (mk x) I' (Φ i) v v1) → Q v1 H')
def fidx : List Str → Str → Option Nat
  | [], _ => none
  | n :: ns, f => if (f == n) = true then some 0 else (fidx ns f).map (· + 1)
theorem lookup_zip {f : Str} : ∀ {names : List Str} {vs : List V} {j : Nat}, fidx names f = some j → names.length = vs.length → (names.zip vs).lookup f = vs[j]?
  | [], _, j, h, _ => by cases h
  | n :: ns, [], j, _, hl => by cases hl
  | n :: ns, v :: vs, j, h, hl => by
    unfold fidx at h
    show List.lookup f ((n, v) :: ns.zip vs) = _
    cases hb : f == n with
    | true =>
      rw [hb, if_pos rfl] at h
      cases h
      simp only [List.lookup, hb]; rfl
    | false =>
      rw [hb, if_neg Bool.false_ne_true] at h
      obtain ⟨j', e1, e2⟩ := Option.map_eq_some_iff.mp h
      subst e2
      simp only [List.lookup, hb]
      rw [lookup_zip e1 (by simpa using hl)]; rfl
theorem putF_zip_no {f : Str} {w : V} : ∀ {names : List Str} {vs : List V}, fidx names f = none → names.length = vs.length → L2.putF f w (names.zip vs) = (names ++ [f]).zip (vs ++ [w])
  | [], [], _, _ => rfl
  | [], _ :: _, _, hl => by cases hl
  | n :: ns, [], _, hl => by cases hl
  | n :: ns, v :: vs, h, hl => by
    unfold fidx at h
    show L2.putF f w ((n, v) :: ns.zip vs) = _
    unfold L2.putF
    by_cases hb : n = f
    · subst hb
      rw [if_pos (beq_self_eq_true n)] at h
      cases h
    · have hb2 : (f == n) = false := beq_eq_false_iff_ne.mpr fun z => hb z.symm
      rw [hb2, if_neg Bool.false_ne_true] at h
      rw [if_neg hb, putF_zip_no (Option.map_eq_none_iff.mp h) (by simpa using hl)]; rfl
/-- a class of the program's own, plain, which has not the name f -/
def Cf (X : Cx) (g : Gb) (c f : Str) : Prop := ∃ C, g.mg c = some (.ref C) ∧ Cls X.K C ∧ NoAttr X.K C f
/-- the place of an item, and the item -/
@[irreducible] def plO {α : Type} (xs : List α) (n : Int) : Option (Nat × α) := (ixN xs.length n).bind fun j => xs[j]?.map fun a => (j, a)
section
variable {X : Cx} {g : Gb} {B : Bs} {J : Hp} {S : SL} {e e1 e2 e3 : Expr} {pos pos' p p2 p3 apos cpos : Pos} {i : Nat} {o ι : Type} {K : KT o} {rest : List Stmt} {α β : Type} [Py α] [Py β] {m : Option ι} {mk : ι → OR → OR}
theorem mp_fr (i : Nat) {x : Str} {as : List α} (hS : S[i]? = some (some (.fr (rl g as))) := by rfl) (hN : X.N[i]? = some x := by rfl) (hv : Vis X.env.scope x := by first | exact Or.inl rfl | exact Or.inr (Or.inl rfl) | exact Or.inr (Or.inr rfl))
    (hd : (x == ("__debug__" : Str)) = false := by decide) (hcd : (x == ("__classdict__" : Str)) = false := by decide) : MP X g B S i (.Name x pos) (some ()) (fun _ => oF (rl g as)) (fun _ o' => o') := by
  refine ⟨fun _ _ => pe_imp (pe_var hN hv hd hcd) fun σ H Q ⟨I, Φ, h, q⟩ => ?_⟩
  obtain ⟨v, e1, h1⟩ := h.at_ i _ hS
  exact ⟨v, e1, q v I H (Ext.refl h.sub) ⟨v, e1, foc_self h1⟩⟩
/-- place.f = value: a new field -/
theorem mb_fldN {a' : Type} {c f : Str} {names : List Str} {os : ι → List OR} {m2 : Option a'} {k : a' → RK} {fn : ι → a' → Option o} (hv : ME X g B S e2 m2 k) (h : MP X g B S i e m (fun x => oC (wI g c names) (os x)) mk) (hC : Cf X g c f)
    (hb : ∀ x a, MB X g B J (S.set i (some (.ow (mk x (oC (wI g c (names ++ [f])) (os x ++ [(k a).orOf])))))) rest (fn x a) K) (hj : fidx names f = none := by decide +kernel) (hk : ∀ a, (k a).slotty = true := by intro _; rfl) (hn : names.length < 1000 := by decide)
    (hs : swapsWith e2 (some (.Attribute e f apos)) pos.line X.env = pure false := by rfl) : MB X g B J S (.Assign [.Attribute e f apos] e2 pos :: rest) (m2 >>= fun a => m >>= fun x => fn x a) K := by
  refine ⟨fun r q => ?_⟩
  obtain ⟨a, q2, q⟩ := bind_some q
  obtain ⟨x, q1, q3⟩ := bind_some q
  refine pss_imp (pss_cons (ps_fld (h.run x q1) (hv.run a q2) hs) ((hb x a).run r q3)) fun D σ H ⟨I, ok, kk⟩ => ?_
  obtain ⟨x0, oj, Φ, hh⟩ := ok
  refine ⟨I, ⟨Φ, hh⟩, fun w I1 H1 x1 hw => ⟨I1, Φ, hh.ext x1, fun v1 I2 H2 x2 ⟨v, e1, fc⟩ => ?_⟩⟩
  obtain ⟨F', f1, f2, f3⟩ := RK.fragO (hk a) (RK.ext hw x2 hh.tb.has)
  obtain ⟨l, ob, vs, rfl, hl, ⟨C, dx, c1, c2, c3⟩, c4, put⟩ := foc_root fc
  subst c2
  obtain ⟨C', d1, d2, d3⟩ := hC
  rw [c1] at d1
  cases d1
  have x12 := x1.trans x2
  have hl2 := x12.h.get _ _ (hh.fr i l _ hl).1
  have none_of : ∀ a, F' a ≠ none → ∀ j, Φ j a = none := fun a ha j => by
    cases q : Φ j a with
    | none => rfl
    | some u => exact absurd (f1 a ha).1 (ne_of_some (hh.fr j a u q).1)
  refine ⟨l, _, dx, _, rfl, hl2, d2, d3, ?_, I2, ?_, kk⟩
  · rw [List.length_zip, c3, Nat.min_self, ← c3]; exact hn
  · rw [putF_zip_no hj c3]
    refine HoldF.store (x0.trans x12) (oj.trans x12.i) (hh.ext x12) e1 hl (F' := F') f2 (fun a ha => ⟨(f1 a ha).2, hh.base.free (f1 a ha).1, none_of a ha⟩) ?_
    refine put (wI g c (names ++ [f])) (os x ++ [(k a).orOf]) (vs ++ [w]) _ (os x).length I2 F' (Same.refl _) (fun a ha => none_of a ha i) ⟨_, dx, c1, rfl, by simp [c3]⟩ (by simp [c4]) fun i' o' u e1 e2 => ?_
    by_cases hi : i' < (os x).length
    · rw [List.getElem?_append_left hi] at e1
      rw [List.getElem?_append_left (by omega)] at e2
      rw [if_neg (by omega)]
      exact ⟨e1, e2⟩
    · have hlt := (List.getElem?_eq_some_iff.mp e1).1
      rw [List.length_append, List.length_singleton] at hlt
      have hi2 : i' = (os x).length := by omega
      subst hi2
      rw [List.getElem?_append_right (Nat.le_refl _), Nat.sub_self] at e1
      rw [c4, List.getElem?_append_right (Nat.le_refl _), Nat.sub_self] at e2
      cases e1
      cases e2
      rw [if_pos rfl]; exact f3
end
end T
set_option Elab.async false
set_option linter.all false
set_option maxRecDepth 100000
namespace T
variable [TabsC]
open PySem PySem.Spec PyProof.Rows L2
/-! defs that change what they are handed -/
/-- an owned thing that is the value v0 -/
def oP (v0 : V) (o : OR) : OR := ⟨fun I F v => v = v0 ∧ o.p I F v, fun s h => ⟨h.1, o.mono s h.2⟩⟩
def RK.pin (v0 : V) : RK → RK
  | .ow o => .ow (oP v0 o)
  | k => k
def pinL (u : Nat → V) : List RK → Nat → List RK
  | [], _ => []
  | k :: ks, n => k.pin (u n) :: pinL u ks (n + 1)
structure ArgsF (g : Gb) (ks : List RK) (vs : List V) (I R H : Hp) (Φ : Nat → Hp) : Prop where
  len : ks.length = vs.length
  at_ : ∀ (i : Nat) (k : RK) (v : V), ks[i]? = some k → vs[i]? = some v → RK.inS g k R v I (Φ i)
  fr : ∀ (i : Nat) (a : Addr) (o : HO), Φ i a = some o → H a = some o ∧ I a = none ∧ R a = none
  dj : ∀ (i j : Nat) (a : Addr), Φ i a ≠ none → Φ j a ≠ none → i = j
/-- what holds behind the call: the value v with its fragment F, what was handed in with the fragments Φ' -/
structure Post (g : Gb) (I R : Hp) (k : RK) (outs : List (Nat × OR)) (vs : Nat → Option V) (v : V) (I' H' F : Hp) (Φ' : Nat → Hp) : Prop where
  i : Same I I'
  s : Same I' H'
  h : SW R H'
  tb : Tbs H'
  n : ∀ l, R l ≠ none → I l = none → I' l = none
  fF : ∀ b, F b ≠ none → R b = none ∧ I' b = none
  sF : Same F H'
  val : RK.inS g k R v I' F
  out : ∀ p ∈ outs, ∃ u, vs p.1 = some u ∧ p.2.p I' (Φ' p.1) u
  fr : ∀ (i : Nat) (a : Addr) (o : HO), Φ' i a = some o → H' a = some o ∧ I' a = none ∧ R a = none
  dj : ∀ (i j : Nat) (a : Addr), Φ' i a ≠ none → Φ' j a ≠ none → i = j
  dv : ∀ (i : Nat) (a : Addr), Φ' i a ≠ none → F a = none
def spIO {ι β : Type} (g : Gb) (args : ι → List RK) (M : ι → Option β) (k : β → RK) (outs : β → List (Nat × OR)) : Sp := fun vs H Q _ => ∃ I R Φ a r, Same I H ∧ Same R H ∧ TbH R I H ∧ ArgsF g (args a) vs I R H Φ ∧ M a = some r ∧
  ∀ v I' H' F Φ', Post g I R (k r) (outs r) (fun i => vs[i]?) v I' H' F Φ' → Q v H'
/-- the ends of such a def: it hands back a value; it falls off its end -/
def Kio {β : Type} (g : Gb) (B : Bs) (u : Nat → V) (k : β → RK) (outs : β → List (Nat × OR)) : KT β := fun r D => (∀ v I' H' F Φ', Post g B.I B.H (k r) (outs r) (fun i => some (u i)) v I' H' F Φ' → D.rt v H')
def KioU {β : Type} (g : Gb) (B : Bs) (u : Nat → V) (outs : β → List (Nat × OR)) : KT β := fun r D => (∀ I' H' F Φ' σ, Post g B.I B.H (.im (Py.r g ())) (outs r) (fun i => some (u i)) .non I' H' F Φ' → D.nx σ H' ∧ D.rt .non H')
section
variable {P : Program} {w : World} {K : PySem.W.Frag} {mg : Str → Option Value} {base : Heap} {ι β : Type} {args : ι → List RK} {M : ι → Option β} {kd : β → RK} {outs : β → List (Nat × OR)}
def RK.argio : RK → Bool
  | .im _ => true
  | .bw _ => true
  | .ow _ => true
  | _ => false
theorem pinL_get {u : Nat → V} : ∀ {ks : List RK} {n i : Nat} {k : RK}, (pinL u ks n)[i]? = some k → ∃ k0, ks[i]? = some k0 ∧ k = k0.pin (u (n + i))
  | [], _, _, _, h => by simp [pinL] at h
  | k0 :: ks, n, 0, k, h => by
    cases h
    exact ⟨k0, rfl, rfl⟩
  | k0 :: ks, n, i + 1, k, h => by
    obtain ⟨k1, e1, e2⟩ := pinL_get (ks := ks) (n := n + 1) (i := i) (by simpa [pinL] using h)
    exact ⟨k1, by simpa using e1, by rw [e2]; congr 2; omega⟩
theorem pinL_len {u : Nat → V} : ∀ {ks : List RK} {n : Nat}, (pinL u ks n).length = ks.length
  | [], _ => rfl
  | _ :: ks, n => by
    show (pinL u ks (n + 1)).length + 1 = ks.length + 1
    rw [pinL_len]
theorem holdF_start {g : Gb} {N : List Str} {ks : List RK} {vs : List V} {I R H : Hp} {Φ : Nat → Hp} (hl : ks.length ≤ N.length) (s : Same I H) (sR : Same R H) (tb : TbH R I H) (hA : ArgsF g ks vs I R H Φ) (hI : ∀ a o, I a = some o → H a = some o) :
    Hold g ⟨I, R⟩ (S0 N (pinL (fun i => vs.getD i .non) ks 0)) (L2.start N vs) I H := by
  have arg : ∀ {i : Nat} {k : RK}, (S0 N (pinL (fun i => vs.getD i .non) ks 0))[i]? = some (some k) → (pinL (fun i => vs.getD i .non) ks 0)[i]? = some k := fun {i k} e => by
    unfold S0 at e
    by_cases hi : i < (pinL (fun i => vs.getD i .non) ks 0).length
    · rw [List.getElem?_append_left (by rw [List.length_map]; exact hi), List.getElem?_map] at e
      cases q : (pinL (fun i => vs.getD i .non) ks 0)[i]? with
      | none => rw [q] at e; cases e
      | some k' => rw [q] at e; cases e; rfl
    · rw [List.getElem?_append_right (by rw [List.length_map]; omega)] at e
      obtain ⟨h1, h2⟩ := List.getElem?_eq_some_iff.mp e
      rw [List.getElem_replicate] at h2
      cases h2
  have hlen := hA.len
  refine ⟨Φ, ?_, s, sR, tb, fun i k e => ?_, hA.fr, hA.dj⟩
  · unfold S0 L2.start
    simp only [List.length_append, List.length_map, List.length_replicate, pinL_len]
    omega
  · obtain ⟨k0, e1, e2⟩ := pinL_get (arg e)
    have hi : i < vs.length := by rw [← hlen]; exact (List.getElem?_eq_some_iff.mp e1).1
    have e3 : vs[i]? = some vs[i] := List.getElem?_eq_getElem hi
    refine ⟨vs[i], ?_, ?_⟩
    · unfold L2.start
      rw [List.getElem?_append_left (by rw [List.length_map]; exact hi), List.getElem?_map, e3]
      rfl
    · have q := hA.at_ i k0 _ e1 e3
      subst e2
      cases k0 with
      | ow o =>
        refine ⟨?_, q⟩
        show _ = vs.getD (0 + i) .non
        rw [Nat.zero_add, List.getD_eq_getElem?_getD, e3]; rfl
      | im p => exact q
      | bw p => exact q
      | fr p => exact q
      | rd p => exact q
theorem post_u {g : Gb} {I R : Hp} {k : RK} {outs : List (Nat × OR)} {vs : List V} {v : V} {I' H' F : Hp} {Φ' : Nat → Hp} (ho : ∀ p ∈ outs, p.1 < vs.length) (h : Post g I R k outs (fun i => some (vs.getD i .non)) v I' H' F Φ') : Post g I R k outs (fun i => vs[i]?) v I' H' F Φ' :=
  ⟨h.i, h.s, h.h, h.tb, h.n, h.fF, h.sF, h.val, fun p hp => by
    obtain ⟨u, e1, e2⟩ := h.out p hp
    have hl := ho p hp
    have e3 : vs[p.1]? = some vs[p.1] := List.getElem?_eq_getElem hl
    refine ⟨u, ?_, e2⟩
    show vs[p.1]? = some u
    rw [← e1, e3, List.getD_eq_getElem?_getD, e3]; rfl, h.fr, h.dj, h.dv⟩
/-- what a def's facts are: with or without defaults -/
structure FunX (K : PySem.W.Frag) (x qual : Str) (st : Stmt) (f : Addr) (fd : FuncData) : Prop where
  ex : ∃ (oc : Value) (od : Option Addr) (dV kV doc pm : Value) (an : Option Addr) (cdv ct : Value) (osl : Array (Option Value)),
    fd = PySem.W.fnOf x qual (defArgs st) (defBody st) (defScope st) dV kV doc pm an cdv ct ∧ K.lookup f = some ⟨oc, od, .func fd, osl⟩ ∧ PySem.W.codeIn K cdv qual = true
  kp : PySem.W.keepIn K (.ref f) = true
theorem FunX.ok {x qual : Str} {st : Stmt} {f : Addr} {fd : FuncData} {N ps : List Str} {k : Nat} {sp : Sp} (F : FunX K x qual st f fd) (S : FnScope N ps (defScope st)) (len : ∀ vs H Q E, sp vs H Q E → vs.length = ps.length)
    (hbody : ∀ (cdv : Value) (A : Around) (outer : List Env) (s : Shared) (H : Hp) (vs : List V) (Q : VK) (E : XK), Room k (A.deeper (envOfC qual (defScope st) s.heap.objs.size f cdv)) → sp vs H Q E →
      ∃ t, PSs (cxOf CX0 P w K mg base N qual (defScope st) f cdv A outer s H E).nox (defBody st) t ∧ t { nx := fun _ H' => Q .non H', rt := Q } (start N vs) H) : FnOk P w K mg base CX0 (k + 1) f fd ps sp := by
  obtain ⟨oc, od, dV, kV, doc, pm, an, cdv, ct, osl, rfl, lk, hcd⟩ := F.ex
  refine fn_of lk hcd S len fun A outer s H vs Q E hr hsp => ?_
  obtain ⟨t, h, q⟩ := hbody cdv A outer s H vs Q E hr hsp
  exact ⟨t, h.nox, q⟩
theorem fnx_mk {x qual : Str} {st : Stmt} {f : Addr} {fd : FuncData} {N ps : List Str} {k : Nat} (F : FunX K x qual st f fd) (Sc : FnScope N ps (defScope st)) (hn : ∀ a, (args a).length = ps.length) (hk : ∀ a, (args a).all RK.argy = true) (hN : ps.length ≤ N.length)
    (body : ∀ (cdv : Value) (A : Around) (outer : List Env) (s : Shared) (H : Hp) (E : XK) (I : Hp) (a : ι), Room k (A.deeper (envOfC qual (defScope st) s.heap.objs.size f cdv)) →
      MB (cxOf CX0 P w K mg base N qual (defScope st) f cdv A outer s H E).nox ⟨K, mg⟩ ⟨I, H⟩ I (S0 N (args a)) (defBody st) (M a) (Kt ⟨K, mg⟩ ⟨I, H⟩ kd)) :
    FnOk P w K mg base CX0 (k + 1) f fd ps (spT ⟨K, mg⟩ args M kd) := by
  refine F.ok Sc (fun vs H Q E ⟨I, a, r, s, _, hA, _⟩ => ?_) (fun cdv A outer s H vs Q E hr ⟨I, a, r, si, tb, hA, hM, q⟩ => ?_)
  · rw [← Paired.length hA, hn]
  · exact ⟨_, (body cdv A outer s H E I a hr).run r hM, I, hold_start (by rw [hn]; exact hN) si tb hA (hk a), fun v I' H' x hv => q v I' H' x hv⟩
/-- a def that hands back nothing -/
theorem fiu_mk {x qual : Str} {st : Stmt} {f : Addr} {fd : FuncData} {N ps : List Str} {k : Nat} (F : FunX K x qual st f fd) (Sc : FnScope N ps (defScope st)) (hn : ∀ a, (args a).length = ps.length) (hN : ps.length ≤ N.length) (ho : ∀ r, ∀ p ∈ outs r, p.1 < ps.length)
    (body : ∀ (cdv : Value) (A : Around) (outer : List Env) (s : Shared) (H : Hp) (E : XK) (I R : Hp) (u : Nat → V) (a : ι), Room k (A.deeper (envOfC qual (defScope st) s.heap.objs.size f cdv)) →
      MB (cxOf CX0 P w K mg base N qual (defScope st) f cdv A outer s H E).nox ⟨K, mg⟩ ⟨I, R⟩ I (S0 N (pinL u (args a) 0)) (defBody st) (M a) (KioU ⟨K, mg⟩ ⟨I, R⟩ u outs)) :
    FnOk P w K mg base CX0 (k + 1) f fd ps (spIO ⟨K, mg⟩ args M (fun _ => .im (Py.r ⟨K, mg⟩ ())) outs) := by
  refine F.ok Sc (fun vs H Q E ⟨I, R, Φ, a, r, s, _, _, hA, _⟩ => ?_) (fun cdv A outer s H vs Q E hr ⟨I, R, Φ, a, r, si, sR, tb, hA, hM, q⟩ => ?_)
  · rw [← hA.len, hn]
  · have hl : vs.length = ps.length := by rw [← hA.len, hn]
    refine ⟨_, (body cdv A outer s H E I R (fun i => vs.getD i .non) a hr).run r hM, I, ⟨⟨Same.refl _, SW.of sR, si, fun _ _ z => z⟩, Same.refl _, holdF_start (by rw [hn]; exact hN) si sR tb hA si⟩, fun I' H' F Φ' σ h => ⟨q .non I' H' F Φ' (post_u (fun p hp => by rw [hl]; exact ho r p hp) h), q .non I' H' F Φ' (post_u (fun p hp => by rw [hl]; exact ho r p hp) h)⟩⟩
end
/-- the slots of what was handed in, at an end -/
inductive Outs (u : Nat → V) (S : SL) : List (Nat × OR) → Prop
  | nil : Outs u S []
  | cons {i : Nat} {o : OR} {l : List (Nat × OR)} (h : S[i]? = some (some (.ow (oP (u i) o)))) (t : Outs u S l) : Outs u S ((i, o) :: l)
theorem Outs.get {u : Nat → V} {S : SL} : ∀ {l : List (Nat × OR)}, Outs u S l → ∀ p ∈ l, S[p.1]? = some (some (.ow (oP (u p.1) p.2)))
  | _, .nil, p, h => by cases h
  | _, .cons h t, p, hp => by
    rcases List.mem_cons.mp hp with z | z
    · subst z; exact h
    · exact t.get p z
section
variable {X : Cx} {g : Gb} {B : Bs} {J : Hp} {S : SL} {e e1 e2 e3 : Expr} {es : List Expr} {pos pos' p apos cpos : Pos} {i : Nat} {o ι ρ β : Type} {K : KT o} {rest : List Stmt} {u : Nat → V} {outs : β → List (Nat × OR)} {k : β → RK}
theorem post_at {I I' H H' F : Hp} {v : V} {l : List (Nat × OR)} {r : RK} {σ : L2.St} (x : Ext B.I B.H I H) (h : Hold g B S σ I H) (ho : Outs u S l) (x2 : Ext I H I' H') (f1 : ∀ a, F a ≠ none → H a = none ∧ I' a = none) (f2 : Same F H') (hv : RK.inS g r B.H v I' F) : ∃ Φ', Post g B.I B.H r l (fun i => some (u i)) v I' H' F Φ' := by
  obtain ⟨Φ, h⟩ := h
  have h2 := h.ext x2
  have x02 := x.trans x2
  refine ⟨Φ, x02.i, x02.s, x02.h, h2.tb.t, x02.n, fun b hb => ⟨h.base.free (f1 b hb).1, (f1 b hb).2⟩, f2, hv, fun p hp => ?_, h2.fr, h2.dj, fun i a ha => ?_⟩
  · obtain ⟨v, e1, q⟩ := h2.at_ p.1 _ (ho.get p hp)
    obtain ⟨q1, q2⟩ := q
    exact ⟨u p.1, rfl, q1 ▸ q2⟩
  · cases q : F a with
    | none => rfl
    | some y => exact absurd (f1 a (ne_of_some q)).1 ((h.ne ha).1)
/-- the end of a def that hands back nothing -/
theorem mb_endU {b : β} (ho : Outs u S (outs b)) : MB X g B J S [] (some b) (KioU g B u outs) := by
  refine ⟨fun r q => ?_⟩
  cases q
  refine pss_imp pss_nil fun D σ H ⟨I, ok, kk⟩ => ?_
  obtain ⟨Φ', hp⟩ := post_at (F := fun _ => none) (r := .im (Py.r g ())) (v := .non) ok.x ok.h ho (Ext.refl ok.h.sub) (fun a z => absurd rfl z) (fun _ _ z => by cases z) rfl
  exact (kk I H (fun _ => none) Φ' σ hp).1
end
/-! a place in what was handed in -/
section
variable {X : Cx} {g : Gb} {B : Bs} {J : Hp} {S : SL} {e e1 e2 e3 : Expr} {es : List Expr} {pos pos' p apos cpos : Pos} {i : Nat} {o ι ρ β : Type} {K : KT o} {rest : List Stmt}
theorem foc_pin {v0 : V} {o1 : OR} {I F : Hp} {v : V} (h : (oP v0 o1).p I F v) : FocAt o1 (fun o' => oP v0 o') I F v v := ⟨F, Same.refl _, h.2, fun o' I' F1' _ _ h' => ⟨h.1, by rw [rp_self]; exact h'⟩⟩
theorem mp_pin (i : Nat) {x : Str} {v0 : V} {o1 : OR} (hS : S[i]? = some (some (.ow (oP v0 o1))) := by rfl) (hN : X.N[i]? = some x := by rfl) (hv : Vis X.env.scope x := by first | exact Or.inl rfl | exact Or.inr (Or.inl rfl) | exact Or.inr (Or.inr rfl))
    (hd : (x == ("__debug__" : Str)) = false := by decide) (hcd : (x == ("__classdict__" : Str)) = false := by decide) : MP X g B S i (.Name x pos) (some ()) (fun _ => o1) (fun _ o' => oP v0 o') := by
  refine ⟨fun _ _ => pe_imp (pe_var hN hv hd hcd) fun σ H Q ⟨I, Φ, h, q⟩ => ?_⟩
  obtain ⟨v, e1, h1⟩ := h.at_ i _ hS
  exact ⟨v, e1, q v I H (Ext.refl h.sub) ⟨v, e1, foc_pin h1⟩⟩
end
/-! an instance made -/
section
variable {X : Cx} {g : Gb} {B : Bs} {J : Hp} {S : SL} {e : Expr} {es : List Expr} {pos p : Pos} {ι β : Type} {args : ι → List RK} {M : ι → Option β} {outs : β → List (Nat × OR)} {m : Option β} {j kk : Nat} {f C : Addr} {fd : FuncData} {ps : List Str} {x : Str} {dvs : List V} {ds : List Value}
theorem make_use {I1 H1 : Hp} {vs : List V} {x dx C : Addr} {cn : Str} {outs : β → List (Nat × OR)} {or : β → OR} {a : ι} {r : β} {Q : V → Hp → Prop} {E : XK} (hC : g.mg cn = some (.ref C)) (s1 : Same I1 H1) (tb : TbI I1 H1) (hA : Args g (args a) vs I1 H1) (hM : M a = some r) (hx : H1 x = none) (hdx : H1 dx = none) (hne : dx ≠ x)
    (hout : outs r = [(0, or r)]) (harg : (args a).all RK.argy = true) (q : ∀ v I' H', Ext I1 H1 I' H' → RK.holds g (.ow (or r)) H1 v I' H' → Q v H') :
    spIO g (fun a => .ow (oC (wI g cn []) []) :: args a) M (fun _ => .im (Py.r g ())) outs (.ref x :: vs) (upd (upd H1 dx (.own x)) x (.ins C dx [])) (fun v H2 => v = .non ∧ Q (.ref x) H2) E := by
  have Rx : (upd H1 dx (.own x)) x = none := by rw [upd_ne (fun z => hne z.symm)]; exact hx
  have sR : Same H1 (upd H1 dx (.own x)) := same_new hdx
  have i_ne : ∀ a, I1 a ≠ none → a ≠ x ∧ a ≠ dx := fun a ha => by
    have h1 := same_ne s1 ha
    exact ⟨fun z => h1 (z ▸ hx), fun z => h1 (z ▸ hdx)⟩
  refine ⟨I1, upd H1 dx (.own x), fun n => if n = 0 then one1 x (.ins C dx []) else fun _ => none, a, r, fun b o e => ?_, same_new Rx, ⟨?_, fun p hp => ?_, tb.2⟩, ⟨by rw [List.length_cons, List.length_cons, Paired.length hA], fun n k v e1 e2 => ?_, fun n b o e => ?_, fun n1 n2 b e1 e2 => ?_⟩, hM, fun v I' H' F Φ' hp => ?_⟩
  · have := i_ne b (ne_of_some e)
    rw [upd_ne this.1, upd_ne this.2]
    exact s1 b o e
  · exact (SW.of (sR.trans (same_new Rx))).t tb.1
  · rw [upd_ne (fun z => tb.1.ne hp (by rw [z]; exact hdx))]
    exact tb.1.ne hp
  · cases n with
    | zero =>
      cases e1
      cases e2
      rw [if_pos rfl]
      refine ⟨x, _, [], rfl, one1_same, ⟨C, dx, hC, rfl, rfl⟩, rfl, fun _ _ => none, fun j o v z => by simp at z, fun _ _ _ z => (by cases z), fun _ => rfl, fun _ _ _ z => absurd rfl z⟩
    | succ n =>
      rw [if_neg (by omega)]
      obtain ⟨v', e3, q'⟩ := paired_get hA (i := n) (by simpa using e1)
      have e4 : vs[n]? = some v := by simpa using e2
      rw [e4] at e3
      cases e3
      have ha := List.all_eq_true.mp harg _ (List.mem_of_getElem? (show (args a)[n]? = some k by simpa using e1))
      cases k with
      | im p => exact q'
      | bw p =>
        obtain ⟨l, ws, z1, z2, z3⟩ := q'
        exact ⟨l, ws, z1, sR.seq z2, z3⟩
      | fr p => cases ha
      | rd p => cases ha
      | ow p => cases ha
  · by_cases hn : n = 0
    · rw [if_pos hn] at e
      obtain ⟨z1, z2⟩ := one1_some e
      subst z1 z2
      exact ⟨upd_same, s1.free hx, Rx⟩
    · rw [if_neg hn] at e; cases e
  · by_cases h1 : n1 = 0
    · by_cases h2 : n2 = 0
      · rw [h1, h2]
      · rw [if_neg h2] at e2; exact absurd rfl e2
    · rw [if_neg h1] at e1; exact absurd rfl e1
  · have hv : v = .non := hp.val
    refine ⟨hv, q (.ref x) I' H' ⟨hp.i, (SW.of sR).trans hp.h, hp.s, fun l n1 n2 => hp.n l (same_ne sR n1) n2⟩ ?_⟩
    obtain ⟨u, e1, e2⟩ := hp.out (0, or r) (by rw [hout]; exact List.mem_singleton.mpr rfl)
    cases e1
    exact ⟨Φ' 0, fun b hb => by
      cases z : Φ' 0 b with
      | none => exact absurd z hb
      | some o =>
        obtain ⟨_, z2, z3⟩ := hp.fr 0 b o z
        exact ⟨sR.free z3, z2⟩, fun b o z => (hp.fr 0 b o z).1, e2⟩
theorem me_make {or : β → OR} (F : FnOk X.prog X.w X.K X.mg X.base CX0 j f fd ps (spIO g (fun a => .ow (oC (wI g x []) []) :: args a) M (fun _ => .im (Py.r g ())) outs)) (hr : Room kk X.A) (hj : j + 1 ≤ kk) (Mk : Mk X.K C f) (hm : X.mg x = some (.ref C)) (hb : Binds X.K fd ps ds) (hd : Vals dvs ds)
    (ha : MA X g B S (e :: es) dvs args m M) (hout : ∀ r, outs r = [(0, or r)] := by intro _; rfl) (harg : ∀ a, (args a).all RK.argy = true := by intro _; rfl) (hmg : X.mg = g.mg := by rfl) (hg : Gl X x := by rfl) (hdb : (x == ("__debug__" : Str)) = false := by decide) (he : starEach (e :: es) X.env = (false, eval e X.env) :: starEach es X.env := by rfl) (hpl : (backTo pos (starEach es X.env)).any (·.1) = false := by rfl) :
    ME X g B S (.Call (.Name x p) (e :: es) [] pos) m (fun r => .ow (or r)) := by
  refine ⟨fun r q => ?_⟩
  refine pe_imp (pe_make Mk F (hr.mono hj) hg hm hb hd pass0 (ha.run r q) hdb he hpl) fun σ H Q ⟨I, hh, kc⟩ => ⟨I, hh, fun a vs I1 H1 hM x1 hA y dy hy hdy hne => ?_⟩
  exact make_use (by rw [← hmg]; exact hm) x1.s (hh.tb.ext x1).to hA hM hy hdy hne (hout r) (harg a) fun v I' H' x2 hv => kc v I' H' (x1.trans x2) (RK.back rfl x1.h hv)
/-- let go, of an expression -/
theorem me_frzO {α : Type} [Py α] {or : α → OR} {m : Option α} (z : ∀ a, Frz (or a) (Py.r g a)) (h : ME X g B S e m (fun a => .ow (or a))) : ME X g B S e m (KI g) := by
  refine ⟨fun a q => pe_imp (h.run a q) fun σ H Q ⟨I, hh, k⟩ => ⟨I, hh, fun v I' H' x hv => ?_⟩⟩
  obtain ⟨F, h1, h2, h3⟩ := hv
  have hd : ∀ b, F b ≠ none → I' b = none := fun b hb => (h1 b hb).2
  refine k v (Un I' F) H' ⟨x.i.trans (un_l hd), x.h, fun b ob eb => (un_some eb).elim (fun e => h2 _ _ e) fun e => x.s _ _ e.2, fun b n1 n2 => ?_⟩ (z a I' F v hd h3)
  cases e4 : F b with
  | none => rw [un_none e4]; exact x.n b n1 n2
  | some ob => exact absurd (h1 b (ne_of_some e4)).1 n1
end
end T
set_option Elab.async false
set_option linter.all false
set_option maxRecDepth 100000
namespace T
variable [TabsC]
open PySem PySem.Spec PyProof.Rows L2
/-! fields and methods of instances that stay -/
def FldR {δ β : Type} [Py δ] [Py β] (X : Cx) (g : Gb) (f : Str) (pr : δ → β) : Prop := ∀ d I v, (Py.r g d).p I v → ∃ a C dx fs u, v = .ref a ∧ I a = some (.ins C dx fs) ∧ Cls X.K C ∧ NoAttr X.K C f ∧ fs.lookup f = some u ∧ (Py.r g (pr d)).p I u
theorem rIns_fld {X : Cx} {g : Gb} {c f : Str} {names : List Str} {rs : List PR} {r : PR} {I : Hp} {v : V} (j : Nat) (hC : Cf X g c f) (h : (rIns g c names rs).p I v) (hr : rs[j]? = some r := by rfl) (hj : fidx names f = some j := by decide +kernel) :
    ∃ a C dx fs u, v = .ref a ∧ I a = some (.ins C dx fs) ∧ Cls X.K C ∧ NoAttr X.K C f ∧ fs.lookup f = some u ∧ r.p I u := by
  obtain ⟨l, C, dx, vs, rfl, h1, h2, h3, h4⟩ := h
  obtain ⟨C', d1, d2, d3⟩ := hC
  rw [h1] at d1
  cases d1
  obtain ⟨u, e1, e2⟩ := paired_get h4 hr
  exact ⟨l, _, dx, _, u, rfl, h2, d2, d3, by rw [lookup_zip hj h3]; exact e1, e2⟩
/-- the method name of the thing d -/
def MethR {δ ι β : Type} [Py δ] (X : Cx) (g : Gb) (name : Str) (kk : Nat) (d : δ) (args : ι → List RK) (M : ι → Option β) (k : β → RK) : Prop :=
  ∃ C f fd ps j, Cls X.K C ∧ Meth X.K C name f ∧ j ≤ kk ∧ FnOk X.prog X.w X.K X.mg X.base CX0 j f fd ps (spT g (fun p : ι => .im (Py.r g d) :: args p) M k) ∧ Binds X.K fd ps [] ∧ ∀ I v, (Py.r g d).p I v → ∃ a dx fs, v = .ref a ∧ I a = some (.ins C dx fs) ∧ fs.lookup name = none
section
variable {X : Cx} {g : Gb} {B : Bs} {J : Hp} {S : SL} {e e1 e2 e3 : Expr} {es : List Expr} {pos p apos : Pos} {α β γ δ ι β' : Type} [Py α] [Py β] [Py γ] [Py δ] {args : ι → List RK} {k : β' → RK} {kk : Nat} {name : Str}
theorem me_fld {m : Option δ} {f : Str} {pr : δ → β} (h : ME X g B S e m (KI g)) (hf : FldR X g f pr) (hb : attributeBase e f X.env (eval e X.env) = eval e X.env := by rfl) : ME X g B S (.Attribute e f pos) (m >>= fun d => some (pr d)) (KI g) := by
  refine ⟨fun r q => ?_⟩
  obtain ⟨d, q1, q2⟩ := bind_some q
  cases q2
  refine pe_imp (pe_fld (h.run d q1) hb) fun σ H Q ⟨I, hh, kk⟩ => ⟨I, hh, fun v I' H' x hv => ?_⟩
  obtain ⟨a, C, dx, fs, u, rfl, h1, h2, h3, h4, h5⟩ := hf d I' v hv
  exact ⟨a, C, dx, fs, u, rfl, x.s _ _ h1, h2, h3, h4, kk u I' H' x h5⟩
def pk2 (F1 F2 : Hp) : Nat → Hp
  | 0 => F1
  | 1 => F2
  | _ => fun _ => none
end
/-! an owned thing looked at, within an expression whose value holds no address -/
def Flat (k : RK) : Prop := ∃ r : PR, k = .im r ∧ ∀ I I' v, r.p I v → r.p I' v
section
variable {X : Cx} {g : Gb} {B : Bs} {J : Hp} {S : SL} {e : Expr} {α β' : Type} [Py α] {k : β' → RK}
end
end T
set_option Elab.async false
set_option linter.all false
set_option maxRecDepth 100000
namespace T
variable [TabsC]
open PySem PySem.Spec PyProof.Rows L2 ClX
/-! a def called that changes the thing of a slot -/
def Rest (H F : Hp) : Hp := fun a => match F a with
  | some _ => none
  | none => H a
def RK.isIm : RK → Bool
  | .im _ => true
  | _ => false
def f0 (F : Hp) : Nat → Hp
  | 0 => F
  | _ => fun _ => none
section
variable {X : Cx} {g : Gb} {B : Bs} {J : Hp} {S : SL} {σ : L2.St} {I H : Hp} {Φ : Nat → Hp} {i : Nat} {k : RK} {v : V} {o0 op : OR}
end
/-! C.m(self, ..): a function read off a class of the program's own -/
def tClsFn (C : Addr) (sp : Sp) (dvs : List V) (E : XK) (ta : TE) (t : TA) : TE := fun σ H Q => ta σ H fun x H1 => x = .ref C ∧ t σ H1 fun vs H2 => sp (vs ++ dvs) H2 Q E
section
variable {X : Cx} {g : Gb} {B : Bs} {J : Hp} {S : SL} {e : Expr} {es : List Expr} {pos p p2 apos cpos : Pos} {o ι β : Type} {K : KT o} {rest : List Stmt} {args : ι → List RK} {M : ι → Option β} {outs : β → List (Nat × OR)} {m : Option β} {j kk : Nat} {f C : Addr} {fd : FuncData} {ps : List Str} {x cn mn : Str} {mc : Value} {dvs : List V} {ds : List Value} {fn : β → Option o}
end
end T
set_option Elab.async false
set_option linter.all false
set_option maxRecDepth 100000
namespace T
variable [TabsC]
open PySem PySem.Spec PyProof.Rows L2 C8
theorem rIns_at {g : Gb} {c : Str} {names : List Str} {rs : List PR} {C : Addr} (hC : g.mg c = some (.ref C)) (I : Hp) (v : V) (h : (rIns g c names rs).p I v) : ∃ a dx fs, v = .ref a ∧ I a = some (.ins C dx fs) := by
  obtain ⟨l, C', dx, vs, rfl, h1, h2, h3, h4⟩ := h
  rw [h1] at hC
  cases hC
  exact ⟨l, dx, _, rfl, h2⟩
theorem rIns_nz {g : Gb} {c : Str} {names : List Str} {rs : List PR} {I : Hp} {v : V} (h : (rIns g c names rs).p I v) : v ≠ .non := by
  obtain ⟨l, _, _, _, rfl, _⟩ := h
  exact fun z => by cases z
section
variable {X : Cx} {g : Gb} {B : Bs} {S : SL} {e : Expr} {pos p p2 : Pos} {δ : Type} [Py δ] {cn : Str} {C : Addr} {m : Option δ}
theorem me_isiC (hm0 : X.mg "isinstance" = none) (h : ME X g B S e m (KI g)) (hm : X.mg cn = some (.ref C)) (ic : InsC X.K C) (hi : ∀ (d : δ) I v, (Py.r g d).p I v → ∃ a dx fs, v = .ref a ∧ I a = some (.ins C dx fs)) (hg : Gl X "isinstance" := by rfl) (hg2 : Gl X cn := by rfl) (hd : (cn == ("__debug__" : Str)) = false := by decide)
    (he : starEach [e, .Name cn p2] X.env = (false, eval e X.env) :: starEach [.Name cn p2] X.env := by rfl) (he2 : starEach [.Name cn p2] X.env = (false, eval (.Name cn p2) X.env) :: starEach [] X.env := by rfl) (hpl : (backTo pos (starEach [.Name cn p2] X.env)).any (·.1) = false := by rfl) :
    ME X g B S (.Call (.Name "isinstance" p) [e, .Name cn p2] [] pos) (m >>= fun _ => some true) (KI g) := by
  refine ⟨fun n q => ?_⟩
  obtain ⟨a, q1, q2⟩ := bind_some q
  cases q2
  refine pe_imp (pe_callB (call_isC ic) hg hm0 (by decide +kernel) (pa_cons (h.run a q1) (pa_cons (pe_glob (v := .ref C) hg2 hm rfl hd) pa_nil he2) he) (he := he) (hpl := hpl)) fun σ H Q ⟨I, hh, kk⟩ => ⟨I, hh, fun v I' H' x hv => ?_⟩
  obtain ⟨b, dx, fs, rfl, h1⟩ := hi a I' v hv
  exact ⟨b, dx, fs, rfl, x.s _ _ h1, kk _ I' H' x rfl⟩
end
/-! lists changed by their methods -/
section
variable {X : Cx} {g : Gb} {B : Bs} {J : Hp} {S : SL} {e e1 e2 e3 tg : Expr} {es : List Expr} {pos pos' p apos cpos : Pos} {o ι : Type} {K : KT o} {rest : List Stmt} {α β : Type} [Py α] [Py β] {m : Option ι} {mk : ι → OR → OR} {i : Nat}
/-- place.m() of a list -/
theorem mb_m0P {as : ι → List α} {fm : List α → Option (List α)} {f : ι → List α → Option o} {name : Str} {id : String} {r : V → List V → Hp → VK → Prop} (pa : PlainAttrs "list") (slot : Slot "list" name id) (hty : typeOf (.builtin id) = pure (.type "method_descriptor")) (hm : MtR X id r)
    (hr : ∀ (xs bs : List α), fm xs = some bs → ∀ (I : Hp) (vs : List V), (rl g xs).p I vs → ∃ ws, (rl g bs).p I ws ∧ ∀ (l : Addr) (H : Hp) (Q : VK), H l = some (.lst vs) → (∀ u, Q u (upd H l (.lst ws))) → r (.ref l) [] H Q)
    (h : MP X g B S i e m (fun x => oF (rl g (as x))) mk) (hb : ∀ x bs, MB X g B J (S.set i (some (.ow (mk x (oF (rl g bs)))))) rest (f x bs) K)
    (hs : swapsWith (.Call (.Attribute e name apos) [] [] cpos) none pos.line X.env = pure false := by rfl) (hbase : attributeBase e name X.env (eval e X.env) = eval e X.env := by rfl) (hline : (apos.endLine == cpos.line) = true := by rfl) :
    MB X g B J S (.Expr (.Call (.Attribute e name apos) [] [] cpos) pos :: rest) (m >>= fun x => fm (as x) >>= fun bs => f x bs) K := by
  refine ⟨fun r' q => ?_⟩
  obtain ⟨x, q1, q⟩ := bind_some q
  obtain ⟨bs, q3, q4⟩ := bind_some q
  refine pss_imp (pss_cons (ps_expr (pe_bm0 pa slot hty hm (h.run x q1) hbase hline) hs) ((hb x bs).run r' q4)) fun D σ H ⟨I, ok, kk⟩ => ?_
  obtain ⟨x0, oj, Φ, hh⟩ := ok
  refine ⟨I, Φ, hh, fun v1 I1 H1 x1 ⟨v, e1, fc⟩ => ?_⟩
  obtain ⟨l, vs, rfl, hl, hq, put⟩ := foc_leaf fc
  have h1 := x1.h.get _ _ (hh.fr i l _ hl).1
  obtain ⟨ws, w1, w2⟩ := hr _ _ q3 I1 vs hq
  refine ⟨.inl ⟨rfl, _, SqL.of h1⟩, w2 l H1 _ h1 fun u => ⟨I1, ?_, kk⟩⟩
  exact HoldF.store (x0.trans x1) (oj.trans x1.i) (hh.ext x1) e1 hl (F' := fun _ => none) (fun _ _ z => by cases z) (fun a z => absurd rfl z) (put (rl g bs) ws I1 (Same.refl _) w1)
theorem mb_revP {as : ι → List α} {f : ι → List α → Option o} (h : MP X g B S i e m (fun x => oF (rl g (as x))) mk) (hb : ∀ x bs, MB X g B J (S.set i (some (.ow (mk x (oF (rl g bs)))))) rest (f x bs) K)
    (hs : swapsWith (.Call (.Attribute e "reverse" apos) [] [] cpos) none pos.line X.env = pure false := by rfl) (hbase : attributeBase e "reverse" X.env (eval e X.env) = eval e X.env := by rfl) (hline : (apos.endLine == cpos.line) = true := by rfl) :
    MB X g B J S (.Expr (.Call (.Attribute e "reverse" apos) [] [] cpos) pos :: rest) (m >>= fun x => some (as x).reverse >>= fun bs => f x bs) K :=
  mb_m0P (fm := fun xs => some xs.reverse) PySem.F.plainAttrs_list PySem.F.slot_list_reverse PySem.F.type_list_reverse mt_reverse (fun xs bs q I vs h => by
    cases q
    exact ⟨vs.reverse, ⟨by rw [List.length_reverse]; exact h.1, paired_rev h.2⟩, fun l H Q hl hQ => ⟨l, vs, rfl, rfl, hl, hQ _⟩⟩) h hb hs hbase hline
@[irreducible] def popO {α : Type} (xs : List α) : Option (List α) := if xs.isEmpty = true then none else some xs.dropLast
/-- place.insert(e1, e2) -/
@[irreducible] def insO {α : Type} (xs : List α) (n : Int) (x : α) : Option (List α) := if decide (0 ≤ n ∧ n < 1000000000 ∧ xs.length < sizeLine) = true then some (xs.take n.toNat ++ [x] ++ xs.drop n.toNat) else none
end
end T
set_option Elab.async false
set_option linter.all false
set_option maxRecDepth 100000
namespace T
variable [TabsC]
open PySem PySem.Spec PyProof.Rows L2
theorem MA.eqm {ι o : Type} {X : Cx} {g : Gb} {B : Bs} {S : SL} {es : List Expr} {dvs : List V} {args : ι → List RK} {m m' : Option o} {M : ι → Option o} (h : MA X g B S es dvs args m M) (e : m = m') : MA X g B S es dvs args m' M := e ▸ h
section
variable {o : Type} {X : Cx} {g : Gb} {B : Bs} {J : Hp} {S : SL} {sts : List Stmt} {m : Option o} {K : KT o}
/-- an owned thing that is a list alone, as an own list -/
theorem mb_unow {α : Type} [Py α] (i : Nat) {as : List α} (hS : S[i]? = some (some (.ow (oF (rl g as))))) (hb : MB X g B J (S.set i (some (.fr (rl g as)))) sts m K) : MB X g B J S sts m K := by
  refine ⟨fun r q => pss_imp (hb.run r q) fun D σ H ⟨I, ok, kk⟩ => ⟨I, ⟨ok.x, ok.j, ?_⟩, kk⟩⟩
  obtain ⟨Φ, h⟩ := ok.h
  refine ⟨Φ, by rw [h.len, List.length_set], h.sub, h.base, h.tb, fun j k e => ?_, h.fr, h.dj⟩
  by_cases hj : i = j
  · subst hj
    have hl : i < S.length := by
      rcases Nat.lt_or_ge i S.length with z | z
      · exact z
      · rw [List.getElem?_eq_none z] at hS; cases hS
    rw [List.getElem?_set_self hl] at e
    cases e
    obtain ⟨v, e1, e2⟩ := h.at_ i _ hS
    exact ⟨v, e1, e2⟩
  · rw [List.getElem?_set_ne hj] at e
    exact h.at_ j k e
end
end T
set_option Elab.async false
set_option linter.all false
set_option maxRecDepth 100000
/-! list(reversed(list)) -/
namespace RL
open PySem PySem.Spec PyProof.Rows RT
section
variable {prog : Program} {w : World} {A : Around} {E : Value → Shared → Prop} {s : Shared}
end
section
open L2
variable {X : Cx}
def tListRev (K : PySem.W.Frag) (te : TE) : TE := fun σ H Q => te σ H fun v H1 => ∃ (a : Addr) (xs : List V), v = .ref a ∧ SqL K H1 a xs ∧ ∀ q, H1 q = none → Q (.ref q) (upd H1 q (.lst xs.reverse))
end
end RL
namespace T
variable [TabsC]
open PySem PySem.Spec PyProof.Rows L2
end T
set_option Elab.async false
set_option linter.all false
set_option maxRecDepth 100000
namespace T
variable [TabsC]
open PySem PySem.Spec PyProof.Rows L2
/-! rows of parts of unlike types: lists and tuples -/
structure HU where
  deriving DecidableEq
structure HC (α β : Type) where
  h : α
  t : β
  deriving DecidableEq
structure HL (β : Type) where
  s : β
  deriving DecidableEq
structure HT (β : Type) where
  s : β
  deriving DecidableEq
class PyS (β : Type) where
  rs : Gb → β → List PR
instance : PyS HU := ⟨fun _ _ => []⟩
instance {α β : Type} [Py α] [PyS β] : PyS (HC α β) := ⟨fun g x => Py.r g x.h :: PyS.rs g x.t⟩
def rHL {β : Type} [PyS β] (g : Gb) (x : β) : PR where
  p := fun I v => ∃ l vs, v = .ref l ∧ SqL g.K I l vs ∧ vs.length ≤ sizeLine ∧ Paired (fun (r : PR) v => r.p I v) (PyS.rs g x) vs
  mono := fun s ⟨l, vs, e, h, z, q⟩ => ⟨l, vs, e, s.seq h, z, L2.Paired.mapP q fun r _ q => r.mono s q⟩
def rHT {β : Type} [PyS β] (g : Gb) (x : β) : PR where
  p := fun I v => ∃ l vs, v = .ref l ∧ SqT g.K I l vs ∧ Paired (fun (r : PR) v => r.p I v) (PyS.rs g x) vs
  mono := fun s ⟨l, vs, e, h, q⟩ => ⟨l, vs, e, seqT s h, L2.Paired.mapP q fun r _ q => r.mono s q⟩
instance {β : Type} [PyS β] : Py (HL β) := ⟨fun g x => rHL g x.s⟩
instance {β : Type} [PyS β] : Py (HT β) := ⟨fun g x => rHT g x.s⟩
instance {β : Type} [PyS β] : Nz (HL β) := ⟨fun h z => by obtain ⟨_, _, rfl, _⟩ := h; cases z⟩
instance {β : Type} [PyS β] : Nz (HT β) := ⟨fun h z => by obtain ⟨_, _, rfl, _⟩ := h; cases z⟩
instance {β : Type} [PyS β] : IsT (HL β) := ⟨"list", fun h => by obtain ⟨_, _, rfl, h, _⟩ := h; exact tyx_sq h⟩
instance {β : Type} [PyS β] : IsT (HT β) := ⟨"tuple", fun h => by obtain ⟨_, _, rfl, h, _⟩ := h; exact tyx_tq h⟩
/-! as data -/
open PySem.W in
class DatS (β : Type) [DecidableEq β] where
  ds : β → List PyData
  plain : ∀ b, PyData.plainAll (ds b) = true
  eqv : ∀ a b, PyData.eqvAll (ds a) (ds b) = decide (a = b)
  depth : Nat
  depth_le : ∀ b, PyData.depthAll (ds b) ≤ depth
open PySem.W in
instance : DatS HU where
  ds := fun _ => []
  plain := fun _ => rfl
  eqv := fun _ _ => rfl
  depth := 0
  depth_le := fun _ => Nat.le_refl _
open PySem.W in
instance {α β : Type} [DecidableEq α] [DecidableEq β] [Datum α] [DatS β] : DatS (HC α β) where
  ds := fun x => Datum.toD x.h :: DatS.ds x.t
  plain := fun x => by
    show (PyData.plain (Datum.toD x.h) && PyData.plainAll (DatS.ds x.t)) = true
    rw [Datum.plain, DatS.plain]; rfl
  eqv := fun a b => by
    obtain ⟨a0, a1⟩ := a
    obtain ⟨b0, b1⟩ := b
    show (PyData.eqv (Datum.toD a0) (Datum.toD b0) && PyData.eqvAll (DatS.ds a1) (DatS.ds b1)) = _
    rw [Datum.eqv, DatS.eqv, Bool.eq_iff_iff]
    simp
  depth := max (Datum.depth α) (DatS.depth β)
  depth_le := fun x => by
    show max (PyData.depth (Datum.toD x.h)) (PyData.depthAll (DatS.ds x.t)) ≤ _
    have h1 := Datum.depth_le x.h
    have h2 := DatS.depth_le x.t
    omega
open PySem.W in
instance {β : Type} [DecidableEq β] [DatS β] : Datum (HL β) where
  toD := fun x => .list (DatS.ds x.s)
  plain := fun x => DatS.plain x.s
  eqv := fun a b => by
    obtain ⟨a⟩ := a
    obtain ⟨b⟩ := b
    show PyData.eqvAll (DatS.ds a) (DatS.ds b) = _
    rw [DatS.eqv, Bool.eq_iff_iff]
    simp
  depth := DatS.depth β + 1
  depth_le := fun x => by
    have h := DatS.depth_le x.s
    simp only [PyData.depth]
    omega
open PySem.W in
instance {β : Type} [DecidableEq β] [DatS β] : Datum (HT β) where
  toD := fun x => .tuple (DatS.ds x.s)
  plain := fun x => DatS.plain x.s
  eqv := fun a b => by
    obtain ⟨a⟩ := a
    obtain ⟨b⟩ := b
    show PyData.eqvAll (DatS.ds a) (DatS.ds b) = _
    rw [DatS.eqv, Bool.eq_iff_iff]
    simp
  depth := DatS.depth β + 1
  depth_le := fun x => by
    have h := DatS.depth_le x.s
    simp only [PyData.depth]
    omega
class PdS (β : Type) [PyS β] [DecidableEq β] extends DatS β where
  dps : ∀ {g : Gb} {b : β} {I : Hp} {vs : List V}, Paired (fun (r : PR) v => r.p I v) (PyS.rs g b) vs → DpAll g.K I vs (ds b)
instance : PdS HU where
  dps := fun h => by cases h; exact .nil
instance {α β : Type} [Py α] [PyS β] [DecidableEq α] [DecidableEq β] [Pd α] [PdS β] : PdS (HC α β) where
  dps := fun h => by
    cases h with
    | cons h t => exact .cons (Pd.dp h) (PdS.dps t)
instance {β : Type} [PyS β] [DecidableEq β] [PdS β] : Pd (HL β) where
  dp := fun h => by
    obtain ⟨l, vs, rfl, h1, _, h2⟩ := h
    exact .lst h1 (PdS.dps h2)
instance {β : Type} [PyS β] [DecidableEq β] [PdS β] : Pd (HT β) where
  dp := fun h => by
    obtain ⟨l, vs, rfl, h1, h2⟩ := h
    exact .tup h1 (PdS.dps h2)
instance {β : Type} [PyS β] [DecidableEq β] [PdS β] : NN (HL β) := ⟨fun _ => ⟨rfl, rfl⟩⟩
instance {β : Type} [PyS β] [DecidableEq β] [PdS β] : NN (HT β) := ⟨fun _ => ⟨rfl, rfl⟩⟩
/-! the parts told -/
structure MLH {β : Type} [PyS β] (X : Cx) (g : Gb) (B : Bs) (S : SL) (es : List Expr) (m : Option β) : Prop where
  run : ∀ b, m = some b → PA X es (fun σ H Q => ∃ I, Hold g B S σ I H ∧ ∀ vs I' H', Ext I H I' H' → Paired (fun (r : PR) v => r.p I' v) (PyS.rs g b) vs → Q vs H') ∧ (PyS.rs g b).length = es.length
section
variable {X : Cx} {g : Gb} {B : Bs} {J : Hp} {S : SL} {e e1 e2 e3 tg : Expr} {es : List Expr} {pos pos' p : Pos} {o : Type} {K : KT o} {rest body : List Stmt} {α β γ δ : Type} [Py α] [PyS β]
end
/-! owned parts told: each brings a fragment -/
def Owns (os : List OR) (vs : List V) (H I' H' : Hp) : Prop := os.length = vs.length ∧ ∃ Ψ : Nat → Hp, (∀ (j : Nat) (o : OR) (v : V), os[j]? = some o → vs[j]? = some v → o.p I' (Ψ j) v) ∧ (∀ j, Same (Ψ j) H') ∧ (∀ j a, Ψ j a ≠ none → H a = none ∧ I' a = none) ∧ (∀ i j a, Ψ i a ≠ none → Ψ j a ≠ none → i = j)
structure MLO {γ : Type} (X : Cx) (g : Gb) (B : Bs) (S : SL) (es : List Expr) (m : Option γ) (ks : γ → List OR) : Prop where
  run : ∀ c, m = some c → PA X es (fun σ H Q => ∃ I, Hold g B S σ I H ∧ ∀ vs I' H', Ext I H I' H' → Owns (ks c) vs H I' H' → Q vs H') ∧ (ks c).length = es.length
def shF (F : Hp) (Ψ : Nat → Hp) : Nat → Hp
  | 0 => F
  | n + 1 => Ψ n
open Classical in
/-- the fragments together, and a root -/
noncomputable def rootF (Ψ : Nat → Hp) (H : Hp) (l : Addr) (ob : HO) : Hp := fun a => if a = l then some ob else if ∃ j, Ψ j a ≠ none then H a else none
section
variable {X : Cx} {g : Gb} {B : Bs} {J : Hp} {S : SL} {e e1 e2 e3 tg : Expr} {es : List Expr} {pos pos' p : Pos} {α' γ : Type}
end
section
variable {X : Cx} {g : Gb} {B : Bs} {S : SL} {es : List Expr} {α β γ δ : Type}
theorem MLH.p1 [PyS δ] {a : α} {f : α → Option δ} {r : Option δ} (h : MLH X g B S es (some a >>= f)) (q : f a = r := by exact rfl) : MLH X g B S es r := q ▸ h
theorem MLH.p2 [PyS δ] {m : Option α} {b : β} {f : α → β → Option δ} {r : Option δ} (h : MLH X g B S es (m >>= fun a => some b >>= f a)) (q : (m >>= fun a => f a b) = r := by exact rfl) : MLH X g B S es r := q ▸ h
theorem MLO.p1 {ks : δ → List OR} {a : α} {f : α → Option δ} {r : Option δ} (h : MLO X g B S es (some a >>= f) ks) (q : f a = r := by exact rfl) : MLO X g B S es r ks := q ▸ h
theorem MLO.p2 {ks : δ → List OR} {m : Option α} {b : β} {f : α → β → Option δ} {r : Option δ} (h : MLO X g B S es (m >>= fun a => some b >>= f a) ks) (q : (m >>= fun a => f a b) = r := by exact rfl) : MLO X g B S es r ks := q ▸ h
end
end T
set_option Elab.async false
set_option linter.all false
set_option maxRecDepth 100000
/-! sorted(range(len(xs)), key=lambda x: (.., ..)): the lambda made, called for each place -/
namespace LK
open PySem PySem.Spec PyProof.Rows L2 LamX NdefX T
variable [TabsC]
section
variable {X : Cx} {pins : List (Addr × Obj)} {σ : L2.St} {H : Hp} {s : Shared}
end
section
variable {prog : Program} {w : World} {A : Around} {E : Value → Shared → Prop} {s : Shared}
open PySem.W PySem.Calls
def isInt : Value → Int → Prop := fun v i => ∃ t, v = Value.int i t
end
section
variable {X : Cx} {pins : List (Addr × Obj)} {σ : L2.St} {H : Hp} {s : Shared}
open PySem.W
end
/-- places, by falling value, of alike ones the lesser place first -/
def leK (xs : List Int) (i j : Int) : Bool := decide (xs.getD j.toNat 0 < xs.getD i.toNat 0 ∨ (xs.getD j.toNat 0 = xs.getD i.toNat 0 ∧ i ≤ j))
@[irreducible] def sortNegO (xs : List Int) : Option (List Int) := if decide (xs.length ≤ 1000) = true then some ((rng 0 xs.length).mergeSort (leK xs)) else none
def keyN (xs : List Int) : Int → PyData := fun i => .tuple [.int (-(xs.getD i.toNat 0)), .int i]
section
variable {X : Cx}
end
end LK
set_option Elab.async false
set_option linter.all false
set_option maxRecDepth 100000
/-! sorted(set(xs)), xs a list of ints -/
namespace LS
open PySem PySem.Spec PyProof.Rows L2 T
/-- a new set -/
def sO (w : World) : Obj := { cls := .type "set", dict := none, data := .set #[] 0 (.fresh 0 0 (!w.params.followText "set-order")) }
/-- the heap with it -/
abbrev sH (w : World) (h : Heap) : Heap := h.push (sO w)
section
variable {P : Program} {w : World} {A : Around} {E : Value → Shared → Prop} {s : Shared}
set_option maxHeartbeats 3200000 in
end
/-- set(xs) as a value -/
def rSetL (K : PySem.W.Frag) (w : World) : List V → Hp → VK → Prop := fun xs H Q => ∃ (l : Addr) (ns : List Int), xs = [V.ref l] ∧ SqL K H l (ns.map V.int) ∧ ns.length < 64 ∧ ∀ (a : Addr) (c : Nat), H a = none → c < 64 → Q (.ref a) (upd H a (SetO w a (fun j => decide (j ∈ ns)) c))
end LS
namespace T
open PySem PySem.Spec PyProof.Rows L2
variable [TabsC]
def insS (a : Int) : List Int → List Int
  | [] => [a]
  | b :: bs => if a < b then a :: b :: bs else if a = b then b :: bs else b :: insS a bs
/-- the members, rising, each once -/
def sortS : List Int → List Int
  | [] => []
  | a :: as => insS a (sortS as)
@[irreducible] def sortSetO (xs : List Int) : Option (List Int) := if decide (xs.length < 64) = true then some (sortS xs) else none
section
variable {X : Cx} {g : Gb} {B : Bs} {S : SL} {e : Expr} {p p2 pos pos2 : Pos} {m : Option (List Int)} {k : List Int → RK}
end
end T
set_option Elab.async false
set_option linter.all false
set_option maxRecDepth 100000
namespace T
open PySem PySem.Spec PyProof.Rows L2 C8
variable [TabsC]
/-! what is not reached -/
section
variable {X : Cx} {g : Gb} {B : Bs} {J : Hp} {S : SL} {e : Expr} {es : List Expr} {sts : List Stmt} {o α' : Type} {K : KT o} {k : α' → RK}
end
/-! isinstance, generally -/
section
variable {X : Cx} {g : Gb} {B : Bs} {J : Hp} {S : SL} {e e1 e2 : Expr} {pos pos' p p2 p3 tpos : Pos} {α' δ β : Type} [Py δ] [Py β] {m1 : Option α'} {k1 : α' → RK}
def TG (g : Gb) (k : α' → RK) (tf : α' → Value) : Prop := ∀ a H0 v I H, Same I H → RK.holds g (k a) H0 v I H → TyX g.K H v (tf a)
theorem me_isiG {x : Str} {Ty : String} {tf : α' → Value} {bf : α' → Bool} (hm : X.mg "isinstance" = none) (hm2 : X.mg x = none) (h : ME X g B S e m1 k1) (hT : TG g k1 tf) (hk : ∀ a, PySem.W.kitOne X.K (tf a) (.type Ty) = some (bf a)) (hv : bootBuiltins x = some (.type Ty)) (hg : Gl X "isinstance" := by rfl) (hg2 : Gl X x := by rfl) (hK : X.K = g.K := by rfl) (hn : x ≠ "__name__" := by decide) (hd : (x == ("__debug__" : Str)) = false := by decide)
    (he : starEach [e, .Name x p2] X.env = (false, eval e X.env) :: starEach [.Name x p2] X.env := by rfl) (he2 : starEach [.Name x p2] X.env = (false, eval (.Name x p2) X.env) :: starEach [] X.env := by rfl) (hpl : (backTo pos (starEach [.Name x p2] X.env)).any (·.1) = false := by rfl) :
    ME X g B S (.Call (.Name "isinstance" p) [e, .Name x p2] [] pos) (m1 >>= fun a => some (bf a)) (KI g) := by
  refine ⟨fun n q => ?_⟩
  obtain ⟨a, q1, q2⟩ := bind_some q
  cases q2
  refine pe_imp (pe_callB call_isi hg hm (by decide +kernel) (pa_cons (h.run a q1) (pa_cons (pe_bltn (v := .ty Ty) hg2 hm2 hv rfl hn hd) pa_nil he2) he) (he := he) (hpl := hpl)) fun σ H Q ⟨I, hh, kk⟩ => ⟨I, hh, fun v I' H' xx hv => ?_⟩
  exact ⟨v, .ty Ty, tf a, .type Ty, bf a, rfl, .ty Ty, by rw [hK]; exact hT a _ _ _ _ xx.s hv, hk a, kk _ I' H' xx rfl⟩
/-- things of a type, maybe None -/
def tyO {α : Type} (t : String) : Option α → Value
  | none => .type "NoneType"
  | some _ => .type t
theorem tg_opt {α : Type} [Py α] [i : IsT α] : TG g (KI (α := Option α) g) (tyO i.ty) := fun a H0 v I H s h => by
  cases a with
  | none =>
    cases (show v = .non from h)
    exact .base .non
  | some a => exact tyx_mono s (IsT.ok (α := α) h)
theorem kit_opt {α : Type} {K : PySem.W.Frag} {t Ty : String} {b : Bool} (h : kitB t Ty = some b) (h0 : kitB "NoneType" Ty = some false) (a : Option α) : PySem.W.kitOne K (tyO t a) (.type Ty) = some (a.isSome && b) := by
  cases a with
  | none => exact kit_ty h0
  | some a => exact kit_ty h
theorem tg_of {α : Type} {k : α → RK} {t : String} (h : TR g k (.type t)) : TG g k (fun _ => .type t) := fun a H0 v I H s q => h a H0 v I H s q
end
/-! lists -/
section
variable {X : Cx} {g : Gb} {B : Bs} {J : Hp} {S : SL} {e e1 e2 : Expr} {es : List Expr} {pos p p2 p3 apos cpos : Pos} {o ι : Type} {K : KT o} {rest : List Stmt} {α β : Type} [Py α] [Py β] {m : Option ι} {mk : ι → OR → OR} {i : Nat}
/-- the list without the first k -/
@[irreducible] def remO (xs : List Int) (k : Int) : Option (List Int) := if k ∈ xs then some (xs.erase k) else none
end
end T
set_option Elab.async false
set_option linter.all false
set_option maxRecDepth 100000
namespace T
open PySem PySem.Spec PyProof.Rows L2
/-! a def whose code object is known: one that makes a lambda -/
section
variable [TabsC] {P : Program} {w : World} {K : PySem.W.Frag} {mg : Str → Option Value} {base : Heap} {ι β : Type} {args : ι → List RK} {M : ι → Option β} {kd : β → RK}
structure FunC (K : PySem.W.Frag) (x qual : Str) (st : Stmt) (f : Addr) (fd : FuncData) (cdv : Value) : Prop where
  ex : ∃ (oc : Value) (od : Option Addr) (dV kV doc pm : Value) (an : Option Addr) (ct : Value) (osl : Array (Option Value)),
    fd = PySem.W.fnOf x qual (defArgs st) (defBody st) (defScope st) dV kV doc pm an cdv ct ∧ K.lookup f = some ⟨oc, od, .func fd, osl⟩ ∧ PySem.W.codeIn K cdv qual = true
  kp : PySem.W.keepIn K (.ref f) = true
end
end T
set_option Elab.async false
set_option linter.all false
set_option maxRecDepth 100000
namespace T
variable [TabsC]
open PySem PySem.Spec PyProof.Rows L2
/-! a def that hands back a pair whose first part is an own list of a slot -/
section
variable {g : Gb}
end
section
variable {X : Cx} {g : Gb} {B : Bs} {J : Hp} {S : SL} {e1 e2 : Expr} {pos pos' p : Pos} {o α β : Type} [Py α] {K : KT o}
variable {β' γ' δ' : Type} [Py β'] [Py γ'] [Py δ']
/-! the length of a tuple, of a row -/
variable {m : Option α} {e : Expr}
variable {α β γ δ : Type} [Py α] [Py β] [Py γ] [Py δ] {p2 p3 p4 : Pos}
end
end T
set_option Elab.async false
set_option linter.all false
set_option maxRecDepth 100000
namespace T
variable [TabsC]
open PySem PySem.Spec PyProof.Rows L2
/-! a stretch in which own lists stand still: a new base for the while -/
def eqP (u : V) : PR := ⟨fun _ v => v = u, fun _ h => h⟩
def lentP (g : Gb) (u : V) (BH : Hp) (q : PL) : PR := ⟨fun I v => v = u ∧ ∃ l vs, v = .ref l ∧ SqL g.K BH l vs ∧ q.p I vs, fun s ⟨e, l, vs, e2, h, h2⟩ => ⟨e, l, vs, e2, h, q.mono s h2⟩⟩
inductive Lend (g : Gb) (u : Nat → V) (BH : Hp) : Nat → SL → SL → Prop
  | nil {n : Nat} : Lend g u BH n [] []
  | no {n : Nat} {S T : SL} : Lend g u BH (n + 1) S T → Lend g u BH n (none :: S) (none :: T)
  | im {n : Nat} {p : PR} {S T : SL} : Lend g u BH (n + 1) S T → Lend g u BH n (some (.im p) :: S) (some (.im p) :: T)
  | hide {n : Nat} {k : RK} {S T : SL} : Lend g u BH (n + 1) S T → Lend g u BH n (some k :: S) (some (.im (eqP (u n))) :: T)
  | lend {n : Nat} {q : PL} {S T : SL} : Lend g u BH (n + 1) S T → Lend g u BH n (some (.fr q) :: S) (some (.im (lentP g (u n) BH q)) :: T)
  | lendB {n : Nat} {q : PL} {S T : SL} : Lend g u BH (n + 1) S T → Lend g u BH n (some (.bw q) :: S) (some (.im (lentP g (u n) BH q)) :: T)
inductive Back (g : Gb) (u : Nat → V) (BH : Hp) : Nat → SL → SL → SL → Prop
  | nil {n : Nat} : Back g u BH n [] [] []
  | no {n : Nat} {s : Option RK} {S T T' : SL} : Back g u BH (n + 1) S T T' → Back g u BH n (s :: S) (none :: T) (none :: T')
  | im {n : Nat} {s : Option RK} {p : PR} {S T T' : SL} : Back g u BH (n + 1) S T T' → Back g u BH n (s :: S) (some (.im p) :: T) (some (.im p) :: T')
  | hide {n : Nat} {k : RK} {S T T' : SL} : Back g u BH (n + 1) S T T' → Back g u BH n (some k :: S) (some (.im (eqP (u n))) :: T) (some k :: T')
  | lend {n : Nat} {k : RK} {q : PL} {S T T' : SL} : Back g u BH (n + 1) S T T' → Back g u BH n (some k :: S) (some (.im (lentP g (u n) BH q)) :: T) (some k :: T')
theorem Lend.len {g : Gb} {u : Nat → V} {BH : Hp} {n : Nat} {S T : SL} (h : Lend g u BH n S T) : T.length = S.length := by
  induction h with
  | nil => rfl
  | no _ ih | im _ ih | hide _ ih | lend _ ih | lendB _ ih => simp [ih]
theorem Back.len {g : Gb} {u : Nat → V} {BH : Hp} {n : Nat} {S T T' : SL} (h : Back g u BH n S T T') : T'.length = T.length := by
  induction h with
  | nil => rfl
  | no _ ih | im _ ih | hide _ ih | lend _ ih => simp [ih]
theorem Lend.at_ {g : Gb} {u : Nat → V} {BH : Hp} {n : Nat} {S T : SL} (h : Lend g u BH n S T) : ∀ (i : Nat) (k : RK), T[i]? = some (some k) →
    (∃ p, k = .im p ∧ S[i]? = some (some (.im p))) ∨ (k = .im (eqP (u (n + i))) ∧ ∃ k0, S[i]? = some (some k0)) ∨ (∃ q, k = .im (lentP g (u (n + i)) BH q) ∧ (S[i]? = some (some (.fr q)) ∨ S[i]? = some (some (.bw q)))) := by
  induction h with
  | nil => intro i k e; simp at e
  | @no n S T _ ih =>
    intro i k e
    cases i with
    | zero => cases e
    | succ i =>
      have := ih i k e
      rwa [show n + 1 + i = n + (i + 1) by omega] at this
  | @im n p S T _ ih =>
    intro i k e
    cases i with
    | zero => cases e; exact .inl ⟨p, rfl, rfl⟩
    | succ i =>
      have := ih i k e
      rwa [show n + 1 + i = n + (i + 1) by omega] at this
  | @hide n k0 S T _ ih =>
    intro i k e
    cases i with
    | zero => cases e; exact .inr (.inl ⟨rfl, k0, rfl⟩)
    | succ i =>
      have := ih i k e
      rwa [show n + 1 + i = n + (i + 1) by omega] at this
  | @lend n q S T _ ih =>
    intro i k e
    cases i with
    | zero => cases e; exact .inr (.inr ⟨q, rfl, .inl rfl⟩)
    | succ i =>
      have := ih i k e
      rwa [show n + 1 + i = n + (i + 1) by omega] at this
  | @lendB n q S T _ ih =>
    intro i k e
    cases i with
    | zero => cases e; exact .inr (.inr ⟨q, rfl, .inr rfl⟩)
    | succ i =>
      have := ih i k e
      rwa [show n + 1 + i = n + (i + 1) by omega] at this
theorem Back.at_ {g : Gb} {u : Nat → V} {BH : Hp} {n : Nat} {S T T' : SL} (h : Back g u BH n S T T') : ∀ (i : Nat) (k : RK), T'[i]? = some (some k) →
    (∃ p, k = .im p ∧ T[i]? = some (some (.im p))) ∨ (S[i]? = some (some k) ∧ ∃ p : PR, T[i]? = some (some (.im p)) ∧ ∀ I v, p.p I v → v = u (n + i)) := by
  induction h with
  | nil => intro i k e; simp at e
  | @no n s S T T' _ ih =>
    intro i k e
    cases i with
    | zero => cases e
    | succ i =>
      have := ih i k e
      rwa [show n + 1 + i = n + (i + 1) by omega] at this
  | @im n s p S T T' _ ih =>
    intro i k e
    cases i with
    | zero => cases e; exact .inl ⟨p, rfl, rfl⟩
    | succ i =>
      have := ih i k e
      rwa [show n + 1 + i = n + (i + 1) by omega] at this
  | @hide n k0 S T T' _ ih =>
    intro i k e
    cases i with
    | zero => cases e; exact .inr ⟨rfl, _, rfl, fun I v h => h⟩
    | succ i =>
      have := ih i k e
      rwa [show n + 1 + i = n + (i + 1) by omega] at this
  | @lend n k0 q S T T' _ ih =>
    intro i k e
    cases i with
    | zero => cases e; exact .inr ⟨rfl, _, rfl, fun I v h => h.1⟩
    | succ i =>
      have := ih i k e
      rwa [show n + 1 + i = n + (i + 1) by omega] at this
/-- how the new base stands to the old one -/
def LF (g : Gb) (B : Bs) (J : Hp) (S : SL) (u : Nat → V) (B' : Bs) (J' : Hp) : Prop := ∃ σ0 Φ0, HoldF g B S σ0 B'.I B'.H Φ0 ∧ Ext B.I B.H B'.I B'.H ∧ Same J B'.I ∧ J' = B'.I ∧ ∀ n v, σ0[n]? = some (some v) → u n = v
section
variable {X : Cx} {g : Gb} {B : Bs} {J : Hp} {S : SL} {o : Type} {K : KT o} {m : Option o} {sts rest : List Stmt}
end
section
variable {X : Cx} {g : Gb} {B : Bs} {S : SL} {α : Type} [Py α] {pos : Pos}
end
end T
set_option Elab.async false
set_option linter.all false
set_option maxRecDepth 100000
namespace T
variable [TabsC]
open PySem PySem.Spec PyProof.Rows L2
/-! x[i] op= e, of a list of ints of one's own -/
section
variable {X : Cx} {g : Gb} {B : Bs} {J : Hp} {S : SL} {e e1 : Expr} {pos apos p : Pos} {o : Type} {K : KT o} {rest : List Stmt}
end
end T
set_option Elab.async false
set_option linter.all false
set_option maxRecDepth 100000
namespace T
variable [TabsC]
open PySem PySem.Spec PyProof.Rows L2 ClX
/-! defs that change what they are handed: the call -/
def eqD {δ : Type} (u : V) (x y : δ) : PR := ⟨fun _ v => v = u ∧ y = x, fun _ h => h⟩
def fq (q : Nat) (F : Hp) : Nat → Hp := fun n => if n = q then F else fun _ => none
section
variable {X : Cx} {g : Gb} {B : Bs} {J : Hp} {S : SL} {σ : L2.St} {I H : Hp} {Φ : Nat → Hp} {i : Nat} {k : RK} {v : V} {o0 op : OR}
end
section
variable {X : Cx} {g : Gb} {B : Bs} {J : Hp} {S : SL} {e : Expr} {es : List Expr} {pos p p2 apos cpos : Pos} {o ι β δ : Type} {K : KT o} {rest sts : List Stmt} {m' : Option o}
variable {args args' : ι → List RK} {M : ι → Option β} {outs : β → List (Nat × OR)} {m : Option β} {j kk : Nat} {f : Addr} {fd : FuncData} {ps : List Str} {x : Str} {ds : List Value} {fn : β → Option o}
end
end T
set_option Elab.async false
set_option linter.all false
set_option maxRecDepth 100000
namespace T
variable [TabsC]
open PySem PySem.Spec PyProof.Rows L2 ClX
/-! defs that hand back nothing -/
def KtU (g : Gb) (B : Bs) : KT Unit := fun _ D => ∀ σ I' H', Ext B.I B.H I' H' → D.nx σ H' ∧ D.rt .non H'
section
variable {P : Program} {w : World} {K : PySem.W.Frag} {mg : Str → Option Value} {base : Heap} {ι : Type} {args : ι → List RK} {M : ι → Option Unit}
end
section
variable {X : Cx} {g : Gb} {B : Bs} {J : Hp} {S : SL} {e : Expr} {pos p p2 apos cpos : Pos} {o ι β δ : Type} {K : KT o} {rest sts : List Stmt}
/-! what stands at a place of an owned thing -/
variable {i : Nat} {mk : ι → OR → OR} {m : Option ι}
end
end T
set_option Elab.async false
set_option linter.all false
set_option maxRecDepth 100000
namespace T
variable [TabsC]
open PySem PySem.Spec PyProof.Rows L2 ClX
/-! a new instance, by a call with keywords -/
def rdK {ι o : Type} (g : Gb) (B : Bs) (S : SL) (n : Nat) (args : ι → List RK) (M : ι → Option o) (r : o) : TA := fun σ H Q => ∃ I, Hold g B S σ I H ∧ ∀ a zs I' H', M a = some r → Ext I H I' H' → Args g (args a) zs I' H' → zs.length = n → Q zs H'
structure MKd {ι o : Type} (X : Cx) (g : Gb) (B : Bs) (S : SL) (kws : List Keyword) (n : Nat) (args : ι → List RK) (m : Option o) (M : ι → Option o) : Prop where
  run : ∀ r, m = some r → PK X kws (rdK g B S n args M r)
structure MX {ι o : Type} (X : Cx) (g : Gb) (B : Bs) (S : SL) (es : List Expr) (kws : List Keyword) (n k : Nat) (args : ι → List RK) (m : Option o) (M : ι → Option o) : Prop where
  run : ∀ r, m = some r → ∃ t tk, PA X es t ∧ PK X kws tk ∧ ∀ σ H (Q : List V → List V → Hp → Prop), (∃ I, Hold g B S σ I H ∧ ∀ a vs zs I' H', M a = some r → Ext I H I' H' → Args g (args a) (vs ++ zs) I' H' → vs.length = n → zs.length = k → Q vs zs H') → t σ H fun vs H1 => tk σ H1 fun zs H2 => Q vs zs H2
section
variable {X : Cx} {g : Gb} {B : Bs} {S : SL} {e : Expr} {es : List Expr} {kws : List Keyword} {p pos kpos : Pos} {nm : Option Str} {ι o α' : Type}
theorem pk_imp {t t' : TA} (h : PK X kws t) (f : ∀ σ H Q, t' σ H Q → t σ H Q) : PK X kws t' := ⟨fun pos pins s σ H Q I hw => h.run pos pins s σ H Q I (f σ H Q hw)⟩
theorem mk_nil {M : Unit → Option o} : MKd X g B S [] 0 (fun _ : Unit => []) (M ()) M :=
  ⟨fun r q => pk_imp pk_nil fun σ H Q ⟨I, hh, k⟩ => k () [] I H q (Ext.refl hh.sub) .nil rfl⟩
theorem mk_cons {n : Nat} {args : ι → List RK} {m1 : Option α'} {m2 : α' → Option o} {M : α' × ι → Option o} {k k' : α' → RK} (h : ME X g B S e m1 k) (c : Coe g k k') (t : ∀ a, MKd X g B S kws n args (m2 a) (fun b => M (a, b))) :
    MKd X g B S (⟨nm, e, kpos⟩ :: kws) (n + 1) (fun p : α' × ι => k' p.1 :: args p.2) (m1 >>= m2) M := by
  refine ⟨fun r q => ?_⟩
  obtain ⟨a, q1, q2⟩ := bind_some q
  refine pk_imp (pk_cons (h.run a q1) ((t a).run r q2)) fun σ H Q ⟨I, hh, kk⟩ => ⟨I, hh, fun v I1 H1 x1 v1 => ⟨I1, hh.ext x1, fun b vs I2 H2 hM x2 hA hl => ?_⟩⟩
  exact kk (a, b) (v :: vs) I2 H2 hM (x1.trans x2) (.cons (c a _ _ _ _ x2.s (RK.ext v1 x2 hh.tb.has)) hA) (congrArg (· + 1) hl)
theorem MKd.p1 {n : Nat} {a : α'} {args : ι → List RK} {m2 : α' → Option o} {M : ι → Option o} (h : MKd X g B S kws n args (some a >>= m2) M) : MKd X g B S kws n args (m2 a) M := h
theorem mx_kw {k : Nat} {args : ι → List RK} {m : Option o} {M : ι → Option o} (h : MKd X g B S kws k args m M) : MX X g B S [] kws 0 k args m M :=
  ⟨fun r q => ⟨_, _, pa_nil, h.run r q, fun σ H Q ⟨I, hh, kk⟩ => ⟨I, hh, fun a zs I' H' hM x hA hl => kk a [] zs I' H' hM x hA rfl hl⟩⟩⟩
theorem mx_cons {n k0 : Nat} {args : ι → List RK} {m1 : Option α'} {m2 : α' → Option o} {M : α' × ι → Option o} {k k' : α' → RK} (h : ME X g B S e m1 k) (c : Coe g k k') (t : ∀ a, MX X g B S es kws n k0 args (m2 a) (fun b => M (a, b)))
    (hs : starEach (e :: es) X.env = (false, eval e X.env) :: starEach es X.env := by rfl) : MX X g B S (e :: es) kws (n + 1) k0 (fun p : α' × ι => k' p.1 :: args p.2) (m1 >>= m2) M := by
  refine ⟨fun r q => ?_⟩
  obtain ⟨a, q1, q2⟩ := bind_some q
  obtain ⟨t1, tk, h1, h2, h3⟩ := (t a).run r q2
  refine ⟨_, tk, pa_cons (h.run a q1) h1 hs, h2, fun σ H Q ⟨I, hh, kk⟩ => ⟨I, hh, fun v I1 H1 x1 v1 => ?_⟩⟩
  refine h3 σ H1 (fun vs zs H2 => Q (v :: vs) zs H2) ⟨I1, hh.ext x1, fun b vs zs I2 H2 hM x2 hA l1 l2 => ?_⟩
  exact kk (a, b) (v :: vs) zs I2 H2 hM (x1.trans x2) (.cons (c a _ _ _ _ x2.s (RK.ext v1 x2 hh.tb.has)) hA) (congrArg (· + 1) l1) l2
theorem MX.p1 {n k : Nat} {a : α'} {args : ι → List RK} {m2 : α' → Option o} {M : ι → Option o} (h : MX X g B S es kws n k args (some a >>= m2) M) : MX X g B S es kws n k args (m2 a) M := h
variable {β ιX : Type} {args : ι → List RK} {M : ι → Option β} {argsX : ιX → List RK} {M' : ιX → Option β} {outs : β → List (Nat × OR)} {m : Option β} {j kk n : Nat} {f C : Addr} {fd : FuncData} {ps ks : List Str} {x : Str} {gg : List Value → List Value → List Value} {gV gv : List V → List V → List V}
theorem me_makeK {or : β → OR} (φ : ιX → ι) (gv : List V → List V → List V) (F : FnOk X.prog X.w X.K X.mg X.base CX0 j f fd ps (spIO g (fun a => .ow (oC (wI g x []) []) :: args a) M (fun _ => .im (Py.r g ())) outs)) (hr : Room kk X.A) (hj : j + 1 ≤ kk) (Mk : Mk X.K C f) (hm : X.mg x = some (.ref C)) (hb : KBn X.K fd ps (n + 1) ks gg gV)
    (ha : MX X g B S (e :: es) kws n ks.length argsX m M') (hA : ∀ b vs zs I H, vs.length = n → zs.length = ks.length → Args g (argsX b) (vs ++ zs) I H → Args g (args (φ b)) (gv vs zs) I H)
    (hM : ∀ b r, M' b = some r → M (φ b) = some r := by intro _ _ h; exact h) (hgV : ∀ a vs zs, gV (.ref a :: vs) zs = .ref a :: gv vs zs := by intros; rfl)
    (hout : ∀ r, outs r = [(0, or r)] := by intro _; rfl) (harg : ∀ a, (args a).all RK.argy = true := by intro _; rfl) (hmg : X.mg = g.mg := by rfl)
    (hall : (backToKw pos (keywordEach kws X.env)).all (·.1.isSome) = true := by rfl) (hks : (backToKw pos (keywordEach kws X.env)).filterMap (·.1) = ks := by rfl)
    (hg : Gl X x := by rfl) (hdb : (x == ("__debug__" : Str)) = false := by decide) (he : starEach (e :: es) X.env = (false, eval e X.env) :: starEach es X.env := by rfl)
    (hpl : ((backTo pos (starEach (e :: es) X.env)).any (·.1) || (backToKw pos (keywordEach kws X.env)).any (·.1.isNone)) = false := by rfl) :
    ME X g B S (.Call (.Name x p) (e :: es) kws pos) m (fun r => .ow (or r)) := by
  refine ⟨fun r q => ?_⟩
  obtain ⟨t, tk, h1, h2, h3⟩ := ha.run r q
  refine pe_imp (pe_makeN Mk F (hr.mono hj) hg hm hb pass0 h1 h2 hall hks hdb he hpl) fun σ H Q ⟨I, hh, kc⟩ => ?_
  refine h3 σ H _ ⟨I, hh, fun b vs zs I1 H1 hM' x1 hA' l1 l2 => ⟨l1, l2, fun y dy hy hdy hne => ?_⟩⟩
  rw [hgV]
  exact make_use (by rw [← hmg]; exact hm) x1.s (hh.tb.ext x1).to (hA b vs zs _ _ l1 l2 hA') (hM b r hM') hy hdy hne (hout r) (harg _) fun v I' H' x2 hv => kc v I' H' (x1.trans x2) (RK.back rfl x1.h hv)
end
end T
set_option Elab.async false
set_option linter.all false
set_option maxRecDepth 100000
namespace T
variable [TabsC]
open PySem PySem.Spec PyProof.Rows L2 ClX
section
variable {X : Cx} {g : Gb} {B : Bs} {J : Hp} {S : SL} {e e2 : Expr} {pos apos : Pos} {i : Nat} {o ι : Type} {K : KT o} {rest : List Stmt} {m : Option ι} {mk : ι → OR → OR}
end
end T
set_option Elab.async false
set_option linter.all false
set_option maxRecDepth 100000
namespace T
variable [TabsC]
open PySem PySem.Spec PyProof.Rows L2
/-! a comprehension whose elements are things of one's own -/
def rdEsO {α β : Type} [Py α] (g : Gb) (B : Bs) (Sp : α → SL) (f : α → Option β) (kb : β → RK) : TE := fun σ H Q => ∃ a b I, f a = some b ∧ Hold g B (Sp a) σ I H ∧ ∀ v I' H', Ext I H I' H' → RK.holds g (kb b) H v I' H' → Q v H'
/-- the elements made so far -/
structure LcO {β : Type} (kc : β → OR) (ds : List β) (ws : List V) (D : Addr) (H1 I H F : Hp) : Prop where
  fr : ∀ a, F a ≠ none → H1 a = none ∧ I a = none
  s : Same F H
  d : F D = none
  k : Kids (ds.map kc) I F ws D
theorem LcO.ext {β : Type} {kc : β → OR} {ds : List β} {ws : List V} {D : Addr} {H1 I H F I' H' : Hp} (h : LcO kc ds ws D H1 I H F) (x : Ext I H I' H') (t : HasT H1) : LcO kc ds ws D H1 I' H' F :=
  ⟨fun a ha => ⟨(h.fr a ha).1, x.n a (same_ne h.s ha) (h.fr a ha).2⟩, x.h.part h.s (fun p hp => by
    cases q : F p.1 with
    | none => rfl
    | some u => exact absurd (h.fr p.1 (ne_of_some q)).1 (t p hp)), h.d, h.k.mono x.i⟩
theorem LcO.push {β : Type} {kc : β → OR} {ds : List β} {ws : List V} {D : Addr} {H1 I H F H' F' : Hp} {b : β} {u : V} {ob : HO} (h : LcO kc ds ws D H1 I H F) (hD : H D ≠ none) (hF : ∀ a, F' a ≠ none → H a = none) (hF1 : ∀ a, F' a ≠ none → H1 a = none ∧ I a = none) (sF : Same F' H') (sF0 : Same F H') (hp : (kc b).p I F' u) :
    LcO kc (ds ++ [b]) (ws ++ [u]) D H1 I (upd H' D ob) (Un F F') := by
  have dj : ∀ a, F' a ≠ none → F a = none := fun a ha => by
    cases q : F a with
    | none => rfl
    | some o => have := h.s _ _ q; rw [hF a ha] at this; cases this
  have F'D : F' D = none := by
    cases q : F' D with
    | none => rfl
    | some o => exact absurd (hF D (ne_of_some q)) hD
  have sU : Same F (Un F F') := un_l dj
  obtain ⟨hl, Ψ, k1, k2, k3, k4⟩ := h.k
  rw [List.length_map] at hl
  refine ⟨fun a ha => ?_, fun a o e => ?_, ?_, ?_, putF Ψ ds.length F', fun j o v e1 e2 => ?_, fun j => ?_, fun j => ?_, fun i j a e1 e2 => ?_⟩
  · by_cases z : F' a = none
    · rw [un_none z] at ha; exact h.fr a ha
    · exact hF1 a z
  · have haD : a ≠ D := fun z => by
      rw [z] at e
      rcases un_some e with y | ⟨_, y⟩
      · rw [F'D] at y; cases y
      · rw [h.d] at y; cases y
    rw [upd_ne haD]
    rcases un_some e with y | ⟨_, y⟩
    · exact sF a o y
    · exact sF0 a o y
  · rw [un_none F'D]; exact h.d
  · simp [hl]
  · rw [List.map_append] at e1
    by_cases hj : j < ds.length
    · rw [List.getElem?_append_left (by rw [List.length_map]; exact hj)] at e1
      rw [List.getElem?_append_left (by omega)] at e2
      rw [putF_ne (by omega)]
      exact k1 j o v e1 e2
    · have hj2 : j = ds.length := by
        have := (List.getElem?_eq_some_iff.mp e1).1
        simp at this
        omega
      subst hj2
      rw [List.getElem?_append_right (by rw [List.length_map]; exact Nat.le_refl _), List.length_map, Nat.sub_self] at e1
      rw [List.getElem?_append_right (by omega), hl, Nat.sub_self] at e2
      cases e1
      cases e2
      rw [putF_same]; exact hp
  · by_cases hj : j = ds.length
    · rw [hj, putF_same]; exact un_s
    · rw [putF_ne hj]; exact (k2 j).trans sU
  · by_cases hj : j = ds.length
    · rw [hj, putF_same]; exact F'D
    · rw [putF_ne hj]; exact k3 j
  · by_cases hi : i = ds.length
    · by_cases hj : j = ds.length
      · rw [hi, hj]
      · rw [hi, putF_same] at e1
        rw [putF_ne hj] at e2
        exact absurd (dj a e1) (same_ne (k2 j) e2)
    · by_cases hj : j = ds.length
      · rw [hj, putF_same] at e2
        rw [putF_ne hi] at e1
        exact absurd (dj a e2) (same_ne (k2 i) e1)
      · rw [putF_ne hi] at e1
        rw [putF_ne hj] at e2
        exact k4 i j a e1 e2
theorem LcO.done {β : Type} {g : Gb} {kc : β → OR} {ds : List β} {ws : List V} {D : Addr} {H1 I H F H0 : Hp} (h : LcO kc ds ws D H1 I H F) (s01 : ∀ a, H1 a = none → H0 a = none) (hD1 : H1 D = none) (hI : I D = none) (hH : H D = some (.lst ws)) (hl : ws.length ≤ sizeLine) :
    RK.holds g (.ow (oC wL (ds.map kc))) H0 (.ref D) I H := by
  refine ⟨NewF F D (.lst ws) (fun _ => none), fun a ha => ?_, fun a o e => ?_, D, _, ws, rfl, newF_root, ⟨rfl, hl⟩, h.k.len, ?_⟩
  · rcases newF_ne ha with z | z | z
    · subst z; exact ⟨s01 _ hD1, hI⟩
    · exact absurd rfl z
    · exact ⟨s01 _ (h.fr a z).1, (h.fr a z).2⟩
  · by_cases z : a = D
    · subst z; rw [newF_root] at e; rw [hH]; exact e
    · rw [newF_old z rfl] at e; exact h.s a o e
  · obtain ⟨Ψ, k1, k2, k3, k4⟩ := h.k.ex
    refine ⟨Ψ, k1, fun j a o e => ?_, k3, k4⟩
    rw [newF_old (fun z => by rw [z, k3 j] at e; cases e) rfl]
    exact k2 j a o e
section
variable {X : Cx} {g : Gb} {B : Bs} {J : Hp} {S : SL} {e e1 e2 e3 tg elt iter : Expr} {es ifs : List Expr} {pos pos' p p2 p3 apos cpos : Pos} {o α' β' γ' ρ : Type} {K : KT o} {rest body : List Stmt} {α β γ δ : Type} [Py α]
end
end T
set_option Elab.async false
set_option linter.all false
set_option maxRecDepth 100000
namespace T
variable [TabsC]
open PySem PySem.Spec PyProof.Rows L2
/-! things of one's own that stay for a stretch, and are one's own again behind it -/
/-- a thing that stays and is the value u -/
def pinP (u : V) (p : PR) : PR := ⟨fun I v => v = u ∧ p.p I v, fun s h => ⟨h.1, p.mono s h.2⟩⟩
def UnL (I : Hp) (Φ : Nat → Hp) : List Nat → Hp
  | [] => I
  | j :: js => Un (UnL I Φ js) (Φ j)
structure Fz where
  j : Nat
  o : OR
  p : PR
def FZ (g : Gb) (B : Bs) (J : Hp) (S : SL) (u : Nat → V) (zs : List Fz) (J' : Hp) : Prop := ∃ σ0 H0 I Φ, HoldF g B S σ0 I H0 Φ ∧ Ext B.I B.H I H0 ∧ Same J I ∧ J' = UnL I Φ (zs.map (·.j)) ∧ ∀ n v, σ0[n]? = some (some v) → u n = v
structure FzOk (S : SL) (z : Fz) : Prop where
  ex : ∃ k : RK, S[z.j]? = some (some k) ∧ k.orOf = z.o ∧ k.slotty = true
  f : Frz z.o z.p
def fzS (u : Nat → V) : List Fz → SL → SL
  | [], S => S
  | z :: zs, S => (fzS u zs S).set z.j (some (.im (pinP (u z.j) z.p)))
def thS : List Fz → Nat → SL
  | [], n => List.replicate n none
  | z :: zs, n => (thS zs n).set z.j (some (.ow z.o))
section
variable {X : Cx} {g : Gb} {B : Bs} {J : Hp} {S : SL} {o : Type} {K : KT o} {m : Option o} {sts rest : List Stmt} {I H : Hp} {σ : L2.St} {Φ : Nat → Hp}
end
def pinK (u : V) (p : PR) : RK := .im (pinP u p)
section
variable {X : Cx} {g : Gb} {B : Bs} {J : Hp} {S : SL} {e e1 e2 e3 : Expr} {pos pos' p p2 p3 apos cpos : Pos} {o ι : Type} {K : KT o} {rest : List Stmt} {α β : Type} [Py α] [Py β]
/-- a list of which no more is known than its length; nothing known -/
def oLen (n : Nat) : OR := ⟨fun _ F v => ∃ l vs, v = .ref l ∧ F l = some (.lst vs) ∧ vs.length = n, fun _ h => h⟩
def oAny : OR := ⟨fun _ _ _ => True, fun _ _ => trivial⟩
@[irreducible] def roomO (b : Bool) : Option Unit := if b = true then some () else none
end
/-- y with its rows, each of which may grow by r items -/
def oRow (L : Addr) (vs : List V) (r : Nat) : OR := ⟨fun _ F v => v = .ref L ∧ F L = some (.lst vs) ∧ ∀ u ∈ vs, ∃ l ws, u = .ref l ∧ l ≠ L ∧ F l = some (.lst ws) ∧ ws.length + r ≤ sizeLine, fun _ h => h⟩
theorem Hold.drop {g : Gb} {B : Bs} {S : SL} {σ : L2.St} {I H : Hp} (t : Nat) (h : Hold g B S σ I H) : Hold g B (S.set t none) σ I H := by
  obtain ⟨Φ, h⟩ := h
  refine ⟨Φ, by rw [List.length_set]; exact h.len, h.sub, h.base, h.tb, fun j k e => ?_, h.fr, h.dj⟩
  rcases set_some e with ⟨_, b, _⟩ | ⟨_, b⟩
  · cases b
  · exact h.at_ j k b
theorem Hold.ow {g : Gb} {B : Bs} {S : SL} {σ : L2.St} {I H : Hp} {i : Nat} {o o' : OR} (h : Hold g B S σ I H) (hS : S[i]? = some (some (.ow o))) (f : ∀ v F, o.p I F v → o'.p I F v) : Hold g B (S.set i (some (.ow o'))) σ I H := by
  obtain ⟨Φ, h⟩ := h
  refine ⟨Φ, by rw [List.length_set]; exact h.len, h.sub, h.base, h.tb, fun j k e => ?_, h.fr, h.dj⟩
  rcases set_some e with ⟨a, b, _⟩ | ⟨_, b⟩
  · subst a
    cases b
    obtain ⟨v, e1, h1⟩ := h.at_ _ _ hS
    exact ⟨v, e1, f v _ h1⟩
  · exact h.at_ j k b
section
variable {X : Cx} {g : Gb} {B : Bs} {J : Hp} {S : SL} {e e1 e2 e3 : Expr} {pos pos' p p2 p3 apos cpos : Pos} {o ι : Type} {K : KT o} {rest : List Stmt} {α β : Type} [Py α] [Py β]
def turnA (g : Gb) (B : Bs) (S : SL) (i t : Nat) : TS := fun D σ H => ∃ J I u L vs r, u ∈ vs ∧ Ok g B J ((S.set i (some (.ow (oRow L vs (r + 1))))).set t (some (.im (eqP u)))) σ I H ∧ ∀ σ I H, Ok g B J ((S.set i (some (.ow (oRow L vs r)))).set t (some (.im (eqP u)))) σ I H → D.nx σ H
end
end T
set_option Elab.async false
set_option linter.all false
set_option maxRecDepth 100000
namespace T
variable [TabsC]
open PySem PySem.Spec PyProof.Rows L2
/-! max, min of a list -/
@[irreducible] def maxO : List Int → Option Int
  | [] => none
  | x :: xs => some (xs.foldl max x)
@[irreducible] def minO : List Int → Option Int
  | [] => none
  | x :: xs => some (xs.foldl min x)
section
variable {X : Cx} {g : Gb} {B : Bs} {J : Hp} {S : SL} {e e1 e2 e3 tg : Expr} {es : List Expr} {pos pos' p : Pos}
end
end T
set_option Elab.async false
set_option linter.all false
set_option maxRecDepth 100000
namespace T
variable [TabsC]
open PySem PySem.Spec PyProof.Rows L2
/-! lists of things of one's own -/
theorem Hold.cv {g : Gb} {B : Bs} {S : SL} {σ : L2.St} {I H : Hp} (i : Nat) {k k' : RK} (h : Hold g B S σ I H) (hS : S[i]? = some (some k)) (f : ∀ v F, RK.inS g k B.H v I F → RK.inS g k' B.H v I F) : Hold g B (S.set i (some k')) σ I H := by
  obtain ⟨Φ, h⟩ := h
  refine ⟨Φ, by rw [List.length_set]; exact h.len, h.sub, h.base, h.tb, fun j kk e => ?_, h.fr, h.dj⟩
  rcases set_some e with ⟨a, b, _⟩ | ⟨_, b⟩
  · subst a
    cases b
    obtain ⟨v, e1, h1⟩ := h.at_ _ _ hS
    exact ⟨v, e1, f v _ h1⟩
  · exact h.at_ j kk b
section
variable {X : Cx} {g : Gb} {B : Bs} {J : Hp} {S : SL} {e e1 e2 e3 tg : Expr} {pos pos' p p2 p3 apos cpos : Pos} {o ι ρ : Type} {K : KT o} {rest sts : List Stmt} {α β γ : Type} [Py α] [Py β] [Py γ] {i : Nat} {m : Option ι} {mk : ι → OR → OR}
theorem mb_cv {m : Option o} (i : Nat) {k k' : RK} (hS : S[i]? = some (some k)) (f : ∀ v I F, RK.inS g k B.H v I F → RK.inS g k' B.H v I F) (hb : MB X g B J (S.set i (some k')) sts m K) : MB X g B J S sts m K :=
  ⟨fun r q => pss_imp (hb.run r q) fun D σ H ⟨I, ok, kk⟩ => ⟨I, ⟨ok.x, ok.j, ok.h.cv i hS fun v F => f v I F⟩, kk⟩⟩
end
end T
set_option Elab.async false
set_option linter.all false
set_option maxRecDepth 100000
namespace T
variable [TabsC]
open PySem PySem.Spec PyProof.Rows L2
/-! lists of ints that are new since a def began, seen in a walk, handed back within a tuple -/
def Fs (H0 : Hp) (α : Type) : Type := α
def frsP (g : Gb) (H0 : Hp) (as : List Int) : PR := ⟨fun I v => ∃ l vs, v = .ref l ∧ I l = some (.lst vs) ∧ H0 l = none ∧ (rl g as).p I vs, fun s ⟨l, vs, e, h1, h2, h3⟩ => ⟨l, vs, e, s _ _ h1, h2, (rl g as).mono s h3⟩⟩
instance {H0 : Hp} : Py (Fs H0 (List Int)) := ⟨fun g (as : List Int) => frsP g H0 as⟩
def oFh (H0 : Hp) (q : PL) : OR := ⟨fun I F v => (oF q).p I F v ∧ ∀ a, F a ≠ none → H0 a = none, fun s h => ⟨(oF q).mono s h.1, h.2⟩⟩
section
variable {X : Cx} {g : Gb} {B : Bs} {J : Hp} {S : SL} {e e1 e2 e3 tg : Expr} {pos pos' p p2 p3 apos cpos : Pos} {o ι ρ : Type} {K : KT o} {rest sts : List Stmt} {α β γ : Type} [Py α] [Py β] [Py γ] {i : Nat}
/-- an owned thing or None -/
def oOpt {α' : Type} (k : α' → OR) : Option α' → OR
  | none => ⟨fun _ _ v => v = .non, fun _ h => h⟩
  | some a => k a
def FlatP (r : PR) : Prop := ∀ I I' v, r.p I v → r.p I' v
/-- the part that stays, without l -/
def Les (I : Hp) (l : Addr) : Hp := fun a => if a = l then none else I a
def two (p l : Addr) (ob ol : HO) : Hp := fun a => if a = p then some ob else if a = l then some ol else none
end
/-! x = e, where e's value is known -/
theorem mb_setV {X : Cx} {g : Gb} {B : Bs} {J : Hp} {S : SL} {o α' : Type} {K : KT o} {rest : List Stmt} {e : Expr} {pos pos' : Pos} {m : Option o} (i : Nat) {x : Str} {a : α'} {k : α' → RK} (hN : X.N.Nodup) (he : ME X g B S e (some a) k) (hb : MB X g B J (S.set i (some (k a))) rest m K) (hk : ∀ a, (k a).slotty = true := by intro _; rfl)
    (hi : X.N[i]? = some x := by rfl) (hx : Loc X.env.scope x := by first | exact Or.inl rfl | exact Or.inr rfl) (hs : swapsWith e (some (.Name x pos')) pos.line X.env = pure false := by rfl)
    (hf : X.fn x = true ∨ X.env.scope.names.lookup x = some .local := by first | exact .inl rfl | exact .inr rfl) : MB X g B J S (.Assign [.Name x pos'] e pos :: rest) m K := by
  refine ⟨fun r q2 => ?_⟩
  refine pss_imp (pss_cons (ps_set hN hi hx (he.run a rfl) hs hf) (hb.run r q2)) fun D σ H ⟨I, ok, kk⟩ => ?_
  exact ⟨I, ok.h, fun v I' H' x1 hv => ⟨I', ok.put x1 (hk a) hv, kk⟩⟩
/-! the same slots, written out -/
theorem mb_eqS {X : Cx} {g : Gb} {B : Bs} {J : Hp} {S S' : SL} {o : Type} {K : KT o} {sts : List Stmt} {m : Option o} (h : S = S') (hb : MB X g B J S' sts m K) : MB X g B J S sts m K := h ▸ hb
/-! a def: what is known of its heaps at its begin -/
section
variable {P : Program} {w : World} {K : PySem.W.Frag} {mg : Str → Option Value} {base : Heap} {ι o : Type} {args : ι → List RK} {M : ι → Option o} {kd : o → RK}
end
end T
set_option Elab.async false
set_option linter.all false
set_option maxRecDepth 100000
namespace T
variable [TabsC]
open PySem PySem.Spec PyProof.Rows L2
/-! data of any form -/
instance instPyDy : Py PyData := ⟨fun g d => ⟨fun I v => Dp g.K I v d, fun s h => dp_mono s h⟩⟩
def isiD_list : PyData → Bool | .list _ => true | _ => false
def isiD_tuple : PyData → Bool | .tuple _ => true | _ => false
def isiD_str : PyData → Bool | .str _ => true | _ => false
def isiD_bool : PyData → Bool | .bool _ => true | _ => false
def isiD_int : PyData → Bool | .bool _ => true | .int _ => true | _ => false
def isND : PyData → Bool | .none => true | _ => false
def tyD : PyData → Value
  | .none => .type "NoneType"
  | .bool _ => .type "bool"
  | .int _ => .type "int"
  | .str _ => .type "str"
  | .list _ => .type "list"
  | .tuple _ => .type "tuple"
  | .dict _ => .type "dict"
@[irreducible] def eqDO (a b : PyData) : Option Bool := if (a.plain && b.plain && decide (a.depth ≤ 64)) = true then some (PyData.eqv a b) else none
@[irreducible] def lenDO : PyData → Option Int
  | .list xs => some (xs.length : Int)
  | .tuple xs => some (xs.length : Int)
  | _ => none
@[irreducible] def atDO : PyData → Int → Option PyData
  | .list xs, i => atI xs i
  | .tuple xs, i => atI xs i
  | _, _ => none
@[irreducible] def zipDO : PyData → PyData → Option (List (T2 PyData PyData))
  | .list xs, .list ys => if decide (xs.length ≤ sizeLine ∧ ys.length ≤ sizeLine) = true then some (zipL xs ys) else none
  | .tuple xs, .tuple ys => if decide (xs.length ≤ sizeLine ∧ ys.length ≤ sizeLine) = true then some (zipL xs ys) else none
  | _, _ => none
@[irreducible] def asInt : PyData → Option Int | .int i => some i | _ => none
@[irreducible] def asBool : PyData → Option Bool | .bool i => some i | _ => none
@[irreducible] def asStr : PyData → Option Str | .str i => some i | _ => none
@[irreducible] def asOInt : PyData → Option (Option Int) | .int i => some (some i) | .none => some none | _ => none
section
variable {X : Cx} {g : Gb} {B : Bs} {J : Hp} {S : SL} {e e1 e2 e3 tg : Expr} {pos pos' p p2 p3 tpos : Pos} {α β : Type} [Py α] [DecidableEq α] [Pd α] [Py β]
open PySem.W
end
/-! a written power -/
section
variable {X : Cx} {g : Gb} {B : Bs} {S : SL} {e1 e2 : Expr} {pos : Pos}
end
/-! zip of two -/
section
variable {X : Cx} {g : Gb} {B : Bs} {J : Hp} {S : SL} {e e1 e2 e3 tg : Expr} {pos pos' p p2 p3 tpos : Pos}
end
end T
set_option Elab.async false
set_option linter.all false
set_option maxRecDepth 100000
namespace T
variable [TabsC]
open PySem PySem.Spec PyProof.Rows L2
/-! lending, where things of one's own are made meanwhile -/
def RK.isOwn : RK → Bool
  | .fr _ => true
  | .ow _ => true
  | _ => false
inductive Back2 (g : Gb) (u : Nat → V) (BH : Hp) : Nat → SL → SL → SL → Prop
  | nil {n : Nat} : Back2 g u BH n [] [] []
  | no {n : Nat} {s : Option RK} {S T T' : SL} : Back2 g u BH (n + 1) S T T' → Back2 g u BH n (s :: S) (none :: T) (none :: T')
  | im {n : Nat} {s : Option RK} {p : PR} {S T T' : SL} : Back2 g u BH (n + 1) S T T' → Back2 g u BH n (s :: S) (some (.im p) :: T) (some (.im p) :: T')
  | hide {n : Nat} {k : RK} {S T T' : SL} : Back2 g u BH (n + 1) S T T' → Back2 g u BH n (some k :: S) (some (.im (eqP (u n))) :: T) (some k :: T')
  | lend {n : Nat} {k : RK} {q : PL} {S T T' : SL} : Back2 g u BH (n + 1) S T T' → Back2 g u BH n (some k :: S) (some (.im (lentP g (u n) BH q)) :: T) (some k :: T')
  | own {n : Nat} {s : Option RK} {k : RK} {S T T' : SL} (hk : k.isOwn = true) : Back2 g u BH (n + 1) S T T' → Back2 g u BH n (s :: S) (some k :: T) (some k :: T')
theorem Back2.len {g : Gb} {u : Nat → V} {BH : Hp} {n : Nat} {S T T' : SL} (h : Back2 g u BH n S T T') : T'.length = T.length := by
  induction h with
  | nil => rfl
  | no _ ih | im _ ih | hide _ ih | lend _ ih | own _ _ ih => simp [ih]
theorem Back2.at_ {g : Gb} {u : Nat → V} {BH : Hp} {n : Nat} {S T T' : SL} (h : Back2 g u BH n S T T') : ∀ (i : Nat) (k : RK), T'[i]? = some (some k) →
    (∃ p, k = .im p ∧ T[i]? = some (some (.im p))) ∨ (S[i]? = some (some k) ∧ ∃ p : PR, T[i]? = some (some (.im p)) ∧ ∀ I v, p.p I v → v = u (n + i)) ∨ (k.isOwn = true ∧ T[i]? = some (some k)) := by
  induction h with
  | nil => intro i k e; simp at e
  | @no n s S T T' _ ih =>
    intro i k e
    cases i with
    | zero => cases e
    | succ i =>
      have := ih i k e
      rwa [show n + 1 + i = n + (i + 1) by omega] at this
  | @im n s p S T T' _ ih =>
    intro i k e
    cases i with
    | zero => cases e; exact .inl ⟨p, rfl, rfl⟩
    | succ i =>
      have := ih i k e
      rwa [show n + 1 + i = n + (i + 1) by omega] at this
  | @hide n k0 S T T' _ ih =>
    intro i k e
    cases i with
    | zero => cases e; exact .inr (.inl ⟨rfl, _, rfl, fun I v h => h⟩)
    | succ i =>
      have := ih i k e
      rwa [show n + 1 + i = n + (i + 1) by omega] at this
  | @lend n k0 q S T T' _ ih =>
    intro i k e
    cases i with
    | zero => cases e; exact .inr (.inl ⟨rfl, _, rfl, fun I v h => h.1⟩)
    | succ i =>
      have := ih i k e
      rwa [show n + 1 + i = n + (i + 1) by omega] at this
  | @own n s k0 S T T' hk _ ih =>
    intro i k e
    cases i with
    | zero => cases e; exact .inr (.inr ⟨hk, rfl⟩)
    | succ i =>
      have := ih i k e
      rwa [show n + 1 + i = n + (i + 1) by omega] at this
section
variable {X : Cx} {g : Gb} {B : Bs} {J : Hp} {S : SL} {o : Type} {K : KT o} {m : Option o} {sts rest : List Stmt}
open Classical in
end
end T
set_option Elab.async false
set_option linter.all false
set_option maxRecDepth 100000
namespace T
variable [TabsC]
open PySem PySem.Spec PyProof.Rows L2
/-! a new instance, by a call with keywords alone -/
section
variable {X : Cx} {CX : CXT} {k : Nat} {f C : Addr} {fd : FuncData} {ps ks : List Str} {sp : Sp} {E : XK} {x : Str} {p pos : Pos} {kws : List Keyword} {tk : TA} {gl : List Value → List Value → List Value} {gV : List V → List V → List V}
def tMakeK0 (C : Addr) (m : Nat) (sp : Sp) (gV : List V → List V → List V) (E : XK) (tk : TA) : TE := fun σ H Q => tk σ H fun zs H2 => zs.length = m ∧ ∀ x dx, H2 x = none → H2 dx = none → dx ≠ x → sp (gV [.ref x] zs) (upd (upd H2 dx (.own x)) x (.ins C dx [])) (fun v H3 => v = .non ∧ Q (.ref x) H3) E
end
section
variable {X : Cx} {g : Gb} {B : Bs} {S : SL} {kws : List Keyword} {p pos : Pos} {ι o β ιX : Type} {args : ι → List RK} {M : ι → Option β} {argsX : ιX → List RK} {M' : ιX → Option β} {outs : β → List (Nat × OR)} {m : Option β} {j kk : Nat} {f C : Addr} {fd : FuncData} {ps ks : List Str} {x : Str} {gg : List Value → List Value → List Value} {gV : List V → List V → List V}
end
/-! in a tuple -/
section
variable {α τ : Type} [Py α] [DecidableEq α] [Pd α] [Py τ] [DecidableEq τ] [Pd τ] {X : Cx} {g : Gb} {B : Bs} {S : SL} {e1 e2 : Expr} {pos : Pos} {m1 : Option α} {m2 : Option τ}
open PySem.W
end
end T
set_option Elab.async false
set_option linter.all false
set_option maxRecDepth 100000
namespace T
variable [TabsC]
open PySem PySem.Spec PyProof.Rows L2
open PySem.SeqAt (EqAt RcAt RcNeAt)
/-! things that are surely equal: the same object, alike data, lists of such, part by part -/
inductive Sm (K : PySem.W.Frag) (H : Hp) : Nat → V → V → Prop
  | same {n : Nat} (a : Addr) : Sm K H n (.ref a) (.ref a)
  | data {n : Nat} {v w : V} {d : PyData} : Dp K H v d → Dp K H w d → d.plain = true → PyData.eqv d d = true → d.depth ≤ n → Sm K H n v w
  | lst {n : Nat} {a b : Addr} {xs ys : List V} : SqL K H a xs → SqL K H b ys → xs.length = ys.length → (∀ (i : Nat) (x y : V), xs[i]? = some x → ys[i]? = some y → Sm K H n x y) → Sm K H (n + 1) (.ref a) (.ref b)
theorem Sm.mono {K : PySem.W.Frag} {H H' : Hp} (s : Same H H') {n : Nat} {v w : V} (h : Sm K H n v w) : Sm K H' n v w := by
  induction h with
  | same a => exact .same a
  | data d1 d2 hp he hd => exact .data (dp_mono s d1) (dp_mono s d2) hp he hd
  | lst h1 h2 hl _ ih => exact .lst (s.seq h1) (s.seq h2) hl ih
theorem Sm.up {K : PySem.W.Frag} {H : Hp} {n : Nat} {v w : V} (h : Sm K H n v w) : ∀ {m : Nat}, n ≤ m → Sm K H m v w := by
  induction h with
  | same a => exact fun _ => .same a
  | data d1 d2 hp he hd => exact fun hm => .data d1 d2 hp he (Nat.le_trans hd hm)
  | lst h1 h2 hl _ ih =>
    intro m hm
    cases m with
    | zero => exact absurd hm (Nat.not_succ_le_zero _)
    | succ m => exact .lst h1 h2 hl fun i x y e1 e2 => ih i x y e1 e2 (Nat.le_of_succ_le_succ hm)
theorem size_of_paired {xs : List V} {its : Array Value} (r : Vals xs its.toList) : its.size = xs.length := by
  have := Paired.length r
  rw [← Array.length_toList]; exact this.symm
theorem list_is {X : Cx} {pins : List (Addr × Obj)} {σ : L2.St} {H : Hp} {s : Shared} (I : Inv X pins σ H s) {a : Addr} {xs : List V} (h : SqL X.K H a xs) : ∃ its : Array Value, Vals xs its.toList ∧ s.heap.IsList a its := by
  obtain ⟨its, rv, ⟨o, n1, ho, hc, _, hd⟩, _⟩ := I.list h
  exact ⟨its.toArray, by simpa using rv, o, ho, hc, n1, hd⟩
theorem Sm.eqAt {X : Cx} {pins : List (Addr × Obj)} {σ : L2.St} {H : Hp} {s : Shared} (I : Inv X pins σ H s) {n : Nat} {x y : V} (h : Sm X.K H n x y) :
    ∀ {A : Around} {v u : Value}, RelV x v → RelV y u → A.units + n < cLine → EqAt A s v u true := by
  induction h with
  | same a =>
    intro A v u r1 r2 _
    cases r1; cases r2
    exact EqAt.same _
  | @data n x y d d1 d2 hp he hd =>
    intro A v u r1 r2 hu
    obtain ⟨as, q1⟩ := Dp.reads I _ _ _ d1 r1
    obtain ⟨bs, q2⟩ := Dp.reads I _ _ _ d2 r2
    have z := PySem.SeqAt.eqAt_plain d d A s v u as bs q1 q2 hp hp (by have := Nat.min_le_left d.depth d.depth; omega)
    rw [he] at z
    exact z
  | lst h1 h2 hl _ ih =>
    intro A v u r1 r2 hu
    cases r1; cases r2
    rename_i a1 b1 xs1 ys1 _
    obtain ⟨its, rv, il⟩ := list_is I h1
    obtain ⟨its2, rv2, il2⟩ := list_is I h2
    by_cases hne : a1 = b1
    · subst hne
      exact EqAt.same _
    · have z1 := size_of_paired rv
      have z2 := size_of_paired rv2
      have z := RcAt.lists (e := fun _ => true) il il2 (by omega) (by omega) (A := A) (s := s) fun j j1 j2 => by
        obtain ⟨x1, e1, q1⟩ := paired_get' rv (i := j) (b := its[j]) (by rw [Array.getElem?_toList]; exact Array.getElem?_eq_getElem j1)
        obtain ⟨y1, e2, q2⟩ := paired_get' rv2 (i := j) (b := its2[j]) (by rw [Array.getElem?_toList]; exact Array.getElem?_eq_getElem j2)
        exact ih j x1 y1 e1 e2 q1 q2 (by show A.units + 1 + _ < cLine; omega)
      rw [show ((List.range its.size).all fun _ => true) = true by simp] at z
      exact EqAt.of_refs hne z
/-- two lists, surely equal -/
def SmTop (K : PySem.W.Frag) (H : Hp) (n : Nat) (v w : V) : Prop := ∃ a b xs ys, v = .ref a ∧ w = .ref b ∧ SqL K H a xs ∧ SqL K H b ys ∧ xs.length = ys.length ∧ ∀ (i : Nat) (x y : V), xs[i]? = some x → ys[i]? = some y → Sm K H n x y
theorem SmTop.to {K : PySem.W.Frag} {H : Hp} {n : Nat} {v w : V} (h : SmTop K H n v w) : Sm K H (n + 1) v w := by
  obtain ⟨a, b, xs, ys, rfl, rfl, h1, h2, hl, h⟩ := h
  exact .lst h1 h2 hl h
def rNeS (K : PySem.W.Frag) : R2 := fun x y H Q => SmTop K H 50 x y ∧ Q (.bl false) H
def rEqS (K : PySem.W.Frag) : R2 := fun x y H Q => SmTop K H 50 x y ∧ Q (.bl true) H
theorem op_neS {X : Cx} (hu : X.A.units + 64 < cLine) : OpR X (compareOp .NotEq) (rNeS X.K) := by
  intro pins s σ H x y v u Q I rx ry ⟨⟨a, b, xs, ys, e1, e2, h1, h2, hl, h⟩, q⟩
  subst e1; subst e2
  cases rx; cases ry
  obtain ⟨its, rv, il⟩ := list_is I h1
  obtain ⟨its2, rv2, il2⟩ := list_is I h2
  have z1 := size_of_paired rv
  have z2 := size_of_paired rv2
  have z := RcNeAt.lists (e := fun _ => true) il il2 (by omega) (by omega) (A := X.A) (s := s) fun j j1 j2 => by
    obtain ⟨x1, e1, q1⟩ := paired_get' rv (i := j) (b := its[j]) (by rw [Array.getElem?_toList]; exact Array.getElem?_eq_getElem j1)
    obtain ⟨y1, e2, q2⟩ := paired_get' rv2 (i := j) (b := its2[j]) (by rw [Array.getElem?_toList]; exact Array.getElem?_eq_getElem j2)
    exact (h j x1 y1 e1 e2).eqAt I q1 q2 (by show X.A.units + 1 + _ < cLine; omega)
  rw [show ((List.range its.size).all fun _ => true) = true by simp] at z
  exact z X.prog X.w X.xe _ ⟨.bl _, H, I, rfl, q⟩
/-! lists whose very items are known -/
class Rf (α : Type) [Py α] : Prop where
  rf : ∀ {g : Gb} {a : α} {I : Hp} {v : V}, (Py.r g a).p I v → ∃ x, v = .ref x
theorem rIns_rf {g : Gb} {c : Str} {names : List Str} {rs : List PR} {I : Hp} {v : V} (h : (rIns g c names rs).p I v) : ∃ x, v = .ref x := by
  obtain ⟨l, C, dx, vs, e, _⟩ := h
  exact ⟨l, e⟩
def Vl (vs : List V) (α : Type) : Type := List α
def vlP {α : Type} [Py α] (g : Gb) (vs : List V) (as : List α) : PR := ⟨fun I v => ∃ l, v = .ref l ∧ SqL g.K I l vs ∧ (rl g as).p I vs, fun s ⟨l, e, h, q⟩ => ⟨l, e, s.seq h, (rl g as).mono s q⟩⟩
def vlL {α : Type} [Py α] (g : Gb) (vs : List V) (as : List α) : PL := ⟨fun I ws => ws = vs ∧ (rl g as).p I vs, fun s ⟨e, q⟩ => ⟨e, (rl g as).mono s q⟩⟩
instance {vs : List V} {α : Type} [Py α] : Py (Vl vs α) := ⟨fun g (as : List α) => vlP g vs as⟩
/-- the list's items are vs, all of them objects -/
def VR {α' : Type} (g : Gb) (vs : List V) (k : α' → RK) (a : α') : Prop := ∀ H v I' H', Same I' H' → RK.holds g (k a) H v I' H' → ∃ l, v = .ref l ∧ SqL g.K H' l vs ∧ ∀ x ∈ vs, ∃ b, x = V.ref b
theorem refs_of {α : Type} [Py α] [Rf α] {g : Gb} {as : List α} {I : Hp} {vs : List V} (h : (rl g as).p I vs) : ∀ x ∈ vs, ∃ b, x = V.ref b := fun x hx => by
  obtain ⟨i, hi⟩ := List.getElem?_of_mem hx
  obtain ⟨a, _, q⟩ := paired_get' h.2 hi
  exact Rf.rf q
section
variable {α : Type} [Py α] [Rf α] {g : Gb} {vs : List V} {as : List α}
theorem vr_im : VR g vs (fun as : List α => .im (vlP g vs as)) as := fun H v I' H' s ⟨l, e, h, q⟩ => ⟨l, e, s.seq h, refs_of q⟩
theorem vr_rd : VR g vs (fun as : List α => .rd (vlL g vs as)) as := fun H v I' H' s ⟨l, ws, e, h, q, q2⟩ => ⟨l, e, by rw [q] at h; exact h, refs_of q2⟩
theorem smt_vl {k1 k2 : List α → RK} {H1 H2 I H : Hp} {v w : V} {a b : List α} {n : Nat} (r1 : VR g vs k1 a) (r2 : VR g vs k2 b) (s : Same I H) (h1 : RK.holds g (k1 a) H1 v I H) (h2 : RK.holds g (k2 b) H2 w I H) : SmTop g.K H n v w := by
  obtain ⟨l, rfl, q1, q2⟩ := r1 _ _ _ _ s h1
  obtain ⟨l2, rfl, q3, q4⟩ := r2 _ _ _ _ s h2
  refine ⟨l, l2, vs, vs, rfl, rfl, q1, q3, rfl, fun i x y e1 e2 => ?_⟩
  rw [e1] at e2
  cases e2
  obtain ⟨b, rfl⟩ := q2 x (List.mem_of_getElem? e1)
  exact .same b
end
/-- parts that are surely equal where their data are the same -/
def SmR (g : Gb) (rs : List PR) : Prop := ∀ r ∈ rs, ∀ (I : Hp) (v w : V), r.p I v → r.p I w → Sm g.K I 50 v w
section
variable {X : Cx} {g : Gb} {B : Bs} {J : Hp} {S : SL} {e e1 e2 e3 tg : Expr} {pos pos' p p2 p3 apos cpos : Pos} {o ι ρ : Type} {K : KT o} {rest sts : List Stmt} {α β γ : Type} [Py α] [Py β] [Py γ]
theorem mc_neS {a' b' : Type} {a : a'} {b : b'} {k1 : a' → RK} {k2 : b' → RK} (hu : X.A.units + 64 < cLine) (h1 : ME X g B S e1 (some a) k1) (h2 : ME X g B S e2 (some b) k2) (hs : ∀ H1 H2 v w I H, Same I H → RK.holds g (k1 a) H1 v I H → RK.holds g (k2 b) H2 w I H → SmTop g.K H 50 v w) (hg : X.K = g.K := by rfl) :
    MC X g B S (.Compare e1 [.NotEq] [e2] pos) (some false) :=
  ⟨fun c q => by
    cases q
    refine ⟨_, pe_cmpR (op_neS hu) (h1.run a rfl) (h2.run b rfl) (nomark _), pt_cmpR (op_neS hu) (h1.run a rfl) (h2.run b rfl) (nomark _), fun σ H Q ⟨I, hh, kk⟩ => ⟨I, hh, fun v I1 H1 x1 v1 => ⟨I1, hh.ext x1, fun w I2 H2 x2 v2 => ?_⟩⟩⟩
    exact ⟨by rw [hg]; exact hs _ _ v w I2 H2 x2.s (RK.ext v1 x2 hh.tb.has) v2, kk _ I2 H2 (x1.trans x2) rfl⟩⟩
/-- S[i]'s thing known better -/
theorem mb_ex {ι' : Type} {m : Option o} (i : Nat) {k : RK} {k' : ι' → RK} (hS : S[i]? = some (some k)) (f : ∀ v I F, RK.inS g k B.H v I F → ∃ x, RK.inS g (k' x) B.H v I F) (hb : ∀ x, MB X g B J (S.set i (some (k' x))) sts m K) : MB X g B J S sts m K := by
  refine ⟨fun r q => ⟨fun pins s σ H D IV hw => ?_⟩⟩
  obtain ⟨I, ok, kk⟩ := hw
  obtain ⟨Φ, h0⟩ := ok.h
  obtain ⟨v, e1, h1⟩ := h0.at_ i _ hS
  obtain ⟨x, h2⟩ := f v I _ h1
  refine ((hb x).run r q).run pins s σ H D IV ⟨I, ⟨ok.x, ok.j, Φ, ?_⟩, kk⟩
  refine ⟨by rw [List.length_set]; exact h0.len, h0.sub, h0.base, h0.tb, fun j k e => ?_, h0.fr, h0.dj⟩
  rcases set_some e with ⟨a, b, c⟩ | ⟨a, b⟩
  · subst a
    cases b
    exact ⟨v, e1, h2⟩
  · exact h0.at_ j k b
/-- a list's items are called vs -/
theorem mb_vl {m : Option o} (i : Nat) {as : List α} (hS : S[i]? = some (some (.im (Py.r g as)))) (hb : ∀ vs, MB X g B J (S.set i (some (.im (vlP g vs as)))) sts m K) : MB X g B J S sts m K :=
  mb_ex (k := .im (Py.r g as)) (k' := fun vs => .im (vlP g vs as)) i hS (fun v I F ⟨l, vs, e, h, q⟩ => ⟨vs, l, e, h, q⟩) hb
theorem mb_unvl {m : Option o} (i : Nat) {vs : List V} {as : List α} (hS : S[i]? = some (some (.im (vlP g vs as)))) (hb : MB X g B J (S.set i (some (.im (Py.r g as)))) sts m K) : MB X g B J S sts m K :=
  mb_cv (k := .im (vlP g vs as)) (k' := .im (Py.r g as)) i hS (fun v I F ⟨l, e, h, q⟩ => ⟨l, vs, e, h, q⟩) hb
theorem mb_unvf {m : Option o} (i : Nat) {vs : List V} {as : List α} (hS : S[i]? = some (some (.fr (vlL g vs as)))) (hb : MB X g B J (S.set i (some (.fr (rl g as)))) sts m K) : MB X g B J S sts m K :=
  mb_cv (k := .fr (vlL g vs as)) (k' := .fr (rl g as)) i hS (fun v I F ⟨l, ws, e, h, q1, q⟩ => ⟨l, ws, e, h, by rw [q1]; exact q⟩) hb
/-- names of such lists: as lists, and as these -/
theorem me_varV (i : Nat) {x : Str} {vs : List V} {as : List α} (hS : S[i]? = some (some (.im (vlP g vs as))) := by rfl) (hN : X.N[i]? = some x := by rfl) (hv : Vis X.env.scope x := by first | exact Or.inl rfl | exact Or.inr (Or.inl rfl) | exact Or.inr (Or.inr rfl))
    (hd : (x == ("__debug__" : Str)) = false := by decide) (hcd : (x == ("__classdict__" : Str)) = false := by decide) : ME X g B S (.Name x pos) (some as) (fun as => .im (vlP g vs as)) := by
  refine ⟨fun a' e => ?_⟩
  cases e
  refine pe_imp (pe_var hN hv hd hcd) fun σ H Q ⟨I, h, q⟩ => ?_
  obtain ⟨v, e1, h1⟩ := h.at_ i _ hS
  exact ⟨v, e1, q v I H (Ext.refl h.sub) h1⟩
theorem me_ownV (i : Nat) {x : Str} {vs : List V} {as : List α} (hS : S[i]? = some (some (.fr (vlL g vs as))) := by rfl) (hN : X.N[i]? = some x := by rfl) (hv : Vis X.env.scope x := by first | exact Or.inl rfl | exact Or.inr (Or.inl rfl) | exact Or.inr (Or.inr rfl))
    (hd : (x == ("__debug__" : Str)) = false := by decide) (hcd : (x == ("__classdict__" : Str)) = false := by decide) : ME X g B S (.Name x pos) (some as) (fun as => .rd (vlL g vs as)) := by
  refine ⟨fun a' e => ?_⟩
  cases e
  refine pe_imp (pe_var hN hv hd hcd) fun σ H Q ⟨I, h, q⟩ => ?_
  obtain ⟨v, e1, l, ws, e2, _, _, h3, h4⟩ := h.at_ i _ hS
  exact ⟨v, e1, q v I H (Ext.refl h.sub) ⟨l, ws, e2, SqL.of h3, h4⟩⟩
theorem me_kv {a' : Type} {m : Option a'} {k k' : a' → RK} (h : ME X g B S e m k) (f : ∀ a H v I' H', RK.holds g (k a) H v I' H' → RK.holds g (k' a) H v I' H') : ME X g B S e m k' :=
  ⟨fun r q => pe_imp (h.run r q) fun σ H Q ⟨I, hh, kk⟩ => ⟨I, hh, fun v I' H' x hv => kk v I' H' x (f r _ v I' H' hv)⟩⟩
theorem me_unvI {m : Option (List α)} {vs : List V} (h : ME X g B S e m (fun as => .im (vlP g vs as))) : ME X g B S e m (KI g) := me_kv h fun a H v I' H' ⟨l, e, h, q⟩ => ⟨l, vs, e, h, q⟩
theorem me_unvR {m : Option (List α)} {vs : List V} (h : ME X g B S e m (fun as => .rd (vlL g vs as))) : ME X g B S e m (fun as => .rd (rl g as)) := me_kv h fun a H v I' H' ⟨l, ws, e, h, q1, q⟩ => ⟨l, ws, e, h, by rw [q1]; exact q⟩
/-- list(e): the same items -/
theorem me_listV {m : Option (List α)} {vs : List V} (hm : X.mg "list" = none) (h : ME X g B S e m (fun as => .im (vlP g vs as))) (hg : Gl X "list" := by rfl) (hK : X.K = g.K := by rfl) (he : starEach [e] X.env = (false, eval e X.env) :: starEach [] X.env := by rfl) (hpl : (backTo pos (starEach [] X.env)).any (·.1) = false := by rfl) :
    ME X g B S (.Call (.Name "list" p) [e] [] pos) (m >>= fun xs => some xs) (fun xs => .fr (vlL g vs xs)) :=
  me_callTy1 hm call_list_of (by decide +kernel) h (fun a b q v H0 I H Q s hv kk => by
    cases q
    obtain ⟨l, rfl, h1, h2⟩ := hv
    refine ⟨l, vs, rfl, .inl (by rw [hK]; exact s.seq h1), fun p hp => ?_⟩
    have hI : I p = none := s.free hp
    exact kk (.ref p) I _ ⟨Same.refl _, SW.of (same_new hp), s.trans (same_new hp), fun _ _ h => h⟩ ⟨p, vs, rfl, hp, hI, upd_same, rfl, h2⟩) (hg := hg) (he := he) (hpl := hpl)
end
end T
set_option Elab.async false
set_option linter.all false
set_option maxRecDepth 100000
/-! sorted of a tuple of ints -/
namespace LT
open PySem PyProof.Rows
section
variable {prog : Program} {w : World} {A : Around} {E : Value → Shared → Prop} {s : Shared}
end
end LT
namespace T
variable [TabsC]
open PySem PySem.Spec PyProof.Rows L2
/-- membership, by the equality that is decided -/
abbrev memD {α : Type} [DecidableEq α] (a : α) (xs : List α) : Bool := decide (a ∈ xs)
def rSortT (K : PySem.W.Frag) : List V → Hp → VK → Prop := fun vs H Q => ∃ (a : Addr) (ns : List Int), vs = [V.ref a] ∧ SqT K H a (ns.map V.int) ∧ ns.length < 64 ∧
  ∀ (ms : List Int) (p : Addr), ms.Perm ns → ms.Pairwise (· ≤ ·) → H p = none → Q (.ref p) (upd H p (.lst (ms.map V.int)))
/-- ints, rising -/
def insI (a : Int) : List Int → List Int
  | [] => [a]
  | b :: bs => if a ≤ b then a :: b :: bs else b :: insI a bs
def sortI : List Int → List Int
  | [] => []
  | a :: as => insI a (sortI as)
@[irreducible] def sortIO (xs : List Int) : Option (List Int) := if decide (xs.length < 64) = true then some (sortI xs) else none
@[irreducible] def cutDO : PyData → Option Int → Option Int → Option PyData
  | .tuple ds, lo, hi => some (.tuple (cutO ds lo hi))
  | _, _, _ => none
@[irreducible] def catDO : PyData → PyData → Option PyData
  | .tuple ds, .tuple es => if decide (ds.length + es.length ≤ sizeLine) = true then some (.tuple (ds ++ es)) else none
  | _, _ => none
section
variable {X : Cx} {g : Gb} {B : Bs} {J : Hp} {S : SL} {e e1 e2 e3 tg : Expr} {oe oe2 : Option Expr} {pos pos' p p2 p3 apos cpos : Pos} {o ι ρ : Type} {K : KT o} {rest sts : List Stmt} {α β γ : Type} [Py α] [Py β] [Py γ]
end
end T
set_option Elab.async false
set_option linter.all false
set_option maxRecDepth 100000
namespace T
variable [TabsC]
open PySem PySem.Spec PyProof.Rows L2
/-! tuples of ints, any number of them; dicts with such keys -/
structure TI where
  l : List Int
  deriving DecidableEq
instance : Py TI := ⟨fun g t => ⟨fun I v => ∃ p, v = .ref p ∧ I p = some (.tup (t.l.map V.int)), fun s ⟨p, e, h⟩ => ⟨p, e, s _ _ h⟩⟩⟩
instance : Nz TI := ⟨fun h z => by obtain ⟨p, rfl, _⟩ := h; cases z⟩
structure DT (β : Type) where
  kvs : List (List Int × β)
def inK (k : List Int) : List L2.Key := k.map Sum.inl
def KVs {β : Type} [Py β] (g : Gb) (I : Hp) (kvs : List (List Int × β)) (ws : List (List L2.Key × V)) : Prop := Paired (fun (kv : List Int × β) (kw : List L2.Key × V) => kw.1 = inK kv.1 ∧ (Py.r g kv.2).p I kw.2) kvs ws
theorem KVs.mono {β : Type} [Py β] {g : Gb} {I I' : Hp} {kvs : List (List Int × β)} {ws : List (List L2.Key × V)} (s : Same I I') (h : KVs g I kvs ws) : KVs g I' kvs ws :=
  L2.Paired.mapP h fun _ _ q => ⟨q.1, (Py.r g _).mono s q.2⟩
def rDT {β : Type} [Py β] (g : Gb) (x : DT β) : PR := ⟨fun I v => ∃ d ws, v = .ref d ∧ I d = some (.dT ws) ∧ KVs g I x.kvs ws, fun s ⟨d, ws, e, h, q⟩ => ⟨d, ws, e, s _ _ h, q.mono s⟩⟩
instance {β : Type} [Py β] : Py (DT β) := ⟨rDT⟩
instance {β : Type} [Py β] : Nz (DT β) := ⟨fun h z => by obtain ⟨d, ws, rfl, _⟩ := h; cases z⟩
def oDT {β : Type} [Py β] (g : Gb) (x : DT β) : OR := ⟨fun I F v => ∃ d ws, v = .ref d ∧ F d = some (.dT ws) ∧ KVs g I x.kvs ws, fun s ⟨d, ws, e, h, q⟩ => ⟨d, ws, e, h, q.mono s⟩⟩
def getK {β : Type} (kvs : List (List Int × β)) (k : List Int) : Option β := (kvs.find? fun kv => decide (kv.1 = k)).map (·.2)
def putKm {β : Type} (kvs : List (List Int × β)) (k : List Int) (b : β) : List (List Int × β) :=
  if (kvs.any fun kv => decide (kv.1 = k)) = true then kvs.map (fun kv => if kv.1 = k then (kv.1, b) else kv) else kvs ++ [(k, b)]
@[irreducible] def putKO {β : Type} (d : DT β) (k : TI) (b : β) : Option (DT β) := if decide (d.kvs.length < sizeLine) = true then some ⟨putKm d.kvs k.l b⟩ else none
section
variable {β : Type} [Py β] {g : Gb} {I : Hp}
end
section
variable {X : Cx} {g : Gb} {B : Bs} {J : Hp} {S : SL} {e e1 e2 e3 tg : Expr} {pos pos' p p2 p3 apos cpos : Pos} {o ι ρ : Type} {K : KT o} {rest sts : List Stmt} {α β γ : Type} [Py α] [Py β] [Py γ] {i : Nat} {m0 : Option ι} {mk : ι → OR → OR}
end
end T
set_option Elab.async false
set_option linter.all false
set_option maxRecDepth 100000
namespace T
variable [TabsC]
open PySem PySem.Spec PyProof.Rows L2
open PySem.W (Datum)
open PySem.W (alike alikeAll dataLt keyToks keyToksAll)
/-! a < b, of lists of ints, of pairs of an int and such a list -/
def ltL : List Int → List Int → Bool
  | [], [] => false
  | [], _ :: _ => true
  | _ :: _, [] => false
  | x :: r, y :: t => if x = y then ltL r t else decide (x < y)
def ltIL (a b : T2 Int (List Int)) : Bool := if a.x0 = b.x0 then ltL a.x1 b.x1 else decide (a.x0 < b.x0)
abbrev ktI (a : List Int) : List (Int ⊕ List Nat) := keyToksAll (a.map PyData.int)
/-- data that < orders, and how -/
def LtBy {α : Type} [DecidableEq α] [Datum α] (lt : α → α → Bool) : Prop := ∀ a b : α, alike (Datum.toD a) (Datum.toD b) = true ∧ Datum.toD a ≠ .none ∧ dataLt (Datum.toD a) (Datum.toD b) = lt a b
def rLtP (K : PySem.W.Frag) : R2 := fun x y H Q => ∃ d e, Dp K H x d ∧ Dp K H y e ∧ alike d e = true ∧ d ≠ .none ∧ d.depth ≤ 60 ∧ Q (.bl (dataLt d e)) H
section
variable {X : Cx} {g : Gb} {B : Bs} {S : SL} {e1 e2 : Expr} {pos : Pos} {α : Type} [Py α] [DecidableEq α] [Pd α] {m1 m2 : Option α} {k1 k2 : α → RK}
end
end T
set_option Elab.async false
set_option linter.all false
set_option maxRecDepth 100000
namespace T
variable [TabsC]
open PySem PySem.Spec PyProof.Rows L2 C8
open PySem.W (Datum)
open PySem.W (alike alikeAll dataLt dataLe AllAlike Sortable EachIs)
/-! isinstance of two own classes; sorted of a list of data of one form, any length -/
section
variable {X : Cx} {g : Gb} {B : Bs} {J : Hp} {S : SL} {e e1 e2 : Expr} {pos pos' p p2 p3 tpos : Pos} {α' : Type} {m1 : Option α'} {k1 : α' → RK}
end
/-- what sorted(list of data) gives: the items, in rising order -/
def sortD {α : Type} [DecidableEq α] [Datum α] (xs : List α) : List α := xs.mergeSort (dataLe false Datum.toD)
@[irreducible] def sortDO {α : Type} [DecidableEq α] [Datum α] (xs : List α) : Option (List α) := if decide (xs.length ≤ sizeLine) = true then some (sortD xs) else none
/-- the data of a type can be sorted -/
structure SrtBy (α : Type) [DecidableEq α] [Datum α] : Prop where
  al : ∀ a b : α, alike (Datum.toD a) (Datum.toD b) = true
  so : ∀ xs : List α, Sortable (xs.map Datum.toD)
def rSortP (α : Type) [Py α] [DecidableEq α] [Pd α] (K : PySem.W.Frag) : List V → Hp → VK → Prop := fun vs H Q => ∃ (a : Addr) (xs : List V) (bs : List α), vs = [V.ref a] ∧ SqL K H a xs ∧ Paired (fun b v => Dp K H v (Datum.toD b)) bs xs ∧ bs.length ≤ sizeLine ∧
  ∀ (ys : List V) (p : Addr), (∀ R : α → V → Prop, Paired R bs xs → Paired R (sortD bs) ys) → H p = none → Q (.ref p) (upd H p (.lst ys))
section
variable {X : Cx} {g : Gb} {B : Bs} {J : Hp} {S : SL} {e : Expr} {pos p : Pos} {α : Type} [Py α] [DecidableEq α] [Pd α]
end
end T
set_option Elab.async false
set_option linter.all false
set_option maxRecDepth 100000
namespace T
variable [TabsC]
open PySem PySem.Spec PyProof.Rows L2
section
variable {X : Cx} {g : Gb} {B : Bs} {S : SL} {e : Expr} {pos pos' : Pos}
end
end T
set_option Elab.async false
set_option linter.all false
set_option maxRecDepth 100000
set_option maxHeartbeats 2000000
namespace T
variable [TabsC]
open PySem PySem.Spec PyProof.Rows L2 C8
/-! an exception that is kept behind its suite -/
/-- at a: an exception that was caught; its class, its dict -/
def ExH (cls : Value) (d : Option Addr) (a : Addr) : HO := .ext fun h => ∃ (oe : Obj) (vs : Array Value), h.get? a = some oe ∧ Zc cls d oe ∧ oe.data = .fields vs
section
variable {X : Cx} {pins : List (Addr × Obj)} {σ : L2.St} {H : Hp} {s : Shared}
end
/-- what a clause 'except x as n' wishes of an exception of the body, that is kept: slot i is n's -/
def wAsK (K : PySem.W.Frag) (c : Value) (i : Nat) (ts : Addr → Value → Option Addr → TS) (Wout : WX) (D : Ends) : WX := fun cls d σ H =>
  ∃ b, PySem.W.exmOne K cls c = some b ∧ (b = true → ∀ a, H a = none → ts a cls d { nx := fun σ' H' => H' a = none → D.nx (σ'.set i none) (upd H' a (ExH cls d a)), rt := fun v H' => H' a = none → D.rt v (upd H' a (ExH cls d a)), bk := fun σ' H' => H' a = none → D.bk (σ'.set i none) (upd H' a (ExH cls d a)), ct := fun σ' H' => H' a = none → D.ct (σ'.set i none) (upd H' a (ExH cls d a)) } (σ.set i (some (.ref a))) H) ∧
    (b = false → Wout cls d σ H)
section
variable {X : Cx} {x n : Str} {c : Value} {i : Nat} {body suite : List Stmt} {b₀ : Stmt} {np pos pos' : Pos} {tb : WX → TS} {ts : Addr → Value → Option Addr → TS} {Wout : WX}
end
end T
set_option Elab.async false
set_option linter.all false
set_option maxRecDepth 100000
set_option maxHeartbeats 2000000
namespace T
variable [TabsC]
open PySem PySem.Spec PyProof.Rows L2
/-! defs that raise an own exception with fields -/
/-- an answer, or an exception -/
inductive Rz (β ε : Type) where
  | ok (b : β) | no (x : ε)
def okO {β ε : Type} : Rz β ε → Option β
  | .ok b => some b
  | .no _ => none
def noO {β ε : Type} : Rz β ε → Option ε
  | .ok _ => none
  | .no x => some x
def mapZ {β γ ε : Type} (f : β → γ) : Rz β ε → Rz γ ε
  | .ok b => .ok (f b)
  | .no x => .no x
abbrev XR := Value → Option Addr → Hp → Prop
/-- an exception of the class c, by its fields (the last one ahead) -/
def xnR (g : Gb) (c : Str) (names : List Str) (rs : List PR) : XR := fun cls d I => ∃ C dd vs, g.mg c = some (.ref C) ∧ cls = .ref C ∧ d = some dd ∧ I dd = some (.xd (names.zip vs)) ∧ names.length = vs.length ∧ Paired (fun (r : PR) v => r.p I v) rs vs
theorem xnR_mono {g : Gb} {c : Str} {names : List Str} {rs : List PR} {cls : Value} {d : Option Addr} {I I' : Hp} (s : Same I I') (h : xnR g c names rs cls d I) : xnR g c names rs cls d I' := by
  obtain ⟨C, dd, vs, h1, h2, h3, h4, h5, h6⟩ := h
  exact ⟨C, dd, vs, h1, h2, h3, s _ _ h4, h5, L2.Paired.mapP h6 fun r _ q => r.mono s q⟩
/-- .. caught, as a value -/
def rXn (g : Gb) (c : Str) (names : List Str) (rs : List PR) : PR where
  p := fun I v => ∃ a cls d, v = .ref a ∧ I a = some (ExH cls d a) ∧ xnR g c names rs cls d I
  mono := fun s ⟨a, cls, d, e, h1, h2⟩ => ⟨a, cls, d, e, s _ _ h1, xnR_mono s h2⟩
/-! the class's own __init__ : self.f1 = x; self.f2 = y -/
def spX2 (K : PySem.W.Frag) (C : Addr) (f1 f2 : Str) : Sp := fun vs H Q _ => ∃ a p q, vs = [.ref a, p, q] ∧ H a = some (exo a C none) ∧
  ∀ d, H d = none → d ≠ a → Q .non (upd (upd (upd H d (exd d [(f1, p)])) a (exo a C (some d))) d (exd d [(f2, q), (f1, p)]))
section
variable {P : Program} {w : World} {K : PySem.W.Frag} {mg : Str → Option Value} {base : Heap}
def Kx {β ε : Type} (g : Gb) (B : Bs) (k : β → RK) (xr : ε → XR) (E : XK) : KT (Rz β ε) := fun r D => match r with
  | .ok b => ∀ v I' H', Ext B.I B.H I' H' → RK.holds g (k b) B.H v I' H' → D.rt v H'
  | .no x => ∀ cls d I' H', Ext B.I B.H I' H' → xr x cls d I' → E cls d H'
def spX {ι β ε : Type} (g : Gb) (args : ι → List RK) (M : ι → Option (Rz β ε)) (k : β → RK) (xr : ε → XR) : Sp := fun vs H Q E => ∃ I a r, Same I H ∧ TbI I H ∧ Args g (args a) vs I H ∧ M a = some r ∧ match r with
  | .ok b => ∀ v I' H', Ext I H I' H' → RK.holds g (k b) H v I' H' → Q v H'
  | .no x => ∀ cls d I' H', Ext I H I' H' → xr x cls d I' → E cls d H'
variable {ι β ε : Type} {args : ι → List RK} {M : ι → Option (Rz β ε)} {kd : β → RK} {xr : ε → XR}
end
section
variable {X : Cx} {g : Gb} {B : Bs} {J : Hp} {S : SL} {e e1 : Expr} {es : List Expr} {pos pos' p p2 p3 : Pos} {o α' : Type} {K : KT o} {rest : List Stmt} {β ε : Type} {k : β → RK} {xr : ε → XR} {E : XK}
/-- K raises x at (inj x) -/
def KZ {ε : Type} (g : Gb) (B : Bs) (K : KT o) (inj : ε → o) (xr : ε → XR) (E : XK) : Prop := ∀ x D, K (inj x) D → ∀ cls d I' H', Ext B.I B.H I' H' → xr x cls d I' → E cls d H'
end
end T
set_option Elab.async false
set_option linter.all false
set_option maxRecDepth 100000
set_option maxHeartbeats 2000000
namespace T
variable [TabsC]
open PySem PySem.Spec PyProof.Rows L2
/-! an expression that may raise, in a try -/
def rdZ {α ε : Type} (g : Gb) (B : Bs) (S : SL) (r : Rz α ε) (k : α → RK) (xr : ε → XR) (W : WX) : TE := fun σ H Q => ∃ I, Hold g B S σ I H ∧ match r with
  | .ok a => ∀ v I' H', Ext I H I' H' → RK.holds g (k a) H v I' H' → Q v H'
  | .no x => ∀ cls d I' H', Ext I H I' H' → xr x cls d I' → W cls d σ H'
structure MZ {α ε : Type} (X : Cx) (g : Gb) (B : Bs) (S : SL) (e : Expr) (m : Option (Rz α ε)) (k : α → RK) (xr : ε → XR) (W : WX) : Prop where
  run : ∀ r, m = some r → PE X e (rdZ g B S r k xr W)
section
variable {X : Cx} {g : Gb} {B : Bs} {J : Hp} {S : SL} {e e1 : Expr} {es : List Expr} {pos pos' p p2 p3 : Pos} {o α' : Type} {K : KT o} {rest : List Stmt} {ι α β δ ε : Type} {args : ι → List RK} {M : ι → Option (Rz β ε)} {k : β → RK} {xr : ε → XR} {W : WX}
def okA {β ε : Type} (a : Option β) : Rz β ε → Option β
  | .ok b => some b
  | .no _ => a
def noA {β ε : Type} (a : Option ε) : Rz β ε → Option ε
  | .ok _ => a
  | .no x => some x
end
end T
set_option Elab.async false
set_option linter.all false
set_option maxRecDepth 100000
set_option maxHeartbeats 4000000
/-! isinstance of a caught exception that is kept; its fields -/
namespace PySem.W
open PySem PySem.Spec PySem.Calls PyProof.Rows
section
variable {prog : Program} {w : World} {A : Around} {E : Value → Shared → Prop} {s : Shared} {K : Frag} {x D : Addr} {ox : Obj} {od : Option Obj}
end
end PySem.W
namespace T
variable [TabsC]
open PySem PySem.Spec PyProof.Rows L2
/-- isinstance(x, c), x an exception of the class at D -/
def rIsX (K : PySem.W.Frag) (D : Addr) : List V → Hp → VK → Prop := fun xs H Q => ∃ (a : Addr) (d : Option Addr) (c : V) (cv : Value) (b : Bool), xs = [.ref a, c] ∧ H a = some (ExH (.ref D) d a) ∧ (d = none ∨ ∃ dd fs, d = some dd ∧ H dd = some (.xd fs)) ∧ (∀ u, RelV c u → u = cv) ∧ PySem.W.kitOne K (.ref D) cv = some b ∧ Q (.bl b) H
/-- all values of the type are exceptions of the class at D -/
def XcR (ε : Type) [Py ε] (g : Gb) (D : Addr) : Prop := ∀ (x : ε) I v, (Py.r g x).p I v → ∃ a d, v = .ref a ∧ I a = some (ExH (.ref D) d a) ∧ (d = none ∨ ∃ dd fs, d = some dd ∧ I dd = some (.xd fs))
section
variable {X : Cx} {g : Gb} {B : Bs} {J : Hp} {S : SL} {e : Expr} {pos pos' p p2 : Pos} {ε β : Type} [Py ε] [Py β] {m : Option ε} {D : Addr} {b : Bool}
/-- e.f, e a caught exception -/
def tXk (K : PySem.W.Frag) (f : Str) (te : TE) : TE := fun σ H Q => te σ H fun x H1 => ∃ a C dd fs v, x = .ref a ∧ H1 a = some (ExH (.ref C) (some dd) a) ∧ H1 dd = some (.xd fs) ∧ XfC K C ∧ PySem.W.findIn K (.ref C) f = some none ∧ fs.lookup f = some v ∧ Q v H1
/-- all values of the type have a field f -/
def XfR (ε β : Type) [Py ε] [Py β] (K : PySem.W.Frag) (g : Gb) (f : Str) (pr : ε → β) : Prop := ∀ (x : ε) I v, (Py.r g x).p I v → ∃ a C dd fs u, v = .ref a ∧ I a = some (ExH (.ref C) (some dd) a) ∧ I dd = some (.xd fs) ∧ XfC K C ∧ PySem.W.findIn K (.ref C) f = some none ∧ fs.lookup f = some u ∧ (Py.r g (pr x)).p I u
end
end T
set_option Elab.async false
set_option linter.all false
set_option maxRecDepth 100000
set_option maxHeartbeats 2000000
namespace T
variable [TabsC]
open PySem PySem.Spec PyProof.Rows L2
/-! what a generator wants of exceptions -/
section
variable {g : Gb} {c : Str} {names : List Str} {rs : List PR} {I : Hp} {v : V} {D : Addr} {K : PySem.W.Frag}
end
end T
set_option Elab.async false
set_option linter.all false
set_option maxRecDepth 100000
set_option maxHeartbeats 2000000
namespace T
variable [TabsC]
open PySem PySem.Spec PyProof.Rows L2
def rIsXT (K : PySem.W.Frag) (D : Addr) : List V → Hp → VK → Prop := fun xs H Q => ∃ (a tp : Addr) (d : Option Addr) (cs : List Addr) (b : Bool), xs = [.ref a, .ref tp] ∧ H tp = some (.tup (cs.map V.ref)) ∧ H a = some (ExH (.ref D) d a) ∧ (d = none ∨ ∃ dd fs, d = some dd ∧ H dd = some (.xd fs)) ∧ PySem.W.kitAny K (.ref D) (cs.map Value.ref) = some b ∧ Q (.bl b) H
section
variable {X : Cx} {g : Gb} {B : Bs} {J : Hp} {S : SL} {e : Expr} {es : List Expr} {pos pos' p p2 tpos : Pos} {n : Nat} {ε : Type} [Py ε] {m : Option ε} {D : Addr} {b : Bool}
end
end T
set_option Elab.async false
set_option linter.all false
set_option maxRecDepth 100000
set_option maxHeartbeats 2000000
namespace T
variable [TabsC]
open PySem PySem.Spec PyProof.Rows L2 ClX
/-! calls that change an owned thing and hand back a value -/
def eqV (u : V) : PR := ⟨fun _ v => v = u, fun _ h => h⟩
/-- where a thing stands in what a slot owns: some value; the value u -/
def Sta (o0 o1 : OR) (mk : OR → OR) : Prop := ∀ I F v, o0.p I F v → ∃ v1, FocAt o1 mk I F v v1
def Stat (o0 o1 : OR) (mk : OR → OR) (u : V) : Prop := ∀ I F v, o0.p I F v → FocAt o1 mk I F v u
section
variable {X : Cx} {g : Gb} {B : Bs} {J : Hp} {S : SL} {σ : L2.St} {I H : Hp} {Φ : Nat → Hp} {i : Nat} {k : RK} {v : V} {o0 op : OR}
end
/-- an expression that changes the state; its value stays -/
def rdX (g : Gb) (B : Bs) (J : Hp) (S S' : SL) (p : PR) : TE := fun σ H Q => ∃ I, Ok g B J S σ I H ∧ ∀ v I' H', Ok g B J S' σ I' H' → Same I I' → p.p I' v → Q v H'
structure EX {β : Type} (X : Cx) (g : Gb) (B : Bs) (J : Hp) (S : SL) (e : Expr) (m : Option β) (S' : β → SL) (k : β → PR) : Prop where
  run : ∀ b, m = some b → PE X e (rdX g B J S (S' b) (k b))
def rdAX (g : Gb) (B : Bs) (J : Hp) (S S' : SL) (ks : List RK) : TA := fun σ H Q => ∃ I, Ok g B J S σ I H ∧ ∀ vs I' H', Ok g B J S' σ I' H' → Same I I' → Args g ks vs I' H' → Q vs H'
structure EA {γ : Type} (X : Cx) (g : Gb) (B : Bs) (J : Hp) (S : SL) (es : List Expr) (m : Option γ) (S' : γ → SL) (ks : γ → List RK) : Prop where
  run : ∀ c, m = some c → PA X es (rdAX g B J S (S' c) (ks c))
def rdTX (g : Gb) (B : Bs) (J : Hp) (S S' : SL) (b : Bool) : TT := fun σ H Q => ∃ I, Ok g B J S σ I H ∧ ∀ I' H', Ok g B J S' σ I' H' → Same I I' → Q b H'
structure ET {β : Type} (X : Cx) (g : Gb) (B : Bs) (J : Hp) (S : SL) (e : Expr) (m : Option β) (S' : β → SL) (t : β → Bool) : Prop where
  run : ∀ b, m = some b → PT X e (rdTX g B J S (S' b) (t b))
structure EW {β : Type} (X : Cx) (g : Gb) (B : Bs) (J : Hp) (S : SL) (e : Expr) (m : Option β) (S' : β → SL) (t : β → Bool) : Prop where
  run : ∀ b, m = some b → PW X e (rdTX g B J S (S' b) (t b))
section
variable {X : Cx} {g : Gb} {B : Bs} {J : Hp} {S : SL} {e e1 e2 : Expr} {es : List Expr} {pos pos' p p2 apos cpos : Pos} {o α' β β2 γ ι δ : Type} {K : KT o} {rest sts : List Stmt} {m' : Option o}
theorem EX.eq {m m2 : Option β} {S' : β → SL} {k : β → PR} (h : EX X g B J S e m S' k) (q : m = m2) : EX X g B J S e m2 S' k := q ▸ h
variable {args : ι → List RK} {M : ι → Option β} {ka : β → PR} {outs : β → List (Nat × OR)} {or : β → OR} {oT : ι → OR} {pa : γ → ι} {ks : γ → List RK} {S1 : γ → SL} {m : Option γ} {mk : γ → OR → OR} {u : V} {j kk : Nat} {f C : Addr} {fd : FuncData} {ps : List Str} {x name cn : Str} {ds : List Value}
/-! statements -/
variable {mb : Option β} {Sb : β → SL} {k : β → PR} {fb : β → Option o}
/-! tests -/
variable {t : β → Bool}
end
end T
set_option Elab.async false
set_option linter.all false
set_option maxRecDepth 100000
set_option maxHeartbeats 2000000
namespace T
variable [TabsC]
open PySem PySem.Spec PyProof.Rows L2 ClX
/-! exceptions without fields; methods that raise -/
def x0R (g : Gb) (c : Str) : XR := fun cls d _ => ∃ C, g.mg c = some (.ref C) ∧ cls = .ref C ∧ d = none
def rX0 (g : Gb) (c : Str) : PR where
  p := fun I v => ∃ a cls d, v = .ref a ∧ I a = some (ExH cls d a) ∧ x0R g c cls d I
  mono := fun s ⟨a, cls, d, e, h1, h2⟩ => ⟨a, cls, d, e, s _ _ h1, h2⟩
section
variable {g : Gb} {c : Str} {I : Hp} {v : V} {D : Addr} {K : PySem.W.Frag}
end
section
variable {X : Cx} {CX : CXT} {k : Nat} {f C : Addr} {fd : FuncData} {ps : List Str} {sp : Sp} {E : L2.St → XK} {m : Str} {pos apos : Pos} {e o : Expr} {es : List Expr} {ta : TE} {t : TA}
def tMethS (C : Addr) (m : Str) (sp : Sp) (E : L2.St → XK) (ta : TE) (t : TA) : TE := fun σ H Q => ta σ H fun x H1 => ∃ a dx fs, x = .ref a ∧ H1 a = some (.ins C dx fs) ∧ fs.lookup m = none ∧ t σ H1 fun vs H2 => sp (.ref a :: vs) H2 Q (E σ)
end
section
variable {X : Cx} {g : Gb} {B : Bs} {J : Hp} {S : SL} {e e1 e2 : Expr} {es : List Expr} {pos pos' p p2 apos cpos : Pos} {o α' : Type} {K : KT o} {rest sts : List Stmt} {ι β γ δ ε : Type} {args : ι → List RK} {k : β → RK} {xr : ε → XR} {W : WX} {E : XK}
/-- 1 << k and the like -/
@[irreducible] def shlO (i j : Int) : Option Int := if decide (0 ≤ j ∧ j ≤ 1000000 ∧ i.natAbs < 2 ^ 64) = true then some (i * 2 ^ j.toNat) else none
end
end T
set_option Elab.async false
set_option linter.all false
set_option maxRecDepth 100000
set_option maxHeartbeats 2000000
namespace T
variable [TabsC]
open PySem PySem.Spec PyProof.Rows L2 ClX
/-! new lists of what holds no address, made of an owned thing that is looked at -/
class FlatT (α : Type) [Py α] : Prop where
  fl : ∀ {g : Gb} {a : α} {I I' : Hp} {v : V}, (Py.r g a).p I v → (Py.r g a).p I' v
instance : FlatT Int := ⟨fun h => h⟩
instance : FlatT Bool := ⟨fun h => h⟩
instance : FlatT Str := ⟨fun h => h⟩
instance {α : Type} [Py α] [FlatT α] : FlatT (Option α) := ⟨fun {g a I I' v} h => by
  cases a with
  | none => exact h
  | some a => exact FlatT.fl (α := α) h⟩
section
variable {X : Cx} {g : Gb} {B : Bs} {J : Hp} {S : SL} {e e1 e2 elt tg iter : Expr} {es ifs : List Expr} {pos pos' p p2 apos cpos : Pos} {o : Type} {K : KT o} {rest sts : List Stmt} {α β γ : Type} [Py α] [Py β] [Py γ]
/-- rows[n].pop() as a value; rows own -/
@[irreducible] def popRO {α : Type} (xs : List (List α)) (n : Int) : Option (α × List (List α)) := plO xs n >>= fun r => match r.2.getLast? with
  | some a => some (a, xs.set r.1 r.2.dropLast)
  | none => none
end
end T
set_option Elab.async false
set_option linter.all false
set_option maxRecDepth 100000
set_option maxHeartbeats 2000000
namespace T
variable [TabsC]
open PySem PySem.Spec PyProof.Rows L2 ClX
/-! new trees of what holds no address, made of an owned thing that is looked at -/
def FlatO (o : OR) : Prop := ∀ I I' F v, o.p I F v → o.p I' F v
def FlatOs (os : List OR) : Prop := ∀ o ∈ os, FlatO o
section
variable {X : Cx} {g : Gb} {B : Bs} {S : SL} {e : Expr} {γ ρ : Type} [Py γ]
end
end T
set_option Elab.async false
set_option linter.all false
set_option maxRecDepth 100000
set_option maxHeartbeats 2000000
namespace T
variable [TabsC]
open PySem PySem.Spec PyProof.Rows L2 ClX
/-! a maker whose __init__ may raise -/
section
variable {X : Cx} {CX : CXT} {k : Nat} {f C : Addr} {fd : FuncData} {ps : List Str} {sp : Sp} {dvs : List V} {ds : List Value} {E : L2.St → XK} {x : Str} {p pos : Pos} {e : Expr} {es : List Expr} {t : TA}
def tMakeS (C : Addr) (sp : Sp) (dvs : List V) (E : L2.St → XK) (t : TA) : TE := fun σ H Q => t σ H fun vs H1 => ∀ x dx, H1 x = none → H1 dx = none → dx ≠ x → sp (.ref x :: (vs ++ dvs)) (upd (upd H1 dx (.own x)) x (.ins C dx [])) (fun v H2 => v = .non ∧ Q (.ref x) H2) (E σ)
end
def spIOX {ι β ε : Type} (g : Gb) (args : ι → List RK) (M : ι → Option (Rz β ε)) (outs : β → List (Nat × OR)) (xr : ε → XR) : Sp := fun vs H Q E => ∃ I R Φ a r, Same I H ∧ Same R H ∧ TbH R I H ∧ ArgsF g (args a) vs I R H Φ ∧ M a = some r ∧ match r with
  | .ok b => ∀ v I' H' F Φ', Post g I R (.im (Py.r g ())) (outs b) (fun i => vs[i]?) v I' H' F Φ' → Q v H'
  | .no x => ∀ cls d I' H', Ext I R I' H' → xr x cls d I' → E cls d H'
def KioUX {β ε : Type} (g : Gb) (B : Bs) (u : Nat → V) (outs : β → List (Nat × OR)) (xr : ε → XR) (E : XK) : KT (Rz β ε) := fun r D => match r with
  | .ok b => ∀ I' H' F Φ' σ, Post g B.I B.H (.im (Py.r g ())) (outs b) (fun i => some (u i)) .non I' H' F Φ' → D.nx σ H' ∧ D.rt .non H'
  | .no x => ∀ cls d I' H', Ext B.I B.H I' H' → xr x cls d I' → E cls d H'
section
variable {P : Program} {w : World} {K : PySem.W.Frag} {mg : Str → Option Value} {base : Heap} {ι β ε : Type} {args : ι → List RK} {M : ι → Option (Rz β ε)} {outs : β → List (Nat × OR)} {xr : ε → XR}
end
/-- what follows, where nothing was raised -/
def seqZ {β ε o : Type} (f : β → Option o) (inj : ε → o) : Rz β ε → Option o
  | .ok b => f b
  | .no x => some (inj x)
section
variable {X : Cx} {g : Gb} {B : Bs} {J : Hp} {S : SL} {e : Expr} {es : List Expr} {pos pos' p : Pos} {o α β ε ι : Type} {K : KT o} {rest : List Stmt} {xr : ε → XR} {E : XK} {u : Nat → V} {outs : β → List (Nat × OR)} {W : WX}
end
end T
set_option Elab.async false
set_option linter.all false
set_option maxRecDepth 100000
set_option maxHeartbeats 2000000
namespace T
variable [TabsC]
open PySem PySem.Spec PyProof.Rows L2 ClX
/-! zip of three lists -/
def Itz3 (K : PySem.W.Frag) (a b c : Addr) : It :=
  ⟨fun i H => ∃ (xs ys zs : List V) (x y z : V), SqL K H a xs ∧ SqL K H b ys ∧ SqL K H c zs ∧ xs[i]? = some x ∧ ys[i]? = some y ∧ zs[i]? = some z,
    fun i H v H' => ∃ T x y z, v = .ref T ∧ H T = none ∧ H' = upd H T (.tup [x, y, z]) ∧ (∀ xs, SqL K H a xs → xs[i]? = some x) ∧ (∀ ys, SqL K H b ys → ys[i]? = some y) ∧ ∀ zs, SqL K H c zs → zs[i]? = some z,
    fun i H => ∃ xs ys zs : List V, SqL K H a xs ∧ SqL K H b ys ∧ SqL K H c zs ∧ (i ≤ xs.length ∧ i ≤ ys.length ∧ i ≤ zs.length) ∧ (xs.length ≤ i ∨ ys.length ≤ i ∨ zs.length ≤ i)⟩
theorem turn_zip3 {P : Program} {w : World} {K : PySem.W.Frag} {elts : List Expr} {kk : Nat} {tpos : Pos} {a b c z TI TO i1 i2 i3 : Addr} (D : ZipSep3 z TI TO i1 i2 i3 [i1, a] [i2, b] [i3, c]) :
    Turn P w K (.Tuple elts kk tpos) (Itz3 K a b c) [z, TI, TO, i1, i2, i3] z (fun i h => IsZip h z TI TO .none ∧ IsTupOf3 h TI (.ref i1) (.ref i2) (.ref i3) ∧ (∃ x y u, IsTupOf3 h TO x y u) ∧ h.IsListIter i1 a i ∧ h.IsListIter i2 b i ∧ h.IsListIter i3 c i) where
  mem := by simp
  obj := fun i h st c hc => by
    obtain ⟨hz, hTI, ⟨x, y, u, hTO⟩, ⟨o1, e1, _, d1⟩, ⟨o2, e2, _, d2⟩, ⟨o3, e3, _, d3⟩⟩ := st
    have e' : c = z ∨ c = TI ∨ c = TO ∨ c = i1 ∨ c = i2 ∨ c = i3 := by simpa using hc
    rcases e' with q | q | q | q | q | q
    · rw [q]; exact ⟨_, hz, fun v q => nomatch q⟩
    · rw [q]; exact ⟨_, hTI, fun v q => nomatch q⟩
    · rw [q]; exact ⟨_, hTO, fun v q => nomatch q⟩
    · rw [q]; exact ⟨o1, e1, fun v q => by rw [d1] at q; cases q⟩
    · rw [q]; exact ⟨o2, e2, fun v q => by rw [d2] at q; cases q⟩
    · rw [q]; exact ⟨o3, e3, fun v q => by rw [d3] at q; cases q⟩
  keep := fun i h h' st k => by
    obtain ⟨hz, hTI, ⟨x, y, u, hTO⟩, h1, h2, h3⟩ := st
    exact ⟨k z (by simp) _ hz, k TI (by simp) _ hTI, ⟨x, y, u, k TO (by simp) _ hTO⟩, h1.at fun o q => k i1 (by simp) o q, h2.at fun o q => k i2 (by simp) o q, h3.at fun o q => k i3 (by simp) o q⟩
  item := by
    intro X hP hw hK hc i pins s σ H E I hf st hg
    subst hP hw hK
    obtain ⟨hz, hTI, ⟨x0, y0, u0, hTO⟩, h1, h2, h3⟩ := st
    obtain ⟨xs, ys, zs, x, y, u, hqx, hqy, hqz, hx, hy, hu⟩ := hg
    obtain ⟨its, rv, p, _⟩ := I.list hqx
    obtain ⟨its2, rv2, p2, _⟩ := I.list hqy
    obtain ⟨its3, rv3, p3, _⟩ := I.list hqz
    obtain ⟨v1, e1, r1⟩ := rv.get hx
    obtain ⟨v2, e2, r2⟩ := rv2.get hy
    obtain ⟨v3, e3, r3⟩ := rv3.get hu
    have hzl : z < s.heap.objs.size := Heap.lt_size hz
    have hd : X.A.in1.handled = none := I.ok.hd hc
    have ne1 : a ≠ i1 := fun q => by
      obtain ⟨o1, q1, q2, _⟩ := h1
      obtain ⟨o2, q3, q4, _⟩ := p.isList
      rw [q, q1] at q3
      cases q3
      rw [q2] at q4
      injection q4 with q4
      exact absurd q4 (by decide)
    have ne2 : b ≠ i2 := fun q => by
      obtain ⟨o1, q1, q2, _⟩ := h2
      obtain ⟨o2, q3, q4, _⟩ := p2.isList
      rw [q, q1] at q3
      cases q3
      rw [q2] at q4
      injection q4 with q4
      exact absurd q4 (by decide)
    have ne3 : c ≠ i3 := fun q => by
      obtain ⟨o1, q1, q2, _⟩ := h3
      obtain ⟨o2, q3, q4, _⟩ := p3.isList
      rw [q, q1] at q3
      cases q3
      rw [q2] at q4
      injection q4 with q4
      exact absurd q4 (by decide)
    have l1 : i < its.toArray.size := by
      have := (List.getElem?_eq_some_iff.mp e1).1
      simpa using this
    have l2 : i < its2.toArray.size := by
      have := (List.getElem?_eq_some_iff.mp e2).1
      simpa using this
    have l3 : i < its3.toArray.size := by
      have := (List.getElem?_eq_some_iff.mp e3).1
      simpa using this
    refine wpAny_pyNext_zipD3_item D (Draws.list hd i1 a ne1 its.toArray) (Draws.list hd i2 b ne2 its2.toArray) (Draws.list hd i3 c ne3 its3.toArray) hz hTI hTO ⟨h1, p.isList⟩ ⟨h2, p2.isList⟩ ⟨h3, p3.isList⟩ l1 l2 l3 fun w1 w2 w3 h' tk y1 y2 y3 z' TO' h1' h2' h3' hT hsz hk => ?_
    have y1 : its[i]? = some w1 := by simpa using y1
    have y2 : its2[i]? = some w2 := by simpa using y2
    have y3 : its3[i]? = some w3 := by simpa using y3
    rw [e1] at y1
    rw [e2] at y2
    rw [e3] at y3
    cases y1
    cases y2
    cases y3
    refine ⟨_, rfl, wpAny_letOwnedTupleGo_zip (s := { s with heap := h', toks := tk }) z' fun h'' z'' sb => ?_⟩
    have hT2 : h''.get? s.heap.objs.size = some { cls := .type "tuple", data := .seq #[v1, v2, v3] } := (sb.2 _ (Nat.ne_of_gt hzl)).trans hT
    have new : ObjOk X.prog X.w (upd H s.heap.objs.size (.tup [x, y, u])) h'' s.heap.objs.size (.tup [x, y, u]) :=
      ⟨by show 3 ≤ sizeLine; decide, [v1, v2, v3], .cons r1 (.cons r2 (.cons r3 .nil)), ⟨_, hT2, rfl, _, rfl⟩⟩
    have I1 : Inv X pins σ (upd H s.heap.objs.size (.tup [x, y, u])) { s with heap := h'', toks := tk } :=
      I.turnedNew (t' := tk) (ch := [z, TI, TO, i1, i2, i3]) (fun c o hb q => (sb.2 c (fun q' => hb (by simp [q']))).trans (hk c o (fun q' => hb (by simp [q'])) (fun q' => hb (by simp [q'])) (fun q' => hb (by simp [q'])) (fun q' => hb (by simp [q'])) (fun q' => hb (by simp [q'])) q)) hf (Nat.le_refl _) new
    refine ⟨.ref s.heap.objs.size, _, I1, rfl, ⟨_, x, y, u, rfl, I.hok.fresh (Nat.le_refl _), rfl, fun l hl => by rw [I.list_inj hl hqx]; exact hx, fun l hl => by rw [I.list_inj hl hqy]; exact hy, fun l hl => by rw [I.list_inj hl hqz]; exact hu⟩, ⟨z'', ?_, ⟨v1, v2, v3, ?_⟩, ?_, ?_, ?_⟩, fun c hcm => ?_⟩
    · exact (sb.2 _ D.TIz).trans (hk _ _ D.TIz D.TITO D.TIi1 D.TIi2 D.TIi3 hTI)
    · exact (sb.2 _ D.TOz).trans TO'
    · exact h1'.1.at fun o q => (sb.2 _ D.zi1.symm).trans q
    · exact h2'.1.at fun o q => (sb.2 _ D.zi2.symm).trans q
    · exact h3'.1.at fun o q => (sb.2 _ D.zi3.symm).trans q
    · have hlt : c < s.heap.objs.size := by
        have e' : c = z ∨ c = TI ∨ c = TO ∨ c = i1 ∨ c = i2 ∨ c = i3 := by simpa using hcm
        rcases e' with q | q | q | q | q | q
        · rw [q]; exact hzl
        · rw [q]; exact Heap.lt_size hTI
        · rw [q]; exact Heap.lt_size hTO
        · rw [q]; obtain ⟨_, e1, _⟩ := h1; exact Heap.lt_size e1
        · rw [q]; obtain ⟨_, e1, _⟩ := h2; exact Heap.lt_size e1
        · rw [q]; obtain ⟨_, e1, _⟩ := h3; exact Heap.lt_size e1
      rw [upd_ne (Nat.ne_of_lt hlt)]
      exact (hf c hcm).1
  done := by
    intro X hP hw hK hc i pins s σ H E I hf st hg
    subst hP hw hK
    obtain ⟨hz, hTI, ⟨x0, y0, u0, hTO⟩, h1, h2, h3⟩ := st
    obtain ⟨xs, ys, zs, hqx, hqy, hqz, hle, hend⟩ := hg
    obtain ⟨its, rv, p, _⟩ := I.list hqx
    obtain ⟨its2, rv2, p2, _⟩ := I.list hqy
    obtain ⟨its3, rv3, p3, _⟩ := I.list hqz
    have hd : X.A.in1.handled = none := I.ok.hd hc
    have ne1 : a ≠ i1 := fun q => by
      obtain ⟨o1, q1, q2, _⟩ := h1
      obtain ⟨o2, q3, q4, _⟩ := p.isList
      rw [q, q1] at q3
      cases q3
      rw [q2] at q4
      injection q4 with q4
      exact absurd q4 (by decide)
    have ne2 : b ≠ i2 := fun q => by
      obtain ⟨o1, q1, q2, _⟩ := h2
      obtain ⟨o2, q3, q4, _⟩ := p2.isList
      rw [q, q1] at q3
      cases q3
      rw [q2] at q4
      injection q4 with q4
      exact absurd q4 (by decide)
    have ne3 : c ≠ i3 := fun q => by
      obtain ⟨o1, q1, q2, _⟩ := h3
      obtain ⟨o2, q3, q4, _⟩ := p3.isList
      rw [q, q1] at q3
      cases q3
      rw [q2] at q4
      injection q4 with q4
      exact absurd q4 (by decide)
    have l1 := rv.length
    have l2 := rv2.length
    have l3 := rv3.length
    have s1 : its.toArray.size = xs.length := by simpa using l1.symm
    have s2 : its2.toArray.size = ys.length := by simpa using l2.symm
    have s3 : its3.toArray.size = zs.length := by simpa using l3.symm
    exact wpAny_pyNext_zipD3_end D (Draws.list hd i1 a ne1 its.toArray) (Draws.list hd i2 b ne2 its2.toArray) (Draws.list hd i3 c ne3 its3.toArray) hz hTI hTO ⟨h1, p.isList⟩ ⟨h2, p2.isList⟩ ⟨h3, p3.isList⟩ (by omega) (by omega) (by omega) (by omega) fun h' tk hk => ⟨rfl, I.turnedL (t' := tk) (ch := [z, TI, TO, i1, i2, i3]) (fun c o hb q =>
      hk c o (fun q' => hb (by simp [q'])) (fun q' => hb (by simp [q'])) (fun q' => hb (by simp [q'])) (fun q' => hb (by simp [q'])) (fun q' => hb (by simp [q'])) q) hf⟩
  self := fun A i s Q E st h => wpAny_pyIter_zip st.1 h
def iZip3 (K : PySem.W.Frag) (ta : TA) : L2.TI := fun σ H R => ta σ H fun vs H1 => ∃ a b c xs ys zs, vs = [.ref a, .ref b, .ref c] ∧ SqL K H1 a xs ∧ SqL K H1 b ys ∧ SqL K H1 c zs ∧ R (Itz3 K a b c) H1
theorem pi_zip3 {X : Cx} {e e2 e3 : Expr} {ta : TA} {p pos tpos : Pos} {elts : List Expr} {kk : Nat} (hg : Gl X "zip") (hm : X.mg "zip" = none) (ha : PA X [e, e2, e3] ta)
    (hs : starEach [e, e2, e3] X.env = (false, eval e X.env) :: starEach [e2, e3] X.env := by rfl) (hpl : (backTo pos (starEach [e2, e3] X.env)).any (·.1) = false := by rfl) :
    PI X (.Tuple elts kk tpos) (.Call (.Name "zip" p) [e, e2, e3] [] pos) (iZip3 X.K ta) := by
  refine ⟨fun pins s σ H R I h => ?_⟩
  refine Call_ (ld_blt I hg hm PyProof.Rows.boot_zip (PyProof.Rows.callWith_type1 (thn (ha.run pos pins s σ H _ I h) fun us s1 ⟨vs, H1, I1, r1, q1⟩ => ?_) hs hpl))
  obtain ⟨a, b, c, xs, ys, zs, ex, hqx, hqy, hqz, q⟩ := q1
  subst ex
  cases r1 with
  | cons r rr =>
    cases rr with
    | cons r' rr =>
      cases rr with
      | cons r'' rr =>
        cases rr
        cases r
        cases r'
        cases r''
        obtain ⟨its, rv, p1, _⟩ := I1.list hqx
        obtain ⟨its2, rv2, p2, _⟩ := I1.list hqy
        obtain ⟨its3, rv3, p3, _⟩ := I1.list hqz
        have la : a < s1.heap.objs.size := p1.lt
        have lb : b < s1.heap.objs.size := p2.lt
        have lc : c < s1.heap.objs.size := p3.lt
        refine zip_begins3 (begins_list a its.toArray) (begins_list b its2.toArray) (begins_list c its3.toArray) p1.isList p2.isList p3.isList fun h' hz hTI hTO h1 h2 h3 hsz hk => wpAny_pyIter_zip hz ?_
        have I2 : Inv X pins σ H1 { s1 with heap := h' } := I1.kept (t' := s1.toks) hk
        have D : ZipSep3 (s1.heap.objs.size + 5) (s1.heap.objs.size + 3) (s1.heap.objs.size + 4) s1.heap.objs.size (s1.heap.objs.size + 1) (s1.heap.objs.size + 2) [s1.heap.objs.size, a] [s1.heap.objs.size + 1, b] [s1.heap.objs.size + 2, c] := by
          have ha : a ≠ s1.heap.objs.size ∧ a ≠ s1.heap.objs.size + 1 ∧ a ≠ s1.heap.objs.size + 2 ∧ a ≠ s1.heap.objs.size + 4 ∧ a ≠ s1.heap.objs.size + 5 := ⟨Nat.ne_of_lt la, Nat.ne_of_lt (Nat.lt_add_right _ la), Nat.ne_of_lt (Nat.lt_add_right _ la), Nat.ne_of_lt (Nat.lt_add_right _ la), Nat.ne_of_lt (Nat.lt_add_right _ la)⟩
          have hb : b ≠ s1.heap.objs.size ∧ b ≠ s1.heap.objs.size + 1 ∧ b ≠ s1.heap.objs.size + 2 ∧ b ≠ s1.heap.objs.size + 4 ∧ b ≠ s1.heap.objs.size + 5 := ⟨Nat.ne_of_lt lb, Nat.ne_of_lt (Nat.lt_add_right _ lb), Nat.ne_of_lt (Nat.lt_add_right _ lb), Nat.ne_of_lt (Nat.lt_add_right _ lb), Nat.ne_of_lt (Nat.lt_add_right _ lb)⟩
          have hc : c ≠ s1.heap.objs.size ∧ c ≠ s1.heap.objs.size + 1 ∧ c ≠ s1.heap.objs.size + 2 ∧ c ≠ s1.heap.objs.size + 4 ∧ c ≠ s1.heap.objs.size + 5 := ⟨Nat.ne_of_lt lc, Nat.ne_of_lt (Nat.lt_add_right _ lc), Nat.ne_of_lt (Nat.lt_add_right _ lc), Nat.ne_of_lt (Nat.lt_add_right _ lc), Nat.ne_of_lt (Nat.lt_add_right _ lc)⟩
          constructor <;> simp [ha.1.symm, ha.2.1.symm, ha.2.2.1.symm, ha.2.2.2.1.symm, ha.2.2.2.2.symm, hb.1.symm, hb.2.1.symm, hb.2.2.1.symm, hb.2.2.2.1.symm, hb.2.2.2.2.symm, hc.1.symm, hc.2.1.symm, hc.2.2.1.symm, hc.2.2.2.1.symm, hc.2.2.2.2.symm]
        refine ⟨s1.heap.objs.size + 5, [s1.heap.objs.size + 5, s1.heap.objs.size + 3, s1.heap.objs.size + 4, s1.heap.objs.size, s1.heap.objs.size + 1, s1.heap.objs.size + 2], _, _, H1, rfl, I2, turn_zip3 D, ⟨hz, hTI, ⟨_, _, _, hTO⟩, ⟨_, h1, rfl, rfl⟩, ⟨_, h2, rfl, rfl⟩, ⟨_, h3, rfl, rfl⟩⟩, fun c hcm => ?_, q⟩
        have e' : c = s1.heap.objs.size + 5 ∨ c = s1.heap.objs.size + 3 ∨ c = s1.heap.objs.size + 4 ∨ c = s1.heap.objs.size ∨ c = s1.heap.objs.size + 1 ∨ c = s1.heap.objs.size + 2 := by simpa using hcm
        have hle : s1.heap.objs.size ≤ c := by
          rcases e' with z | z | z | z | z | z
          · rw [z]; exact Nat.le_add_right _ _
          · rw [z]; exact Nat.le_add_right _ _
          · rw [z]; exact Nat.le_add_right _ _
          · rw [z]; exact Nat.le_refl _
          · rw [z]; exact Nat.le_add_right _ _
          · rw [z]; exact Nat.le_add_right _ _
        exact I1.fpOk hle (I1.hok.fresh hle)
section
variable {α β γ : Type} [Py α] [Py β] [Py γ] {g : Gb} {B : Bs}
def zip3L (as : List α) (bs : List β) (cs : List γ) : List (T3 α β γ) := (as.zip (bs.zip cs)).map fun p => T3.mk p.1 p.2.1 p.2.2
theorem zip3_get {as : List α} {bs : List β} {cs : List γ} {i : Nat} {t : T3 α β γ} (h : (zip3L as bs cs)[i]? = some t) : ∃ a b c, as[i]? = some a ∧ bs[i]? = some b ∧ cs[i]? = some c ∧ t = T3.mk a b c := by
  unfold zip3L at h
  rw [List.getElem?_map, Option.map_eq_some_iff] at h
  obtain ⟨⟨a, b, c⟩, h1, rfl⟩ := h
  obtain ⟨h2, h3⟩ := List.getElem?_zip_eq_some.mp h1
  obtain ⟨h4, h5⟩ := List.getElem?_zip_eq_some.mp h3
  exact ⟨a, b, c, h2, h4, h5, rfl⟩
theorem zip3_len {as : List α} {bs : List β} {cs : List γ} : (zip3L as bs cs).length = min as.length (min bs.length cs.length) := by
  unfold zip3L
  rw [List.length_map, List.length_zip, List.length_zip]
theorem walk_zip3 {as : List α} {bs : List β} {cs : List γ} {a b c : Addr} {vs ws us : List V} {I1 : Hp} (hl : as.length = bs.length ∧ as.length = cs.length) (hL : SqL g.K I1 a vs ∨ SqL g.K B.H a vs) (hR : (rl g as).p I1 vs) (hL2 : SqL g.K I1 b ws ∨ SqL g.K B.H b ws) (hR2 : (rl g bs).p I1 ws) (hL3 : SqL g.K I1 c us ∨ SqL g.K B.H c us) (hR3 : (rl g cs).p I1 us) : WalkI g B (Itz3 g.K a b c) (zip3L as bs cs) I1 where
  go := fun i x I2 H2 e s1 s2 s3 => by
    obtain ⟨c1, c2, c3, e1, e2, e3, _⟩ := zip3_get e
    obtain ⟨v, f1, _⟩ := paired_get hR.2 e1
    obtain ⟨w, f2, _⟩ := paired_get hR2.2 e2
    obtain ⟨u, f3, _⟩ := paired_get hR3.2 e3
    exact ⟨vs, ws, us, v, w, u, sq_now hL s1 s2 s3, sq_now hL2 s1 s2 s3, sq_now hL3 s1 s2 s3, f1, f2, f3⟩
  yl := fun i x I2 H2 v H' e s1 s2 s3 y => by
    obtain ⟨c1, c2, c3, e1, e2, e3, rfl⟩ := zip3_get e
    obtain ⟨u1, f1, q1⟩ := paired_get hR.2 e1
    obtain ⟨u2, f2, q2⟩ := paired_get hR2.2 e2
    obtain ⟨u3, f3, q3⟩ := paired_get hR3.2 e3
    obtain ⟨T, x1, x2, x3, rfl, hT, rfl, y1, y2, y3⟩ := y
    have e5 := y1 vs (sq_now hL s1 s2 s3)
    have e6 := y2 ws (sq_now hL2 s1 s2 s3)
    have e7 := y3 us (sq_now hL3 s1 s2 s3)
    rw [f1] at e5
    rw [f2] at e6
    rw [f3] at e7
    cases e5
    cases e6
    cases e7
    have sT := s1.trans (same_new (o := .tup [u1, u2, u3]) (s2.free hT))
    exact ⟨_, new_tup s2 hT, T, _, _, _, rfl, SqT.of upd_same, (Py.r g c1).mono sT q1, (Py.r g c2).mono sT q2, (Py.r g c3).mono sT q3⟩
  st := fun I2 H2 s1 s2 s3 => ⟨vs, ws, us, sq_now hL s1 s2 s3, sq_now hL2 s1 s2 s3, sq_now hL3 s1 s2 s3, by
    rw [zip3_len, rl_len hR, rl_len hR2, rl_len hR3]
    omega, by
    rw [zip3_len, rl_len hR, rl_len hR2, rl_len hR3]
    omega⟩
  len := by
    rw [zip3_len]
    have := hR.1
    omega
/-- three lists of one length -/
@[irreducible] def zip3O (as : List α) (bs : List β) (cs : List γ) : Option (List (T3 α β γ)) := if decide (as.length = bs.length ∧ as.length = cs.length) = true then some (zip3L as bs cs) else none
theorem zip3O_ok {as : List α} {bs : List β} {cs : List γ} (h : as.length = bs.length) (h2 : as.length = cs.length) : zip3O as bs cs = some (zip3L as bs cs) := by
  unfold zip3O
  rw [if_pos (decide_eq_true ⟨h, h2⟩)]
variable {X : Cx} {S : SL} {e e2 e3 : Expr} {p pos : Pos} {m : Option (List α)}
theorem mi_zip3 {elts : List Expr} {kk : Nat} {tpos : Pos} {m2 : Option (List β)} {m3 : Option (List γ)} (hm : X.mg "zip" = none) (h : MSt X g B S e m) (h2 : MSt X g B S e2 m2) (h3 : MSt X g B S e3 m3) (hg : Gl X "zip" := by rfl) (hK : X.K = g.K := by rfl) (hs : starEach [e, e2, e3] X.env = (false, eval e X.env) :: starEach [e2, e3] X.env := by rfl) (hs2 : starEach [e2, e3] X.env = (false, eval e2 X.env) :: starEach [e3] X.env := by rfl) (hs3 : starEach [e3] X.env = (false, eval e3 X.env) :: starEach [] X.env := by rfl) (hpl : (backTo pos (starEach [e2, e3] X.env)).any (·.1) = false := by rfl) :
    MI X g B S (.Tuple elts kk tpos) (.Call (.Name "zip" p) [e, e2, e3] [] pos) (m >>= fun as => m2 >>= fun bs => m3 >>= fun cs => zip3O as bs cs) := by
  refine ⟨fun as q => ?_⟩
  obtain ⟨xs, q1, q⟩ := bind_some q
  obtain ⟨ys, q2, q⟩ := bind_some q
  obtain ⟨zs, q3, q⟩ := bind_some q
  unfold zip3O at q
  split at q
  · rename_i hl
    have hl := of_decide_eq_true hl
    cases q
    refine pi_imp (pi_zip3 hg hm (pa_cons (h.run xs q1) (pa_cons (h2.run ys q2) (pa_cons (h3.run zs q3) pa_nil hs3) hs2) hs) hs hpl) fun σ H R ⟨I, hh, k⟩ => ⟨I, hh, fun l vs I1 H1 x1 h1 hr => ⟨I1, hh.ext x1, fun l2 ws I2 H2 x2 h3 hr2 => ⟨I2, (hh.ext x1).ext x2, fun l3 us I3 H3 x3 h5 hr3 => ?_⟩⟩⟩
    rw [hK]
    have h1' : SqL g.K I3 l vs ∨ SqL g.K B.H l vs := h1.imp (fun z => x3.i.seq (x2.i.seq z)) id
    have h3' : SqL g.K I3 l2 ws ∨ SqL g.K B.H l2 ws := h3.imp (fun z => x3.i.seq z) id
    have sb := ((hh.base.trans x1.h).trans x2.h).trans x3.h
    exact ⟨l, l2, l3, vs, ws, us, rfl, sq_now h1' (Same.refl _) x3.s sb, sq_now h3' (Same.refl _) x3.s sb, sq_now h5 (Same.refl _) x3.s sb, k _ I3 H3 ((x1.trans x2).trans x3) (walk_zip3 hl h1' ((rl g xs).mono (x2.i.trans x3.i) hr) h3' ((rl g ys).mono x3.i hr2) h5 hr3)⟩
  · cases q
end
end T
set_option Elab.async false
set_option linter.all false
set_option maxRecDepth 100000
/-! plain lemmas about what the mirrors are made of -/
namespace T
variable [TabsC]
open PySem L2
theorem mulO_l {i j : Int} (h : -(2 ^ 64) < i) (h2 : i < 2 ^ 64) : mulO i j = some (i * j) := by
  rw [mulO_eq, if_pos]
  unfold mulOk
  rw [decide_eq_true (⟨h, h2⟩ : -(2 ^ 64) < i ∧ i < 2 ^ 64)]; rfl
theorem mulO_r {i j : Int} (h : -(2 ^ 64) < j) (h2 : j < 2 ^ 64) : mulO i j = some (i * j) := by
  rw [mulO_eq, if_pos]
  unfold mulOk
  rw [decide_eq_true (⟨h, h2⟩ : -(2 ^ 64) < j ∧ j < 2 ^ 64), Bool.or_true]; rfl
theorem modO_ok {i j : Int} (h : 0 < j) : modO i j = some (i % j) := by
  rw [modO_eq, if_pos]
  unfold modOk
  rw [decide_eq_true h]
theorem sizeLine_eq : sizeLine = 16777216 := by decide
theorem appO_ok {α : Type} {xs : List α} {x : α} (h : xs.length < 16777216) : appO xs x = some (xs ++ [x]) := by
  unfold appO
  rw [if_pos (decide_eq_true (by rw [sizeLine_eq]; exact h))]
theorem catO_ok {α : Type} {xs ys : List α} (h : xs.length + ys.length ≤ 16777216) : catO xs ys = some (xs ++ ys) := by
  unfold catO
  rw [if_pos]
  unfold catOk
  exact decide_eq_true (by rw [sizeLine_eq]; exact h)
theorem atO_ok {α : Type} {xs : List α} {i : Int} {v : α} (h0 : 0 ≤ i) (h : xs[i.toNat]? = some v) : atO xs i = some v := by
  rw [atO_eq]
  have e : ((i.toNat : Nat) : Int) = i := by omega
  rw [← e]
  exact atI_nat h
theorem atO_get {α : Type} {xs : List α} {i : Int} (h0 : 0 ≤ i) (h : i < xs.length) : atO xs i = some (xs[i.toNat]'(by omega)) := atO_ok h0 (List.getElem?_eq_getElem _)
theorem rng1O_ok {n : Int} (h : n ≤ 16777216) (h0 : -1000 ≤ n) : rng1O n = some (rng 0 n.toNat) := by
  unfold rng1O
  rw [if_pos]
  unfold rngOk
  rw [Bool.and_eq_true, decide_eq_true_eq, decide_eq_true_eq, sizeLine_eq]
  refine ⟨⟨by decide, by decide, by omega, by omega⟩, by omega⟩
/-! slices -/
theorem sIx_ge {n d : Nat} {v : Int} (h : 0 ≤ v) : HT.sIx n d (some v) = min v.toNat n := by
  show (if v < 0 then (v + (n : Int)).toNat else min v.toNat n) = _
  rw [if_neg (by omega)]
theorem cutO_to {α : Type} (xs : List α) {k : Int} (h : 0 ≤ k) : cutO xs none (some k) = xs.take k.toNat := by
  unfold cutO
  rw [sIx_ge h, HT.sIx_none, List.drop_zero, Nat.sub_zero]
  by_cases hk : k.toNat ≤ xs.length
  · rw [Nat.min_eq_left hk]
  · rw [Nat.min_eq_right (by omega), List.take_of_length_le (Nat.le_refl _), List.take_of_length_le (by omega)]
/-! loops -/
theorem loopN_ind {α γ : Type} {f : γ → α → Option γ} {as : List α} {s0 : γ} (Pv : List α → γ → Prop) (h0 : Pv [] s0) (hs : ∀ pre a post s, as = pre ++ a :: post → Pv pre s → ∃ s', f s a = some s' ∧ Pv (pre ++ [a]) s') : ∃ s', loopN f as s0 = some s' ∧ Pv as s' := by
  have key : ∀ (post pre : List α) (s : γ), as = pre ++ post → Pv pre s → ∃ s', loopN f post s = some s' ∧ Pv as s' := by
    intro post
    induction post with
    | nil =>
      intro pre s e p
      rw [List.append_nil] at e
      exact ⟨s, rfl, e ▸ p⟩
    | cons a post ih =>
      intro pre s e p
      obtain ⟨s1, e1, p1⟩ := hs pre a post s e p
      obtain ⟨s2, e2, p2⟩ := ih (pre ++ [a]) s1 (by rw [List.append_assoc]; exact e) p1
      refine ⟨s2, ?_, p2⟩
      show (f s a >>= fun s' => loopN f post s') = some s2
      rw [e1]; exact e2
  exact key as [] s0 rfl h0
theorem loopN_step {α γ δ : Type} {f : γ → α → Option γ} {as : List α} {s0 : γ} {g : γ → Option δ} {Q : δ → Prop} (Pv : List α → γ → Prop) (h0 : Pv [] s0) (hs : ∀ pre a post s, as = pre ++ a :: post → Pv pre s → ∃ s', f s a = some s' ∧ Pv (pre ++ [a]) s') (hg : ∀ s, Pv as s → ∃ r, g s = some r ∧ Q r) : ∃ r, (loopN f as s0 >>= g) = some r ∧ Q r := by
  obtain ⟨s', e, p⟩ := loopN_ind Pv h0 hs
  obtain ⟨r, e2, q⟩ := hg s' p
  exact ⟨r, by rw [e]; exact e2, q⟩
theorem loopC_ind {α γ ρ : Type} {f : γ → α → Option (Ctl γ γ ρ)} {as : List α} {s0 : γ} (Pv : List α → γ → Prop) (h0 : Pv [] s0) (hs : ∀ pre a post s, as = pre ++ a :: post → Pv pre s → ∃ s', (f s a = some (.nx s') ∨ f s a = some (.ct s')) ∧ Pv (pre ++ [a]) s') : ∃ s', loopC f as s0 = some (.nx s') ∧ Pv as s' := by
  have key : ∀ (post pre : List α) (s : γ), as = pre ++ post → Pv pre s → ∃ s', loopC f post s = some (.nx s') ∧ Pv as s' := by
    intro post
    induction post with
    | nil =>
      intro pre s e p
      rw [List.append_nil] at e
      exact ⟨s, rfl, e ▸ p⟩
    | cons a post ih =>
      intro pre s e p
      obtain ⟨s1, e1, p1⟩ := hs pre a post s e p
      obtain ⟨s2, e2, p2⟩ := ih (pre ++ [a]) s1 (by rw [List.append_assoc]; exact e) p1
      refine ⟨s2, ?_, p2⟩
      unfold loopC
      rcases e1 with e1 | e1
      · rw [e1]; exact e2
      · rw [e1]; exact e2
  exact key as [] s0 rfl h0
/-- a loop whose turns all go on and carry nothing -/
theorem loopC_unit {α ρ : Type} {f : Unit → α → Option (Ctl Unit Unit ρ)} {as : List α} (hs : ∀ a ∈ as, f () a = some (.nx ()) ∨ f () a = some (.ct ())) : loopC f as () = some (.nx ()) := by
  obtain ⟨s, e, _⟩ := loopC_ind (f := f) (as := as) (s0 := ()) (fun _ _ => True) trivial fun pre a post s e _ => ⟨(), hs a (by rw [e]; simp), trivial⟩
  exact e
theorem rng_mem {lo : Int} {n : Nat} {x : Int} (h : x ∈ rng lo n) : lo ≤ x ∧ x < lo + n := by
  unfold rng at h
  obtain ⟨i, h1, rfl⟩ := List.mem_map.mp h
  rw [List.mem_range] at h1
  omega
theorem rng_at {lo : Int} {n : Nat} {pre post : List Int} {x : Int} (h : rng lo n = pre ++ x :: post) : x = lo + pre.length ∧ pre.length < n := by
  have h1 : (rng lo n)[pre.length]? = some x := by rw [h]; simp
  have hl : pre.length < n := by
    have := (List.getElem?_eq_some_iff.mp h1).1
    rwa [rng_len] at this
  rw [rng_get hl] at h1
  exact ⟨(Option.some.inj h1).symm, hl⟩
end T
set_option Elab.async false
set_option linter.all false
set_option maxRecDepth 100000
set_option maxHeartbeats 40000000
set_option synthInstance.maxSize 100000
set_option synthInstance.maxHeartbeats 400000
namespace Law
open PySem PySem.Spec PyProof.Rows L2 T
open C8 (InsC)
open ClX (CRead CVal)
variable [TabsC]
def topS (i : Nat) : Stmt := PySem.Challenge.pw_voucherstack_k05_lines_and_baskets.main.body.getD i (.Pass ⟨0, 0, 0, 0⟩)
abbrev s_law_cell_at : Stmt := topS 4
abbrev s_law_some : Stmt := topS 5
abbrev s_law_coin : Stmt := topS 6
abbrev s_law_rows : Stmt := topS 7
abbrev s_Line_init : Stmt := inClass (topS 1) 0
abbrev s_law_line : Stmt := topS 8
abbrev s_Basket_init : Stmt := inClass (topS 2) 0
abbrev s_law_basket : Stmt := topS 9
abbrev s_law_number_is : Stmt := topS 10
abbrev s_law_line_is : Stmt := topS 11
abbrev s_law_is : Stmt := topS 12
abbrev s_law : Stmt := topS 13
theorem sc_law_cell_at : FnScope ["_law_script", "_law_k"] ["_law_script", "_law_k"] (defScope s_law_cell_at) := ⟨rfl, rfl, rfl, by decide +kernel, rfl, by decide +kernel, by decide +kernel⟩
theorem sc_law_some : FnScope ["_law_script", "_law_k", "_law_salt", "_law_many", "_law_cell", "_law_mixed"] ["_law_script", "_law_k", "_law_salt", "_law_many"] (defScope s_law_some) := ⟨rfl, rfl, rfl, by decide +kernel, rfl, by decide +kernel, by decide +kernel⟩
theorem sc_law_coin : FnScope ["_law_script", "_law_k", "_law_salt", "_law_how"] ["_law_script", "_law_k", "_law_salt"] (defScope s_law_coin) := ⟨rfl, rfl, rfl, by decide +kernel, rfl, by decide +kernel, by decide +kernel⟩
theorem sc_law_rows : FnScope ["_law_script", "_law_k", "_law_left", "_law_rows_here", "_law_j", "_law_many", "_law_extra"] ["_law_script", "_law_k"] (defScope s_law_rows) := ⟨rfl, rfl, rfl, by decide +kernel, rfl, by decide +kernel, by decide +kernel⟩
theorem sc_Line_init : FnScope ["self", "kind", "price", "many", "special"] ["self", "kind", "price", "many", "special"] (defScope s_Line_init) := ⟨rfl, rfl, rfl, by decide +kernel, rfl, by decide +kernel, by decide +kernel⟩
theorem sc_law_line : FnScope ["_law_row", "_law_way"] ["_law_row", "_law_way"] (defScope s_law_line) := ⟨rfl, rfl, rfl, by decide +kernel, rfl, by decide +kernel, by decide +kernel⟩
theorem sc_Basket_init : FnScope ["self", "lines", "carriage", "member"] ["self", "lines", "carriage", "member"] (defScope s_Basket_init) := ⟨rfl, rfl, rfl, by decide +kernel, rfl, by decide +kernel, by decide +kernel⟩
theorem sc_law_basket : FnScope ["_law_lines", "_law_carriage", "_law_joined", "_law_way"] ["_law_lines", "_law_carriage", "_law_joined", "_law_way"] (defScope s_law_basket) := ⟨rfl, rfl, rfl, by decide +kernel, rfl, by decide +kernel, by decide +kernel⟩
theorem sc_law_number_is : FnScope ["_law_found", "_law_due"] ["_law_found", "_law_due"] (defScope s_law_number_is) := ⟨rfl, rfl, rfl, by decide +kernel, rfl, by decide +kernel, by decide +kernel⟩
theorem sc_law_line_is : FnScope ["_law_line_here", "_law_row"] ["_law_line_here", "_law_row"] (defScope s_law_line_is) := ⟨rfl, rfl, rfl, by decide +kernel, rfl, by decide +kernel, by decide +kernel⟩
theorem sc_law_is : FnScope ["_law_basket_here", "_law_lines", "_law_rows_here", "_law_carriage", "_law_joined", "_law_found", "_law_line_here", "_law_row"] ["_law_basket_here", "_law_lines", "_law_rows_here", "_law_carriage", "_law_joined"] (defScope s_law_is) := ⟨rfl, rfl, rfl, by decide +kernel, rfl, by decide +kernel, by decide +kernel⟩
theorem sc_law : FnScope ["_law_script", "_law_k", "_law_rows_here", "_law_way", "_law_lines", "_law_pieces", "_law_carriage", "_law_joined", "_law_handed", "_law_basket_here", "_law_other", "_law_j", "_law_row"] ["_law_script"] (defScope s_law) := ⟨rfl, rfl, rfl, by decide +kernel, rfl, by decide +kernel, by decide +kernel⟩
structure LineD where
  f_kind : Int
  f_price : Int
  f_many : Int
  f_special : (Option Int)
abbrev o_Line (K : PySem.W.Frag) (mg : Str → Option Value) (d : LineD) : OR := oC (wI (Gb.mk K mg) "Line" ["kind", "price", "many", "special"]) [(oI (Py.r (Gb.mk K mg) (d.f_kind : Int))), (oI (Py.r (Gb.mk K mg) (d.f_price : Int))), (oI (Py.r (Gb.mk K mg) (d.f_many : Int))), (oI (Py.r (Gb.mk K mg) (d.f_special : (Option Int))))]
instance : Py LineD := ⟨fun g d => rIns g "Line" ["kind", "price", "many", "special"] [Py.r g d.f_kind, Py.r g d.f_price, Py.r g d.f_many, Py.r g d.f_special]⟩
instance : Nz LineD := ⟨fun h => rIns_nz h⟩
instance : Rf LineD := ⟨fun h => rIns_rf h⟩
theorem z_Line {K : PySem.W.Frag} {mg : Str → Option Value} (d : LineD) : Frz (o_Line K mg d) (Py.r (Gb.mk K mg) d) := frz_C (.cons frz_I (.cons frz_I (.cons frz_I (.cons frz_I (.nil)))))
structure BasketD where
  f_lines : (List LineD)
  f_carriage : Int
  f_member : Bool
abbrev o_Basket (K : PySem.W.Frag) (mg : Str → Option Value) (d : BasketD) : OR := oC (wI (Gb.mk K mg) "Basket" ["lines", "carriage", "member"]) [(oF (rl (Gb.mk K mg) (d.f_lines : (List LineD)))), (oI (Py.r (Gb.mk K mg) (d.f_carriage : Int))), (oI (Py.r (Gb.mk K mg) (d.f_member : Bool)))]
instance : Py BasketD := ⟨fun g d => rIns g "Basket" ["lines", "carriage", "member"] [Py.r g d.f_lines, Py.r g d.f_carriage, Py.r g d.f_member]⟩
instance : Nz BasketD := ⟨fun h => rIns_nz h⟩
instance : Rf BasketD := ⟨fun h => rIns_rf h⟩
theorem z_Basket {K : PySem.W.Frag} {mg : Str → Option Value} (d : BasketD) : Frz (o_Basket K mg d) (Py.r (Gb.mk K mg) d) := frz_C (.cons frz_F (.cons frz_I (.cons frz_I (.nil))))
@[irreducible] def M.law_cell_at (x_law_script : (List Int)) (x_law_k : Int) : Option Int :=
  (if (decide (x_law_k < (x_law_script.length : Int))) = true then (atO x_law_script x_law_k) else some (0 : Int))
@[irreducible] def M.law_some (x_law_script : (List Int)) (x_law_k : Int) (x_law_salt : Int) (x_law_many : Int) : Option Int :=
  ((((M.law_cell_at x_law_script x_law_k) >>= fun v3 => some ((v3 % (1000003 : Int)))) >>= fun v4 => some (v4 + (1 : Int))) >>= fun x_law_cell => ((((((mulO ((1000 : Int) * x_law_k) x_law_k) >>= fun v10 => some ((48271 : Int) + v10)) >>= fun v11 => (mulO ((69621 : Int) * x_law_salt) x_law_salt) >>= fun v12 => some (v11 + v12)) >>= fun v13 => (mulO x_law_cell v13)) >>= fun v14 => some ((v14 % (2147483647 : Int)))) >>= fun x_law_mixed => ((((mulO x_law_mixed x_law_mixed) >>= fun v15 => some ((v15 % (2147483629 : Int)))) >>= fun v16 => some ((v16 / (3 : Int)))) >>= fun v17 => (modO v17 x_law_many))))
@[irreducible] def M.law_coin (x_law_script : (List Int)) (x_law_k : Int) (x_law_salt : Int) : Option Int :=
  ((M.law_some x_law_script x_law_k x_law_salt (5 : Int)) >>= fun x_law_how => (if (decide (x_law_how < (2 : Int))) = true then (M.law_some x_law_script x_law_k (x_law_salt + (1 : Int)) (10 : Int)) else (if (decide (x_law_how = (2 : Int))) = true then ((M.law_some x_law_script x_law_k (x_law_salt + (1 : Int)) (200 : Int)) >>= fun v1 => some (((50 : Int) * v1))) else (if (decide (x_law_how = (3 : Int))) = true then ((M.law_some x_law_script x_law_k (x_law_salt + (1 : Int)) (3 : Int)) >>= fun v2 => some ((1000000000000 : Int) - v2)) else (((M.law_some x_law_script x_law_k (x_law_salt + (1 : Int)) (1000000 : Int)) >>= fun v3 => some ((v3 * (1000000 : Int)))) >>= fun v4 => (M.law_some x_law_script x_law_k (x_law_salt + (2 : Int)) (1000001 : Int)) >>= fun v5 => some (v4 + v5))))))
@[irreducible] def M.law_rows (x_law_script : (List Int)) (x_law_k : Int) : Option (List (T4 Int Int Int (Option Int))) :=
  (let x_law_left : Int := (60 : Int); (let x_law_rows_here : (List (T4 Int Int Int (Option Int))) := ([] : (List (T4 Int Int Int (Option Int)))); (((M.law_some x_law_script x_law_k (1 : Int) (13 : Int)) >>= fun v1 => (rng1O v1)) >>= fun v19 => (loopN (fun (z2 : (Int × (List (T4 Int Int Int (Option Int))))) (x_law_j : Int) => ((M.law_some x_law_script x_law_k ((10 : Int) + x_law_j) (5 : Int)) >>= fun x_law_many => (((M.law_some x_law_script x_law_k ((30 : Int) + x_law_j) (8 : Int)) >>= fun v3 => some (decide (v3 = (0 : Int)))) >>= fun v17 => ((if v17 = true then some (let x_law_many : Int := (20 : Int); x_law_many) else some x_law_many) >>= (fun (z4 : Int) => (let x_law_many : Int := (min z4 z2.1); (let x_law_left : Int := (z2.1 - x_law_many); (let x_law_extra : (Option Int) := (none : (Option Int)); (((M.law_some x_law_script x_law_k ((50 : Int) + x_law_j) (3 : Int)) >>= fun v5 => some (decide (v5 = (0 : Int)))) >>= fun v16 => ((if v16 = true then (((M.law_coin x_law_script x_law_k ((70 : Int) + ((3 : Int) * x_law_j))) >>= fun v15 => some ((some v15 : (Option Int)))) >>= fun x_law_extra => some x_law_extra) else some x_law_extra) >>= (fun (z6 : (Option Int)) => (((M.law_some x_law_script x_law_k ((110 : Int) + x_law_j) (20 : Int)) >>= fun v7 => (M.law_coin x_law_script x_law_k ((130 : Int) + ((3 : Int) * x_law_j))) >>= fun v8 => some (T4.mk v7 v8 x_law_many z6)) >>= fun v14 => (appO z2.2 v14 >>= fun x_law_rows_here => ((((M.law_some x_law_script x_law_k ((170 : Int) + x_law_j) (6 : Int)) >>= fun v9 => some (decide (v9 = (0 : Int)))) >>= fun v10 => (if v10 = true then some (((decide (x_law_many ≤ x_law_left)) && (decide ((x_law_rows_here.length : Int) < (12 : Int))))) else some false)) >>= fun v13 => ((if v13 = true then ((atO x_law_rows_here ((x_law_rows_here.length : Int) - (1 : Int))) >>= fun v12 => (appO x_law_rows_here v12 >>= fun x_law_rows_here => some (let x_law_left : Int := (x_law_left - x_law_many); (x_law_rows_here, x_law_left)))) else some (x_law_rows_here, x_law_left)) >>= (fun (z11 : ((List (T4 Int Int Int (Option Int))) × Int)) => some (z11.2, z11.1))))))))))))))))) v19 (x_law_left, x_law_rows_here) >>= fun z18 => some (cutO z18.2 none (some (12 : Int)))))))
@[irreducible] def M.Line_init (x_kind : Int) (x_price : Int) (x_many : Int) (x_special : (Option Int)) : LineD :=
  (let x_self_kind : Int := x_kind; (let x_self_price : Int := x_price; (let x_self_many : Int := x_many; (let x_self_special : (Option Int) := x_special; (LineD.mk x_self_kind x_self_price x_self_many x_self_special)))))
@[irreducible] def M.law_line (x_law_row : (T4 Int Int Int (Option Int))) (x_law_way : Int) : LineD :=
  (if (x_law_row.x3.isNone && (decide ((x_law_way % (2 : Int)) = (0 : Int)))) = true then (M.Line_init x_law_row.x0 x_law_row.x1 x_law_row.x2 (none : (Option Int))) else (if (decide ((x_law_way % (3 : Int)) = (0 : Int))) = true then (M.Line_init x_law_row.x0 x_law_row.x1 x_law_row.x2 x_law_row.x3) else (M.Line_init x_law_row.x0 x_law_row.x1 x_law_row.x2 x_law_row.x3)))
@[irreducible] def M.Basket_init (x_lines : (List LineD)) (x_carriage : Int) (x_member : Bool) : BasketD :=
  (let x_self_lines : (List LineD) := x_lines; (let x_self_carriage : Int := x_carriage; (let x_self_member : Bool := x_member; (BasketD.mk x_self_lines x_self_carriage x_self_member))))
@[irreducible] def M.law_basket (x_law_lines : (List LineD)) (x_law_carriage : Int) (x_law_joined : Bool) (x_law_way : Int) : BasketD :=
  (if ((decide (x_law_carriage = (0 : Int))) && ((!x_law_joined) && (decide ((x_law_way % (2 : Int)) = (0 : Int))))) = true then (M.Basket_init x_law_lines ((0 : Int) : Int) (false : Bool)) else (if ((!x_law_joined) && (decide ((x_law_way % (3 : Int)) = (0 : Int)))) = true then (M.Basket_init x_law_lines x_law_carriage (false : Bool)) else (if ((decide (x_law_carriage = (0 : Int))) && (decide ((x_law_way % (5 : Int)) = (0 : Int)))) = true then (M.Basket_init x_law_lines ((0 : Int) : Int) x_law_joined) else (M.Basket_init x_law_lines x_law_carriage x_law_joined))))
@[irreducible] def M.law_number_is (x_law_found : Int) (x_law_due : Int) : Bool :=
  (true && ((!false) && (decide (x_law_found = x_law_due))))
@[irreducible] def M.law_number_is_1 (x_law_found : (Option Int)) (x_law_due : Int) : Bool :=
  ((x_law_found.isSome && true) && ((!(x_law_found.isSome && false)) && (decide (x_law_found = (some x_law_due : (Option Int))))))
@[irreducible] def M.law_line_is (x_law_line_here : LineD) (x_law_row : (T4 Int Int Int (Option Int))) : Option Bool :=
  (if ((!true) || (!(M.law_number_is x_law_line_here.f_kind x_law_row.x0))) = true then some false else (if ((!(M.law_number_is x_law_line_here.f_price x_law_row.x1)) || (!(M.law_number_is x_law_line_here.f_many x_law_row.x2))) = true then some false else (if x_law_row.x3.isNone = true then some x_law_line_here.f_special.isNone else (x_law_row.x3 >>= fun v2 => some (M.law_number_is_1 x_law_line_here.f_special v2)))))
@[irreducible] def M.law_is (x_law_basket_here : BasketD) (x_law_lines : (List LineD)) (x_law_rows_here : (List (T4 Int Int Int (Option Int)))) (x_law_carriage : Int) (x_law_joined : Bool) : Option Bool :=
  (if ((!true) || ((!true) || (!decide ((x_law_basket_here.f_lines.length : Int) = (x_law_lines.length : Int))))) = true then some false else ((zip3O x_law_basket_here.f_lines x_law_lines x_law_rows_here) >>= fun v9 => (loopC (fun (z2 : Unit) (it3 : (T3 LineD LineD (T4 Int Int Int (Option Int)))) => (((((M.law_line_is it3.x0 it3.x2) >>= fun v4 => some ((!v4))) >>= fun v6 => (if v6 = true then some true else ((M.law_line_is it3.x1 it3.x2) >>= fun v5 => some ((!v5))))) >>= fun v7 => (if v7 = true then some (Ctl.rt false) else some (Ctl.nx ()))) : Option (Ctl Unit Unit Bool))) v9 () >>= Ctl.seqT fun (z8 : Unit) => some (if (!(M.law_number_is x_law_basket_here.f_carriage x_law_carriage)) = true then false else (true && (decide (x_law_basket_here.f_member = x_law_joined)))))))
@[irreducible] def M.law (x_law_script : (List Int)) : Option Bool :=
  ((rng1O ((x_law_script.length : Int) + (1 : Int))) >>= fun v23 => (loopC (fun (z1 : Unit) (x_law_k : Int) => (((M.law_rows x_law_script x_law_k) >>= fun x_law_rows_here => ((M.law_some x_law_script x_law_k (200 : Int) (30 : Int)) >>= fun x_law_way => (let x_law_lines : (List LineD) := ((enumL x_law_rows_here).map (fun (it5 : (T2 Int (T4 Int Int Int (Option Int)))) => (M.law_line it5.x1 (x_law_way + it5.x0)))); ((((catO x_law_rows_here (cutO x_law_rows_here none (some (1 : Int)))) >>= fun v8 => some ((v8.map (fun (x_law_row : (T4 Int Int Int (Option Int))) => x_law_row.x2)))) >>= fun v9 => some (v9.sum)) >>= fun x_law_pieces => ((if ((decide ((x_law_way % (4 : Int)) = (1 : Int))) && ((decide ((x_law_rows_here.length : Int) > (0 : Int))) && ((decide ((x_law_rows_here.length : Int) < (12 : Int))) && (decide (x_law_pieces ≤ (60 : Int)))))) = true then ((atO x_law_lines (0 : Int)) >>= fun v21 => (appO x_law_lines v21 >>= fun x_law_lines => ((catO x_law_rows_here (cutO x_law_rows_here none (some (1 : Int)))) >>= fun x_law_rows_here => some (x_law_lines, x_law_rows_here)))) else some (x_law_lines, x_law_rows_here)) >>= (fun (z10 : ((List LineD) × (List (T4 Int Int Int (Option Int))))) => (((M.law_coin x_law_script x_law_k (201 : Int)) >>= fun v12 => (mulO v12 (b2z (decide ((x_law_way % (3 : Int)) > (0 : Int)))))) >>= fun x_law_carriage => (((M.law_some x_law_script x_law_k (204 : Int) (2 : Int)) >>= fun v14 => some (decide (v14 = (1 : Int)))) >>= fun x_law_joined => (let x_law_basket_here : BasketD := (M.law_basket z10.1 x_law_carriage x_law_joined x_law_way); (let x_law_other : BasketD := (M.law_basket z10.1 (3 : Int) (!x_law_joined) (x_law_way + (1 : Int))); ((if false = true then some true else ((M.law_is x_law_basket_here z10.1 z10.2 x_law_carriage x_law_joined) >>= fun v15 => some ((!v15)))) >>= fun v20 => (if v20 = true then some (Ctl.rt false) else (appO z10.1 (M.Line_init ((0 : Int)) ((1 : Int)) ((1 : Int)) (none : (Option Int))) >>= fun x_law_handed => (let x_law_handed : (List LineD) := x_law_handed.reverse; ((((M.law_is x_law_basket_here z10.1 z10.2 x_law_carriage x_law_joined) >>= fun v16 => some ((!v16))) >>= fun v18 => (if v18 = true then some true else ((M.law_is x_law_other z10.1 z10.2 (3 : Int) (!x_law_joined)) >>= fun v17 => some ((!v17))))) >>= fun v19 => (if v19 = true then some (Ctl.rt false) else some (Ctl.nx ()))))))))))))))))) : Option (Ctl Unit Unit Bool))) v23 () >>= Ctl.seqT fun (z22 : Unit) => some true))
set_option genInjectivity false in
set_option genSizeOfSpec false in
structure Tx (K : PySem.W.Frag) (mg : Str → Option Value) where
  C_Line : Addr
  m_Line : mg "Line" = some (.ref C_Line)
  cl_Line : Cls K C_Line
  ic_Line : InsC K C_Line
  C_Basket : Addr
  m_Basket : mg "Basket" = some (.ref C_Basket)
  cl_Basket : Cls K C_Basket
  ic_Basket : InsC K C_Basket
  n_Basket_carriage : NoAttr K C_Basket "carriage"
  n_Basket_lines : NoAttr K C_Basket "lines"
  n_Basket_member : NoAttr K C_Basket "member"
  n_Line_kind : NoAttr K C_Line "kind"
  n_Line_many : NoAttr K C_Line "many"
  n_Line_price : NoAttr K C_Line "price"
  n_Line_special : NoAttr K C_Line "special"
  f_law_cell_at : Addr
  d_law_cell_at : FuncData
  F_law_cell_at : FunX K "_law_cell_at" "_law_cell_at" s_law_cell_at f_law_cell_at d_law_cell_at
  m_law_cell_at : mg "_law_cell_at" = some (.ref f_law_cell_at)
  k_law_cell_at : PySem.W.keepIn K (.ref f_law_cell_at) = true
  f_law_some : Addr
  d_law_some : FuncData
  F_law_some : FunX K "_law_some" "_law_some" s_law_some f_law_some d_law_some
  m_law_some : mg "_law_some" = some (.ref f_law_some)
  k_law_some : PySem.W.keepIn K (.ref f_law_some) = true
  f_law_coin : Addr
  d_law_coin : FuncData
  F_law_coin : FunX K "_law_coin" "_law_coin" s_law_coin f_law_coin d_law_coin
  m_law_coin : mg "_law_coin" = some (.ref f_law_coin)
  k_law_coin : PySem.W.keepIn K (.ref f_law_coin) = true
  f_law_rows : Addr
  d_law_rows : FuncData
  F_law_rows : FunX K "_law_rows" "_law_rows" s_law_rows f_law_rows d_law_rows
  m_law_rows : mg "_law_rows" = some (.ref f_law_rows)
  k_law_rows : PySem.W.keepIn K (.ref f_law_rows) = true
  f_Line_init : Addr
  d_Line_init : FuncData
  F_Line_init : FunX K "__init__" "Line.__init__" s_Line_init f_Line_init d_Line_init
  k_Line_init : PySem.W.keepIn K (.ref f_Line_init) = true
  f_law_line : Addr
  d_law_line : FuncData
  F_law_line : FunX K "_law_line" "_law_line" s_law_line f_law_line d_law_line
  m_law_line : mg "_law_line" = some (.ref f_law_line)
  k_law_line : PySem.W.keepIn K (.ref f_law_line) = true
  f_Basket_init : Addr
  d_Basket_init : FuncData
  F_Basket_init : FunX K "__init__" "Basket.__init__" s_Basket_init f_Basket_init d_Basket_init
  k_Basket_init : PySem.W.keepIn K (.ref f_Basket_init) = true
  f_law_basket : Addr
  d_law_basket : FuncData
  F_law_basket : FunX K "_law_basket" "_law_basket" s_law_basket f_law_basket d_law_basket
  m_law_basket : mg "_law_basket" = some (.ref f_law_basket)
  k_law_basket : PySem.W.keepIn K (.ref f_law_basket) = true
  f_law_number_is : Addr
  d_law_number_is : FuncData
  F_law_number_is : FunX K "_law_number_is" "_law_number_is" s_law_number_is f_law_number_is d_law_number_is
  m_law_number_is : mg "_law_number_is" = some (.ref f_law_number_is)
  k_law_number_is : PySem.W.keepIn K (.ref f_law_number_is) = true
  f_law_line_is : Addr
  d_law_line_is : FuncData
  F_law_line_is : FunX K "_law_line_is" "_law_line_is" s_law_line_is f_law_line_is d_law_line_is
  m_law_line_is : mg "_law_line_is" = some (.ref f_law_line_is)
  k_law_line_is : PySem.W.keepIn K (.ref f_law_line_is) = true
  f_law_is : Addr
  d_law_is : FuncData
  F_law_is : FunX K "_law_is" "_law_is" s_law_is f_law_is d_law_is
  m_law_is : mg "_law_is" = some (.ref f_law_is)
  k_law_is : PySem.W.keepIn K (.ref f_law_is) = true
  f_law : Addr
  d_law : FuncData
  F_law : FunX K "law" "law" s_law f_law d_law
  m_law : mg "law" = some (.ref f_law)
  k_law : PySem.W.keepIn K (.ref f_law) = true
  ds_Basket_init_2 : List Value
  b_Basket_init_2 : Binds K d_Basket_init ["self", "lines", "carriage", "member"] ds_Basket_init_2
  v_Basket_init_2 : Vals [.int 0, .bl false] ds_Basket_init_2
  ds_Basket_init_3 : List Value
  b_Basket_init_3 : Binds K d_Basket_init ["self", "lines", "carriage", "member"] ds_Basket_init_3
  v_Basket_init_3 : Vals [.bl false] ds_Basket_init_3
  b_Basket_init_4 : Binds K d_Basket_init ["self", "lines", "carriage", "member"] []
  ds_Line_init_4 : List Value
  b_Line_init_4 : Binds K d_Line_init ["self", "kind", "price", "many", "special"] ds_Line_init_4
  v_Line_init_4 : Vals [.non] ds_Line_init_4
  b_Line_init_5 : Binds K d_Line_init ["self", "kind", "price", "many", "special"] []
  b_law_basket_4 : Binds K d_law_basket ["_law_lines", "_law_carriage", "_law_joined", "_law_way"] []
  b_law_cell_at_2 : Binds K d_law_cell_at ["_law_script", "_law_k"] []
  b_law_coin_3 : Binds K d_law_coin ["_law_script", "_law_k", "_law_salt"] []
  b_law_is_5 : Binds K d_law_is ["_law_basket_here", "_law_lines", "_law_rows_here", "_law_carriage", "_law_joined"] []
  b_law_line_2 : Binds K d_law_line ["_law_row", "_law_way"] []
  b_law_line_is_2 : Binds K d_law_line_is ["_law_line_here", "_law_row"] []
  b_law_number_is_2 : Binds K d_law_number_is ["_law_found", "_law_due"] []
  b_law_rows_2 : Binds K d_law_rows ["_law_script", "_law_k"] []
  b_law_some_4 : Binds K d_law_some ["_law_script", "_law_k", "_law_salt", "_law_many"] []
  its_Basket_init_2_member : List Value
  kb_Basket_init_2_member : KBn K d_Basket_init ["self", "lines", "carriage", "member"] 2 ["member"] (fun us ws => us ++ ((its_Basket_init_2_member.drop 0).take 1) ++ ((ws.drop 0).take 1)) (fun vs zs => vs ++ (([.int 0, .bl false].drop 0).take 1) ++ ((zs.drop 0).take 1))
  its_Line_init_4_special : List Value
  kb_Line_init_4_special : KBn K d_Line_init ["self", "kind", "price", "many", "special"] 4 ["special"] (fun us ws => us ++ ((ws.drop 0).take 1)) (fun vs zs => vs ++ ((zs.drop 0).take 1))
  mk_Basket : Mk K C_Basket f_Basket_init
  mk_Line : Mk K C_Line f_Line_init
  g_bool : mg "bool" = none
  g_enumerate : mg "enumerate" = none
  g_int : mg "int" = none
  g_isinstance : mg "isinstance" = none
  g_len : mg "len" = none
  g_list : mg "list" = none
  g_min : mg "min" = none
  g_range : mg "range" = none
  g_sum : mg "sum" = none
  g_zip : mg "zip" = none
theorem hA_Basket_init_2_member {K : PySem.W.Frag} {mg : Str → Option Value} : ∀ (p : (List LineD) × Bool × Unit) (vs zs : List V) (I H : Hp), vs.length = 1 → zs.length = 1 → _root_.T.Args (Gb.mk K mg) [.bw (rl (Gb.mk K mg) p.1), .im (Py.r (Gb.mk K mg) p.2.1)] (vs ++ zs) I H → _root_.T.Args (Gb.mk K mg) [.bw (rl (Gb.mk K mg) p.1), .im (Py.r (Gb.mk K mg) ((0 : Int) : Int)), .im (Py.r (Gb.mk K mg) p.2.1)] ((fun vs zs => vs ++ ((([.int 0, .bl false] : List V).drop 0).take 1) ++ ((zs.drop 0).take 1)) vs zs) I H := fun p vs zs I H l1 l2 h => match vs, l1, h with | [a0], _, h => match zs, l2, h with | [b0], _, h => match (show Paired (fun (k : RK) (v : V) => RK.holds (Gb.mk K mg) k H v I H) [.bw (rl (Gb.mk K mg) p.1), .im (Py.r (Gb.mk K mg) p.2.1)] [a0, b0] from h) with | .cons h0 (.cons h1 (.nil)) => (show Paired (fun (k : RK) (v : V) => RK.holds (Gb.mk K mg) k H v I H) [.bw (rl (Gb.mk K mg) p.1), .im (Py.r (Gb.mk K mg) ((0 : Int) : Int)), .im (Py.r (Gb.mk K mg) p.2.1)] [a0, .int 0, b0] from .cons (by exact h0) (.cons (by exact rfl) (.cons (by exact h1) (.nil))))
theorem hA_Line_init_4_special {K : PySem.W.Frag} {mg : Str → Option Value} : ∀ (p : Int × Int × Int × (Option Int) × Unit) (vs zs : List V) (I H : Hp), vs.length = 3 → zs.length = 1 → _root_.T.Args (Gb.mk K mg) [.im (Py.r (Gb.mk K mg) p.1), .im (Py.r (Gb.mk K mg) p.2.1), .im (Py.r (Gb.mk K mg) p.2.2.1), .im (Py.r (Gb.mk K mg) p.2.2.2.1)] (vs ++ zs) I H → _root_.T.Args (Gb.mk K mg) [.im (Py.r (Gb.mk K mg) p.1), .im (Py.r (Gb.mk K mg) p.2.1), .im (Py.r (Gb.mk K mg) p.2.2.1), .im (Py.r (Gb.mk K mg) p.2.2.2.1)] ((fun vs zs => vs ++ ((zs.drop 0).take 1)) vs zs) I H := fun p vs zs I H l1 l2 h => match vs, l1, h with | [a0, a1, a2], _, h => match zs, l2, h with | [b0], _, h => match (show Paired (fun (k : RK) (v : V) => RK.holds (Gb.mk K mg) k H v I H) [.im (Py.r (Gb.mk K mg) p.1), .im (Py.r (Gb.mk K mg) p.2.1), .im (Py.r (Gb.mk K mg) p.2.2.1), .im (Py.r (Gb.mk K mg) p.2.2.2.1)] [a0, a1, a2, b0] from h) with | .cons h0 (.cons h1 (.cons h2 (.cons h3 (.nil)))) => (show Paired (fun (k : RK) (v : V) => RK.holds (Gb.mk K mg) k H v I H) [.im (Py.r (Gb.mk K mg) p.1), .im (Py.r (Gb.mk K mg) p.2.1), .im (Py.r (Gb.mk K mg) p.2.2.1), .im (Py.r (Gb.mk K mg) p.2.2.2.1)] [a0, a1, a2, b0] from .cons (by exact h0) (.cons (by exact h1) (.cons (by exact h2) (.cons (by exact h3) (.nil)))))
section
variable {P : Program} {w : World} {K : PySem.W.Frag} {mg : Str → Option Value} {base : Heap}
theorem ok_law_cell_at (T : Tx K mg) : FnOk P w K mg base CX0 1 T.f_law_cell_at T.d_law_cell_at ["_law_script", "_law_k"] (spT (Gb.mk K mg) (fun p : (List Int) × Int × Unit => [.bw (rl (Gb.mk K mg) p.1), .im (Py.r (Gb.mk K mg) p.2.1)]) (fun p => M.law_cell_at p.1 p.2.1) (fun r => .im (Py.r (Gb.mk K mg) (r : Int)))) := by
  refine fnx_mk T.F_law_cell_at sc_law_cell_at (fun _ => rfl) (fun _ => rfl) (by decide) (fun cdv A outer s H E I p hr => ?_)
  obtain ⟨x_law_script, x_law_k, ⟨⟩⟩ := p
  refine MB.eq (MB.p1 (mb_ift (mt_cm (MC.p1 (MC.p1 (mc_lt (me_var 1) (ME.p1 (me_len T.g_len (me_bor 0))))))) (mb_retT (ME.p1 (ME.p1 (me_ix (me_bor 0) (me_var 1))))) (mb_retT me_int) hk_t)) ?_
  delta M.law_cell_at
  rfl
theorem ok_law_some (T : Tx K mg) : FnOk P w K mg base CX0 2 T.f_law_some T.d_law_some ["_law_script", "_law_k", "_law_salt", "_law_many"] (spT (Gb.mk K mg) (fun p : (List Int) × Int × Int × Int × Unit => [.bw (rl (Gb.mk K mg) p.1), .im (Py.r (Gb.mk K mg) p.2.1), .im (Py.r (Gb.mk K mg) p.2.2.1), .im (Py.r (Gb.mk K mg) p.2.2.2.1)]) (fun p => M.law_some p.1 p.2.1 p.2.2.1 p.2.2.2.1) (fun r => .im (Py.r (Gb.mk K mg) (r : Int)))) := by
  refine fnx_mk T.F_law_some sc_law_some (fun _ => rfl) (fun _ => rfl) (by decide) (fun cdv A outer s H E I p hr => ?_)
  obtain ⟨x_law_script, x_law_k, x_law_salt, x_law_many, ⟨⟩⟩ := p
  refine MB.eq (mb_set 4 sc_law_some.nd (ME.p2 (me_add (me_modC (n := 1000003) (by decide) (me_call (ok_law_cell_at T) hr (by decide) T.m_law_cell_at T.k_law_cell_at T.b_law_cell_at_2 .nil (MA.p1 (ma_cons (args := fun p : Int × Unit => [.im (Py.r (Gb.mk K mg) p.1)]) (me_bor 0) (co_bw lr_rd) (fun _ => (MA.p1 (ma_cons (args := fun p : Unit => []) (me_var 1) co_im (fun _ => ma_nl))))))) me_int) me_int)) (fun x_law_cell => mb_set 5 sc_law_some.nd (me_modC (n := 2147483647) (by decide) (ME.p1 (me_mul (me_var 4) (me_add (ME.p1 (me_add me_int (ME.p1 (ME.p1 (me_mul (ME.p1 (me_mulD (n := 1000) (by decide) me_int (me_var 1))) (me_var 1)))))) (ME.p1 (ME.p1 (me_mul (ME.p1 (me_mulD (n := 69621) (by decide) me_int (me_var 2))) (me_var 2))))))) me_int) (fun x_law_mixed => mb_retT (ME.p2 (me_mod (me_divC (n := 3) (by decide) (me_modC (n := 2147483629) (by decide) (ME.p1 (ME.p1 (me_mul (me_var 5) (me_var 5)))) me_int) me_int) (me_var 3)))))) ?_
  delta M.law_some
  rfl
theorem ok_law_coin (T : Tx K mg) : FnOk P w K mg base CX0 3 T.f_law_coin T.d_law_coin ["_law_script", "_law_k", "_law_salt"] (spT (Gb.mk K mg) (fun p : (List Int) × Int × Int × Unit => [.bw (rl (Gb.mk K mg) p.1), .im (Py.r (Gb.mk K mg) p.2.1), .im (Py.r (Gb.mk K mg) p.2.2.1)]) (fun p => M.law_coin p.1 p.2.1 p.2.2.1) (fun r => .im (Py.r (Gb.mk K mg) (r : Int)))) := by
  refine fnx_mk T.F_law_coin sc_law_coin (fun _ => rfl) (fun _ => rfl) (by decide) (fun cdv A outer s H E I p hr => ?_)
  obtain ⟨x_law_script, x_law_k, x_law_salt, ⟨⟩⟩ := p
  refine MB.eq (mb_set 3 sc_law_coin.nd (me_call (ok_law_some T) hr (by decide) T.m_law_some T.k_law_some T.b_law_some_4 .nil (MA.p1 (ma_cons (args := fun p : Int × Int × Int × Unit => [.im (Py.r (Gb.mk K mg) p.1), .im (Py.r (Gb.mk K mg) p.2.1), .im (Py.r (Gb.mk K mg) p.2.2.1)]) (me_bor 0) (co_bw lr_rd) (fun _ => (MA.p1 (ma_cons (args := fun p : Int × Int × Unit => [.im (Py.r (Gb.mk K mg) p.1), .im (Py.r (Gb.mk K mg) p.2.1)]) (me_var 1) co_im (fun _ => (MA.p1 (ma_cons (args := fun p : Int × Unit => [.im (Py.r (Gb.mk K mg) p.1)]) (me_var 2) co_im (fun _ => (MA.p1 (ma_cons (args := fun p : Unit => []) me_int co_im (fun _ => ma_nl))))))))))))) (fun x_law_how => MB.p1 (mb_ift (mt_cm (MC.p1 (MC.p1 (mc_lt (me_var 3) me_int)))) (mb_retT (me_call (ok_law_some T) hr (by decide) T.m_law_some T.k_law_some T.b_law_some_4 .nil (MA.p1 (ma_cons (args := fun p : Int × Int × Int × Unit => [.im (Py.r (Gb.mk K mg) p.1), .im (Py.r (Gb.mk K mg) p.2.1), .im (Py.r (Gb.mk K mg) p.2.2.1)]) (me_bor 0) (co_bw lr_rd) (fun _ => (MA.p1 (ma_cons (args := fun p : Int × Int × Unit => [.im (Py.r (Gb.mk K mg) p.1), .im (Py.r (Gb.mk K mg) p.2.1)]) (me_var 1) co_im (fun _ => (MA.p1 (ma_cons (args := fun p : Int × Unit => [.im (Py.r (Gb.mk K mg) p.1)]) (ME.p1 (ME.p1 (me_add (me_var 2) me_int))) co_im (fun _ => (MA.p1 (ma_cons (args := fun p : Unit => []) me_int co_im (fun _ => ma_nl)))))))))))))) (MB.p1 (mb_ift (mt_cm (MC.p1 (MC.p1 (mc_eq (α := Int) hr.units (Nat.le_of_ble_eq_true rfl) (me_var 3) me_int)))) (mb_retT (me_mulD (n := 50) (by decide) me_int (me_call (ok_law_some T) hr (by decide) T.m_law_some T.k_law_some T.b_law_some_4 .nil (MA.p1 (ma_cons (args := fun p : Int × Int × Int × Unit => [.im (Py.r (Gb.mk K mg) p.1), .im (Py.r (Gb.mk K mg) p.2.1), .im (Py.r (Gb.mk K mg) p.2.2.1)]) (me_bor 0) (co_bw lr_rd) (fun _ => (MA.p1 (ma_cons (args := fun p : Int × Int × Unit => [.im (Py.r (Gb.mk K mg) p.1), .im (Py.r (Gb.mk K mg) p.2.1)]) (me_var 1) co_im (fun _ => (MA.p1 (ma_cons (args := fun p : Int × Unit => [.im (Py.r (Gb.mk K mg) p.1)]) (ME.p1 (ME.p1 (me_add (me_var 2) me_int))) co_im (fun _ => (MA.p1 (ma_cons (args := fun p : Unit => []) me_int co_im (fun _ => ma_nl))))))))))))))) (MB.p1 (mb_ift (mt_cm (MC.p1 (MC.p1 (mc_eq (α := Int) hr.units (Nat.le_of_ble_eq_true rfl) (me_var 3) me_int)))) (mb_eqS (S' := [some (.bw (rl (Gb.mk K mg) (x_law_script : (List Int)))), some (.im (Py.r (Gb.mk K mg) (x_law_k : Int))), some (.im (Py.r (Gb.mk K mg) (x_law_salt : Int))), some (.im (Py.r (Gb.mk K mg) (x_law_how : Int)))]) rfl (mb_retT (ME.p1 (me_sub me_int (me_call (ok_law_some T) hr (by decide) T.m_law_some T.k_law_some T.b_law_some_4 .nil (MA.p1 (ma_cons (args := fun p : Int × Int × Int × Unit => [.im (Py.r (Gb.mk K mg) p.1), .im (Py.r (Gb.mk K mg) p.2.1), .im (Py.r (Gb.mk K mg) p.2.2.1)]) (me_bor 0) (co_bw lr_rd) (fun _ => (MA.p1 (ma_cons (args := fun p : Int × Int × Unit => [.im (Py.r (Gb.mk K mg) p.1), .im (Py.r (Gb.mk K mg) p.2.1)]) (me_var 1) co_im (fun _ => (MA.p1 (ma_cons (args := fun p : Int × Unit => [.im (Py.r (Gb.mk K mg) p.1)]) (ME.p1 (ME.p1 (me_add (me_var 2) me_int))) co_im (fun _ => (MA.p1 (ma_cons (args := fun p : Unit => []) me_int co_im (fun _ => ma_nl))))))))))))))))) (mb_eqS (S' := [some (.bw (rl (Gb.mk K mg) (x_law_script : (List Int)))), some (.im (Py.r (Gb.mk K mg) (x_law_k : Int))), some (.im (Py.r (Gb.mk K mg) (x_law_salt : Int))), some (.im (Py.r (Gb.mk K mg) (x_law_how : Int)))]) rfl (mb_retT (me_add (me_mulC (n := 1000000) (by decide) (me_call (ok_law_some T) hr (by decide) T.m_law_some T.k_law_some T.b_law_some_4 .nil (MA.p1 (ma_cons (args := fun p : Int × Int × Int × Unit => [.im (Py.r (Gb.mk K mg) p.1), .im (Py.r (Gb.mk K mg) p.2.1), .im (Py.r (Gb.mk K mg) p.2.2.1)]) (me_bor 0) (co_bw lr_rd) (fun _ => (MA.p1 (ma_cons (args := fun p : Int × Int × Unit => [.im (Py.r (Gb.mk K mg) p.1), .im (Py.r (Gb.mk K mg) p.2.1)]) (me_var 1) co_im (fun _ => (MA.p1 (ma_cons (args := fun p : Int × Unit => [.im (Py.r (Gb.mk K mg) p.1)]) (ME.p1 (ME.p1 (me_add (me_var 2) me_int))) co_im (fun _ => (MA.p1 (ma_cons (args := fun p : Unit => []) me_int co_im (fun _ => ma_nl))))))))))))) me_int) (me_call (ok_law_some T) hr (by decide) T.m_law_some T.k_law_some T.b_law_some_4 .nil (MA.p1 (ma_cons (args := fun p : Int × Int × Int × Unit => [.im (Py.r (Gb.mk K mg) p.1), .im (Py.r (Gb.mk K mg) p.2.1), .im (Py.r (Gb.mk K mg) p.2.2.1)]) (me_bor 0) (co_bw lr_rd) (fun _ => (MA.p1 (ma_cons (args := fun p : Int × Int × Unit => [.im (Py.r (Gb.mk K mg) p.1), .im (Py.r (Gb.mk K mg) p.2.1)]) (me_var 1) co_im (fun _ => (MA.p1 (ma_cons (args := fun p : Int × Unit => [.im (Py.r (Gb.mk K mg) p.1)]) (ME.p1 (ME.p1 (me_add (me_var 2) me_int))) co_im (fun _ => (MA.p1 (ma_cons (args := fun p : Unit => []) me_int co_im (fun _ => ma_nl)))))))))))))))) hk_t)) hk_t)) hk_t))) ?_
  delta M.law_coin
  rfl
theorem ok_law_rows (T : Tx K mg) : FnOk P w K mg base CX0 4 T.f_law_rows T.d_law_rows ["_law_script", "_law_k"] (spT (Gb.mk K mg) (fun p : (List Int) × Int × Unit => [.bw (rl (Gb.mk K mg) p.1), .im (Py.r (Gb.mk K mg) p.2.1)]) (fun p => M.law_rows p.1 p.2.1) (fun r => .fr (rl (Gb.mk K mg) (r : (List (T4 Int Int Int (Option Int))))))) := by
  refine fnx_mk T.F_law_rows sc_law_rows (fun _ => rfl) (fun _ => rfl) (by decide) (fun cdv A outer s H E I p hr => ?_)
  obtain ⟨x_law_script, x_law_k, ⟨⟩⟩ := p
  refine MB.eq (MB.p1 (mb_set 2 sc_law_rows.nd me_int (fun x_law_left => MB.p1 (mb_set 3 sc_law_rows.nd (me_lst (α := (T4 Int Int Int (Option Int))) ml_nil) (fun x_law_rows_here => mb_for (S' := (fun z2 : (Int × (List (T4 Int Int Int (Option Int)))) => [some (.bw (rl (Gb.mk K mg) (x_law_script : (List Int)))), some (.im (Py.r (Gb.mk K mg) (x_law_k : Int))), some (.im (Py.r (Gb.mk K mg) (z2.1 : Int))), some (.fr (rl (Gb.mk K mg) (z2.2 : (List (T4 Int Int Int (Option Int)))))), none, none, none])) (s0 := (x_law_left, x_law_rows_here)) PassesOwn.never (mi_rng1 T.g_range (me_call (ok_law_some T) hr (by decide) T.m_law_some T.k_law_some T.b_law_some_4 .nil (MA.p1 (ma_cons (args := fun p : Int × Int × Int × Unit => [.im (Py.r (Gb.mk K mg) p.1), .im (Py.r (Gb.mk K mg) p.2.1), .im (Py.r (Gb.mk K mg) p.2.2.1)]) (me_bor 0) (co_bw lr_rd) (fun _ => (MA.p1 (ma_cons (args := fun p : Int × Int × Unit => [.im (Py.r (Gb.mk K mg) p.1), .im (Py.r (Gb.mk K mg) p.2.1)]) (me_var 1) co_im (fun _ => (MA.p1 (ma_cons (args := fun p : Int × Unit => [.im (Py.r (Gb.mk K mg) p.1)]) me_int co_im (fun _ => (MA.p1 (ma_cons (args := fun p : Unit => []) me_int co_im (fun _ => ma_nl)))))))))))))) (mg_name 4 sc_law_rows.nd) (.keep (.keep (.keep (.keep (.keep (.keep (.keep .nil))))))) (fun _ (z2 : (Int × (List (T4 Int Int Int (Option Int))))) (x_law_j : Int) => mb_set 5 sc_law_rows.nd (me_call (ok_law_some T) hr (by decide) T.m_law_some T.k_law_some T.b_law_some_4 .nil (MA.p1 (ma_cons (args := fun p : Int × Int × Int × Unit => [.im (Py.r (Gb.mk K mg) p.1), .im (Py.r (Gb.mk K mg) p.2.1), .im (Py.r (Gb.mk K mg) p.2.2.1)]) (me_bor 0) (co_bw lr_rd) (fun _ => (MA.p1 (ma_cons (args := fun p : Int × Int × Unit => [.im (Py.r (Gb.mk K mg) p.1), .im (Py.r (Gb.mk K mg) p.2.1)]) (me_var 1) co_im (fun _ => (MA.p1 (ma_cons (args := fun p : Int × Unit => [.im (Py.r (Gb.mk K mg) p.1)]) (ME.p1 (ME.p1 (me_add me_int (me_var 4)))) co_im (fun _ => (MA.p1 (ma_cons (args := fun p : Unit => []) me_int co_im (fun _ => ma_nl))))))))))))) (fun x_law_many => mb_if (S' := (fun z4 : Int => [some (.bw (rl (Gb.mk K mg) (x_law_script : (List Int)))), some (.im (Py.r (Gb.mk K mg) (x_law_k : Int))), some (.im (Py.r (Gb.mk K mg) (z2.1 : Int))), some (.fr (rl (Gb.mk K mg) (z2.2 : (List (T4 Int Int Int (Option Int)))))), some (.im (Py.r (Gb.mk K mg) (x_law_j : Int))), some (.im (Py.r (Gb.mk K mg) (z4 : Int))), none])) (mt_cm (MC.p2 (mc_eq (α := Int) hr.units (Nat.le_of_ble_eq_true rfl) (me_call (ok_law_some T) hr (by decide) T.m_law_some T.k_law_some T.b_law_some_4 .nil (MA.p1 (ma_cons (args := fun p : Int × Int × Int × Unit => [.im (Py.r (Gb.mk K mg) p.1), .im (Py.r (Gb.mk K mg) p.2.1), .im (Py.r (Gb.mk K mg) p.2.2.1)]) (me_bor 0) (co_bw lr_rd) (fun _ => (MA.p1 (ma_cons (args := fun p : Int × Int × Unit => [.im (Py.r (Gb.mk K mg) p.1), .im (Py.r (Gb.mk K mg) p.2.1)]) (me_var 1) co_im (fun _ => (MA.p1 (ma_cons (args := fun p : Int × Unit => [.im (Py.r (Gb.mk K mg) p.1)]) (ME.p1 (ME.p1 (me_add me_int (me_var 4)))) co_im (fun _ => (MA.p1 (ma_cons (args := fun p : Unit => []) me_int co_im (fun _ => ma_nl))))))))))))) me_int))) (MB.p1 (mb_set 5 sc_law_rows.nd me_int (fun x_law_many => mb_nil (b := x_law_many) kx_n (.keep (.keep (.keep (.keep (.keep (.keep (.keep .nil)))))))))) (mb_nil (b := x_law_many) kx_n (.keep (.keep (.keep (.keep (.keep (.keep (.keep .nil)))))))) (fun (z4 : Int) => MB.p1 (mb_set 5 sc_law_rows.nd (ME.p1 (ME.p1 (me_min T.g_min (me_var 5) (me_var 2)))) (fun x_law_many => MB.p1 (mb_set 2 sc_law_rows.nd (ME.p1 (ME.p1 (me_sub (me_var 2) (me_var 5)))) (fun x_law_left => MB.p1 (mb_set 6 sc_law_rows.nd me_non (fun x_law_extra => mb_if (S' := (fun z6 : (Option Int) => [some (.bw (rl (Gb.mk K mg) (x_law_script : (List Int)))), some (.im (Py.r (Gb.mk K mg) (x_law_k : Int))), some (.im (Py.r (Gb.mk K mg) (x_law_left : Int))), some (.fr (rl (Gb.mk K mg) (z2.2 : (List (T4 Int Int Int (Option Int)))))), some (.im (Py.r (Gb.mk K mg) (x_law_j : Int))), some (.im (Py.r (Gb.mk K mg) (x_law_many : Int))), some (.im (Py.r (Gb.mk K mg) (z6 : (Option Int))))])) (mt_cm (MC.p2 (mc_eq (α := Int) hr.units (Nat.le_of_ble_eq_true rfl) (me_call (ok_law_some T) hr (by decide) T.m_law_some T.k_law_some T.b_law_some_4 .nil (MA.p1 (ma_cons (args := fun p : Int × Int × Int × Unit => [.im (Py.r (Gb.mk K mg) p.1), .im (Py.r (Gb.mk K mg) p.2.1), .im (Py.r (Gb.mk K mg) p.2.2.1)]) (me_bor 0) (co_bw lr_rd) (fun _ => (MA.p1 (ma_cons (args := fun p : Int × Int × Unit => [.im (Py.r (Gb.mk K mg) p.1), .im (Py.r (Gb.mk K mg) p.2.1)]) (me_var 1) co_im (fun _ => (MA.p1 (ma_cons (args := fun p : Int × Unit => [.im (Py.r (Gb.mk K mg) p.1)]) (ME.p1 (ME.p1 (me_add me_int (me_var 4)))) co_im (fun _ => (MA.p1 (ma_cons (args := fun p : Unit => []) me_int co_im (fun _ => ma_nl))))))))))))) me_int))) (mb_eqS (S' := [some (.bw (rl (Gb.mk K mg) (x_law_script : (List Int)))), some (.im (Py.r (Gb.mk K mg) (x_law_k : Int))), some (.im (Py.r (Gb.mk K mg) (x_law_left : Int))), some (.fr (rl (Gb.mk K mg) (z2.2 : (List (T4 Int Int Int (Option Int)))))), some (.im (Py.r (Gb.mk K mg) (x_law_j : Int))), some (.im (Py.r (Gb.mk K mg) (x_law_many : Int))), some (.im (Py.r (Gb.mk K mg) (x_law_extra : (Option Int))))]) rfl (mb_set 6 sc_law_rows.nd (me_some (me_call (ok_law_coin T) hr (by decide) T.m_law_coin T.k_law_coin T.b_law_coin_3 .nil (MA.p1 (ma_cons (args := fun p : Int × Int × Unit => [.im (Py.r (Gb.mk K mg) p.1), .im (Py.r (Gb.mk K mg) p.2.1)]) (me_bor 0) (co_bw lr_rd) (fun _ => (MA.p1 (ma_cons (args := fun p : Int × Unit => [.im (Py.r (Gb.mk K mg) p.1)]) (me_var 1) co_im (fun _ => (MA.p1 (ma_cons (args := fun p : Unit => []) (ME.p1 (ME.p1 (me_add me_int (ME.p1 (me_mulD (n := 3) (by decide) me_int (me_var 4)))))) co_im (fun _ => ma_nl))))))))))) (fun x_law_extra => mb_nil (b := x_law_extra) kx_n (.keep (.keep (.keep (.keep (.keep (.keep (.keep .nil)))))))))) (mb_nil (b := x_law_extra) kx_n (.keep (.keep (.keep (.keep (.keep (.keep (.keep .nil)))))))) (fun (z6 : (Option Int)) => mb_app 3 (ME.p3 (ME.p3 (me_t4 (me_call (ok_law_some T) hr (by decide) T.m_law_some T.k_law_some T.b_law_some_4 .nil (MA.p1 (ma_cons (args := fun p : Int × Int × Int × Unit => [.im (Py.r (Gb.mk K mg) p.1), .im (Py.r (Gb.mk K mg) p.2.1), .im (Py.r (Gb.mk K mg) p.2.2.1)]) (me_bor 0) (co_bw lr_rd) (fun _ => (MA.p1 (ma_cons (args := fun p : Int × Int × Unit => [.im (Py.r (Gb.mk K mg) p.1), .im (Py.r (Gb.mk K mg) p.2.1)]) (me_var 1) co_im (fun _ => (MA.p1 (ma_cons (args := fun p : Int × Unit => [.im (Py.r (Gb.mk K mg) p.1)]) (ME.p1 (ME.p1 (me_add me_int (me_var 4)))) co_im (fun _ => (MA.p1 (ma_cons (args := fun p : Unit => []) me_int co_im (fun _ => ma_nl))))))))))))) (me_call (ok_law_coin T) hr (by decide) T.m_law_coin T.k_law_coin T.b_law_coin_3 .nil (MA.p1 (ma_cons (args := fun p : Int × Int × Unit => [.im (Py.r (Gb.mk K mg) p.1), .im (Py.r (Gb.mk K mg) p.2.1)]) (me_bor 0) (co_bw lr_rd) (fun _ => (MA.p1 (ma_cons (args := fun p : Int × Unit => [.im (Py.r (Gb.mk K mg) p.1)]) (me_var 1) co_im (fun _ => (MA.p1 (ma_cons (args := fun p : Unit => []) (ME.p1 (ME.p1 (me_add me_int (ME.p1 (me_mulD (n := 3) (by decide) me_int (me_var 4)))))) co_im (fun _ => ma_nl)))))))))) (me_var 5) (me_var 6)))) (fun x_law_rows_here => mb_if (S' := (fun z11 : ((List (T4 Int Int Int (Option Int))) × Int) => [some (.bw (rl (Gb.mk K mg) (x_law_script : (List Int)))), some (.im (Py.r (Gb.mk K mg) (x_law_k : Int))), some (.im (Py.r (Gb.mk K mg) (z11.2 : Int))), some (.fr (rl (Gb.mk K mg) (z11.1 : (List (T4 Int Int Int (Option Int)))))), some (.im (Py.r (Gb.mk K mg) (x_law_j : Int))), some (.im (Py.r (Gb.mk K mg) (x_law_many : Int))), some (.im (Py.r (Gb.mk K mg) (z6 : (Option Int))))])) (mt_w (mw_and (mt_cm (MC.p2 (mc_eq (α := Int) hr.units (Nat.le_of_ble_eq_true rfl) (me_call (ok_law_some T) hr (by decide) T.m_law_some T.k_law_some T.b_law_some_4 .nil (MA.p1 (ma_cons (args := fun p : Int × Int × Int × Unit => [.im (Py.r (Gb.mk K mg) p.1), .im (Py.r (Gb.mk K mg) p.2.1), .im (Py.r (Gb.mk K mg) p.2.2.1)]) (me_bor 0) (co_bw lr_rd) (fun _ => (MA.p1 (ma_cons (args := fun p : Int × Int × Unit => [.im (Py.r (Gb.mk K mg) p.1), .im (Py.r (Gb.mk K mg) p.2.1)]) (me_var 1) co_im (fun _ => (MA.p1 (ma_cons (args := fun p : Int × Unit => [.im (Py.r (Gb.mk K mg) p.1)]) (ME.p1 (ME.p1 (me_add me_int (me_var 4)))) co_im (fun _ => (MA.p1 (ma_cons (args := fun p : Unit => []) me_int co_im (fun _ => ma_nl))))))))))))) me_int))) (mw_andP (mt_cm (MC.p1 (MC.p1 (mc_le (me_var 5) (me_var 2))))) (mw_and1 (mt_cm (MC.p1 (MC.p1 (mc_lt (ME.p1 (me_len T.g_len (me_own 3))) me_int)))))))) (mb_app 3 (ME.p1 (ME.p1 (me_ix (me_own 3) (ME.p1 (ME.p1 (me_sub (ME.p1 (me_len T.g_len (me_own 3))) me_int)))))) (fun x_law_rows_here => MB.p1 (mb_set 2 sc_law_rows.nd (ME.p1 (ME.p1 (me_sub (me_var 2) (me_var 5)))) (fun x_law_left => mb_nil (b := (x_law_rows_here, x_law_left)) kx_n (.keep (.keep (.keep (.keep (.keep (.keep (.keep .nil))))))))))) (mb_nil (b := (x_law_rows_here, x_law_left)) kx_n (.keep (.keep (.keep (.keep (.keep (.keep (.keep .nil)))))))) (fun (z11 : ((List (T4 Int Int Int (Option Int))) × Int)) => mb_nil (b := (z11.2, z11.1)) kx_n (.keep (.keep (.keep (.keep (.drop (.drop (.drop .nil))))))))))))))))))) (fun (z18 : (Int × (List (T4 Int Int Int (Option Int))))) => mb_retT (ME.p1 (ME.p1 (ME.p1 (me_cut (me_own 3) mo_none (MO.p1 (mo_some me_int)))))))))))) ?_
  delta M.law_rows
  rfl
theorem ok_Line_init (T : Tx K mg) : FnOk P w K mg base CX0 1 T.f_Line_init T.d_Line_init ["self", "kind", "price", "many", "special"] (spIO (Gb.mk K mg) (fun p : Int × Int × Int × (Option Int) × Unit => .ow (oC (wI (Gb.mk K mg) "Line" []) []) :: [.im (Py.r (Gb.mk K mg) p.1), .im (Py.r (Gb.mk K mg) p.2.1), .im (Py.r (Gb.mk K mg) p.2.2.1), .im (Py.r (Gb.mk K mg) p.2.2.2.1)]) (fun p => some (M.Line_init p.1 p.2.1 p.2.2.1 p.2.2.2.1)) (fun _ => .im (Py.r (Gb.mk K mg) ())) (fun r : LineD => [(0, (o_Line K mg r))])) := by
  refine fiu_mk T.F_Line_init sc_Line_init (fun _ => rfl) (by decide) (fun _ p hp => by rw [List.mem_singleton.mp hp]; exact Nat.succ_pos _) (fun cdv A outer s H E I R u p hr => ?_)
  obtain ⟨x_kind, x_price, x_many, x_special, ⟨⟩⟩ := p
  refine MB.eq (MB.p1 (MB.p1 (mb_fldN (me_var 1) (mp_pin 0 (v0 := u 0) (o1 := (oC (wI (Gb.mk K mg) "Line" []) []))) ⟨_, T.m_Line, T.cl_Line, T.n_Line_kind⟩ (fun _ x_self_kind => MB.p1 (MB.p1 (mb_fldN (me_var 2) (mp_pin 0 (v0 := u 0) (o1 := (oC (wI (Gb.mk K mg) "Line" ["kind"]) [(oI (Py.r (Gb.mk K mg) (x_self_kind : Int)))]))) ⟨_, T.m_Line, T.cl_Line, T.n_Line_price⟩ (fun _ x_self_price => MB.p1 (MB.p1 (mb_fldN (me_var 3) (mp_pin 0 (v0 := u 0) (o1 := (oC (wI (Gb.mk K mg) "Line" ["kind", "price"]) [(oI (Py.r (Gb.mk K mg) (x_self_kind : Int))), (oI (Py.r (Gb.mk K mg) (x_self_price : Int)))]))) ⟨_, T.m_Line, T.cl_Line, T.n_Line_many⟩ (fun _ x_self_many => MB.p1 (MB.p1 (mb_fldN (me_var 4) (mp_pin 0 (v0 := u 0) (o1 := (oC (wI (Gb.mk K mg) "Line" ["kind", "price", "many"]) [(oI (Py.r (Gb.mk K mg) (x_self_kind : Int))), (oI (Py.r (Gb.mk K mg) (x_self_price : Int))), (oI (Py.r (Gb.mk K mg) (x_self_many : Int)))]))) ⟨_, T.m_Line, T.cl_Line, T.n_Line_special⟩ (fun _ x_self_special => mb_endU (b := (LineD.mk x_self_kind x_self_price x_self_many x_self_special)) (.cons rfl .nil)))))))))))))) ?_
  delta M.Line_init
  rfl
theorem ok_law_line (T : Tx K mg) : FnOk P w K mg base CX0 3 T.f_law_line T.d_law_line ["_law_row", "_law_way"] (spT (Gb.mk K mg) (fun p : (T4 Int Int Int (Option Int)) × Int × Unit => [.im (Py.r (Gb.mk K mg) p.1), .im (Py.r (Gb.mk K mg) p.2.1)]) (fun p => some (M.law_line p.1 p.2.1)) (fun r => .im (Py.r (Gb.mk K mg) (r : LineD)))) := by
  refine fnx_mk T.F_law_line sc_law_line (fun _ => rfl) (fun _ => rfl) (by decide) (fun cdv A outer s H E I p hr => ?_)
  obtain ⟨x_law_row, x_law_way, ⟨⟩⟩ := p
  refine MB.eq (mb_iftP (mt_w (mw_andP (mt_cm (MC.p1 (mc_isN (ME.p1 (me_tix 3 (me_var 0) t4_3))))) (mw_and1 (mt_cm (MC.p1 (MC.p1 (mc_eq (α := Int) hr.units (Nat.le_of_ble_eq_true rfl) (ME.p1 (me_modC (n := 2) (by decide) (me_var 1) me_int)) me_int))))))) (mb_retT (me_frzO (fun _ => (z_Line _)) (me_make (or := fun r => o_Line K mg r) (ok_Line_init T) hr (by decide) T.mk_Line T.m_Line T.b_Line_init_4 T.v_Line_init_4 (MA.p1 (ma_cons (args := fun p : Int × Int × (Option Int) × Unit => [.im (Py.r (Gb.mk K mg) p.1), .im (Py.r (Gb.mk K mg) p.2.1), .im (Py.r (Gb.mk K mg) p.2.2.1)]) (ME.p1 (me_tix 0 (me_var 0) t4_0)) co_im (fun _ => (MA.p1 (ma_cons (args := fun p : Int × (Option Int) × Unit => [.im (Py.r (Gb.mk K mg) p.1), .im (Py.r (Gb.mk K mg) p.2.1)]) (ME.p1 (me_tix 1 (me_var 0) t4_1)) co_im (fun _ => (MA.p1 (ma_cons (args := fun p : (Option Int) × Unit => [.im (Py.r (Gb.mk K mg) p.1)]) (ME.p1 (me_tix 2 (me_var 0) t4_2)) co_im (fun _ => (MA.eqm (ma_dfl ((none : (Option Int)), ()) (fun _ _ => .cons rfl (.nil))) rfl))))))))))))) (mb_iftP (mt_cm (MC.p1 (MC.p1 (mc_eq (α := Int) hr.units (Nat.le_of_ble_eq_true rfl) (ME.p1 (me_modC (n := 3) (by decide) (me_var 1) me_int)) me_int)))) (mb_retT (me_frzO (fun _ => (z_Line _)) (ME.eq (m' := (some (M.Line_init x_law_row.x0 x_law_row.x1 x_law_row.x2 x_law_row.x3))) (me_makeK (or := fun r => o_Line K mg r) (fun p : Int × Int × Int × (Option Int) × Unit => (p.1, p.2.1, p.2.2.1, p.2.2.2.1, ())) (fun vs zs => vs ++ ((zs.drop 0).take 1)) (ok_Line_init T) hr (by decide) T.mk_Line T.m_Line T.kb_Line_init_4_special (mx_cons (args := fun p : Int × Int × (Option Int) × Unit => [.im (Py.r (Gb.mk K mg) p.1), .im (Py.r (Gb.mk K mg) p.2.1), .im (Py.r (Gb.mk K mg) p.2.2.1)]) (ME.p1 (me_tix 0 (me_var 0) t4_0)) co_im (fun _ => (mx_cons (args := fun p : Int × (Option Int) × Unit => [.im (Py.r (Gb.mk K mg) p.1), .im (Py.r (Gb.mk K mg) p.2.1)]) (ME.p1 (me_tix 1 (me_var 0) t4_1)) co_im (fun _ => (mx_cons (args := fun p : (Option Int) × Unit => [.im (Py.r (Gb.mk K mg) p.1)]) (ME.p1 (me_tix 2 (me_var 0) t4_2)) co_im (fun _ => (mx_kw (mk_cons (args := fun p : Unit => []) (ME.p1 (me_tix 3 (me_var 0) t4_3)) co_im (fun _ => mk_nil))))))))) hA_Line_init_4_special) rfl))) (mb_retT (me_frzO (fun _ => (z_Line _)) (me_make (or := fun r => o_Line K mg r) (ok_Line_init T) hr (by decide) T.mk_Line T.m_Line T.b_Line_init_5 .nil (MA.p1 (ma_cons (args := fun p : Int × Int × (Option Int) × Unit => [.im (Py.r (Gb.mk K mg) p.1), .im (Py.r (Gb.mk K mg) p.2.1), .im (Py.r (Gb.mk K mg) p.2.2.1)]) (ME.p1 (me_tix 0 (me_var 0) t4_0)) co_im (fun _ => (MA.p1 (ma_cons (args := fun p : Int × (Option Int) × Unit => [.im (Py.r (Gb.mk K mg) p.1), .im (Py.r (Gb.mk K mg) p.2.1)]) (ME.p1 (me_tix 1 (me_var 0) t4_1)) co_im (fun _ => (MA.p1 (ma_cons (args := fun p : (Option Int) × Unit => [.im (Py.r (Gb.mk K mg) p.1)]) (ME.p1 (me_tix 2 (me_var 0) t4_2)) co_im (fun _ => (MA.p1 (ma_cons (args := fun p : Unit => []) (ME.p1 (me_tix 3 (me_var 0) t4_3)) co_im (fun _ => ma_nl))))))))))))))) hk_t) hk_t) ?_
  delta M.law_line
  rfl
theorem ok_Basket_init (T : Tx K mg) : FnOk P w K mg base CX0 1 T.f_Basket_init T.d_Basket_init ["self", "lines", "carriage", "member"] (spIO (Gb.mk K mg) (fun p : (List LineD) × Int × Bool × Unit => .ow (oC (wI (Gb.mk K mg) "Basket" []) []) :: [.bw (rl (Gb.mk K mg) p.1), .im (Py.r (Gb.mk K mg) p.2.1), .im (Py.r (Gb.mk K mg) p.2.2.1)]) (fun p => some (M.Basket_init p.1 p.2.1 p.2.2.1)) (fun _ => .im (Py.r (Gb.mk K mg) ())) (fun r : BasketD => [(0, (o_Basket K mg r))])) := by
  refine fiu_mk T.F_Basket_init sc_Basket_init (fun _ => rfl) (by decide) (fun _ p hp => by rw [List.mem_singleton.mp hp]; exact Nat.succ_pos _) (fun cdv A outer s H E I R u p hr => ?_)
  obtain ⟨x_lines, x_carriage, x_member, ⟨⟩⟩ := p
  refine MB.eq (MB.p1 (MB.p1 (mb_fldN (ME.p1 (me_list T.g_list (me_bor 1))) (mp_pin 0 (v0 := u 0) (o1 := (oC (wI (Gb.mk K mg) "Basket" []) []))) ⟨_, T.m_Basket, T.cl_Basket, T.n_Basket_lines⟩ (fun _ x_self_lines => MB.p1 (MB.p1 (mb_fldN (me_var 2) (mp_pin 0 (v0 := u 0) (o1 := (oC (wI (Gb.mk K mg) "Basket" ["lines"]) [(oF (rl (Gb.mk K mg) (x_self_lines : (List LineD))))]))) ⟨_, T.m_Basket, T.cl_Basket, T.n_Basket_carriage⟩ (fun _ x_self_carriage => MB.p1 (MB.p1 (mb_fldN (me_var 3) (mp_pin 0 (v0 := u 0) (o1 := (oC (wI (Gb.mk K mg) "Basket" ["lines", "carriage"]) [(oF (rl (Gb.mk K mg) (x_self_lines : (List LineD)))), (oI (Py.r (Gb.mk K mg) (x_self_carriage : Int)))]))) ⟨_, T.m_Basket, T.cl_Basket, T.n_Basket_member⟩ (fun _ x_self_member => mb_endU (b := (BasketD.mk x_self_lines x_self_carriage x_self_member)) (.cons rfl .nil))))))))))) ?_
  delta M.Basket_init
  rfl
theorem ok_law_basket (T : Tx K mg) : FnOk P w K mg base CX0 3 T.f_law_basket T.d_law_basket ["_law_lines", "_law_carriage", "_law_joined", "_law_way"] (spT (Gb.mk K mg) (fun p : (List LineD) × Int × Bool × Int × Unit => [.bw (rl (Gb.mk K mg) p.1), .im (Py.r (Gb.mk K mg) p.2.1), .im (Py.r (Gb.mk K mg) p.2.2.1), .im (Py.r (Gb.mk K mg) p.2.2.2.1)]) (fun p => some (M.law_basket p.1 p.2.1 p.2.2.1 p.2.2.2.1)) (fun r => .im (Py.r (Gb.mk K mg) (r : BasketD)))) := by
  refine fnx_mk T.F_law_basket sc_law_basket (fun _ => rfl) (fun _ => rfl) (by decide) (fun cdv A outer s H E I p hr => ?_)
  obtain ⟨x_law_lines, x_law_carriage, x_law_joined, x_law_way, ⟨⟩⟩ := p
  refine MB.eq (mb_iftP (mt_w (mw_andP (mt_cm (MC.p1 (MC.p1 (mc_eq (α := Int) hr.units (Nat.le_of_ble_eq_true rfl) (me_var 1) me_int)))) (mw_andP (MT.p1 (mt_not (mt_val (me_var 2)))) (mw_and1 (mt_cm (MC.p1 (MC.p1 (mc_eq (α := Int) hr.units (Nat.le_of_ble_eq_true rfl) (ME.p1 (me_modC (n := 2) (by decide) (me_var 3) me_int)) me_int)))))))) (mb_retT (me_frzO (fun _ => (z_Basket _)) (me_make (or := fun r => o_Basket K mg r) (ok_Basket_init T) hr (by decide) T.mk_Basket T.m_Basket T.b_Basket_init_2 T.v_Basket_init_2 (MA.p1 (ma_cons (args := fun p : Int × Bool × Unit => [.im (Py.r (Gb.mk K mg) p.1), .im (Py.r (Gb.mk K mg) p.2.1)]) (me_bor 0) (co_bw lr_rd) (fun _ => (MA.eqm (ma_dfl (((0 : Int) : Int), (false : Bool), ()) (fun _ _ => .cons rfl (.cons rfl (.nil)))) rfl))))))) (mb_iftP (mt_w (mw_andP (MT.p1 (mt_not (mt_val (me_var 2)))) (mw_and1 (mt_cm (MC.p1 (MC.p1 (mc_eq (α := Int) hr.units (Nat.le_of_ble_eq_true rfl) (ME.p1 (me_modC (n := 3) (by decide) (me_var 3) me_int)) me_int))))))) (mb_retT (me_frzO (fun _ => (z_Basket _)) (me_make (or := fun r => o_Basket K mg r) (ok_Basket_init T) hr (by decide) T.mk_Basket T.m_Basket T.b_Basket_init_3 T.v_Basket_init_3 (MA.p1 (ma_cons (args := fun p : Int × Bool × Unit => [.im (Py.r (Gb.mk K mg) p.1), .im (Py.r (Gb.mk K mg) p.2.1)]) (me_bor 0) (co_bw lr_rd) (fun _ => (MA.p1 (ma_cons (args := fun p : Bool × Unit => [.im (Py.r (Gb.mk K mg) p.1)]) (me_var 1) co_im (fun _ => (MA.eqm (ma_dfl ((false : Bool), ()) (fun _ _ => .cons rfl (.nil))) rfl)))))))))) (mb_iftP (mt_w (mw_andP (mt_cm (MC.p1 (MC.p1 (mc_eq (α := Int) hr.units (Nat.le_of_ble_eq_true rfl) (me_var 1) me_int)))) (mw_and1 (mt_cm (MC.p1 (MC.p1 (mc_eq (α := Int) hr.units (Nat.le_of_ble_eq_true rfl) (ME.p1 (me_modC (n := 5) (by decide) (me_var 3) me_int)) me_int))))))) (mb_retT (me_frzO (fun _ => (z_Basket _)) (ME.eq (m' := (some (M.Basket_init x_law_lines ((0 : Int) : Int) x_law_joined))) (me_makeK (or := fun r => o_Basket K mg r) (fun p : (List LineD) × Bool × Unit => (p.1, ((0 : Int) : Int), p.2.1, ())) (fun vs zs => vs ++ ((([.int 0, .bl false] : List V).drop 0).take 1) ++ ((zs.drop 0).take 1)) (ok_Basket_init T) hr (by decide) T.mk_Basket T.m_Basket T.kb_Basket_init_2_member (mx_cons (args := fun p : Bool × Unit => [.im (Py.r (Gb.mk K mg) p.1)]) (me_bor 0) (co_bw lr_rd) (fun _ => (mx_kw (mk_cons (args := fun p : Unit => []) (me_var 2) co_im (fun _ => mk_nil))))) hA_Basket_init_2_member) rfl))) (mb_retT (me_frzO (fun _ => (z_Basket _)) (me_make (or := fun r => o_Basket K mg r) (ok_Basket_init T) hr (by decide) T.mk_Basket T.m_Basket T.b_Basket_init_4 .nil (MA.p1 (ma_cons (args := fun p : Int × Bool × Unit => [.im (Py.r (Gb.mk K mg) p.1), .im (Py.r (Gb.mk K mg) p.2.1)]) (me_bor 0) (co_bw lr_rd) (fun _ => (MA.p1 (ma_cons (args := fun p : Bool × Unit => [.im (Py.r (Gb.mk K mg) p.1)]) (me_var 1) co_im (fun _ => (MA.p1 (ma_cons (args := fun p : Unit => []) (me_var 2) co_im (fun _ => ma_nl)))))))))))) hk_t) hk_t) hk_t) ?_
  delta M.law_basket
  rfl
theorem ok_law_number_is (T : Tx K mg) : FnOk P w K mg base CX0 1 T.f_law_number_is T.d_law_number_is ["_law_found", "_law_due"] (spT (Gb.mk K mg) (fun p : Int × Int × Unit => [.im (Py.r (Gb.mk K mg) p.1), .im (Py.r (Gb.mk K mg) p.2.1)]) (fun p => some (M.law_number_is p.1 p.2.1)) (fun r => .im (Py.r (Gb.mk K mg) (r : Bool)))) := by
  refine fnx_mk T.F_law_number_is sc_law_number_is (fun _ => rfl) (fun _ => rfl) (by decide) (fun cdv A outer s H E I p hr => ?_)
  obtain ⟨x_law_found, x_law_due, ⟨⟩⟩ := p
  refine MB.eq (mb_retT (me_andP (ME.p1 (me_isiG (Ty := "int") (bf := (fun _ => true)) T.g_isinstance T.g_int (me_var 0) (tg_of (t := "int") tr_im) (fun _ => kit_ty (a := "int") (b := "int") (r := true) (by decide +kernel)) (by decide +kernel))) (me_andP (ME.p1 (me_not (ME.p1 (me_isiG (Ty := "bool") (bf := (fun _ => false)) T.g_isinstance T.g_bool (me_var 0) (tg_of (t := "int") tr_im) (fun _ => kit_ty (a := "int") (b := "bool") (r := false) (by decide +kernel)) (by decide +kernel))))) (me_one (me_cm (MC.p1 (MC.p1 (mc_eq (α := Int) hr.units (Nat.le_of_ble_eq_true rfl) (me_var 0) (me_var 1))))))))) ?_
  delta M.law_number_is
  rfl
theorem ok_law_number_is_1 (T : Tx K mg) : FnOk P w K mg base CX0 1 T.f_law_number_is T.d_law_number_is ["_law_found", "_law_due"] (spT (Gb.mk K mg) (fun p : (Option Int) × Int × Unit => [.im (Py.r (Gb.mk K mg) p.1), .im (Py.r (Gb.mk K mg) p.2.1)]) (fun p => some (M.law_number_is_1 p.1 p.2.1)) (fun r => .im (Py.r (Gb.mk K mg) (r : Bool)))) := by
  refine fnx_mk T.F_law_number_is sc_law_number_is (fun _ => rfl) (fun _ => rfl) (by decide) (fun cdv A outer s H E I p hr => ?_)
  obtain ⟨x_law_found, x_law_due, ⟨⟩⟩ := p
  refine MB.eq (mb_retT (me_andP (ME.p1 (me_isiG (Ty := "int") (bf := (fun a => a.isSome && true)) T.g_isinstance T.g_int (me_var 0) tg_opt (kit_opt (t := "int") (Ty := "int") (b := true) (by decide +kernel) (by decide +kernel)) (by decide +kernel))) (me_andP (ME.p1 (me_not (ME.p1 (me_isiG (Ty := "bool") (bf := (fun a => a.isSome && false)) T.g_isinstance T.g_bool (me_var 0) tg_opt (kit_opt (t := "int") (Ty := "bool") (b := false) (by decide +kernel) (by decide +kernel)) (by decide +kernel))))) (me_one (me_cm (MC.p1 (MC.p1 (mc_eq (α := (Option Int)) hr.units (Nat.le_of_ble_eq_true rfl) (me_var 0) (ME.p1 (me_some (me_var 1))))))))))) ?_
  delta M.law_number_is_1
  rfl
theorem ok_law_line_is (T : Tx K mg) : FnOk P w K mg base CX0 2 T.f_law_line_is T.d_law_line_is ["_law_line_here", "_law_row"] (spT (Gb.mk K mg) (fun p : LineD × (T4 Int Int Int (Option Int)) × Unit => [.im (Py.r (Gb.mk K mg) p.1), .im (Py.r (Gb.mk K mg) p.2.1)]) (fun p => M.law_line_is p.1 p.2.1) (fun r => .im (Py.r (Gb.mk K mg) (r : Bool)))) := by
  refine fnx_mk T.F_law_line_is sc_law_line_is (fun _ => rfl) (fun _ => rfl) (by decide) (fun cdv A outer s H E I p hr => ?_)
  obtain ⟨x_law_line_here, x_law_row, ⟨⟩⟩ := p
  refine MB.eq (MB.p1 (mb_ift (mt_w (mw_orP (MT.p1 (mt_not (mt_val (ME.p1 (me_isiC T.g_isinstance (me_var 0) T.m_Line T.ic_Line (fun d I v h => rIns_at T.m_Line I v h)))))) (mw_or1 (MT.p1 (mt_not (mt_val (me_call (ok_law_number_is T) hr (by decide) T.m_law_number_is T.k_law_number_is T.b_law_number_is_2 .nil (MA.p1 (ma_cons (args := fun p : Int × Unit => [.im (Py.r (Gb.mk K mg) p.1)]) (ME.p1 (me_fld (pr := LineD.f_kind) (me_var 0) (fun d I v h => rIns_fld 0 ⟨_, T.m_Line, T.cl_Line, T.n_Line_kind⟩ h))) co_im (fun _ => (MA.p1 (ma_cons (args := fun p : Unit => []) (ME.p1 (me_tix 0 (me_var 1) t4_0)) co_im (fun _ => ma_nl))))))))))))) (mb_retT me_bl) (MB.p1 (mb_ift (mt_w (mw_orP (MT.p1 (mt_not (mt_val (me_call (ok_law_number_is T) hr (by decide) T.m_law_number_is T.k_law_number_is T.b_law_number_is_2 .nil (MA.p1 (ma_cons (args := fun p : Int × Unit => [.im (Py.r (Gb.mk K mg) p.1)]) (ME.p1 (me_fld (pr := LineD.f_price) (me_var 0) (fun d I v h => rIns_fld 1 ⟨_, T.m_Line, T.cl_Line, T.n_Line_price⟩ h))) co_im (fun _ => (MA.p1 (ma_cons (args := fun p : Unit => []) (ME.p1 (me_tix 1 (me_var 1) t4_1)) co_im (fun _ => ma_nl)))))))))) (mw_or1 (MT.p1 (mt_not (mt_val (me_call (ok_law_number_is T) hr (by decide) T.m_law_number_is T.k_law_number_is T.b_law_number_is_2 .nil (MA.p1 (ma_cons (args := fun p : Int × Unit => [.im (Py.r (Gb.mk K mg) p.1)]) (ME.p1 (me_fld (pr := LineD.f_many) (me_var 0) (fun d I v h => rIns_fld 2 ⟨_, T.m_Line, T.cl_Line, T.n_Line_many⟩ h))) co_im (fun _ => (MA.p1 (ma_cons (args := fun p : Unit => []) (ME.p1 (me_tix 2 (me_var 1) t4_2)) co_im (fun _ => ma_nl))))))))))))) (mb_retT me_bl) (MB.p1 (mb_ift (mt_cm (MC.p1 (mc_isN (ME.p1 (me_tix 3 (me_var 1) t4_3))))) (mb_retT (me_cm (MC.p1 (mc_isN (ME.p1 (me_fld (pr := LineD.f_special) (me_var 0) (fun d I v h => rIns_fld 3 ⟨_, T.m_Line, T.cl_Line, T.n_Line_special⟩ h))))))) (mb_retT (me_call (ok_law_number_is_1 T) hr (by decide) T.m_law_number_is T.k_law_number_is T.b_law_number_is_2 .nil (MA.p1 (ma_cons (args := fun p : Int × Unit => [.im (Py.r (Gb.mk K mg) p.1)]) (ME.p1 (me_fld (pr := LineD.f_special) (me_var 0) (fun d I v h => rIns_fld 3 ⟨_, T.m_Line, T.cl_Line, T.n_Line_special⟩ h))) co_im (fun _ => (ma_cons (args := fun p : Unit => []) (ME.p1 (me_get (ME.p1 (me_tix 3 (me_var 1) t4_3)))) co_im (fun _ => ma_nl))))))) hk_t)) hk_t)) hk_t)) ?_
  delta M.law_line_is
  rfl
theorem ok_law_is (T : Tx K mg) : FnOk P w K mg base CX0 3 T.f_law_is T.d_law_is ["_law_basket_here", "_law_lines", "_law_rows_here", "_law_carriage", "_law_joined"] (spT (Gb.mk K mg) (fun p : BasketD × (List LineD) × (List (T4 Int Int Int (Option Int))) × Int × Bool × Unit => [.im (Py.r (Gb.mk K mg) p.1), .bw (rl (Gb.mk K mg) p.2.1), .bw (rl (Gb.mk K mg) p.2.2.1), .im (Py.r (Gb.mk K mg) p.2.2.2.1), .im (Py.r (Gb.mk K mg) p.2.2.2.2.1)]) (fun p => M.law_is p.1 p.2.1 p.2.2.1 p.2.2.2.1 p.2.2.2.2.1) (fun r => .im (Py.r (Gb.mk K mg) (r : Bool)))) := by
  refine fnx_mk T.F_law_is sc_law_is (fun _ => rfl) (fun _ => rfl) (by decide) (fun cdv A outer s H E I p hr => ?_)
  obtain ⟨x_law_basket_here, x_law_lines, x_law_rows_here, x_law_carriage, x_law_joined, ⟨⟩⟩ := p
  refine MB.eq (MB.p1 (mb_ift (mt_w (mw_orP (MT.p1 (mt_not (mt_val (ME.p1 (me_isiC T.g_isinstance (me_var 0) T.m_Basket T.ic_Basket (fun d I v h => rIns_at T.m_Basket I v h)))))) (mw_orP (MT.p1 (mt_not (mt_val (ME.p1 (me_isiG (Ty := "list") (bf := (fun _ => true)) T.g_isinstance T.g_list (ME.p1 (me_fld (pr := BasketD.f_lines) (me_var 0) (fun d I v h => rIns_fld 0 ⟨_, T.m_Basket, T.cl_Basket, T.n_Basket_lines⟩ h))) (tg_of (t := "list") (tr_lr lr_im)) (fun _ => kit_ty (a := "list") (b := "list") (r := true) (by decide +kernel)) (by decide +kernel)))))) (mw_or1 (mt_cm (MC.p1 (MC.p1 (mc_ne (α := Int) hr.units (Nat.le_of_ble_eq_true rfl) (ME.p1 (me_len T.g_len (ME.p1 (me_fld (pr := BasketD.f_lines) (me_var 0) (fun d I v h => rIns_fld 0 ⟨_, T.m_Basket, T.cl_Basket, T.n_Basket_lines⟩ h))))) (ME.p1 (me_len T.g_len (me_bor 1))))))))))) (mb_retT me_bl) (mb_forT (S' := (fun z2 : Unit => [some (.im (Py.r (Gb.mk K mg) (x_law_basket_here : BasketD))), some (.bw (rl (Gb.mk K mg) (x_law_lines : (List LineD)))), some (.bw (rl (Gb.mk K mg) (x_law_rows_here : (List (T4 Int Int Int (Option Int)))))), some (.im (Py.r (Gb.mk K mg) (x_law_carriage : Int))), some (.im (Py.r (Gb.mk K mg) (x_law_joined : Bool))), none, none, none])) (s0 := ()) (MI.p1 (MI.p1 (MI.p1 (mi_zip3 T.g_zip (ms_im (ME.p1 (me_fld (pr := BasketD.f_lines) (me_var 0) (fun d I v h => rIns_fld 0 ⟨_, T.m_Basket, T.cl_Basket, T.n_Basket_lines⟩ h)))) (ms_bw 1) (ms_bw 2))))) (mg_t3 5 6 7 sc_law_is.nd) (.keep (.keep (.keep (.keep (.keep (.keep (.keep (.keep .nil)))))))) (fun _ (z2 : Unit) (it3 : (T3 LineD LineD (T4 Int Int Int (Option Int)))) => mb_ift (mt_w (mw_or (mt_not (mt_val (me_call (ok_law_line_is T) hr (by decide) T.m_law_line_is T.k_law_line_is T.b_law_line_is_2 .nil (MA.p1 (ma_cons (args := fun p : (T4 Int Int Int (Option Int)) × Unit => [.im (Py.r (Gb.mk K mg) p.1)]) (me_var 5) co_im (fun _ => (MA.p1 (ma_cons (args := fun p : Unit => []) (me_var 7) co_im (fun _ => ma_nl))))))))) (mw_or1 (mt_not (mt_val (me_call (ok_law_line_is T) hr (by decide) T.m_law_line_is T.k_law_line_is T.b_law_line_is_2 .nil (MA.p1 (ma_cons (args := fun p : (T4 Int Int Int (Option Int)) × Unit => [.im (Py.r (Gb.mk K mg) p.1)]) (me_var 6) co_im (fun _ => (MA.p1 (ma_cons (args := fun p : Unit => []) (me_var 7) co_im (fun _ => ma_nl)))))))))))) (MB.p1 (mb_ret kr_c me_bl)) (mb_nil (b := ()) kx_c (.keep (.keep (.keep (.keep (.keep (.drop (.drop (.drop .nil))))))))) (hk_c (by repeat (first | exact nn_rt | exact nn_ct | exact nn_bk | refine nn_ite ?_ ?_ | refine nn_bind fun _ => ?_)))) (fun (z8 : Unit) => mb_iftP (MT.p1 (mt_not (mt_val (me_call (ok_law_number_is T) hr (by decide) T.m_law_number_is T.k_law_number_is T.b_law_number_is_2 .nil (MA.p1 (ma_cons (args := fun p : Int × Unit => [.im (Py.r (Gb.mk K mg) p.1)]) (ME.p1 (me_fld (pr := BasketD.f_carriage) (me_var 0) (fun d I v h => rIns_fld 1 ⟨_, T.m_Basket, T.cl_Basket, T.n_Basket_carriage⟩ h))) co_im (fun _ => (MA.p1 (ma_cons (args := fun p : Unit => []) (me_var 3) co_im (fun _ => ma_nl)))))))))) (mb_retT me_bl) (mb_retT (me_andP (ME.p1 (me_isiG (Ty := "bool") (bf := (fun _ => true)) T.g_isinstance T.g_bool (ME.p1 (me_fld (pr := BasketD.f_member) (me_var 0) (fun d I v h => rIns_fld 2 ⟨_, T.m_Basket, T.cl_Basket, T.n_Basket_member⟩ h))) (tg_of (t := "bool") tr_im) (fun _ => kit_ty (a := "bool") (b := "bool") (r := true) (by decide +kernel)) (by decide +kernel))) (me_one (me_cm (MC.p1 (MC.p1 (mc_eq (α := Bool) hr.units (Nat.le_of_ble_eq_true rfl) (ME.p1 (me_fld (pr := BasketD.f_member) (me_var 0) (fun d I v h => rIns_fld 2 ⟨_, T.m_Basket, T.cl_Basket, T.n_Basket_member⟩ h))) (me_var 4)))))))) hk_t)) hk_t)) ?_
  delta M.law_is
  rfl
theorem ok_law (T : Tx K mg) : FnOk P w K mg base CX0 5 T.f_law T.d_law ["_law_script"] (spT (Gb.mk K mg) (fun p : (List Int) × Unit => [.bw (rl (Gb.mk K mg) p.1)]) (fun p => M.law p.1) (fun r => .im (Py.r (Gb.mk K mg) (r : Bool)))) := by
  refine fnx_mk T.F_law sc_law (fun _ => rfl) (fun _ => rfl) (by decide) (fun cdv A outer s H E I p hr => ?_)
  obtain ⟨x_law_script, ⟨⟩⟩ := p
  refine MB.eq (mb_forT (S' := (fun z1 : Unit => [some (.bw (rl (Gb.mk K mg) (x_law_script : (List Int)))), none, none, none, none, none, none, none, none, none, none, none, none])) (s0 := ()) (MI.p1 (mi_rng1 T.g_range (ME.p1 (ME.p1 (me_add (ME.p1 (me_len T.g_len (me_bor 0))) me_int))))) (mg_name 1 sc_law.nd) (.keep (.keep (.keep (.keep (.keep (.keep (.keep (.keep (.keep (.keep (.keep (.keep (.keep .nil))))))))))))) (fun _ (z1 : Unit) (x_law_k : Int) => mb_set 2 sc_law.nd (me_call (ok_law_rows T) hr (by decide) T.m_law_rows T.k_law_rows T.b_law_rows_2 .nil (MA.p1 (ma_cons (args := fun p : Int × Unit => [.im (Py.r (Gb.mk K mg) p.1)]) (me_bor 0) (co_bw lr_rd) (fun _ => (MA.p1 (ma_cons (args := fun p : Unit => []) (me_var 1) co_im (fun _ => ma_nl))))))) (fun x_law_rows_here => mb_set 3 sc_law.nd (me_call (ok_law_some T) hr (by decide) T.m_law_some T.k_law_some T.b_law_some_4 .nil (MA.p1 (ma_cons (args := fun p : Int × Int × Int × Unit => [.im (Py.r (Gb.mk K mg) p.1), .im (Py.r (Gb.mk K mg) p.2.1), .im (Py.r (Gb.mk K mg) p.2.2.1)]) (me_bor 0) (co_bw lr_rd) (fun _ => (MA.p1 (ma_cons (args := fun p : Int × Int × Unit => [.im (Py.r (Gb.mk K mg) p.1), .im (Py.r (Gb.mk K mg) p.2.1)]) (me_var 1) co_im (fun _ => (MA.p1 (ma_cons (args := fun p : Int × Unit => [.im (Py.r (Gb.mk K mg) p.1)]) me_int co_im (fun _ => (MA.p1 (ma_cons (args := fun p : Unit => []) me_int co_im (fun _ => ma_nl))))))))))))) (fun x_law_way => mb_frz 2 rfl (mb_eqS (S' := [some (.bw (rl (Gb.mk K mg) (x_law_script : (List Int)))), some (.im (Py.r (Gb.mk K mg) (x_law_k : Int))), some (.im (Py.r (Gb.mk K mg) (x_law_rows_here : (List (T4 Int Int Int (Option Int)))))), some (.im (Py.r (Gb.mk K mg) (x_law_way : Int))), none, none, none, none, none, none, none, none, none]) rfl (MB.p1 (mb_setLcP 4 (α := (T2 Int (T4 Int Int Int (Option Int)))) (own := [("_law_j", 11), ("_law_row", 12)]) sc_law.nd  rfl (sw_true rfl rfl rfl (by decide +kernel)) (MI.p1 (mi_enum T.g_enumerate (ms_im (me_var 2)))) (by first | (show blkC ["_law_script", "_law_k", "_law_rows_here", "_law_way", "_law_lines", "_law_pieces", "_law_carriage", "_law_joined", "_law_handed", "_law_basket_here", "_law_other", "_law_j", "_law_row"] (defScope s_law) _ _ = true; decide +kernel) | rfl) (by decide) (fun _ _ _ _ _ => (mg_t2 11 12 sc_law.nd)) (fun _ _ _ _ _ (it5 : (T2 Int (T4 Int Int Int (Option Int)))) => (me_call (ok_law_line T) hr (by decide) T.m_law_line T.k_law_line T.b_law_line_2 .nil (MA.p1 (ma_cons (args := fun p : Int × Unit => [.im (Py.r (Gb.mk K mg) p.1)]) (me_var 12) co_im (fun _ => (MA.p1 (ma_cons (args := fun p : Unit => []) (ME.p1 (ME.p1 (me_add (me_var 3) (me_var 11)))) co_im (fun _ => ma_nl)))))))) (fun x_law_lines => mb_set 5 sc_law.nd (me_sum T.g_sum (me_lcP (α := (T4 Int Int Int (Option Int))) (own := [("_law_row", 12)]) sc_law.nd (mi_lst (ms_im (me_frz (ME.p1 (ME.p1 (me_cat (me_var 2) (ME.p1 (ME.p1 (ME.p1 (me_cut (me_var 2) mo_none (MO.p1 (mo_some me_int)))))))))))) (by first | (show blkC ["_law_script", "_law_k", "_law_rows_here", "_law_way", "_law_lines", "_law_pieces", "_law_carriage", "_law_joined", "_law_handed", "_law_basket_here", "_law_other", "_law_j", "_law_row"] (defScope s_law) _ _ = true; decide +kernel) | rfl) (by decide) (fun _ _ _ _ _ => (mg_name 12 sc_law.nd)) (fun _ _ _ _ _ (x_law_row : (T4 Int Int Int (Option Int))) => (ME.p1 (me_tix 2 (me_var 12) t4_2))))) (fun x_law_pieces => MB.p1 (mb_if (S' := (fun z10 : ((List LineD) × (List (T4 Int Int Int (Option Int)))) => [some (.bw (rl (Gb.mk K mg) (x_law_script : (List Int)))), some (.im (Py.r (Gb.mk K mg) (x_law_k : Int))), some (.im (Py.r (Gb.mk K mg) (z10.2 : (List (T4 Int Int Int (Option Int)))))), some (.im (Py.r (Gb.mk K mg) (x_law_way : Int))), some (.fr (rl (Gb.mk K mg) (z10.1 : (List LineD)))), some (.im (Py.r (Gb.mk K mg) (x_law_pieces : Int))), none, none, none, none, none, none, none])) (mt_w (mw_andP (mt_cm (MC.p1 (MC.p1 (mc_eq (α := Int) hr.units (Nat.le_of_ble_eq_true rfl) (ME.p1 (me_modC (n := 4) (by decide) (me_var 3) me_int)) me_int)))) (mw_andP (mt_cm (MC.p1 (MC.p1 (mc_gt (ME.p1 (me_len T.g_len (me_var 2))) me_int)))) (mw_andP (mt_cm (MC.p1 (MC.p1 (mc_lt (ME.p1 (me_len T.g_len (me_var 2))) me_int)))) (mw_and1 (mt_cm (MC.p1 (MC.p1 (mc_le (me_var 5) me_int))))))))) (mb_app 4 (ME.p1 (ME.p1 (me_ix (me_own 4) me_int))) (fun x_law_lines => mb_eqS (S' := [some (.bw (rl (Gb.mk K mg) (x_law_script : (List Int)))), some (.im (Py.r (Gb.mk K mg) (x_law_k : Int))), some (.im (Py.r (Gb.mk K mg) (x_law_rows_here : (List (T4 Int Int Int (Option Int)))))), some (.im (Py.r (Gb.mk K mg) (x_law_way : Int))), some (.fr (rl (Gb.mk K mg) (x_law_lines : (List LineD)))), some (.im (Py.r (Gb.mk K mg) (x_law_pieces : Int))), none, none, none, none, none, none, none]) rfl (mb_set 2 sc_law.nd (ME.p1 (ME.p1 (me_cat (me_var 2) (ME.p1 (ME.p1 (ME.p1 (me_cut (me_var 2) mo_none (MO.p1 (mo_some me_int))))))))) (fun x_law_rows_here => mb_frz 2 rfl (mb_nil (b := (x_law_lines, x_law_rows_here)) kx_n (.keep (.keep (.keep (.keep (.keep (.keep (.keep (.keep (.keep (.keep (.keep (.keep (.keep .nil)))))))))))))))))) (mb_nil (b := (x_law_lines, x_law_rows_here)) kx_n (.keep (.keep (.keep (.keep (.keep (.keep (.keep (.keep (.keep (.keep (.keep (.keep (.keep .nil)))))))))))))) (fun (z10 : ((List LineD) × (List (T4 Int Int Int (Option Int))))) => mb_set 6 sc_law.nd (ME.p2 (me_mul (me_call (ok_law_coin T) hr (by decide) T.m_law_coin T.k_law_coin T.b_law_coin_3 .nil (MA.p1 (ma_cons (args := fun p : Int × Int × Unit => [.im (Py.r (Gb.mk K mg) p.1), .im (Py.r (Gb.mk K mg) p.2.1)]) (me_bor 0) (co_bw lr_rd) (fun _ => (MA.p1 (ma_cons (args := fun p : Int × Unit => [.im (Py.r (Gb.mk K mg) p.1)]) (me_var 1) co_im (fun _ => (MA.p1 (ma_cons (args := fun p : Unit => []) me_int co_im (fun _ => ma_nl)))))))))) (ME.p1 (me_intB T.g_int (me_cm (MC.p1 (MC.p1 (mc_gt (ME.p1 (me_modC (n := 3) (by decide) (me_var 3) me_int)) me_int)))))))) (fun x_law_carriage => mb_set 7 sc_law.nd (me_cm (MC.p2 (mc_eq (α := Int) hr.units (Nat.le_of_ble_eq_true rfl) (me_call (ok_law_some T) hr (by decide) T.m_law_some T.k_law_some T.b_law_some_4 .nil (MA.p1 (ma_cons (args := fun p : Int × Int × Int × Unit => [.im (Py.r (Gb.mk K mg) p.1), .im (Py.r (Gb.mk K mg) p.2.1), .im (Py.r (Gb.mk K mg) p.2.2.1)]) (me_bor 0) (co_bw lr_rd) (fun _ => (MA.p1 (ma_cons (args := fun p : Int × Int × Unit => [.im (Py.r (Gb.mk K mg) p.1), .im (Py.r (Gb.mk K mg) p.2.1)]) (me_var 1) co_im (fun _ => (MA.p1 (ma_cons (args := fun p : Int × Unit => [.im (Py.r (Gb.mk K mg) p.1)]) me_int co_im (fun _ => (MA.p1 (ma_cons (args := fun p : Unit => []) me_int co_im (fun _ => ma_nl))))))))))))) me_int))) (fun x_law_joined => mb_frz 4 rfl (mb_vl 4 rfl (fun vs2 => mb_setV (a := (z10.1 : (List LineD))) 8 sc_law.nd (me_listV T.g_list (me_varV 4)) (mb_eqS (S' := [some (.bw (rl (Gb.mk K mg) (x_law_script : (List Int)))), some (.im (Py.r (Gb.mk K mg) (x_law_k : Int))), some (.im (Py.r (Gb.mk K mg) (z10.2 : (List (T4 Int Int Int (Option Int)))))), some (.im (Py.r (Gb.mk K mg) (x_law_way : Int))), some (.im (vlP (Gb.mk K mg) vs2 (z10.1 : (List LineD)))), some (.im (Py.r (Gb.mk K mg) (x_law_pieces : Int))), some (.im (Py.r (Gb.mk K mg) (x_law_carriage : Int))), some (.im (Py.r (Gb.mk K mg) (x_law_joined : Bool))), some (.fr (vlL (Gb.mk K mg) vs2 (z10.1 : (List LineD)))), none, none, none, none]) rfl (MB.p1 (mb_set 9 sc_law.nd (me_call (ok_law_basket T) hr (by decide) T.m_law_basket T.k_law_basket T.b_law_basket_4 .nil (MA.p1 (ma_cons (args := fun p : Int × Bool × Int × Unit => [.im (Py.r (Gb.mk K mg) p.1), .im (Py.r (Gb.mk K mg) p.2.1), .im (Py.r (Gb.mk K mg) p.2.2.1)]) (me_unvR (me_ownV 8)) (co_bw lr_rd) (fun _ => (MA.p1 (ma_cons (args := fun p : Bool × Int × Unit => [.im (Py.r (Gb.mk K mg) p.1), .im (Py.r (Gb.mk K mg) p.2.1)]) (me_var 6) co_im (fun _ => (MA.p1 (ma_cons (args := fun p : Int × Unit => [.im (Py.r (Gb.mk K mg) p.1)]) (me_var 7) co_im (fun _ => (MA.p1 (ma_cons (args := fun p : Unit => []) (me_var 3) co_im (fun _ => ma_nl))))))))))))) (fun x_law_basket_here => MB.p1 (mb_set 10 sc_law.nd (me_call (ok_law_basket T) hr (by decide) T.m_law_basket T.k_law_basket T.b_law_basket_4 .nil (MA.p1 (ma_cons (args := fun p : Int × Bool × Int × Unit => [.im (Py.r (Gb.mk K mg) p.1), .im (Py.r (Gb.mk K mg) p.2.1), .im (Py.r (Gb.mk K mg) p.2.2.1)]) (me_unvR (me_ownV 8)) (co_bw lr_rd) (fun _ => (MA.p1 (ma_cons (args := fun p : Bool × Int × Unit => [.im (Py.r (Gb.mk K mg) p.1), .im (Py.r (Gb.mk K mg) p.2.1)]) me_int co_im (fun _ => (MA.p1 (ma_cons (args := fun p : Int × Unit => [.im (Py.r (Gb.mk K mg) p.1)]) (ME.p1 (me_not (me_var 7))) co_im (fun _ => (MA.p1 (ma_cons (args := fun p : Unit => []) (ME.p1 (ME.p1 (me_add (me_var 3) me_int))) co_im (fun _ => ma_nl))))))))))))) (fun x_law_other => mb_ift (mt_w (MW.p1 (mw_or (mt_cm (mc_neS hr.units (me_ownV 8) (me_varV 4) (fun H1 H2 v w I H s h1 h2 => smt_vl vr_rd vr_im s h1 h2))) (mw_or1 (mt_not (mt_val (me_call (ok_law_is T) hr (by decide) T.m_law_is T.k_law_is T.b_law_is_5 .nil (MA.p1 (ma_cons (args := fun p : (List LineD) × (List (T4 Int Int Int (Option Int))) × Int × Bool × Unit => [.bw (rl (Gb.mk K mg) p.1), .bw (rl (Gb.mk K mg) p.2.1), .im (Py.r (Gb.mk K mg) p.2.2.1), .im (Py.r (Gb.mk K mg) p.2.2.2.1)]) (me_var 9) co_im (fun _ => (MA.p1 (ma_cons (args := fun p : (List (T4 Int Int Int (Option Int))) × Int × Bool × Unit => [.bw (rl (Gb.mk K mg) p.1), .im (Py.r (Gb.mk K mg) p.2.1), .im (Py.r (Gb.mk K mg) p.2.2.1)]) (me_unvI (me_varV 4)) (co_bw lr_im) (fun _ => (MA.p1 (ma_cons (args := fun p : Int × Bool × Unit => [.im (Py.r (Gb.mk K mg) p.1), .im (Py.r (Gb.mk K mg) p.2.1)]) (me_var 2) (co_bw lr_im) (fun _ => (MA.p1 (ma_cons (args := fun p : Bool × Unit => [.im (Py.r (Gb.mk K mg) p.1)]) (me_var 6) co_im (fun _ => (MA.p1 (ma_cons (args := fun p : Unit => []) (me_var 7) co_im (fun _ => ma_nl)))))))))))))))))))))) (MB.p1 (mb_ret kr_c me_bl)) (mb_unvl 4 rfl (mb_unvf 8 rfl (mb_eqS (S' := [some (.bw (rl (Gb.mk K mg) (x_law_script : (List Int)))), some (.im (Py.r (Gb.mk K mg) (x_law_k : Int))), some (.im (Py.r (Gb.mk K mg) (z10.2 : (List (T4 Int Int Int (Option Int)))))), some (.im (Py.r (Gb.mk K mg) (x_law_way : Int))), some (.im (Py.r (Gb.mk K mg) (z10.1 : (List LineD)))), some (.im (Py.r (Gb.mk K mg) (x_law_pieces : Int))), some (.im (Py.r (Gb.mk K mg) (x_law_carriage : Int))), some (.im (Py.r (Gb.mk K mg) (x_law_joined : Bool))), some (.fr (rl (Gb.mk K mg) (z10.1 : (List LineD)))), some (.im (Py.r (Gb.mk K mg) (x_law_basket_here : BasketD))), some (.im (Py.r (Gb.mk K mg) (x_law_other : BasketD))), none, none]) rfl (MB.p1 (mb_app 8 (me_frzO (fun _ => (z_Line _)) (me_make (or := fun r => o_Line K mg r) (ok_Line_init T) hr (by decide) T.mk_Line T.m_Line T.b_Line_init_4 T.v_Line_init_4 (MA.p1 (ma_cons (args := fun p : Int × Int × (Option Int) × Unit => [.im (Py.r (Gb.mk K mg) p.1), .im (Py.r (Gb.mk K mg) p.2.1), .im (Py.r (Gb.mk K mg) p.2.2.1)]) me_int co_im (fun _ => (MA.p1 (ma_cons (args := fun p : Int × (Option Int) × Unit => [.im (Py.r (Gb.mk K mg) p.1), .im (Py.r (Gb.mk K mg) p.2.1)]) me_int co_im (fun _ => (MA.p1 (ma_cons (args := fun p : (Option Int) × Unit => [.im (Py.r (Gb.mk K mg) p.1)]) me_int co_im (fun _ => (MA.eqm (ma_dfl ((none : (Option Int)), ()) (fun _ _ => .cons rfl (.nil))) rfl)))))))))))) (fun x_law_handed => MB.p1 (MB.p1 (mb_revP (mp_fr 8 (as := (x_law_handed : (List LineD)))) (fun _ x_law_handed => mb_unow 8 rfl (mb_ift (mt_w (mw_or (mt_not (mt_val (me_call (ok_law_is T) hr (by decide) T.m_law_is T.k_law_is T.b_law_is_5 .nil (MA.p1 (ma_cons (args := fun p : (List LineD) × (List (T4 Int Int Int (Option Int))) × Int × Bool × Unit => [.bw (rl (Gb.mk K mg) p.1), .bw (rl (Gb.mk K mg) p.2.1), .im (Py.r (Gb.mk K mg) p.2.2.1), .im (Py.r (Gb.mk K mg) p.2.2.2.1)]) (me_var 9) co_im (fun _ => (MA.p1 (ma_cons (args := fun p : (List (T4 Int Int Int (Option Int))) × Int × Bool × Unit => [.bw (rl (Gb.mk K mg) p.1), .im (Py.r (Gb.mk K mg) p.2.1), .im (Py.r (Gb.mk K mg) p.2.2.1)]) (me_var 4) (co_bw lr_im) (fun _ => (MA.p1 (ma_cons (args := fun p : Int × Bool × Unit => [.im (Py.r (Gb.mk K mg) p.1), .im (Py.r (Gb.mk K mg) p.2.1)]) (me_var 2) (co_bw lr_im) (fun _ => (MA.p1 (ma_cons (args := fun p : Bool × Unit => [.im (Py.r (Gb.mk K mg) p.1)]) (me_var 6) co_im (fun _ => (MA.p1 (ma_cons (args := fun p : Unit => []) (me_var 7) co_im (fun _ => ma_nl)))))))))))))))))) (mw_or1 (mt_not (mt_val (me_call (ok_law_is T) hr (by decide) T.m_law_is T.k_law_is T.b_law_is_5 .nil (MA.p1 (ma_cons (args := fun p : (List LineD) × (List (T4 Int Int Int (Option Int))) × Int × Bool × Unit => [.bw (rl (Gb.mk K mg) p.1), .bw (rl (Gb.mk K mg) p.2.1), .im (Py.r (Gb.mk K mg) p.2.2.1), .im (Py.r (Gb.mk K mg) p.2.2.2.1)]) (me_var 10) co_im (fun _ => (MA.p1 (ma_cons (args := fun p : (List (T4 Int Int Int (Option Int))) × Int × Bool × Unit => [.bw (rl (Gb.mk K mg) p.1), .im (Py.r (Gb.mk K mg) p.2.1), .im (Py.r (Gb.mk K mg) p.2.2.1)]) (me_var 4) (co_bw lr_im) (fun _ => (MA.p1 (ma_cons (args := fun p : Int × Bool × Unit => [.im (Py.r (Gb.mk K mg) p.1), .im (Py.r (Gb.mk K mg) p.2.1)]) (me_var 2) (co_bw lr_im) (fun _ => (MA.p1 (ma_cons (args := fun p : Bool × Unit => [.im (Py.r (Gb.mk K mg) p.1)]) me_int co_im (fun _ => (MA.p1 (ma_cons (args := fun p : Unit => []) (ME.p1 (me_not (me_var 7))) co_im (fun _ => ma_nl))))))))))))))))))))) (MB.p1 (mb_ret kr_c me_bl)) (mb_nil (b := ()) kx_c (.keep (.drop (.drop (.drop (.drop (.drop (.drop (.drop (.drop (.drop (.drop (.keep (.keep .nil)))))))))))))) (hk_c (by repeat (first | exact nn_rt | exact nn_ct | exact nn_bk | refine nn_ite ?_ ?_ | refine nn_bind fun _ => ?_))))))))))))) (hk_c (by repeat (first | exact nn_rt | exact nn_ct | exact nn_bk | refine nn_ite ?_ ?_ | refine nn_bind fun _ => ?_))))))))))))))))))))))) (fun (z22 : Unit) => mb_retT me_bl)) ?_
  delta M.law
  rfl
end
def lawsp (K : PySem.W.Frag) (mg : Str → Option Value) : Sp := spT (Gb.mk K mg) (fun p : (List Int) × Unit => [.bw (rl (Gb.mk K mg) p.1)]) (fun p => M.law p.1) (fun r => .im (Py.r (Gb.mk K mg) (r : Bool)))
theorem all_mk {l : PySem.W.OpenLaw} {w : World} {K : PySem.W.Frag} {h : Heap} {mg : Str → Option Value} {fa : Addr} (X : K.In h) (G : h.Ns mainGlobals mg) (hfa : mg "law" = some (.ref fa))
    {C_Line : Addr}
    {C_Basket : Addr}
    {f_law_cell_at : Addr}
    {f_law_some : Addr}
    {f_law_coin : Addr}
    {f_law_rows : Addr}
    {f_Line_init : Addr}
    {f_law_line : Addr}
    {f_Basket_init : Addr}
    {f_law_basket : Addr}
    {f_law_number_is : Addr}
    {f_law_line_is : Addr}
    {f_law_is : Addr}
    {f_law : Addr}
    {oc_law_cell_at kV_law_cell_at dc_law_cell_at pm_law_cell_at cd_law_cell_at ct_law_cell_at : Value} {od_law_cell_at an_law_cell_at : Option Addr} {sl_law_cell_at : Array (Option Value)}
    {oc_law_some kV_law_some dc_law_some pm_law_some cd_law_some ct_law_some : Value} {od_law_some an_law_some : Option Addr} {sl_law_some : Array (Option Value)}
    {oc_law_coin kV_law_coin dc_law_coin pm_law_coin cd_law_coin ct_law_coin : Value} {od_law_coin an_law_coin : Option Addr} {sl_law_coin : Array (Option Value)}
    {oc_law_rows kV_law_rows dc_law_rows pm_law_rows cd_law_rows ct_law_rows : Value} {od_law_rows an_law_rows : Option Addr} {sl_law_rows : Array (Option Value)}
    {oc_Line_init kV_Line_init dc_Line_init pm_Line_init cd_Line_init ct_Line_init : Value} {od_Line_init an_Line_init : Option Addr} {sl_Line_init : Array (Option Value)}
    {tp_Line_init : Addr} {tc_Line_init : Value} {to_Line_init : Option Addr} {tn_Line_init : Nat} {ts_Line_init : Array (Option Value)}
    {oc_law_line kV_law_line dc_law_line pm_law_line cd_law_line ct_law_line : Value} {od_law_line an_law_line : Option Addr} {sl_law_line : Array (Option Value)}
    {oc_Basket_init kV_Basket_init dc_Basket_init pm_Basket_init cd_Basket_init ct_Basket_init : Value} {od_Basket_init an_Basket_init : Option Addr} {sl_Basket_init : Array (Option Value)}
    {tp_Basket_init : Addr} {tc_Basket_init : Value} {to_Basket_init : Option Addr} {tn_Basket_init : Nat} {ts_Basket_init : Array (Option Value)}
    {tk_Basket_init_0 : Tok}
    {oc_law_basket kV_law_basket dc_law_basket pm_law_basket cd_law_basket ct_law_basket : Value} {od_law_basket an_law_basket : Option Addr} {sl_law_basket : Array (Option Value)}
    {oc_law_number_is kV_law_number_is dc_law_number_is pm_law_number_is cd_law_number_is ct_law_number_is : Value} {od_law_number_is an_law_number_is : Option Addr} {sl_law_number_is : Array (Option Value)}
    {oc_law_line_is kV_law_line_is dc_law_line_is pm_law_line_is cd_law_line_is ct_law_line_is : Value} {od_law_line_is an_law_line_is : Option Addr} {sl_law_line_is : Array (Option Value)}
    {oc_law_is kV_law_is dc_law_is pm_law_is cd_law_is ct_law_is : Value} {od_law_is an_law_is : Option Addr} {sl_law_is : Array (Option Value)}
    {oc_law kV_law dc_law pm_law cd_law ct_law : Value} {od_law an_law : Option Addr} {sl_law : Array (Option Value)}
    (a_Line : PySem.W.nsIn K mainGlobals "Line" = some (some (.ref C_Line)))
    (pg_Line : PySem.W.plainGet K C_Line Str.empty = true)
    (hd_Line : PySem.W.hasDictIn K C_Line = true)
    (po_Line : PySem.W.plainOver K C_Line = true)
    (sa_Line : PySem.W.findIn K (.ref C_Line) "__setattr__" = some (some (.builtin "object.__setattr__")))
    (ha_Line : PySem.W.findIn K (.ref C_Line) "__class__" = some (some (.builtin "object.__class__")))
    (hn_Line : PySem.W.specialIn K (.builtin "object.__class__") "__get__" = some (some (.builtin "getset_descriptor.__get__")))
    (ht_Line : PySem.W.takesIn K (.builtin "object.__class__") = some true)
    (hm_Line : PySem.W.mroIn K C_Line (.type "object") = some true)
    (a_Basket : PySem.W.nsIn K mainGlobals "Basket" = some (some (.ref C_Basket)))
    (pg_Basket : PySem.W.plainGet K C_Basket Str.empty = true)
    (hd_Basket : PySem.W.hasDictIn K C_Basket = true)
    (po_Basket : PySem.W.plainOver K C_Basket = true)
    (sa_Basket : PySem.W.findIn K (.ref C_Basket) "__setattr__" = some (some (.builtin "object.__setattr__")))
    (ha_Basket : PySem.W.findIn K (.ref C_Basket) "__class__" = some (some (.builtin "object.__class__")))
    (hn_Basket : PySem.W.specialIn K (.builtin "object.__class__") "__get__" = some (some (.builtin "getset_descriptor.__get__")))
    (ht_Basket : PySem.W.takesIn K (.builtin "object.__class__") = some true)
    (hm_Basket : PySem.W.mroIn K C_Basket (.type "object") = some true)
    (n_Basket_carriage : PySem.W.findIn K (.ref C_Basket) "carriage" = some none)
    (n_Basket_lines : PySem.W.findIn K (.ref C_Basket) "lines" = some none)
    (n_Basket_member : PySem.W.findIn K (.ref C_Basket) "member" = some none)
    (n_Line_kind : PySem.W.findIn K (.ref C_Line) "kind" = some none)
    (n_Line_many : PySem.W.findIn K (.ref C_Line) "many" = some none)
    (n_Line_price : PySem.W.findIn K (.ref C_Line) "price" = some none)
    (n_Line_special : PySem.W.findIn K (.ref C_Line) "special" = some none)
    (mi_Basket : PySem.W.findIn K (.ref C_Basket) "__init__" = some (some (.ref f_Basket_init)))
    (mm_Basket : PySem.W.makesIn K C_Basket = true)
    (mf_Basket : PySem.W.isFn K (.ref f_Basket_init) = true)
    (mk_Basket : PySem.W.keepIn K (.ref C_Basket) = true)
    (mi_Line : PySem.W.findIn K (.ref C_Line) "__init__" = some (some (.ref f_Line_init)))
    (mm_Line : PySem.W.makesIn K C_Line = true)
    (mf_Line : PySem.W.isFn K (.ref f_Line_init) = true)
    (mk_Line : PySem.W.keepIn K (.ref C_Line) = true)
    (a_law_cell_at : PySem.W.nsIn K mainGlobals "_law_cell_at" = some (some (.ref f_law_cell_at)))
    (l_law_cell_at : K.lookup f_law_cell_at = some ⟨oc_law_cell_at, od_law_cell_at, .func (PySem.W.fnOf "_law_cell_at" "_law_cell_at" (defArgs s_law_cell_at) (defBody s_law_cell_at) (defScope s_law_cell_at) .none kV_law_cell_at dc_law_cell_at pm_law_cell_at an_law_cell_at cd_law_cell_at ct_law_cell_at), sl_law_cell_at⟩)
    (c_law_cell_at : PySem.W.codeIn K cd_law_cell_at "_law_cell_at" = true)
    (k_law_cell_at : PySem.W.keepIn K (.ref f_law_cell_at) = true)
    (a_law_some : PySem.W.nsIn K mainGlobals "_law_some" = some (some (.ref f_law_some)))
    (l_law_some : K.lookup f_law_some = some ⟨oc_law_some, od_law_some, .func (PySem.W.fnOf "_law_some" "_law_some" (defArgs s_law_some) (defBody s_law_some) (defScope s_law_some) .none kV_law_some dc_law_some pm_law_some an_law_some cd_law_some ct_law_some), sl_law_some⟩)
    (c_law_some : PySem.W.codeIn K cd_law_some "_law_some" = true)
    (k_law_some : PySem.W.keepIn K (.ref f_law_some) = true)
    (a_law_coin : PySem.W.nsIn K mainGlobals "_law_coin" = some (some (.ref f_law_coin)))
    (l_law_coin : K.lookup f_law_coin = some ⟨oc_law_coin, od_law_coin, .func (PySem.W.fnOf "_law_coin" "_law_coin" (defArgs s_law_coin) (defBody s_law_coin) (defScope s_law_coin) .none kV_law_coin dc_law_coin pm_law_coin an_law_coin cd_law_coin ct_law_coin), sl_law_coin⟩)
    (c_law_coin : PySem.W.codeIn K cd_law_coin "_law_coin" = true)
    (k_law_coin : PySem.W.keepIn K (.ref f_law_coin) = true)
    (a_law_rows : PySem.W.nsIn K mainGlobals "_law_rows" = some (some (.ref f_law_rows)))
    (l_law_rows : K.lookup f_law_rows = some ⟨oc_law_rows, od_law_rows, .func (PySem.W.fnOf "_law_rows" "_law_rows" (defArgs s_law_rows) (defBody s_law_rows) (defScope s_law_rows) .none kV_law_rows dc_law_rows pm_law_rows an_law_rows cd_law_rows ct_law_rows), sl_law_rows⟩)
    (c_law_rows : PySem.W.codeIn K cd_law_rows "_law_rows" = true)
    (k_law_rows : PySem.W.keepIn K (.ref f_law_rows) = true)
    (l_Line_init : K.lookup f_Line_init = some ⟨oc_Line_init, od_Line_init, .func (PySem.W.fnOf "__init__" "Line.__init__" (defArgs s_Line_init) (defBody s_Line_init) (defScope s_Line_init) (.ref tp_Line_init) kV_Line_init dc_Line_init pm_Line_init an_Line_init cd_Line_init ct_Line_init), sl_Line_init⟩)
    (t_Line_init : K.lookup tp_Line_init = some ⟨tc_Line_init, to_Line_init, .seq #[Value.none] tn_Line_init, ts_Line_init⟩)
    (c_Line_init : PySem.W.codeIn K cd_Line_init "Line.__init__" = true)
    (k_Line_init : PySem.W.keepIn K (.ref f_Line_init) = true)
    (a_law_line : PySem.W.nsIn K mainGlobals "_law_line" = some (some (.ref f_law_line)))
    (l_law_line : K.lookup f_law_line = some ⟨oc_law_line, od_law_line, .func (PySem.W.fnOf "_law_line" "_law_line" (defArgs s_law_line) (defBody s_law_line) (defScope s_law_line) .none kV_law_line dc_law_line pm_law_line an_law_line cd_law_line ct_law_line), sl_law_line⟩)
    (c_law_line : PySem.W.codeIn K cd_law_line "_law_line" = true)
    (k_law_line : PySem.W.keepIn K (.ref f_law_line) = true)
    (l_Basket_init : K.lookup f_Basket_init = some ⟨oc_Basket_init, od_Basket_init, .func (PySem.W.fnOf "__init__" "Basket.__init__" (defArgs s_Basket_init) (defBody s_Basket_init) (defScope s_Basket_init) (.ref tp_Basket_init) kV_Basket_init dc_Basket_init pm_Basket_init an_Basket_init cd_Basket_init ct_Basket_init), sl_Basket_init⟩)
    (t_Basket_init : K.lookup tp_Basket_init = some ⟨tc_Basket_init, to_Basket_init, .seq #[Value.int 0 tk_Basket_init_0, Value.bool false] tn_Basket_init, ts_Basket_init⟩)
    (c_Basket_init : PySem.W.codeIn K cd_Basket_init "Basket.__init__" = true)
    (k_Basket_init : PySem.W.keepIn K (.ref f_Basket_init) = true)
    (a_law_basket : PySem.W.nsIn K mainGlobals "_law_basket" = some (some (.ref f_law_basket)))
    (l_law_basket : K.lookup f_law_basket = some ⟨oc_law_basket, od_law_basket, .func (PySem.W.fnOf "_law_basket" "_law_basket" (defArgs s_law_basket) (defBody s_law_basket) (defScope s_law_basket) .none kV_law_basket dc_law_basket pm_law_basket an_law_basket cd_law_basket ct_law_basket), sl_law_basket⟩)
    (c_law_basket : PySem.W.codeIn K cd_law_basket "_law_basket" = true)
    (k_law_basket : PySem.W.keepIn K (.ref f_law_basket) = true)
    (a_law_number_is : PySem.W.nsIn K mainGlobals "_law_number_is" = some (some (.ref f_law_number_is)))
    (l_law_number_is : K.lookup f_law_number_is = some ⟨oc_law_number_is, od_law_number_is, .func (PySem.W.fnOf "_law_number_is" "_law_number_is" (defArgs s_law_number_is) (defBody s_law_number_is) (defScope s_law_number_is) .none kV_law_number_is dc_law_number_is pm_law_number_is an_law_number_is cd_law_number_is ct_law_number_is), sl_law_number_is⟩)
    (c_law_number_is : PySem.W.codeIn K cd_law_number_is "_law_number_is" = true)
    (k_law_number_is : PySem.W.keepIn K (.ref f_law_number_is) = true)
    (a_law_line_is : PySem.W.nsIn K mainGlobals "_law_line_is" = some (some (.ref f_law_line_is)))
    (l_law_line_is : K.lookup f_law_line_is = some ⟨oc_law_line_is, od_law_line_is, .func (PySem.W.fnOf "_law_line_is" "_law_line_is" (defArgs s_law_line_is) (defBody s_law_line_is) (defScope s_law_line_is) .none kV_law_line_is dc_law_line_is pm_law_line_is an_law_line_is cd_law_line_is ct_law_line_is), sl_law_line_is⟩)
    (c_law_line_is : PySem.W.codeIn K cd_law_line_is "_law_line_is" = true)
    (k_law_line_is : PySem.W.keepIn K (.ref f_law_line_is) = true)
    (a_law_is : PySem.W.nsIn K mainGlobals "_law_is" = some (some (.ref f_law_is)))
    (l_law_is : K.lookup f_law_is = some ⟨oc_law_is, od_law_is, .func (PySem.W.fnOf "_law_is" "_law_is" (defArgs s_law_is) (defBody s_law_is) (defScope s_law_is) .none kV_law_is dc_law_is pm_law_is an_law_is cd_law_is ct_law_is), sl_law_is⟩)
    (c_law_is : PySem.W.codeIn K cd_law_is "_law_is" = true)
    (k_law_is : PySem.W.keepIn K (.ref f_law_is) = true)
    (a_law : PySem.W.nsIn K mainGlobals "law" = some (some (.ref f_law)))
    (l_law : K.lookup f_law = some ⟨oc_law, od_law, .func (PySem.W.fnOf "law" "law" (defArgs s_law) (defBody s_law) (defScope s_law) .none kV_law dc_law pm_law an_law cd_law ct_law), sl_law⟩)
    (c_law : PySem.W.codeIn K cd_law "law" = true)
    (k_law : PySem.W.keepIn K (.ref f_law) = true)
    (z_bool : PySem.W.nsIn K mainGlobals "bool" = some none)
    (z_enumerate : PySem.W.nsIn K mainGlobals "enumerate" = some none)
    (z_int : PySem.W.nsIn K mainGlobals "int" = some none)
    (z_isinstance : PySem.W.nsIn K mainGlobals "isinstance" = some none)
    (z_len : PySem.W.nsIn K mainGlobals "len" = some none)
    (z_list : PySem.W.nsIn K mainGlobals "list" = some none)
    (z_min : PySem.W.nsIn K mainGlobals "min" = some none)
    (z_range : PySem.W.nsIn K mainGlobals "range" = some none)
    (z_sum : PySem.W.nsIn K mainGlobals "sum" = some none)
    (z_zip : PySem.W.nsIn K mainGlobals "zip" = some none) :
    ∃ fd : FuncData, (∀ (s : Shared) (v : Value), BindsTo s fd ⟨[v], []⟩ [("_law_script", v)]) ∧ ∀ base : Heap, K.In base → base.Ns mainGlobals mg → FnOk l.prog w K mg base CX0 5 fa fd ["_law_script"] (lawsp K mg) := by
  have e := hfa.symm.trans (PySem.W.mg_of X G a_law)
  cases e
  have D_law_cell_at := fun_mk (st := s_law_cell_at) l_law_cell_at c_law_cell_at k_law_cell_at
  have F_law_cell_at : FunX K "_law_cell_at" "_law_cell_at" s_law_cell_at _ _ := ⟨⟨_, _, _, _, _, _, _, _, _, _, rfl, l_law_cell_at, c_law_cell_at⟩, k_law_cell_at⟩
  have D_law_some := fun_mk (st := s_law_some) l_law_some c_law_some k_law_some
  have F_law_some : FunX K "_law_some" "_law_some" s_law_some _ _ := ⟨⟨_, _, _, _, _, _, _, _, _, _, rfl, l_law_some, c_law_some⟩, k_law_some⟩
  have D_law_coin := fun_mk (st := s_law_coin) l_law_coin c_law_coin k_law_coin
  have F_law_coin : FunX K "_law_coin" "_law_coin" s_law_coin _ _ := ⟨⟨_, _, _, _, _, _, _, _, _, _, rfl, l_law_coin, c_law_coin⟩, k_law_coin⟩
  have D_law_rows := fun_mk (st := s_law_rows) l_law_rows c_law_rows k_law_rows
  have F_law_rows : FunX K "_law_rows" "_law_rows" s_law_rows _ _ := ⟨⟨_, _, _, _, _, _, _, _, _, _, rfl, l_law_rows, c_law_rows⟩, k_law_rows⟩
  have D_Line_init : FunD K "__init__" "Line.__init__" (defArgs s_Line_init) (defBody s_Line_init) (defScope s_Line_init) [.non] [] f_Line_init _ := ⟨⟨_, _, _, _, _, _, _, _, _, _, rfl, l_Line_init, c_Line_init, .inr ⟨by simp, tp_Line_init, _, [Value.none], _, rfl, t_Line_init, rfl, .cons rfl (.nil)⟩, .inl rfl⟩, k_Line_init⟩
  have F_Line_init : FunX K "__init__" "Line.__init__" s_Line_init _ _ := ⟨⟨_, _, _, _, _, _, _, _, _, _, rfl, l_Line_init, c_Line_init⟩, k_Line_init⟩
  have D_law_line := fun_mk (st := s_law_line) l_law_line c_law_line k_law_line
  have F_law_line : FunX K "_law_line" "_law_line" s_law_line _ _ := ⟨⟨_, _, _, _, _, _, _, _, _, _, rfl, l_law_line, c_law_line⟩, k_law_line⟩
  have D_Basket_init : FunD K "__init__" "Basket.__init__" (defArgs s_Basket_init) (defBody s_Basket_init) (defScope s_Basket_init) [.int 0, .bl false] [] f_Basket_init _ := ⟨⟨_, _, _, _, _, _, _, _, _, _, rfl, l_Basket_init, c_Basket_init, .inr ⟨by simp, tp_Basket_init, _, [Value.int 0 tk_Basket_init_0, Value.bool false], _, rfl, t_Basket_init, rfl, .cons ⟨_, rfl⟩ (.cons rfl (.nil))⟩, .inl rfl⟩, k_Basket_init⟩
  have F_Basket_init : FunX K "__init__" "Basket.__init__" s_Basket_init _ _ := ⟨⟨_, _, _, _, _, _, _, _, _, _, rfl, l_Basket_init, c_Basket_init⟩, k_Basket_init⟩
  have D_law_basket := fun_mk (st := s_law_basket) l_law_basket c_law_basket k_law_basket
  have F_law_basket : FunX K "_law_basket" "_law_basket" s_law_basket _ _ := ⟨⟨_, _, _, _, _, _, _, _, _, _, rfl, l_law_basket, c_law_basket⟩, k_law_basket⟩
  have D_law_number_is := fun_mk (st := s_law_number_is) l_law_number_is c_law_number_is k_law_number_is
  have F_law_number_is : FunX K "_law_number_is" "_law_number_is" s_law_number_is _ _ := ⟨⟨_, _, _, _, _, _, _, _, _, _, rfl, l_law_number_is, c_law_number_is⟩, k_law_number_is⟩
  have D_law_line_is := fun_mk (st := s_law_line_is) l_law_line_is c_law_line_is k_law_line_is
  have F_law_line_is : FunX K "_law_line_is" "_law_line_is" s_law_line_is _ _ := ⟨⟨_, _, _, _, _, _, _, _, _, _, rfl, l_law_line_is, c_law_line_is⟩, k_law_line_is⟩
  have D_law_is := fun_mk (st := s_law_is) l_law_is c_law_is k_law_is
  have F_law_is : FunX K "_law_is" "_law_is" s_law_is _ _ := ⟨⟨_, _, _, _, _, _, _, _, _, _, rfl, l_law_is, c_law_is⟩, k_law_is⟩
  have D_law := fun_mk (st := s_law) l_law c_law k_law
  have F_law : FunX K "law" "law" s_law _ _ := ⟨⟨_, _, _, _, _, _, _, _, _, _, rfl, l_law, c_law⟩, k_law⟩
  obtain ⟨ds_Basket_init_2, v_Basket_init_2, b_Basket_init_2⟩ := D_Basket_init.binds1 (ps := ["self", "lines", "carriage", "member"]) 2 0 (by simp) rfl fun _ _ _ _ _ _ _ us its h1 h2 => match us, h1, its, h2 with | [_, _], _, [_, _], _ => ⟨_, rfl, rfl⟩
  obtain ⟨ds_Basket_init_3, v_Basket_init_3, b_Basket_init_3⟩ := D_Basket_init.binds1 (ps := ["self", "lines", "carriage", "member"]) 3 1 (by simp) rfl fun _ _ _ _ _ _ _ us its h1 h2 => match us, h1, its, h2 with | [_, _, _], _, [_, _], _ => ⟨_, rfl, rfl⟩
  obtain ⟨ds_Basket_init_4, v_Basket_init_4, b_Basket_init_4⟩ := D_Basket_init.binds1 (ps := ["self", "lines", "carriage", "member"]) 4 2 (by simp) rfl fun _ _ _ _ _ _ _ us its h1 h2 => match us, h1, its, h2 with | [_, _, _, _], _, [_, _], _ => ⟨_, rfl, rfl⟩
  obtain ⟨ds_Line_init_4, v_Line_init_4, b_Line_init_4⟩ := D_Line_init.binds1 (ps := ["self", "kind", "price", "many", "special"]) 4 0 (by simp) rfl fun _ _ _ _ _ _ _ us its h1 h2 => match us, h1, its, h2 with | [_, _, _, _], _, [_], _ => ⟨_, rfl, rfl⟩
  obtain ⟨ds_Line_init_5, v_Line_init_5, b_Line_init_5⟩ := D_Line_init.binds1 (ps := ["self", "kind", "price", "many", "special"]) 5 1 (by simp) rfl fun _ _ _ _ _ _ _ us its h1 h2 => match us, h1, its, h2 with | [_, _, _, _, _], _, [_], _ => ⟨_, rfl, rfl⟩
  have b_law_basket_4 : Binds K _ ["_law_lines", "_law_carriage", "_law_joined", "_law_way"] [] := D_law_basket.binds (ps := ["_law_lines", "_law_carriage", "_law_joined", "_law_way"]) fun _ _ _ _ _ _ us hl => match us, hl with | [_, _, _, _], _ => rfl
  have b_law_cell_at_2 : Binds K _ ["_law_script", "_law_k"] [] := D_law_cell_at.binds (ps := ["_law_script", "_law_k"]) fun _ _ _ _ _ _ us hl => match us, hl with | [_, _], _ => rfl
  have b_law_coin_3 : Binds K _ ["_law_script", "_law_k", "_law_salt"] [] := D_law_coin.binds (ps := ["_law_script", "_law_k", "_law_salt"]) fun _ _ _ _ _ _ us hl => match us, hl with | [_, _, _], _ => rfl
  have b_law_is_5 : Binds K _ ["_law_basket_here", "_law_lines", "_law_rows_here", "_law_carriage", "_law_joined"] [] := D_law_is.binds (ps := ["_law_basket_here", "_law_lines", "_law_rows_here", "_law_carriage", "_law_joined"]) fun _ _ _ _ _ _ us hl => match us, hl with | [_, _, _, _, _], _ => rfl
  have b_law_line_2 : Binds K _ ["_law_row", "_law_way"] [] := D_law_line.binds (ps := ["_law_row", "_law_way"]) fun _ _ _ _ _ _ us hl => match us, hl with | [_, _], _ => rfl
  have b_law_line_is_2 : Binds K _ ["_law_line_here", "_law_row"] [] := D_law_line_is.binds (ps := ["_law_line_here", "_law_row"]) fun _ _ _ _ _ _ us hl => match us, hl with | [_, _], _ => rfl
  have b_law_number_is_2 : Binds K _ ["_law_found", "_law_due"] [] := D_law_number_is.binds (ps := ["_law_found", "_law_due"]) fun _ _ _ _ _ _ us hl => match us, hl with | [_, _], _ => rfl
  have b_law_rows_2 : Binds K _ ["_law_script", "_law_k"] [] := D_law_rows.binds (ps := ["_law_script", "_law_k"]) fun _ _ _ _ _ _ us hl => match us, hl with | [_, _], _ => rfl
  have b_law_some_4 : Binds K _ ["_law_script", "_law_k", "_law_salt", "_law_many"] [] := D_law_some.binds (ps := ["_law_script", "_law_k", "_law_salt", "_law_many"]) fun _ _ _ _ _ _ us hl => match us, hl with | [_, _, _, _], _ => rfl
  obtain ⟨its_Basket_init_2_member, kb_Basket_init_2_member⟩ := D_Basket_init.kbindsD (ps := ["self", "lines", "carriage", "member"]) 2 ["member"] (fun us its ws => us ++ ((its.drop 0).take 1) ++ ((ws.drop 0).take 1)) (by simp) (fun r1 r2 r3 => ((r1.append ((r2.drop 0).take 1)).append ((r3.drop 0).take 1))) (fun _ _ _ _ _ _ _ us its ws l1 l2 l3 => match us, its, ws, l1, l2, l3 with | [_, _], [_, _], [_], _, _, _ => ⟨_, rfl, rfl⟩)
  obtain ⟨its_Line_init_4_special, kb_Line_init_4_special⟩ := D_Line_init.kbindsD (ps := ["self", "kind", "price", "many", "special"]) 4 ["special"] (fun us its ws => us ++ ((ws.drop 0).take 1)) (by simp) (fun r1 r2 r3 => (r1.append ((r3.drop 0).take 1))) (fun _ _ _ _ _ _ _ us its ws l1 l2 l3 => match us, its, ws, l1, l2, l3 with | [_, _, _, _], [_], [_], _, _, _ => ⟨_, rfl, rfl⟩)
  exact ⟨_, fun s v => .of_eq rfl, fun base _ _ => ok_law ⟨_, PySem.W.mg_of X G a_Line, ⟨pg_Line, hd_Line, po_Line, sa_Line⟩, ⟨⟨pg_Line, hd_Line, po_Line, sa_Line⟩, ha_Line, hn_Line, ht_Line, hm_Line, if_pos (beq_self_eq_true _)⟩, _, PySem.W.mg_of X G a_Basket, ⟨pg_Basket, hd_Basket, po_Basket, sa_Basket⟩, ⟨⟨pg_Basket, hd_Basket, po_Basket, sa_Basket⟩, ha_Basket, hn_Basket, ht_Basket, hm_Basket, if_pos (beq_self_eq_true _)⟩, n_Basket_carriage, n_Basket_lines, n_Basket_member, n_Line_kind, n_Line_many, n_Line_price, n_Line_special, _, _, F_law_cell_at, PySem.W.mg_of X G a_law_cell_at, k_law_cell_at, _, _, F_law_some, PySem.W.mg_of X G a_law_some, k_law_some, _, _, F_law_coin, PySem.W.mg_of X G a_law_coin, k_law_coin, _, _, F_law_rows, PySem.W.mg_of X G a_law_rows, k_law_rows, _, _, F_Line_init, k_Line_init, _, _, F_law_line, PySem.W.mg_of X G a_law_line, k_law_line, _, _, F_Basket_init, k_Basket_init, _, _, F_law_basket, PySem.W.mg_of X G a_law_basket, k_law_basket, _, _, F_law_number_is, PySem.W.mg_of X G a_law_number_is, k_law_number_is, _, _, F_law_line_is, PySem.W.mg_of X G a_law_line_is, k_law_line_is, _, _, F_law_is, PySem.W.mg_of X G a_law_is, k_law_is, _, _, F_law, PySem.W.mg_of X G a_law, k_law, ds_Basket_init_2, b_Basket_init_2, v_Basket_init_2, ds_Basket_init_3, b_Basket_init_3, v_Basket_init_3, (match ds_Basket_init_4, v_Basket_init_4, b_Basket_init_4 with | [], _, b => b), ds_Line_init_4, b_Line_init_4, v_Line_init_4, (match ds_Line_init_5, v_Line_init_5, b_Line_init_5 with | [], _, b => b), b_law_basket_4, b_law_cell_at_2, b_law_coin_3, b_law_is_5, b_law_line_2, b_law_line_is_2, b_law_number_is_2, b_law_rows_2, b_law_some_4, its_Basket_init_2_member, kb_Basket_init_2_member, its_Line_init_4_special, kb_Line_init_4_special, ⟨mm_Basket, mi_Basket, mf_Basket, mk_Basket⟩, ⟨mm_Line, mi_Line, mf_Line, mk_Line⟩, PySem.W.mg_none_of X G z_bool, PySem.W.mg_none_of X G z_enumerate, PySem.W.mg_none_of X G z_int, PySem.W.mg_none_of X G z_isinstance, PySem.W.mg_none_of X G z_len, PySem.W.mg_none_of X G z_list, PySem.W.mg_none_of X G z_min, PySem.W.mg_none_of X G z_range, PySem.W.mg_none_of X G z_sum, PySem.W.mg_none_of X G z_zip⟩⟩
end Law
namespace Law
variable [T.TabsC]
open PySem T L2
theorem cell_ok (ns : List Int) {k : Int} (h : 0 ≤ k) : ∃ r, M.law_cell_at ns k = some r := by
  unfold M.law_cell_at
  by_cases hk : k < (ns.length : Int)
  · rw [if_pos (decide_eq_true hk), atO_get h hk]; exact ⟨_, rfl⟩
  · exact ⟨_, if_neg (by rw [decide_eq_true_eq]; exact hk)⟩
end Law
namespace Law
variable [T.TabsC]
open PySem T L2
/-! numbers drawn of a script -/
theorem some_ok (ns : List Int) {k salt many : Int} (hk : 0 ≤ k) (hk2 : k ≤ 1000) (hs : 0 ≤ salt) (hs2 : salt ≤ 1000) (hm : 0 < many) : ∃ r, M.law_some ns k salt many = some r ∧ 0 ≤ r ∧ r < many := by
  obtain ⟨c, e⟩ := cell_ok ns hk
  unfold M.law_some
  rw [e, bindP, bindP, bindP, mulO_r (by omega) (by omega), bindP, bindP, mulO_r (by omega) (by omega), bindP, bindP]
  have h1 : 0 ≤ c % 1000003 ∧ c % 1000003 < 1000003 := ⟨Int.emod_nonneg _ (by decide), Int.emod_lt_of_pos _ (by decide)⟩
  rw [mulO_l (by omega) (by omega), bindP, bindP]
  generalize (c % 1000003 + 1) * _ = q
  have h2 : 0 ≤ q % 2147483647 ∧ q % 2147483647 < 2147483647 := ⟨Int.emod_nonneg _ (by decide), Int.emod_lt_of_pos _ (by decide)⟩
  rw [mulO_l (by omega) (by omega), bindP, bindP, bindP, modO_ok hm]
  exact ⟨_, rfl, Int.emod_nonneg _ (by omega), Int.emod_lt_of_pos _ hm⟩
end Law
-- uses: C_cell C_someO
namespace Law
variable [T.TabsC]
open PySem T L2
theorem coin_ok (ns : List Int) {k salt : Int} (h0 : 0 ≤ k) (h1 : k ≤ 1000) (s0 : 0 ≤ salt) (s1 : salt ≤ 900) : ∃ r, M.law_coin ns k salt = some r := by
  unfold M.law_coin
  obtain ⟨a, ea, _, _⟩ := some_ok ns (k := k) (salt := salt) h0 h1 (by omega) (by omega) (many := 5) (by decide)
  rw [ea, bindP]
  split
  · obtain ⟨b, eb, _, _⟩ := some_ok ns (k := k) (salt := salt + 1) h0 h1 (by omega) (by omega) (many := 10) (by decide)
    exact ⟨b, eb⟩
  split
  · obtain ⟨b, eb, _, _⟩ := some_ok ns (k := k) (salt := salt + 1) h0 h1 (by omega) (by omega) (many := 200) (by decide)
    rw [eb, bindP]; exact ⟨_, rfl⟩
  split
  · obtain ⟨b, eb, _, _⟩ := some_ok ns (k := k) (salt := salt + 1) h0 h1 (by omega) (by omega) (many := 3) (by decide)
    rw [eb, bindP]; exact ⟨_, rfl⟩
  · obtain ⟨b, eb, _, _⟩ := some_ok ns (k := k) (salt := salt + 1) h0 h1 (by omega) (by omega) (many := 1000000) (by decide)
    obtain ⟨c, ec, _, _⟩ := some_ok ns (k := k) (salt := salt + 2) h0 h1 (by omega) (by omega) (many := 1000001) (by decide)
    rw [eb, bindP, bindP, ec, bindP]; exact ⟨_, rfl⟩
def toL (r : T4 Int Int Int (Option Int)) : LineD := ⟨r.x0, r.x1, r.x2, r.x3⟩
theorem line_eq (r : T4 Int Int Int (Option Int)) (w : Int) : M.law_line r w = toL r := by
  unfold M.law_line M.Line_init toL
  split
  · rename_i h
    rw [Bool.and_eq_true] at h
    have : r.x3 = none := by
      cases e : r.x3 with
      | none => rfl
      | some x => rw [e] at h; exact absurd h.1 (by simp)
    rw [this]
  split <;> rfl
theorem basket_eq (ls : List LineD) (c : Int) (j : Bool) (w : Int) : M.law_basket ls c j w = ⟨ls, c, j⟩ := by
  unfold M.law_basket M.Basket_init
  split
  · rename_i h
    rw [Bool.and_eq_true, Bool.and_eq_true, decide_eq_true_eq] at h
    cases j with
    | true => exact absurd h.2.1 (by decide)
    | false => rw [h.1]
  split
  · rename_i h
    rw [Bool.and_eq_true] at h
    cases j with
    | true => exact absurd h.1 (by decide)
    | false => rfl
  split
  · rename_i h
    rw [Bool.and_eq_true, decide_eq_true_eq] at h
    rw [h.1]
  · rfl
theorem line_is (r : T4 Int Int Int (Option Int)) : M.law_line_is (toL r) r = some true := by
  unfold M.law_line_is toL M.law_number_is M.law_number_is_1
  dsimp only
  rw [decide_eq_true rfl, decide_eq_true rfl, decide_eq_true rfl, if_neg (by decide), if_neg (by decide)]
  cases r.x3 with
  | none => rfl
  | some x =>
    rw [if_neg (by simp), bindP, decide_eq_true rfl]
    rfl
theorem is_ok {ls : List LineD} {rs : List (T4 Int Int Int (Option Int))} (h : ls = rs.map toL) (c : Int) (j : Bool) : M.law_is ⟨ls, c, j⟩ ls rs c j = some true := by
  unfold M.law_is M.law_number_is
  have hl : ls.length = rs.length := by rw [h, List.length_map]
  dsimp only
  rw [decide_eq_true rfl, if_neg (by decide), zip3O_ok rfl hl, bindP, loopC_unit]
  · show some (if (!(true && (!false && decide (c = c)))) = true then false else true && decide (j = j)) = some true
    rw [decide_eq_true rfl, decide_eq_true rfl]
    rfl
  · intro it hit
    left
    obtain ⟨i, hi⟩ := List.getElem?_of_mem hit
    obtain ⟨a, b, r, e1, e2, e3, rfl⟩ := zip3_get hi
    rw [h, List.getElem?_map, e3] at e1 e2
    cases e1
    cases e2
    dsimp only
    rw [line_is, bindP, bindP, if_neg (by decide), bindP]
    rfl
theorem rows_ok (ns : List Int) {k : Int} (h0 : 0 ≤ k) (h1 : k ≤ 1000) : ∃ rs, M.law_rows ns k = some rs ∧ rs.length ≤ 12 := by
  unfold M.law_rows
  obtain ⟨n, en, n0, n1⟩ := some_ok ns (k := k) (salt := 1) h0 h1 (by decide) (by decide) (many := 13) (by decide)
  dsimp only
  rw [en, bindP, rng1O_ok (by omega) (by omega), bindP]
  refine loopN_step (fun pre (z : Int × List (T4 Int Int Int (Option Int))) => z.2.length ≤ 2 * pre.length) (Nat.le_refl _) (fun pre j post z e hz => ?_) fun z hz => ?_
  · obtain ⟨hj, hlt⟩ := rng_at e
    have hpl : pre.length ≤ 12 := by
      have := congrArg List.length e
      rw [rng_len, List.length_append, List.length_cons] at this
      omega
    obtain ⟨a, ea, _, _⟩ := some_ok ns (k := k) (salt := 10 + j) h0 h1 (by omega) (by omega) (many := 5) (by decide)
    obtain ⟨b, eb, _, _⟩ := some_ok ns (k := k) (salt := 30 + j) h0 h1 (by omega) (by omega) (many := 8) (by decide)
    obtain ⟨c, ec, _, _⟩ := some_ok ns (k := k) (salt := 50 + j) h0 h1 (by omega) (by omega) (many := 3) (by decide)
    obtain ⟨d, ed, _, _⟩ := some_ok ns (k := k) (salt := 110 + j) h0 h1 (by omega) (by omega) (many := 20) (by decide)
    obtain ⟨f, ef⟩ := coin_ok ns (k := k) (salt := 130 + 3 * j) h0 h1 (by omega) (by omega)
    obtain ⟨q, eq, _, _⟩ := some_ok ns (k := k) (salt := 170 + j) h0 h1 (by omega) (by omega) (many := 6) (by decide)
    rw [ea, bindP, eb, bindP, bindP]
    have hm : ∃ m : Int, (if decide (b = 0) = true then some (20 : Int) else some a) = some m := by split <;> exact ⟨_, rfl⟩
    obtain ⟨m, em⟩ := hm
    rw [em, bindP, ec, bindP, bindP]
    have hx : ∃ x : Option Int, (if decide (c = 0) = true then (((M.law_coin ns k ((70 : Int) + ((3 : Int) * j))) >>= fun v15 => some ((some v15 : (Option Int)))) >>= fun x_law_extra => some x_law_extra) else some (none : Option Int)) = some x := by
      split
      · obtain ⟨g, eg⟩ := coin_ok ns (k := k) (salt := 70 + 3 * j) h0 h1 (by omega) (by omega)
        rw [eg, bindP, bindP]; exact ⟨_, rfl⟩
      · exact ⟨_, rfl⟩
    obtain ⟨x, ex⟩ := hx
    rw [ex, bindP, ed, bindP, ef, bindP, bindP, appO_ok (by omega), bindP, eq, bindP, bindP]
    have hl : (z.2 ++ [T4.mk d f (min m z.1) x]).length = z.2.length + 1 := by simp
    generalize z.2 ++ [T4.mk d f (min m z.1) x] = rs at hl
    have hb : ∃ bb : Bool, (if decide (q = 0) = true then some ((decide (min m z.1 ≤ z.1 - min m z.1)) && (decide ((rs.length : Int) < (12 : Int)))) else some false) = some bb := by split <;> exact ⟨_, rfl⟩
    obtain ⟨bb, ebb⟩ := hb
    rw [ebb, bindP]
    cases bb with
    | true =>
      rw [if_pos rfl, atO_get (by omega) (by omega), bindP, appO_ok (by omega), bindP, bindP]
      exact ⟨_, rfl, by show (rs ++ [_]).length ≤ _; rw [List.length_append, List.length_singleton, List.length_append, List.length_singleton]; omega⟩
    | false =>
      rw [if_neg Bool.false_ne_true, bindP]
      exact ⟨_, rfl, by show rs.length ≤ _; rw [List.length_append, List.length_singleton]; omega⟩
  · refine ⟨_, rfl, ?_⟩
    rw [cutO_to _ (by decide), List.length_take]
    exact Nat.min_le_left _ _
theorem law_true (ns : List Int) (h : ns.length ≤ 63) : M.law ns = some true := by
  unfold M.law
  rw [rng1O_ok (by omega) (by omega), bindP, loopC_unit]
  · rfl
  intro k hk
  left
  have hk2 := rng_mem hk
  have k0 : 0 ≤ k := hk2.1
  have k1 : k ≤ 100 := by have := hk2.2; omega
  obtain ⟨rs, er, hl⟩ := rows_ok ns k0 (by omega)
  obtain ⟨w, ew, _, _⟩ := some_ok ns (k := k) (salt := 200) k0 (by omega) (by decide) (by decide) (many := 30) (by decide)
  rw [er, bindP, ew, bindP]
  have hls : (enumL rs).map (fun (it5 : (T2 Int (T4 Int Int Int (Option Int)))) => (M.law_line it5.x1 (w + it5.x0))) = rs.map toL := by
    unfold enumL
    rw [List.map_map]
    apply List.ext_getElem?
    intro i
    rw [List.getElem?_map, List.getElem?_zipIdx, List.getElem?_map]
    cases rs[i]? with
    | none => rfl
    | some r => show some (M.law_line r _) = some (toL r); rw [line_eq]
  dsimp only
  rw [hls]
  have hc : (cutO rs none (some (1 : Int))).length ≤ 1 := by rw [cutO_to _ (by decide), List.length_take]; exact Nat.min_le_left _ _
  rw [catO_ok (by omega), bindP, bindP, bindP]
  have hz : ∃ ls2 rs2, (if ((decide ((w % (4 : Int)) = (1 : Int))) && ((decide ((rs.length : Int) > (0 : Int))) && ((decide ((rs.length : Int) < (12 : Int))) && (decide (((rs ++ cutO rs none (some (1 : Int))).map (fun (x_law_row : (T4 Int Int Int (Option Int))) => x_law_row.x2)).sum ≤ (60 : Int)))))) = true then ((atO (rs.map toL) (0 : Int)) >>= fun v21 => (appO (rs.map toL) v21 >>= fun x_law_lines => (some (rs ++ (cutO rs none (some (1 : Int)))) >>= fun x_law_rows_here => some (x_law_lines, x_law_rows_here)))) else some (rs.map toL, rs)) = some (ls2, rs2) ∧ ls2 = rs2.map toL ∧ rs2.length ≤ 13 := by
    split
    · rename_i hc2
      rw [Bool.and_eq_true, Bool.and_eq_true, decide_eq_true_eq, decide_eq_true_eq] at hc2
      have hp : 0 < rs.length := by have := hc2.2.1; omega
      rw [atO_get (by decide) (by rw [List.length_map]; omega), bindP, appO_ok (by rw [List.length_map]; omega), bindP, bindP]
      refine ⟨_, _, rfl, ?_, by rw [List.length_append]; omega⟩
      rw [List.map_append, cutO_to _ (by decide)]
      congr 1
      cases rs with
      | nil => cases hp
      | cons r rs => rfl
    · exact ⟨_, _, rfl, rfl, by omega⟩
  obtain ⟨ls2, rs2, ez, e1, e2⟩ := hz
  rw [ez, bindP]
  obtain ⟨c, ec⟩ := coin_ok ns (k := k) (salt := 201) k0 (by omega) (by decide) (by decide)
  obtain ⟨j, ej, _, _⟩ := some_ok ns (k := k) (salt := 204) k0 (by omega) (by decide) (by decide) (many := 2) (by decide)
  have hb : ∀ x : Bool, -(2 ^ 64) < b2z x ∧ b2z x < 2 ^ 64 := fun x => by cases x <;> exact ⟨by decide, by decide⟩
  rw [ec, bindP, mulO_r (hb _).1 (hb _).2, bindP, ej, bindP, bindP]
  dsimp only
  have hl2 : ls2.length ≤ 13 := by rw [e1, List.length_map]; exact e2
  rw [basket_eq, basket_eq, is_ok e1, if_neg Bool.false_ne_true, bindP, bindP, if_neg (by decide), appO_ok (by omega), bindP]
  rw [bindP, if_neg (by decide), is_ok e1]
  rfl
end Law
set_option Elab.async false
set_option linter.all false
set_option maxRecDepth 100000
set_option maxHeartbeats 40000000
set_option synthInstance.maxSize 100000
set_option synthInstance.maxHeartbeats 400000
namespace Law
open PySem PySem.Spec PyProof.Rows L2 T
instance : TabsC := ⟨[]⟩
theorem all_fin {P : Program} {w : World} {K : PySem.W.Frag} {mg : Str → Option Value} {fa : Addr} (h : ∃ fd : FuncData, (∀ (s : Shared) (v : Value), BindsTo s fd ⟨[v], []⟩ [("_law_script", v)]) ∧ ∀ base : Heap, K.In base → base.Ns mainGlobals mg → FnOk P w K mg base CX0 5 fa fd ["_law_script"] (lawsp K mg)) :
    ∃ fd : FuncData, (∀ (s : Shared) (v : Value), BindsTo s fd ⟨[v], []⟩ [("_law_script", v)]) ∧ ∀ base : Heap, K.In base → base.Ns mainGlobals mg → FnOk P w K mg base CX0 5 fa fd ["_law_script"] (T.spL K) := by
  obtain ⟨fd, h1, h2⟩ := h
  exact ⟨fd, h1, fun base a b => T.fin_bw law_true (h2 base a b)⟩
theorem walk {l : PySem.W.OpenLaw} {q : Program} {loose : List Str} {XP : (Str → Option Value) → Heap → Prop} {YP : World → Heap → Prop} {d : DefRec} {K : Params → PySem.W.Frag} (hn : l.most = some 63) (hdf : d.params.defaults = [])
    (hY : ∀ (w : World) (h : Heap), YP w h → (K w.params).In h)
    (F : ∀ (w : World) (mg : Str → Option Value) (fa : Addr) (h : Heap), (K w.params).In h → h.Ns mainGlobals mg → mg d.name = some (.ref fa) →
      ∃ fd : FuncData, (∀ (s : Shared) (u : Value), BindsTo s fd ⟨[u], []⟩ [("_law_script", u)]) ∧ ∀ base : Heap, (K w.params).In base → base.Ns mainGlobals mg → FnOk l.prog w (K w.params) mg base CX0 5 fa fd ["_law_script"] (T.spL (K w.params))) :
    PySem.W.WalkO q loose XP YP l.row.toRowW d [] (fun f vs => PySem.call f vs) :=
  L2.walk_of (n := 63) (k := 5) (x := "_law_script") (CX := fun _ => CX0) (sp := fun w => T.spL (K w.params)) hn (by decide) hdf ⟨rfl, by decide, by decide⟩ hY F (fun _ _ a ns hl _ hS => ⟨(fun _ z => nomatch z), a, ns, rfl, hS, hl, fun _ => rfl⟩) fun _ _ _ _ _ z => z
end Law
open PySem PySem.W PyProof.Rows
set_option maxRecDepth 100000 in
set_option maxHeartbeats 0 in
theorem PySem.Challenge.cw_voucherstack_k05_lines_and_baskets_holds : PySem.Challenge.rw_voucherstack_k05_lines_and_baskets.Holds := by
  w_on; o_law; k_head; (case hw => w_witness2)
  k_fill
  refine Law.walk (l := PySem.Challenge.rw_voucherstack_k05_lines_and_baskets) rfl rfl (fun w h Y => PySem.W.kIn_of Y) ?F
  case F =>
    intro w mg fa h KX G hmg
    refine' Law.all_fin (Law.all_mk (l := PySem.Challenge.rw_voucherstack_k05_lines_and_baskets) KX G hmg ?a_Line ?pg_Line ?hd_Line ?po_Line ?sa_Line ?ha_Line ?hn_Line ?ht_Line ?hm_Line ?a_Basket ?pg_Basket ?hd_Basket ?po_Basket ?sa_Basket ?ha_Basket ?hn_Basket ?ht_Basket ?hm_Basket ?n_Basket_carriage ?n_Basket_lines ?n_Basket_member ?n_Line_kind ?n_Line_many ?n_Line_price ?n_Line_special ?mi_Basket ?mm_Basket ?mf_Basket ?mk_Basket ?mi_Line ?mm_Line ?mf_Line ?mk_Line ?a_law_cell_at ?l_law_cell_at ?c_law_cell_at ?k_law_cell_at ?a_law_some ?l_law_some ?c_law_some ?k_law_some ?a_law_coin ?l_law_coin ?c_law_coin ?k_law_coin ?a_law_rows ?l_law_rows ?c_law_rows ?k_law_rows ?l_Line_init ?t_Line_init ?c_Line_init ?k_Line_init ?a_law_line ?l_law_line ?c_law_line ?k_law_line ?l_Basket_init ?t_Basket_init ?c_Basket_init ?k_Basket_init ?a_law_basket ?l_law_basket ?c_law_basket ?k_law_basket ?a_law_number_is ?l_law_number_is ?c_law_number_is ?k_law_number_is ?a_law_line_is ?l_law_line_is ?c_law_line_is ?k_law_line_is ?a_law_is ?l_law_is ?c_law_is ?k_law_is ?a_law ?l_law ?c_law ?k_law ?z_bool ?z_enumerate ?z_int ?z_isinstance ?z_len ?z_list ?z_min ?z_range ?z_sum ?z_zip)
    (case a_Line => k_is); (case a_Basket => k_is); (case a_law_cell_at => k_is); (case a_law_some => k_is); (case a_law_coin => k_is); (case a_law_rows => k_is)
    (case a_law_line => k_is); (case a_law_basket => k_is); (case a_law_number_is => k_is); (case a_law_line_is => k_is); (case a_law_is => k_is); (case a_law => k_is)
    (case pg_Line => k_is); (case hd_Line => k_is); (case po_Line => k_is); (case sa_Line => k_is); (case ha_Line => k_is); (case hn_Line => k_is)
    (case ht_Line => k_is); (case hm_Line => k_is); (case pg_Basket => k_is); (case hd_Basket => k_is); (case po_Basket => k_is); (case sa_Basket => k_is)
    (case ha_Basket => k_is); (case hn_Basket => k_is); (case ht_Basket => k_is); (case hm_Basket => k_is); (case n_Basket_carriage => k_is); (case n_Basket_lines => k_is)
    (case n_Basket_member => k_is); (case n_Line_kind => k_is); (case n_Line_many => k_is); (case n_Line_price => k_is); (case n_Line_special => k_is); (case mi_Basket => k_is)
    (case mm_Basket => k_is); (case mf_Basket => k_is); (case mk_Basket => k_is); (case mi_Line => k_is); (case mm_Line => k_is); (case mf_Line => k_is)
    (case mk_Line => k_is); (case l_law_cell_at => k_is); (case c_law_cell_at => k_is); (case k_law_cell_at => k_is); (case l_law_some => k_is); (case c_law_some => k_is)
    (case k_law_some => k_is); (case l_law_coin => k_is); (case c_law_coin => k_is); (case k_law_coin => k_is); (case l_law_rows => k_is); (case c_law_rows => k_is)
    (case k_law_rows => k_is); (case l_Line_init => k_is); (case t_Line_init => k_is); (case c_Line_init => k_is); (case k_Line_init => k_is); (case l_law_line => k_is)
    (case c_law_line => k_is); (case k_law_line => k_is); (case l_Basket_init => k_is); (case t_Basket_init => k_is); (case c_Basket_init => k_is); (case k_Basket_init => k_is)
    (case l_law_basket => k_is); (case c_law_basket => k_is); (case k_law_basket => k_is); (case l_law_number_is => k_is); (case c_law_number_is => k_is); (case k_law_number_is => k_is)
    (case l_law_line_is => k_is); (case c_law_line_is => k_is); (case k_law_line_is => k_is); (case l_law_is => k_is); (case c_law_is => k_is); (case k_law_is => k_is)
    (case l_law => k_is); (case c_law => k_is); (case k_law => k_is); (case z_bool => k_is); (case z_enumerate => k_is); (case z_int => k_is)
    (case z_isinstance => k_is); (case z_len => k_is); (case z_list => k_is); (case z_min => k_is); (case z_range => k_is); (case z_sum => k_is)
    (case z_zip => k_is)
